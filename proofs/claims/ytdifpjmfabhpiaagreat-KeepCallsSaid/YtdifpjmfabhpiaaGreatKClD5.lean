/- Contracts of functions of the loaded program, and the lemmas that they need (part 5). It proves no statement by itself; it has no conditions. -/
import Derived.WalkKit
import Derived.Orders
import Derived.Deep.LoopGhost
import Derived.IntWalk
import Derived.Laws.StructEq
import Derived.ArgAppend
import Derived.Deep.AppendSrc
import Derived.Lib.Bytealg
import Derived.Lib.BytesEntry
import Derived.Laws.IdiomStrings
import Derived.WideKeyArr2
import Derived.ProofKit
import Derived.OpenShut
import Derived.Deep.Slices
import Derived.Laws.Pointers
import Derived.Laws.Cover3
import Derived.LaidEqlPtr
import Derived.LoopN
import Derived.RangeFuncLeaves
import Derived.RangeFuncSeq
import Derived.OrdersIn
import Derived.Test.YtdifpjmfabhpiaaGreatRows
import Derived.KernelRfl
import Derived.Laws.Externs
import Derived.Defers
import Derived.Laws.MathBits
import Derived.ChangeOld
import Derived.Below
import Derived.Test.YtdifpjmfabhpiaaGreatKClD4
set_option maxRecDepth 100000
set_option maxHeartbeats 8000000
set_option linter.unusedVariables false
set_option linter.unusedSimpArgs false
section
namespace Go.Proofs.YtdifpjmfabhpiaaGreat
open Go Hw


theorem r20_Bytes (V : Vote) (hV : V.ok) : Meets Tryz.prog 134 [agg V.cells] [] (fun _ => True) (fun v out => ∃ s, v = .tuple #[s.v, i64 (Ap V)] ∧ Hw.Acc s out (Aa (A0 V)) 5 (A0 V).length 1) := by
 intro W hW
 have hvl := voteT_length hV
 have hvn := voteN_le V
 have hsl := hV.l_fSig
 refine Ag Tryz.func134 J 12 Tryz.ntmps134 J (G3 ?_)
 intro n1 hn1 hf1
 refine G8 ?_
 refine .cV J J J J Body143 (r20_Check V hV) tV (G3 ?_)
 refine .condNP J (fun hc0 => ?_) (fun hc0 => ?_)
 ·
  refine G9 ?_
  refine Ah (out := []) (A9 J J J) Ae ?_
  exact ⟨Sl.nil, by rw [vcheck_2 hc0]; rfl, by rw [show A0 V = [] from if_neg hc0]; exact Acc.none⟩
 refine G3 ?_
 refine .drawK (sp_k sp_n) J [(0, 0), (0, 2), (0, 3), (4, 1)] [(4, 4), (0, 5), (0, 6)] Ba zK zK (.kloadAll J J J Y81.h J Sz81 Z0 (Vote.length zA) ?_)
 refine G2 ?_
 refine .call4 J J J J J Body214 (r20_body V hV) tV ?_
 rintro v8 out8 ⟨q8, c8, rfl, hc8, rfl⟩
 refine .nil (.appendSl (z := u8 0) (by' := 1) (Aa V.fSig) J J J J J Y58.h Y58.h Sz5 Zr5 (by unfold By; kernel_rfl) J (fun w h => SeesP.of (sees_part h Z0 (Vote.see_fSig hV))) (fun e => by cases e) (As _) rM J (by rw [Aa, List.length_map]; omega) oM oM oM (by simp [hV.l_fSig]) ?_)
 intro q11 c11 hq11
 rw [← Bx]
 refine G6 ?_
 simp only [List.cons_append, List.nil_append, List.append_nil]
 refine Ah (out := (⟨q11, Aa (voteT V ++ V.fSig), 5, c11 * 1⟩ :: [])) (A9 J J J) (Ac rM Ae) ?_
 have hc : Ap V = 0 := by omega
 refine ⟨⟨some ⟨q11, 0, none⟩, voteN V + 64, c11⟩, by rw [hc]; rfl, ?_⟩
 rw [show A0 V = voteT V ++ V.fSig from if_pos hc, show (voteT V ++ V.fSig).length = voteN V + 64 by rw [List.length_append, hvl, hsl]]
 exact Acc.some hq11 (by rw [Aa, List.length_map, List.length_append, hvl, hsl, Nat.mul_one])
theorem cmpB_same (x : UInt8) (a b : List UInt8) : cmpB (x :: a) (x :: b) = cmpB a b := by simp [cmpB, Go.Lib.compareBytes]
theorem cmpB_other {x y : UInt8} (h : x ≠ y) (a b : List UInt8) : cmpB (x :: a) (y :: b) = cmpI (x.toNat : Int) (y.toNat : Int) := by
  have h2 : x.toNat ≠ y.toNat := fun e => h (UInt8.toNat_inj.1 e)
  simp only [cmpB, Go.Lib.compareBytes, UInt8.lt_iff_toNat_lt]
  unfold cmpI
  (repeat' split) <;> first | rfl | omega
theorem cmpB_at : ∀ (k : Nat) (a b : List UInt8), a.length = b.length → (∀ j, j < k → a.getD j 0 = b.getD j 0) → k < a.length → a.getD k 0 ≠ b.getD k 0 → cmpB a b = cmpI ((a.getD k 0).toNat : Int) ((b.getD k 0).toNat : Int)
  | k, [], b, hl, hs, hk, hd => absurd hk (Nat.not_lt_zero _)
  | k, x :: a, [], hl, hs, hk, hd => by cases hl
  | 0, x :: a, y :: b, hl, hs, hk, hd => cmpB_other hd a b
  | k + 1, x :: a, y :: b, hl, hs, hk, hd => by
    have e : x = y := hs 0 (Nat.succ_pos k)
    subst e
    rw [cmpB_same]
    exact cmpB_at k a b (Nat.succ.inj hl) (fun j hj => hs (j + 1) (Nat.succ_lt_succ hj)) (Nat.lt_of_succ_lt_succ hk) hd
theorem cmpB_all {a b : List UInt8} (ha : a.length = 32) (hb : b.length = 32) (h : ∀ j, j < 32 → a.getD j 0 = b.getD j 0) : cmpB a b = 0 := by
  refine (cmpB_zero a b).2 (List.ext_getElem oM (fun i h1 h2 => ?_))
  have := h i oM
  simpa [List.getD, h1, h2] using this

end Go.Proofs.YtdifpjmfabhpiaaGreat
end

section
namespace Go.Proofs.YtdifpjmfabhpiaaGreat
open Go Hw

theorem Tr.rem_u64 {C : Cx} {ops : Array Oper} {rest : List (Nat × Oper)} {sl : List (Nat × Value)} {hp : List Blk} {Q : St → Prop} {c d : Nat} {ty : TypeId} {pos : String} {af : Array Edge} {g : Option (Nat × Bool)} {xT yT : TypeId} {x y : Operand} {b : Int} {p : UInt64} (hg : An ops sl g = true) (hk : okD c d C.N = true) (hx : Al sl x = some (u64 p)) (hy : Al sl y = some (.int .u64 b)) (n : Nat) (hn : b = n) (h0 : 0 < n)
    (k : Tr C ops rest ⟨(d, u64 (UInt64.ofNat (p.toNat % n))) :: sl, hp⟩ Q) : Tr C ops ((c, ⟨some d, .binOp .rem xT x y yT, ty, pos, af, g⟩) :: rest) ⟨sl, hp⟩ Q :=
  .bin hg hk hx hy (fun w => by
    subst hn
    simp [binOp, Op.intDiv, show ¬ n = 0 by omega]
    have := p.toNat_lt
    have h2 : p.toNat % n ≤ p.toNat := Nat.mod_le _ _
    rw [Int.tmod_eq_emod_of_nonneg (Int.natCast_nonneg _), ← Int.natCast_emod]
    omega) k
theorem one_all : ∀ n, n < 256 → ∀ k, k < 9 → 1 ≤ k → k ≤ Bb (UInt8.ofNat n) → (((UInt8.ofNat ((shr8 (UInt8.ofNat n) (8 - k)).toNat % 2)).toNat : Int) = 1 ↔ k < Bb (UInt8.ofNat n)) := by decide +kernel
theorem one_iff (f : UInt8) (k : Nat) (h1 : 1 ≤ k) (h9 : k < 9) (hc : k ≤ Bb f) : ((UInt8.ofNat ((shr8 f (8 - k)).toNat % 2)).toNat : Int) = 1 ↔ k < Bb f := by
  have h := one_all f.toNat f.toNat_lt k h9 h1
  rw [UInt8.ofNat_toNat] at h
  exact h hc
theorem hrem_all : ∀ n, n < 256 → Bb (UInt8.ofNat n) < 9 → UInt64.ofNat ((UInt8.ofNat n).toUInt64.toNat % (shl64 1 (8 - Bb (UInt8.ofNat n))).toNat) = headV (UInt8.ofNat n) := by decide +kernel
theorem head_rem (f : UInt8) (h : Bb f < 9) : UInt64.ofNat (f.toUInt64.toNat % (shl64 1 (8 - Bb f)).toNat) = headV f := by
  have h2 := hrem_all f.toNat f.toNat_lt
  rw [UInt8.ofNat_toNat] at h2
  exact h2 h
theorem head_nine (f : UInt8) (h : Bb f = 9) : (0 : UInt64) = headV f := UInt64.toNat_inj.1 ((head_of f).2.2.2.1 h).symm
theorem shl_pos {k : Nat} (h : k < 64) : 0 < (shl64 1 k).toNat := by
  have h2 : 2 ^ k < 2 ^ 64 := Nat.pow_lt_pow_right dE h
  rw [shl64, UInt64.toNat_ofNat', Nat.mod_eq_of_lt (by simpa using h2)]
  simpa using Nat.pow_pos dE
theorem fold_or (v : UInt64) (b : UInt8) : v * 256 + b.toUInt64 = shl64 v 8 ||| b.toUInt64 := by
  apply UInt64.toNat_inj.1
  have hb := b.toNat_lt
  have hv := v.toNat_lt
  have e1 : (shl64 v 8).toNat = 256 * (v.toNat % 2 ^ 56) := by
    rw [shl64, UInt64.toNat_ofNat']; omega
  rw [UInt64.toNat_or, UInt64.toNat_add, UInt64.toNat_mul, e1]
  show (v.toNat * 256 % 2 ^ 64 + b.toNat) % 2 ^ 64 = 2 ^ 8 * (v.toNat % 2 ^ 56) ||| b.toNat
  rw [← Nat.two_pow_add_eq_or_of_lt (i := 8) hb]
  omega
def rd1 (q o N cp at' : Nat) (e : Int) : Rdr := ⟨⟨some ⟨q, o, none⟩, N - at', cp - at'⟩, e⟩
theorem rd1_ok (q o N cp at' : Nat) (e : Int) : (rd1 q o N cp at' e).ok := ⟨trivial⟩
def R1B (n q o N cp at' : Nat) (e : Int) : Blk := ⟨n, (rd1 q o N cp at' e).cells, 183, 2⟩
theorem r1b_move (n q o N cp a k : Nat) (e : Int) : R1B n q o N cp (a + k) e = ⟨n, ({ fB := ⟨some ⟨q, o, none⟩, N - a - k, cp - a - k⟩, fE := e } : Rdr).cells, 183, 2⟩ := by rw [R1B, rd1, Nat.sub_sub, Nat.sub_sub]

theorem r1n_err (n q N cp at' : Nat) (o : Nat) (e : Int) (xs : List UInt8) (hx : xs.length = N) (hat : at' ≤ N) (hN : N ≤ cp) (hbig : N ≤ 90000) (he : ¬ e = 0) : Meets Tryz.prog 138 [ptr n 0] [n] (fun W => BlkOk W (R1B n q (o) N cp (at') (e)) ∧ B8 W q 0 (Aa xs) ∧ q ≠ n) (fun v out => v = u64 0 ∧ out = [R1B n q (o) N cp (at') (e)]) := by
 intro W hW
 have hfn : (rd1 q o N cp at' e).fB.n = N - at' := rfl
 have hfc : (rd1 q o N cp at' e).fB.c = cp - at' := rfl
 have hfe : (rd1 q o N cp at' e).fE = e := rfl
 refine A3 (hp0 := [R1B n q (o) N cp (at') (e)]) Tryz.func138 J 95 Tryz.ntmps138 J (HRep.one hW.1) (G2 ?_)
 refine .a J J (show Al _ _ = some (u64 0) from rfl) (G9 ?_)
 refine .nei J J J J (show (!decide _) = true from congrArg not (decide_eq_false (he))) (G2 ?_)
 refine .cond_t J (rfl) (G2 ?_)
 refine .a J J (show Al _ _ = some (u64 0) from rfl) (G5 ?_)
 refine ⟨_, [R1B n q (o) N cp (at') (e)], Ad J J, (by intro b hb; rw [List.mem_singleton.1 hb]; exact B7), B2, ?_⟩
 exact ⟨rfl, rfl⟩

theorem r1n_end (n q N cp at' : Nat) (o : Nat) (xs : List UInt8) (hx : xs.length = N) (hat : at' ≤ N) (hN : N ≤ cp) (hbig : N ≤ 90000) (hk : N ≤ at') : Meets Tryz.prog 138 [ptr n 0] [n] (fun W => BlkOk W (R1B n q (o) N cp (at') (0)) ∧ B8 W q 0 (Aa xs) ∧ q ≠ n) (fun v out => v = u64 0 ∧ out = [R1B n q (o) N cp (at') (5)]) := by
 intro W hW
 have hfn : (rd1 q o N cp at' 0).fB.n = N - at' := rfl
 have hfc : (rd1 q o N cp at' 0).fB.c = cp - at' := rfl
 have hfe : (rd1 q o N cp at' 0).fE = 0 := rfl
 refine A3 (hp0 := [R1B n q (o) N cp (at') (0)]) Tryz.func138 J 95 Tryz.ntmps138 J (HRep.one hW.1) (G2 ?_)
 refine .a J J (show Al _ _ = some (u64 0) from rfl) (G9 ?_)
 refine .nei J J J J (show (!decide _) = false from congrArg not (decide_eq_true (rfl))) (G2 ?_)
 refine .cond_f J (rfl) (G10 ?_)
 refine .eqi J J J J (decide_eq_true oM) (G2 ?_)
 refine .cond_t J (rfl) (G10 ?_)
 refine .a J J (show Al _ _ = some (u64 0) from rfl) (G5 ?_)
 refine ⟨_, [R1B n q (o) N cp (at') (5)], Ad J J, (by intro b hb; rw [List.mem_singleton.1 hb]; exact B7), B2, ?_⟩
 exact ⟨rfl, rfl⟩

theorem r1n_short (n q N cp at' : Nat) (xs : List UInt8) (hx : xs.length = N) (hat : at' ≤ N) (hN : N ≤ cp) (hbig : N ≤ 90000) (hk : at' < N) (hk2 : N < at' + (Bb (xs.getD at' 0))) : Meets Tryz.prog 138 [ptr n 0] [n] (fun W => BlkOk W (R1B n q (at') N cp (at') (0)) ∧ B8 W q 0 (Aa xs) ∧ q ≠ n) (fun v out => v = u64 0 ∧ out = [R1B n q (at') N cp (at') (5)]) := by
 intro W hW
 have hfn : (rd1 q at' N cp at' 0).fB.n = N - at' := rfl
 have hfc : (rd1 q at' N cp at' 0).fB.c = cp - at' := rfl
 have hfe : (rd1 q at' N cp at' 0).fE = 0 := rfl
 have hcp := head_of (xs.getD at' 0)
 have hc1 : 1 ≤ (Bb (xs.getD at' 0)) := hcp.1
 have hc9 : (Bb (xs.getD at' 0)) ≤ 9 := hcp.2.1
 clear hcp
 refine A3 (hp0 := [R1B n q (at') N cp (at') (0)]) Tryz.func138 J 95 Tryz.ntmps138 J (HRep.one hW.1) (G2 ?_)
 refine .a J J (show Al _ _ = some (u64 0) from rfl) (G9 ?_)
 refine .nei J J J J (show (!decide _) = false from congrArg not (decide_eq_true (rfl))) (G2 ?_)
 refine .cond_f J (rfl) (G10 ?_)
 refine .eqi J J J J (decide_eq_false oM) (G2 ?_)
 refine .cond_f J (rfl) (G7 ?_)
 refine .join (ι := Unit) (fun _u => ⟨[(0, ptr n 0), (3, i64 (((Bb (xs.getD at' 0)) : Nat) : Int))], [⟨n, (rd1 q at' N cp at' 0).cells, 183, 2⟩]⟩) (fun _u => True) ?_ ?_
 ·
  refine .block (.loop (ι := Nat) (fun k => ⟨[(0, ptr n 0), (3, i64 (k : Int))], [⟨n, (rd1 q at' N cp at' 0).cells, 183, 2⟩]⟩) (fun k => 1 ≤ k ∧ k ≤ (Bb (xs.getD at' 0))) (fun k => 9 - k) (1) ?_ ?_ ?_)
  · exact ⟨Nat.le_refl _, hc1⟩
  · exact Ai (wk1 rfl (wk1 rfl wk0)) (wh1 Z0 wh0) nD
  rintro k ⟨hk3, hk4⟩
  refine G4 ?_
  refine two (fun r hr k => Tr.lss J J J J hr k) (fun hs7_10 => ?_) (fun hs7_10 => ?_)
  ·
   have hs7_1 := of_decide_eq_true hs7_10
   refine G5 ?_
   refine .idxSlO J J J J Y58.h Sz5 0 J oM (.loadE J J J Y5.h J (by (simp; exact hW.2.2)) ((by have := hW.2.1 at' _ (Bw oM); rwa [Nat.zero_add] at this)) ?_)
   refine G3 ?_
   refine .shr_u8 J J J J (8 - k) (by rw [show (8 : Int) - (k : Int) = ((8 - k : Nat) : Int) by omega, wordOf_id _ oM]) oM ?_
   refine .rem_u8 J J J J 2 J dE (G4 ?_)
   refine .condP J (fun hc2 => ?_) (fun hc2 => ?_)
   ·
    refine G10 ?_
    exact ⟨k + 1, ⟨by omega, (one_iff _ k hk3 oM hk4).1 zA⟩, by omega, Ai (wk1 rfl (wk1 (by rw [Int.natCast_add]; rfl) wk0)) (wh1 Z0 wh0) nD⟩
   refine G5 ?_
   exact ⟨(), trivial, Ai (wk1 rfl (wk1 (congrArg (fun z => some (i64 z)) (by (have h5 := one_iff (xs.getD at' 0) k hk3 oM hk4; have h6 : ¬ k < (Bb (xs.getD at' 0)) := fun h => hc2 (h5.2 h); omega))) wk0)) (wh1 Z0 wh0) nD⟩
  have hs7_1 := of_decide_eq_false hs7_10
  refine G16 ?_
  refine .cond_f J J (G5 ?_)
  exact ⟨(), trivial, Ai (wk1 rfl (wk1 (congrArg (fun z => some (i64 z)) oM) wk0)) (wh1 Z0 wh0) nD⟩
 intro _u hj
 skip
 refine G9 ?_
 refine .lss J J J J (decide_eq_true oM) (G2 ?_)
 refine .cond_t J (rfl) (G10 ?_)
 refine .a J J (show Al _ _ = some (u64 0) from rfl) (G5 ?_)
 refine ⟨_, [R1B n q (at') N cp (at') (5)], Ad J J, (by intro b hb; rw [List.mem_singleton.1 hb]; exact B7), B2, ?_⟩
 exact ⟨rfl, rfl⟩
theorem r1n_bad (n q N cp at' : Nat) (xs : List UInt8) (hx : xs.length = N) (hat : at' ≤ N) (hN : N ≤ cp) (hbig : N ≤ 90000) (hk : at' < N) (hk2 : at' + (Bb (xs.getD at' 0)) ≤ N) (hz : ¬ szN (numV xs at').toNat = (Bb (xs.getD at' 0))) : Meets Tryz.prog 138 [ptr n 0] [n] (fun W => BlkOk W (R1B n q (at') N cp (at') (0)) ∧ B8 W q 0 (Aa xs) ∧ q ≠ n) (fun v out => v = u64 0 ∧ out = [R1B n q (at') N cp (at') (4)]) := by
 intro W hW
 have hfn : (rd1 q at' N cp at' 0).fB.n = N - at' := rfl
 have hfc : (rd1 q at' N cp at' 0).fB.c = cp - at' := rfl
 have hfe : (rd1 q at' N cp at' 0).fE = 0 := rfl
 have hcp := head_of (xs.getD at' 0)
 have hc1 : 1 ≤ (Bb (xs.getD at' 0)) := hcp.1
 have hc9 : (Bb (xs.getD at' 0)) ≤ 9 := hcp.2.1
 clear hcp
 refine A3 (hp0 := [R1B n q (at') N cp (at') (0)]) Tryz.func138 J 95 Tryz.ntmps138 J (HRep.one hW.1) (G2 ?_)
 refine .a J J (show Al _ _ = some (u64 0) from rfl) (G9 ?_)
 refine .nei J J J J (show (!decide _) = false from congrArg not (decide_eq_true (rfl))) (G2 ?_)
 refine .cond_f J (rfl) (G10 ?_)
 refine .eqi J J J J (decide_eq_false oM) (G2 ?_)
 refine .cond_f J (rfl) (G7 ?_)
 refine .join (ι := Unit) (fun _u => ⟨[(0, ptr n 0), (3, i64 (((Bb (xs.getD at' 0)) : Nat) : Int))], [⟨n, (rd1 q at' N cp at' 0).cells, 183, 2⟩]⟩) (fun _u => True) ?_ ?_
 ·
  refine .block (.loop (ι := Nat) (fun k => ⟨[(0, ptr n 0), (3, i64 (k : Int))], [⟨n, (rd1 q at' N cp at' 0).cells, 183, 2⟩]⟩) (fun k => 1 ≤ k ∧ k ≤ (Bb (xs.getD at' 0))) (fun k => 9 - k) (1) ?_ ?_ ?_)
  · exact ⟨Nat.le_refl _, hc1⟩
  · exact Ai (wk1 rfl (wk1 rfl wk0)) (wh1 Z0 wh0) nD
  rintro k ⟨hk3, hk4⟩
  refine G4 ?_
  refine two (fun r hr k => Tr.lss J J J J hr k) (fun hs7_10 => ?_) (fun hs7_10 => ?_)
  ·
   have hs7_1 := of_decide_eq_true hs7_10
   refine G5 ?_
   refine .idxSlO J J J J Y58.h Sz5 0 J oM (.loadE J J J Y5.h J (by (simp; exact hW.2.2)) ((by have := hW.2.1 at' _ (Bw oM); rwa [Nat.zero_add] at this)) ?_)
   refine G3 ?_
   refine .shr_u8 J J J J (8 - k) (by rw [show (8 : Int) - (k : Int) = ((8 - k : Nat) : Int) by omega, wordOf_id _ oM]) oM ?_
   refine .rem_u8 J J J J 2 J dE (G4 ?_)
   refine .condP J (fun hc2 => ?_) (fun hc2 => ?_)
   ·
    refine G10 ?_
    exact ⟨k + 1, ⟨by omega, (one_iff _ k hk3 oM hk4).1 zA⟩, by omega, Ai (wk1 rfl (wk1 (by rw [Int.natCast_add]; rfl) wk0)) (wh1 Z0 wh0) nD⟩
   refine G5 ?_
   exact ⟨(), trivial, Ai (wk1 rfl (wk1 (congrArg (fun z => some (i64 z)) (by (have h5 := one_iff (xs.getD at' 0) k hk3 oM hk4; have h6 : ¬ k < (Bb (xs.getD at' 0)) := fun h => hc2 (h5.2 h); omega))) wk0)) (wh1 Z0 wh0) nD⟩
  have hs7_1 := of_decide_eq_false hs7_10
  refine G16 ?_
  refine .cond_f J J (G5 ?_)
  exact ⟨(), trivial, Ai (wk1 rfl (wk1 (congrArg (fun z => some (i64 z)) oM) wk0)) (wh1 Z0 wh0) nD⟩
 intro _u hj
 skip
 refine G9 ?_
 refine .lss J J J J (decide_eq_false oM) (G2 ?_)
 refine .cond_f J (rfl) (G4 ?_)
 refine .a J J (show Al _ _ = some (u64 0) from rfl) (G2 ?_)
 refine .join (ι := Unit) (fun _u => ⟨[(0, ptr n 0), (3, i64 (((Bb (xs.getD at' 0)) : Nat) : Int)), (4, u64 (headV (xs.getD at' 0)))], [⟨n, (rd1 q at' N cp at' 0).cells, 183, 2⟩]⟩) (fun _u => True) ?_ ?_
 ·
  refine G6 ?_
  refine .condP J (fun hc4 => ?_) (fun hc4 => ?_)
  ·
   refine G5 ?_
   refine .idxSlO J J J J Y58.h Sz5 0 J oM (.loadE J J J Y5.h J (by (simp; exact hW.2.2)) ((by have := hW.2.1 at' _ (Bw oM); rwa [Nat.zero_add] at this)) ?_)
   refine G4 ?_
   refine .shl_u64 J J (show Al _ _ = some (u64 1) from rfl) J (8 - (Bb (xs.getD at' 0))) (by rw [show (8 : Int) - (((Bb (xs.getD at' 0)) : Nat) : Int) = ((8 - (Bb (xs.getD at' 0)) : Nat) : Int) by omega, wordOf_id _ oM]) oM ?_
   refine Tr.rem_u64 J J J J (shl64 1 (8 - (Bb (xs.getD at' 0)))).toNat J (shl_pos oM) (G3 ?_)
   exact ⟨(), trivial, Ai (wk1 rfl (wk1 rfl (wk1 (congrArg (fun z => some (u64 z)) (by exact head_rem _ oM)) wk0))) (wh1 Z0 wh0) nD⟩
  refine G2 ?_
  exact ⟨(), trivial, Ai (wk1 rfl (wk1 rfl (wk1 (congrArg (fun z => some (u64 z)) (by exact head_nine _ oM)) wk0))) (wh1 Z0 wh0) nD⟩
 intro _u hj
 skip
 refine G7 ?_
 refine .loop (ι := Nat) (fun j => ⟨[(0, ptr n 0), (3, i64 (((Bb (xs.getD at' 0)) : Nat) : Int)), (4, u64 (foldB (headV (xs.getD at' 0)) ((xs.drop (at' + 1)).take j))), (5, i64 ((j : Int) + 1))], [⟨n, (rd1 q at' N cp at' 0).cells, 183, 2⟩]⟩) (fun j => j ≤ (Bb (xs.getD at' 0)) - 1) (fun j => (Bb (xs.getD at' 0)) - 1 - j) (0) ?_ ?_ ?_
 · exact Nat.zero_le _
 · exact Ai (wk1 rfl (wk1 rfl (wk1 rfl (wk1 rfl wk0)))) (wh1 Z0 wh0) nD
 rintro j hj
 refine G8 ?_
 refine .condP J (fun hc5 => ?_) (fun hc5 => ?_)
 ·
  have hj2 : j < (Bb (xs.getD at' 0)) - 1 := by omega
  refine G6 ?_
  refine .mul_u64 J J J (show Al _ _ = some (u64 256) from rfl) (G5 ?_)
  refine .idxSlO J J J J Y58.h Sz5 (j + 1) oM oM (.loadE J J J Y5.h J (by (simp; exact hW.2.2)) ((by have h9 := hW.2.1 (at' + (j + 1)) _ (Bw oM); rwa [Nat.zero_add] at h9)) ?_)
  refine G12 ?_
  exact ⟨j + 1, by omega, by omega, Ai (wk1 rfl (wk1 rfl (wk1 (congrArg (fun z => some (u64 z)) (by rw [foldB_step xs (at' + 1) j _ oM, show at' + 1 + j = at' + (j + 1) by omega, fold_or])) (wk1 (congrArg (fun z => some (i64 z)) oM) wk0)))) (wh1 Z0 wh0) nD⟩
 have hj2 : j = (Bb (xs.getD at' 0)) - 1 := by omega
 refine G8 ?_
 have hnv : numV xs at' = foldB (headV (xs.getD at' 0)) ((xs.drop (at' + 1)).take j) := by rw [numV, hj2]
 refine G1 ?_
 refine .cV J J J J Body213 (r1_room _) tV (G1 ?_)
 refine .nei J J J J (show (!decide _) = true from congrArg not (decide_eq_false (by rw [← hnv]; omega))) ?_
 refine G2 ?_
 refine .cond_t J (rfl) (G10 ?_)
 refine .a J J (show Al _ _ = some (u64 0) from rfl) (G5 ?_)
 refine ⟨_, [R1B n q (at') N cp (at') (4)], Ad J J, (by intro b hb; rw [List.mem_singleton.1 hb]; exact B7), B2, ?_⟩
 exact ⟨rfl, rfl⟩
theorem r1n_ok (n q N cp at' : Nat) (xs : List UInt8) (hx : xs.length = N) (hat : at' ≤ N) (hN : N ≤ cp) (hbig : N ≤ 90000) (hk : at' < N) (hk2 : at' + (Bb (xs.getD at' 0)) ≤ N) (hz : szN (numV xs at').toNat = (Bb (xs.getD at' 0))) : Meets Tryz.prog 138 [ptr n 0] [n] (fun W => BlkOk W (R1B n q (at') N cp (at') (0)) ∧ B8 W q 0 (Aa xs) ∧ q ≠ n) (fun v out => v = u64 (numV xs at') ∧ out = [R1B n q (if cp - at' = (Bb (xs.getD at' 0)) then at' else at' + (Bb (xs.getD at' 0)) * 1) N cp (at' + (Bb (xs.getD at' 0))) (0)]) := by
 intro W hW
 have hfn : (rd1 q at' N cp at' 0).fB.n = N - at' := rfl
 have hfc : (rd1 q at' N cp at' 0).fB.c = cp - at' := rfl
 have hfe : (rd1 q at' N cp at' 0).fE = 0 := rfl
 have hcp := head_of (xs.getD at' 0)
 have hc1 : 1 ≤ (Bb (xs.getD at' 0)) := hcp.1
 have hc9 : (Bb (xs.getD at' 0)) ≤ 9 := hcp.2.1
 clear hcp
 refine A3 (hp0 := [R1B n q (at') N cp (at') (0)]) Tryz.func138 J 95 Tryz.ntmps138 J (HRep.one hW.1) (G2 ?_)
 refine .a J J (show Al _ _ = some (u64 0) from rfl) (G9 ?_)
 refine .nei J J J J (show (!decide _) = false from congrArg not (decide_eq_true (rfl))) (G2 ?_)
 refine .cond_f J (rfl) (G10 ?_)
 refine .eqi J J J J (decide_eq_false oM) (G2 ?_)
 refine .cond_f J (rfl) (G7 ?_)
 refine .join (ι := Unit) (fun _u => ⟨[(0, ptr n 0), (3, i64 (((Bb (xs.getD at' 0)) : Nat) : Int))], [⟨n, (rd1 q at' N cp at' 0).cells, 183, 2⟩]⟩) (fun _u => True) ?_ ?_
 ·
  refine .block (.loop (ι := Nat) (fun k => ⟨[(0, ptr n 0), (3, i64 (k : Int))], [⟨n, (rd1 q at' N cp at' 0).cells, 183, 2⟩]⟩) (fun k => 1 ≤ k ∧ k ≤ (Bb (xs.getD at' 0))) (fun k => 9 - k) (1) ?_ ?_ ?_)
  · exact ⟨Nat.le_refl _, hc1⟩
  · exact Ai (wk1 rfl (wk1 rfl wk0)) (wh1 Z0 wh0) nD
  rintro k ⟨hk3, hk4⟩
  refine G4 ?_
  refine two (fun r hr k => Tr.lss J J J J hr k) (fun hs7_10 => ?_) (fun hs7_10 => ?_)
  ·
   have hs7_1 := of_decide_eq_true hs7_10
   refine G5 ?_
   refine .idxSlO J J J J Y58.h Sz5 0 J oM (.loadE J J J Y5.h J (by (simp; exact hW.2.2)) ((by have := hW.2.1 at' _ (Bw oM); rwa [Nat.zero_add] at this)) ?_)
   refine G3 ?_
   refine .shr_u8 J J J J (8 - k) (by rw [show (8 : Int) - (k : Int) = ((8 - k : Nat) : Int) by omega, wordOf_id _ oM]) oM ?_
   refine .rem_u8 J J J J 2 J dE (G4 ?_)
   refine .condP J (fun hc2 => ?_) (fun hc2 => ?_)
   ·
    refine G10 ?_
    exact ⟨k + 1, ⟨by omega, (one_iff _ k hk3 oM hk4).1 zA⟩, by omega, Ai (wk1 rfl (wk1 (by rw [Int.natCast_add]; rfl) wk0)) (wh1 Z0 wh0) nD⟩
   refine G5 ?_
   exact ⟨(), trivial, Ai (wk1 rfl (wk1 (congrArg (fun z => some (i64 z)) (by (have h5 := one_iff (xs.getD at' 0) k hk3 oM hk4; have h6 : ¬ k < (Bb (xs.getD at' 0)) := fun h => hc2 (h5.2 h); omega))) wk0)) (wh1 Z0 wh0) nD⟩
  have hs7_1 := of_decide_eq_false hs7_10
  refine G16 ?_
  refine .cond_f J J (G5 ?_)
  exact ⟨(), trivial, Ai (wk1 rfl (wk1 (congrArg (fun z => some (i64 z)) oM) wk0)) (wh1 Z0 wh0) nD⟩
 intro _u hj
 skip
 refine G9 ?_
 refine .lss J J J J (decide_eq_false oM) (G2 ?_)
 refine .cond_f J (rfl) (G4 ?_)
 refine .a J J (show Al _ _ = some (u64 0) from rfl) (G2 ?_)
 refine .join (ι := Unit) (fun _u => ⟨[(0, ptr n 0), (3, i64 (((Bb (xs.getD at' 0)) : Nat) : Int)), (4, u64 (headV (xs.getD at' 0)))], [⟨n, (rd1 q at' N cp at' 0).cells, 183, 2⟩]⟩) (fun _u => True) ?_ ?_
 ·
  refine G6 ?_
  refine .condP J (fun hc4 => ?_) (fun hc4 => ?_)
  ·
   refine G5 ?_
   refine .idxSlO J J J J Y58.h Sz5 0 J oM (.loadE J J J Y5.h J (by (simp; exact hW.2.2)) ((by have := hW.2.1 at' _ (Bw oM); rwa [Nat.zero_add] at this)) ?_)
   refine G4 ?_
   refine .shl_u64 J J (show Al _ _ = some (u64 1) from rfl) J (8 - (Bb (xs.getD at' 0))) (by rw [show (8 : Int) - (((Bb (xs.getD at' 0)) : Nat) : Int) = ((8 - (Bb (xs.getD at' 0)) : Nat) : Int) by omega, wordOf_id _ oM]) oM ?_
   refine Tr.rem_u64 J J J J (shl64 1 (8 - (Bb (xs.getD at' 0)))).toNat J (shl_pos oM) (G3 ?_)
   exact ⟨(), trivial, Ai (wk1 rfl (wk1 rfl (wk1 (congrArg (fun z => some (u64 z)) (by exact head_rem _ oM)) wk0))) (wh1 Z0 wh0) nD⟩
  refine G2 ?_
  exact ⟨(), trivial, Ai (wk1 rfl (wk1 rfl (wk1 (congrArg (fun z => some (u64 z)) (by exact head_nine _ oM)) wk0))) (wh1 Z0 wh0) nD⟩
 intro _u hj
 skip
 refine G7 ?_
 refine .loop (ι := Nat) (fun j => ⟨[(0, ptr n 0), (3, i64 (((Bb (xs.getD at' 0)) : Nat) : Int)), (4, u64 (foldB (headV (xs.getD at' 0)) ((xs.drop (at' + 1)).take j))), (5, i64 ((j : Int) + 1))], [⟨n, (rd1 q at' N cp at' 0).cells, 183, 2⟩]⟩) (fun j => j ≤ (Bb (xs.getD at' 0)) - 1) (fun j => (Bb (xs.getD at' 0)) - 1 - j) (0) ?_ ?_ ?_
 · exact Nat.zero_le _
 · exact Ai (wk1 rfl (wk1 rfl (wk1 rfl (wk1 rfl wk0)))) (wh1 Z0 wh0) nD
 rintro j hj
 refine G8 ?_
 refine .condP J (fun hc5 => ?_) (fun hc5 => ?_)
 ·
  have hj2 : j < (Bb (xs.getD at' 0)) - 1 := by omega
  refine G6 ?_
  refine .mul_u64 J J J (show Al _ _ = some (u64 256) from rfl) (G5 ?_)
  refine .idxSlO J J J J Y58.h Sz5 (j + 1) oM oM (.loadE J J J Y5.h J (by (simp; exact hW.2.2)) ((by have h9 := hW.2.1 (at' + (j + 1)) _ (Bw oM); rwa [Nat.zero_add] at h9)) ?_)
  refine G12 ?_
  exact ⟨j + 1, by omega, by omega, Ai (wk1 rfl (wk1 rfl (wk1 (congrArg (fun z => some (u64 z)) (by rw [foldB_step xs (at' + 1) j _ oM, show at' + 1 + j = at' + (j + 1) by omega, fold_or])) (wk1 (congrArg (fun z => some (i64 z)) oM) wk0)))) (wh1 Z0 wh0) nD⟩
 have hj2 : j = (Bb (xs.getD at' 0)) - 1 := by omega
 refine G8 ?_
 have hnv : numV xs at' = foldB (headV (xs.getD at' 0)) ((xs.drop (at' + 1)).take j) := by rw [numV, hj2]
 refine G1 ?_
 refine .cV J J J J Body213 (r1_room _) tV (G1 ?_)
 refine .nei J J J J (show (!decide _) = false from congrArg not (decide_eq_true (by rw [← hnv, hz]))) ?_
 refine G2 ?_
 refine .cond_f J (rfl) (G10 ?_)
 refine .sliceLoN (Bb (xs.getD at' 0)) J J J J J oM oM Y58.h Sz5 (G2 ?_)
 refine .s1 J J J J J Sz58 Z0 (by rw [Rdr.length (by exact rd1_ok _ _ _ _ _ _)]; decide) (by exact Rdr.setS_fB (by exact rd1_ok _ _ _ _ _ _) _ _ _) zU ?_
 refine G10 ?_
 refine ⟨_, [R1B n q (if cp - at' = (Bb (xs.getD at' 0)) then at' else at' + (Bb (xs.getD at' 0)) * 1) N cp (at' + (Bb (xs.getD at' 0))) (0)], Ad J J, (by intro b hb; rw [List.mem_singleton.1 hb, r1b_move]; exact B7), B2, ?_⟩
 exact ⟨by rw [hnv], rfl⟩
def At1 (cp a o : Nat) : Prop := a < cp → o = a
theorem at1_move {cp a k : Nat} (h : a < cp) : At1 cp (a + k) (if cp - a = k then a else a + k * 1) := fun h2 => by rw [if_neg oM]; omega
theorem Cb (n q o N cp at' : Nat) (e : Int) (xs : List UInt8) (hx : xs.length = N) (hat : at' ≤ N) (hN : N ≤ cp) (hbig : N ≤ 90000) (ho : At1 cp at' o) (x : UInt64) (a1 : Nat) (e1 : Int) (h : A5 xs at' e = (x, a1, e1)) : Meets Tryz.prog 138 [ptr n 0] [n] (fun W => BlkOk W (R1B n q o N cp at' e) ∧ B8 W q 0 (Aa xs) ∧ q ≠ n)
    (fun v out => ∃ o1, At1 cp a1 o1 ∧ v = u64 x ∧ out = [R1B n q o1 N cp a1 e1]) := by
  unfold A5 at h
  by_cases he : e = 0
  · subst he
    rw [if_neg sP] at h
    by_cases h1 : xs.length ≤ at'
    · rw [if_pos h1] at h
      obtain ⟨rfl, rfl, rfl⟩ : (0 : UInt64) = x ∧ at' = a1 ∧ (5 : Int) = e1 := by simpa using h
      exact (r1n_end n q N cp at' o xs hx hat hN hbig oM).imp (fun w h => h) fun v out ⟨h1, h2⟩ => ⟨o, ho, h1, h2⟩
    · rw [if_neg h1] at h
      obtain rfl : o = at' := ho oM
      by_cases h2 : xs.length < o + Bb (xs.getD o 0)
      · rw [if_pos h2] at h
        obtain ⟨rfl, rfl, rfl⟩ : (0 : UInt64) = x ∧ o = a1 ∧ (5 : Int) = e1 := by simpa using h
        exact (r1n_short n q N cp o xs hx hat hN hbig oM oM).imp (fun w h => h) fun v out ⟨h1, h2⟩ => ⟨o, ho, h1, h2⟩
      · rw [if_neg h2] at h
        by_cases h3 : szN (numV xs o).toNat = Bb (xs.getD o 0)
        · rw [if_pos h3] at h
          obtain ⟨rfl, rfl, rfl⟩ : numV xs o = x ∧ o + Bb (xs.getD o 0) = a1 ∧ (0 : Int) = e1 := by simpa using h
          exact (r1n_ok n q N cp o xs hx hat hN hbig oM oM h3).imp (fun w h => h) fun v out ⟨h1, h2⟩ => ⟨_, at1_move oM, h1, h2⟩
        · rw [if_neg h3] at h
          obtain ⟨rfl, rfl, rfl⟩ : (0 : UInt64) = x ∧ o = a1 ∧ (4 : Int) = e1 := by simpa using h
          exact (r1n_bad n q N cp o xs hx hat hN hbig oM oM h3).imp (fun w h => h) fun v out ⟨h1, h2⟩ => ⟨o, ho, h1, h2⟩
  · rw [if_pos he] at h
    obtain ⟨rfl, rfl, rfl⟩ : (0 : UInt64) = x ∧ at' = a1 ∧ e = e1 := by simpa using h
    exact (r1n_err n q N cp at' o e xs hx hat hN hbig he).imp (fun w h => h) fun v out ⟨h1, h2⟩ => ⟨o, ho, h1, h2⟩

theorem r1t_err (n q N cp at' : Nat) (o : Nat) (e : Int) (m : Nat) (hm0 : 0 < m) (hm : m ≤ 90000) (xs : List UInt8) (hx : xs.length = N) (hat : at' ≤ N) (hN : N ≤ cp) (hbig : N ≤ 90000) (he : ¬ e = 0) : Meets Tryz.prog 216 [ptr n 0, i64 (m : Int)] [n] (fun W => BlkOk W (R1B n q (o) N cp (at') (e)) ∧ B8 W q 0 (Aa xs) ∧ q ≠ n) (fun v out => v = .slice none 0 0 ∧ out = [R1B n q (o) N cp (at') (e)]) := by
 intro W hW
 have hfn : (rd1 q o N cp at' e).fB.n = N - at' := rfl
 have hfc : (rd1 q o N cp at' e).fB.c = cp - at' := rfl
 have hfe : (rd1 q o N cp at' e).fE = e := rfl
 refine A3 (hp0 := [R1B n q (o) N cp (at') (e)]) Tryz.func216 J 48 Tryz.ntmps216 J (HRep.one hW.1) (G8 ?_)
 refine .max2 J J J J (show Value.int .i64 (if (0 : Int) > (m : Int) then 0 else (m : Int)) = i64 (m : Int) by rw [if_neg oM]) ?_
 refine G10 ?_
 refine .eqi J J J J (decide_eq_false (he)) (G11 ?_)
 refine .cond_f J (rfl) (G9 ?_)
 refine .nei J J J J (show (!decide _) = true from congrArg not (decide_eq_false (he))) (G2 ?_)
 refine .cond_t J (rfl) (G8 ?_)
 refine ⟨_, [R1B n q (o) N cp (at') (e)], Ad J J, (by intro b hb; rw [List.mem_singleton.1 hb]; exact B7), B2, ?_⟩
 exact ⟨rfl, rfl⟩

theorem r1t_more (n q N cp at' : Nat) (o : Nat) (m : Nat) (hm0 : 0 < m) (hm : m ≤ 90000) (xs : List UInt8) (hx : xs.length = N) (hat : at' ≤ N) (hN : N ≤ cp) (hbig : N ≤ 90000) (hk : N < at' + m) : Meets Tryz.prog 216 [ptr n 0, i64 (m : Int)] [n] (fun W => BlkOk W (R1B n q (o) N cp (at') (0)) ∧ B8 W q 0 (Aa xs) ∧ q ≠ n) (fun v out => v = .slice none 0 0 ∧ out = [R1B n q (o) N cp (at') (5)]) := by
 intro W hW
 have hfn : (rd1 q o N cp at' 0).fB.n = N - at' := rfl
 have hfc : (rd1 q o N cp at' 0).fB.c = cp - at' := rfl
 have hfe : (rd1 q o N cp at' 0).fE = 0 := rfl
 refine A3 (hp0 := [R1B n q (o) N cp (at') (0)]) Tryz.func216 J 48 Tryz.ntmps216 J (HRep.one hW.1) (G8 ?_)
 refine .max2 J J J J (show Value.int .i64 (if (0 : Int) > (m : Int) then 0 else (m : Int)) = i64 (m : Int) by rw [if_neg oM]) ?_
 refine G10 ?_
 refine .eqi J J J J (decide_eq_true (rfl)) (G7 ?_)
 refine .lss J J J J (decide_eq_true oM) (G3 ?_)
 refine .cond_t J (rfl) (G14 ?_)
 refine .nei J J J J (show (!decide _) = true from congrArg not (decide_eq_false (by show ¬ ((5 : Int) = 0); decide))) ?_
 refine G2 ?_
 refine .cond_t J (rfl) (G8 ?_)
 refine ⟨_, [R1B n q (o) N cp (at') (5)], Ad J J, (by intro b hb; rw [List.mem_singleton.1 hb]; exact B7), B2, ?_⟩
 exact ⟨rfl, rfl⟩

theorem r1t_ok (n q N cp at' : Nat) (m : Nat) (hm0 : 0 < m) (hm : m ≤ 90000) (xs : List UInt8) (hx : xs.length = N) (hat : at' ≤ N) (hN : N ≤ cp) (hbig : N ≤ 90000) (hk : at' + m ≤ N) : Meets Tryz.prog 216 [ptr n 0, i64 (m : Int)] [n] (fun W => BlkOk W (R1B n q (at') N cp (at') (0)) ∧ B8 W q 0 (Aa xs) ∧ q ≠ n) (fun v out => ∃ q1 c1, v = .slice (some ⟨q1, 0, none⟩) m c1 ∧ m ≤ c1 ∧ out = [⟨q1, Aa ((xs.drop at').take m), 5, c1 * 1⟩, R1B n q (if cp - at' = m then at' else at' + m * 1) N cp (at' + m) (0)]) := by
 intro W hW
 have hfn : (rd1 q at' N cp at' 0).fB.n = N - at' := rfl
 have hfc : (rd1 q at' N cp at' 0).fB.c = cp - at' := rfl
 have hfe : (rd1 q at' N cp at' 0).fE = 0 := rfl
 refine A3 (hp0 := [R1B n q (at') N cp (at') (0)]) Tryz.func216 J 48 Tryz.ntmps216 J (HRep.one hW.1) (G8 ?_)
 refine .max2 J J J J (show Value.int .i64 (if (0 : Int) > (m : Int) then 0 else (m : Int)) = i64 (m : Int) by rw [if_neg oM]) ?_
 refine G10 ?_
 refine .eqi J J J J (decide_eq_true (rfl)) (G7 ?_)
 refine .lss J J J J (decide_eq_false oM) (G3 ?_)
 refine .cond_f J (rfl) (G9 ?_)
 refine .nei J J J J (show (!decide _) = false from congrArg not (decide_eq_true (rfl))) (G2 ?_)
 refine .cond_f J (rfl) (G9 ?_)
 refine .sliceHi m J J J J J oM Y58.h Sz5 (G11 ?_)
 refine .sliceLoN m J J J J J oM oM Y58.h Sz5 (G2 ?_)
 refine .s1 J J J J J Sz58 Z0 (by rw [Rdr.length (by exact rd1_ok _ _ _ _ _ _)]; decide) (by exact Rdr.setS_fB (by exact rd1_ok _ _ _ _ _ _) _ _ _) zU ?_
 refine G4 ?_
 refine .mkRow2 (z := u8 0) [] [] rfl J Y58.h Sz5 Zr5 J J (by intro v hv; cases hv) dE J ?_
 intro q45
 refine G1 ?_
 refine .appendSl (z := u8 0) (by' := 1) (Aa ((xs.drop at').take m)) J J J J J Y58.h Y58.h Sz5 Zr5 (by unfold By; kernel_rfl) J (fun w h => SeesP.of (Bt h (by simp; exact hW.2.2) (sees_cut hW.2.1 at' m))) (fun e => by cases e) (As _) Az J J oM oM oM (by simp [Aa]; omega) ?_
 intro q47 c47 hq47
 rw [Nat.zero_add m] at hq47 ⊢
 refine G5 ?_
 refine ⟨_, [⟨q47, [] ++ Aa ((xs.drop at').take m), 5, c47 * 1⟩, R1B n q (if cp - at' = m then at' else at' + m * 1) N cp (at' + m) (0)], Ad J J, (by intro b hb; rcases List.mem_cons.1 hb with rfl | hb; exact B7; rw [List.mem_singleton.1 hb, r1b_move]; exact mem1), (fun h => h.sublist (by simp [R1B])), ?_⟩
 exact ⟨q47, c47, rfl, hq47, rfl⟩

theorem r1_TakeE (n q o N cp a : Nat) (e : Int) (m : Nat) (hm0 : 0 < m) (hm : m ≤ 90000) (xs : List UInt8) (hx : xs.length = N) (hat : a ≤ N) (hN : N ≤ cp) (hbig : N ≤ 90000) (ho : At1 cp a o) (l : List UInt8) (a1 : Nat) (e1 : Int) (h : takR xs m a e = (l, a1, e1)) : Meets Tryz.prog 216 [ptr n 0, i64 (m : Int)] [n] (fun W => BlkOk W (R1B n q o N cp a e) ∧ B8 W q 0 (Aa xs) ∧ q ≠ n)
    (fun v out => ∃ s bl o1, At1 cp a1 o1 ∧ v = s.v ∧ Acc s bl (Aa l) 5 l.length 1 ∧ out = bl ++ [R1B n q o1 N cp a1 e1]) := by
  unfold takR at h
  by_cases he : e = 0
  · subst he
    rw [if_neg sP] at h
    by_cases h1 : xs.length < a + m
    · rw [if_pos h1] at h
      obtain ⟨rfl, rfl, rfl⟩ : [] = l ∧ a = a1 ∧ (5 : Int) = e1 := by simpa using h
      exact (r1t_more n q N cp a o m hm0 hm xs hx hat hN hbig oM).imp (fun w h => h) fun v out ⟨h1, h2⟩ => ⟨Sl.nil, [], o, ho, h1, Acc.none, h2⟩
    · rw [if_neg h1] at h
      obtain rfl : o = a := ho oM
      obtain ⟨rfl, rfl, rfl⟩ : (xs.drop o).take m = l ∧ o + m = a1 ∧ (0 : Int) = e1 := by simpa using h
      refine (r1t_ok n q N cp o m hm0 hm xs hx hat hN hbig oM).imp (fun w h => h) fun v out ⟨q1, c1, h1, h2, h3⟩ => ?_
      have hl : ((xs.drop o).take m).length = m := by simp; omega
      refine ⟨⟨some ⟨q1, 0, none⟩, m, c1⟩, [_], _, at1_move oM, h1, ?_, h3⟩
      rw [hl]
      exact Acc.some h2 (by simp [hl]; omega)
  · rw [if_pos he] at h
    obtain ⟨rfl, rfl, rfl⟩ : [] = l ∧ a = a1 ∧ e = e1 := by simpa using h
    exact (r1t_err n q N cp a o e m hm0 hm xs hx hat hN hbig he).imp (fun w h => h) fun v out ⟨h1, h2⟩ => ⟨Sl.nil, [], o, ho, h1, Acc.none, h2⟩
theorem upd_dig {l : List UInt8} (h : l = [] ∨ l.length = 32) : upd (Aa (List.replicate 32 0)) 0 (Aa l) = Aa (l ++ (List.replicate 32 0).drop l.length) := by
  rcases h with rfl | h
  · exact upd_nil _ _
  · rw [h]; simp [upd, Aa, h]
theorem dig_tak {xs : List UInt8} {a : Nat} {e : Int} {d : List UInt8} {a1 : Nat} {e1 : Int} (h : Cf xs a e = (d, a1, e1)) : ∃ l, takR xs 32 a e = (l, a1, e1) ∧ d = l ++ (List.replicate 32 0).drop l.length := by
  unfold Cf at h
  unfold takR
  by_cases he : e = 0
  · rw [if_neg (by simp [he])] at h ⊢
    by_cases h1 : xs.length < a + 32
    · rw [if_pos h1] at h ⊢
      obtain ⟨rfl, rfl, rfl⟩ : List.replicate 32 0 = d ∧ a = a1 ∧ (5 : Int) = e1 := by simpa using h
      exact ⟨[], rfl, rfl⟩
    · rw [if_neg h1] at h ⊢
      obtain ⟨rfl, rfl, rfl⟩ : (xs.drop a).take 32 = d ∧ a + 32 = a1 ∧ (0 : Int) = e1 := by simpa using h
      refine ⟨_, rfl, ?_⟩
      rw [show ((xs.drop a).take 32).length = 32 by simp; omega]; simp
  · rw [if_pos he] at h ⊢
    obtain ⟨rfl, rfl, rfl⟩ : List.replicate 32 0 = d ∧ a = a1 ∧ e = e1 := by simpa using h
    exact ⟨[], rfl, rfl⟩

theorem r1_DigestT (n q o N cp at' : Nat) (e : Int) (xs : List UInt8) (hx : xs.length = N) (hat : at' ≤ N) (hN : N ≤ cp) (hbig : N ≤ 90000) (ho : At1 cp at' o) (l : List UInt8) (a1 : Nat) (e1 : Int) (h : takR xs 32 at' e = (l, a1, e1)) : Meets Tryz.prog 215 [ptr n 0] [n] (fun W => BlkOk W (R1B n q (o) N cp (at') (e)) ∧ B8 W q 0 (Aa xs) ∧ q ≠ n) (fun v out => ∃ o1, At1 cp a1 o1 ∧ v = agg (Aa (l ++ (List.replicate 32 0).drop l.length)) ∧ out = [R1B n q o1 N cp a1 e1]) := by
 intro W hW
 have hd := takE_le h hx hat
 have hle : l.length ≤ 32 := by rcases hd.2 with h | h <;> simp [h]
 have hle32 : l.length + (32 - l.length) = 32 := by omega
 have hd32 : (l ++ (List.replicate 32 0).drop l.length).length = 32 := by rcases hd.2 with h | h <;> simp [h]
 refine A3 (hp0 := [R1B n q (o) N cp (at') (e)]) Tryz.func215 J 9 Tryz.ntmps215 J (HRep.one hW.1) (G2 ?_)
 refine .alloc (cs := (Aa (List.replicate 32 0))) J Zr50 J ?_
 intro n2 hn2 hf2
 refine G4 ?_
 refine .alloc (cs := (Aa (List.replicate 32 0))) J Zr50 J ?_
 intro n3 hn3 hf3
 refine G3 ?_
 refine .draw [(0, 0), (0, 1), (4, 2), (4, 3)] Ba zK (G2 ?_)
 refine .callL (L := [R1B n q (o) N cp (at') (e)]) J J J J J Body216 (r1_TakeE n q o N cp at' e 32 dE dE xs hx hat hN hbig ho l a1 e1 h) (Ac rM Ae) (Ay J) (fun w h => ⟨Ak h Z2, Bt h (by simp; exact hW.2.2) hW.2.1, hW.2.2⟩) ?_
 rintro v6 out6 ⟨s6, bl6, o1, ho1, rfl, hac6, rfl⟩
 simp only [List.append_assoc, List.cons_append, List.nil_append]
 refine .copyP (Aa l) l.length J J J J J Y58.h Sz5 (fun w h => hac6.see (Lies.of h (by repeat (exact Aq)))) (fun e => hac6.nil e) (by simp [Aa, hac6.num]) (by rw [hac6.num]; omega) (List.take_of_length_le (by simp [Aa])) (As _) mR (by simp [Aa]; omega) (upd_dig hd.2) uU ?_
 refine G4 ?_
 refine .lA J J J Y50.h J Sz50 mR (by (simp [hle32]; done)) ?_
 refine .sA J J J J zE Sz50 (by (simp [hle32]; done)) mR sP uU ?_
 refine G4 ?_
 refine Ah (out := (R1B n q o1 N cp a1 e1 :: [])) (Bo J J Y50.h J Sz50 mR (by simp [hle32])) (Ac (by repeat (first | exact Az | apply rem_seg)) Ae) ?_
 exact ⟨o1, ho1, rfl, rfl⟩

theorem r1_DigestE (n q o N cp a : Nat) (e : Int) (xs : List UInt8) (hx : xs.length = N) (hat : a ≤ N) (hN : N ≤ cp) (hbig : N ≤ 90000) (ho : At1 cp a o) (d : List UInt8) (a1 : Nat) (e1 : Int) (h : Cf xs a e = (d, a1, e1)) : Meets Tryz.prog 215 [ptr n 0] [n] (fun W => BlkOk W (R1B n q o N cp a e) ∧ B8 W q 0 (Aa xs) ∧ q ≠ n)
    (fun v out => ∃ o1, At1 cp a1 o1 ∧ v = agg (Aa d) ∧ out = [R1B n q o1 N cp a1 e1]) := by
  obtain ⟨l, h1, rfl⟩ := dig_tak h
  exact r1_DigestT n q o N cp a e xs hx hat hN hbig ho l a1 e1 h1

theorem r1_End (n q o N cp at' : Nat) (e : Int) (hat : at' ≤ N) (hbig : N ≤ 90000) : Meets Tryz.prog 140 [ptr n 0] [] (fun W => BlkOk W (R1B n q (o) N cp (at') (e))) (fun v out => v = i64 (endR N at' e) ∧ out = []) := by
 intro W hW
 have hfn : (rd1 q o N cp at' e).fB.n = N - at' := rfl
 have hfc : (rd1 q o N cp at' e).fB.c = cp - at' := rfl
 have hfe : (rd1 q o N cp at' e).fE = e := rfl
 refine Ag Tryz.func140 J 18 Tryz.ntmps140 J (G11 ?_)
 refine .loadE J J J Y32.h J sP (BlkOk.cell0 (o := 1) hW J) (G3 ?_)
 refine .condNP J (fun hc0 => ?_) (fun hc0 => ?_)
 ·
  have hq0 : ¬ e = 0 := by omega
  refine G5 ?_
  refine .loadE J J J Y32.h J sP (BlkOk.cell0 (o := 1) hW J) (G6 ?_)
  refine ⟨_, [], Ad J J, sP, sP, ?_, rfl⟩
  (rw [hfe, endR, if_neg hq0]; done)
 have hq0 : e = 0 := by omega
 refine G8 ?_
 refine .loadE J J J Y58.h J sP (BlkOk.cell0 (o := 0) hW J) (.lenSl (n := N - at') J J J Y58.h (G3 ?_))
 refine .condP J (fun hc1 => ?_) (fun hc1 => ?_)
 ·
  refine G8 ?_
  refine ⟨_, [], Ad J J, sP, sP, ?_, rfl⟩
  (rw [endR, if_pos hq0, if_pos (show (0 : Int) < (N : Int) - (at' : Int) by omega)]; done)
 refine G9 ?_
 refine ⟨_, [], Ad J J, sP, sP, ?_, rfl⟩
 (rw [endR, if_pos hq0, if_neg (show ¬ (0 : Int) < (N : Int) - (at' : Int) by omega)]; done)
def Rd1New (N : Nat) (xs : List UInt8) (v : Value) (out : List Blk) : Prop := ∃ n q cp, v = ptr n 0 ∧ N ≤ cp ∧ out = [R1B n q 0 N cp 0 0, ⟨q, Aa xs, 5, cp * 1⟩]

theorem r1_Read (p : Option Addr) (n c : Nat) (xs : List UInt8) (hl : xs.length = n) (hp : p = none → n = 0) (hn : n ≤ 90000) : Meets Tryz.prog 135 [.slice p n c] [] (fun W => SeesP W p (Aa xs)) (Rd1New n xs) := by
 intro W hW
 refine Ag Tryz.func135 J 8 Tryz.ntmps135 J (G7 ?_)
 refine .mkRow2 (z := u8 0) [] [] rfl J Y58.h Sz5 Zr5 J J (by intro v hv; cases hv) dE J ?_
 intro q3
 refine G1 ?_
 refine .appendSl (z := u8 0) (by' := 1) (Aa xs) J J J J J Y58.h Y58.h Sz5 Zr5 (by unfold By; kernel_rfl) J (fun w h => Ao h J hW) hp (by simp [Aa, isCell, u8]) Az J J oM oM oM (by simp [Aa, hl]) ?_
 intro q5 c5 hq5
 rw [Nat.zero_add n] at hq5 ⊢
 refine .build (cs := (⟨⟨some ⟨q5, 0, none⟩, n, c5⟩, 0⟩ : Rdr).cells) J J J (fun w => by kernel_rfl) ?_
 refine G1 ?_
 intro n7 hn7 hf7
 refine G5 ?_
 refine ⟨_, [R1B n7 q5 0 n c5 0 0, ⟨q5, Aa xs, 5, c5 * 1⟩], Ad J J, (by intro b hb; rcases List.mem_cons.1 hb with rfl | hb; exact B7; rw [List.mem_singleton.1 hb]; exact mem1), (fun h => h.sublist (by simp [R1B, blk])), ⟨n7, q5, c5, rfl, hq5, rfl⟩⟩



theorem seesP_tk {w : World} {p : Option Addr} {l : List UInt8} {n : Nat} (h : SeesP w p (Aa l)) : SeesP w p (Aa (l.take n)) := fun j v hj => by
  rw [Aa, List.map_take, List.getElem?_take] at hj
  split at hj
  · exact h j v hj
  · cases hj

theorem r2_StartShort (k s0 i0 : List UInt64) (G : List UInt8) (hk : Hid (kW = k)) (hk80 : k.length = 80) (hs0 : Hid (xorUp 8 = s0)) (hs8 : s0.length = 8) (hG : Hid (shaTag = G)) (hGl : G.length = 11) (hi0 : Hid (allW k s0 G = i0)) (hi8 : i0.length = 8)  : Meets Tryz.prog 240 [] [] (fun _ => True) (fun v out => v = agg (Aw i0) ∧ out = []) := by
 intro W hW
 refine Ag Tryz.func240 J 18 Tryz.ntmps240 J (G2 ?_)
 refine .alloc (cs := (Aw (List.replicate 8 0))) J Zr252 J ?_
 intro n0 hn0 hf0
 refine G4 ?_
 refine .cV J J J J Body249 (r2_Start startW ⟨rfl⟩) tV (.alloc (cs := (Aw (List.replicate 8 0))) J Zr252 J ?_)
 intro n1 hn1 hf1
 refine .sA J J J J zB Sz252 (by (simp [startW_length]; done)) Z0 sP zU ?_
 refine G9 ?_
 refine .loop (ι := Nat) (fun j => ⟨[(0, ptr n0 0), (1, ptr n1 0), (2, i64 (j : Int))], [⟨n1, Aw (xorUp j), 252, 8⟩, ⟨n0, Aw (List.replicate 8 0), 252, 8⟩]⟩) (fun j => j ≤ 8) (fun j => 8 - j) (0) ?_ ?_ ?_
 · omega
 · exact Af (wk1 rfl (wk1 rfl (wk1 rfl wk0))) (Ac rM (Ac rM Ae))
 rintro j hi
 have hlj := xorUp_length j
 refine G7 ?_
 refine .condP J (fun hc0 => ?_) (fun hc0 => ?_)
 ·
  refine G7 ?_
  refine .i1 J J J J Y252 Sz48 _ J oM (G1 ?_)
  refine .xor_u64 J J J (show Al _ _ = some (u64 11936128518282651045) from rfl) (.i1 J J J J Y252 Sz48 _ J oM (.s1 J J J J J Sz48 Z0 (by (simp [xorUp_length]; omega)) (by exact set_words _ _ _) zU ?_))
  refine G9 ?_
  exact ⟨j + 1, by omega, by omega, Af (wk1 rfl (wk1 rfl (wk1 rfl wk0))) (Ac rM (Ac rM Ae))⟩
 obtain rfl : j = 8 := by omega
 rw [hs0.out]
 clear hlj
 refine G7 ?_
 refine .lA J J J Y252 J Sz252 Z0 (by (simp [hs8]; done)) ?_
 refine .mkRow (z := u8 0) [u8 83, u8 72, u8 65, u8 45, u8 53, u8 49, u8 50, u8 47, u8 50, u8 53, u8 54] (Aa shaTag) J J J Y58.h Sz5 Zr5 J J (by intro v hv; simp only [List.mem_cons, List.not_mem_nil, or_false] at hv; rcases hv with rfl | rfl | rfl | rfl | rfl | rfl | rfl | rfl | rfl | rfl | rfl <;> rfl) dE J ?_
 intro q15
 rw [hG.out]
 refine .constB J J J J Y58.h Y5.h Z0 ?_
 refine .cV J J J J Body239 (r2_run s0 hs8 k hk hk80 ⟨some ⟨q15, 0, none⟩, 11, 11⟩ G (by simp [hGl]) (fun e => by cases e) oM) (fun w h => SeesP.of (Aj h Z0)) ?_
 rw [hi0.out]
 refine .sA J J J J zB Sz252 (by (simp [hi8]; done)) Z2 sP (by exact upd2) ?_
 refine G4 ?_
 refine ⟨_, [], Bo J J Y252 J Sz252 Z2 (by simp [hi8]), sP, sP, ?_, rfl⟩
 rfl
theorem r2_Sum (k s0 i0 : List UInt64) (G : List UInt8) (hk : Hid (kW = k)) (hk80 : k.length = 80) (hs0 : Hid (xorUp 8 = s0)) (hs8 : s0.length = 8) (hG : Hid (shaTag = G)) (hGl : G.length = 11) (hi0 : Hid (allW k s0 G = i0)) (hi8 : i0.length = 8) (p : Option Addr) (n c : Nat) (ss : List Sl) (ls : List (List UInt8)) (hss : ss.length = n) (hls : ls.length = n) (hsl : ∀ j, j < n → (ss.getD j Sl.nil).n = (ls.getD j []).length ∧ ((ss.getD j Sl.nil).p = none → (ss.getD j Sl.nil).n = 0)) (F : List UInt8) (hF : ls.flatten = F) (htot : F.length ≤ 90000) (hn : n ≤ 1000000) (r : List UInt64) (hr : Hid (allW k i0 F = r)) (s : List UInt8) (hs : Hid (sumUp r 64 = s))  : Meets Tryz.prog 217 [.slice p n c] [] (fun W => SeesP W p (ss.map Sl.v) ∧ ∀ j, j < n → SeesP W (ss.getD j Sl.nil).p (Aa (ls.getD j []))) (fun v out => v = agg (Aa (s.take 32)) ∧ out = []) := by
 intro W hW
 have hr8 : r.length = 8 := by rw [← hr.out, allW_length]; exact hi8
 have hs64 : s.length = 64 := by rw [← hs.out]; exact Ca r 64
 have hs32 : (s.take 32).length = 32 := by rw [List.length_take, hs64]; rfl
 have hrun := fun (x : Sl) (h1 : x.n = F.length) (h2 : x.p = none → x.n = 0) => r2_run i0 hi8 k hk hk80 x F h1 h2 htot
 rw [hr.out] at hrun
 refine Ag Tryz.func217 J 14 Tryz.ntmps217 J (G2 ?_)
 refine .alloc (cs := (Aa (List.replicate 32 0))) J Zr50 J ?_
 intro n2 hn2 hf2
 refine G4 ?_
 refine .cV J J J J Body240 (r2_StartShort k s0 i0 G hk hk80 hs0 hs8 hG hGl hi0 hi8) tV (G1 ?_)
 refine .call4 J J J J J Body241 (r2_join p n c ss ls hss hls hsl F hF htot hn) (fun w h => ⟨Ao h J hW.1, fun j hj => Ao h J (hW.2 j hj)⟩) ?_
 rintro v7 out7 ⟨s7, rfl, hac7⟩
 refine .cV J J J J Body239 (hrun s7 hac7.num hac7.nil) (fun w h => hac7.see (Lies.of h (by repeat (exact Aq)))) ?_
 refine .cV J J J J Body238 (r2_bytes r hr8 s hs) tV (.alloc (cs := (Aa (List.replicate 64 0))) J Zr76 J ?_)
 intro n3 hn3 hf3
 refine .sA J J J J zE Sz76 (by (simp [hs64]; done)) Z0 sP zU ?_
 refine G4 ?_
 refine .alloc (cs := (Aa (List.replicate 32 0))) J Zr50 J ?_
 intro n4 hn4 hf4
 refine G3 ?_
 refine .draw [(0, 0), (0, 1), (4, 2)] Ba zK (G1 ?_)
 refine .sliceArrHi 32 J J J J J dE dE Y76 Sz5 (.copyP (Aa (s.take 32)) 32 J J J J J Y58.h Sz5 (fun w h => seesP_tk (SeesP.of (Aj h Z1))) (fun e => by cases e) (by simp [Aa, hs64]) J (List.take_of_length_le (by simp [Aa, hs64])) (As _) Z0 (by simp [Aa]) (show upd (Aa (List.replicate 32 0)) 0 (Aa (s.take 32)) = Aa (s.take 32) by simp [upd, Aa, hs64]) zU ?_)
 refine G4 ?_
 refine .lA J J J Y50.h J Sz50 Z0 (by (simp [hs64]; done)) ?_
 refine .sA J J J J zE Sz50 (by (simp [hs64]; done)) mR sP uU ?_
 refine G4 ?_
 refine ⟨_, [], Bo J J Y50.h J Sz50 mR (by simp [hs64]), sP, sP, ?_, rfl⟩
 rfl

theorem vcheck_min (V : Vote) (m : Nat) : (Ap { V with fPhase := ((min m 255 : Nat) : Int) } = 0 ↔ Ap { V with fPhase := ((min m 4 : Nat) : Int) } = 0) ∧ (Ap { V with fPhase := ((min m 255 : Nat) : Int) } = 0 → ({ V with fPhase := ((min m 4 : Nat) : Int) } : Vote) = { V with fPhase := ((min m 255 : Nat) : Int) }) := by
  by_cases h : m ≤ 3
  · rw [show min m 255 = m by omega, show min m 4 = m by omega]
    exact ⟨Iff.rfl, fun _ => rfl⟩
  · have h1 : ¬ Ap { V with fPhase := ((min m 255 : Nat) : Int) } = 0 := fun e => by
      have := vcheck_phase e
      simp only at this
      omega
    have h2 : ¬ Ap { V with fPhase := ((min m 4 : Nat) : Int) } = 0 := fun e => by
      have := vcheck_phase e
      simp only at this
      omega
    exact ⟨⟨fun e => absurd e h1, fun e => absurd e h2⟩, fun e => absurd e h1⟩

theorem vote_same (a b : Vote) (ha : a.ok) (hb : b.ok) : Meets Tryz.prog 147 [agg a.cells, agg b.cells] [] (fun _ => True) (fun v out => v = .bool (@decide (a = b) (Classical.propDecidable _)) ∧ out = []) := by
 intro W hW
 refine Ag Tryz.func147 J 8 Tryz.ntmps147 J (G3 ?_)
 intro n2 hn2 hf2
 refine G1 ?_
 intro n3 hn3 hf3
 refine G7 ?_
 refine .eql_rec J J J J Vote.eg (fun w => Vote.eq_runC zA zA w) J ?_
 refine G5 ?_
 refine ⟨_, [], Ad J J, sP, sP, ?_, rfl⟩
 rfl

theorem r20_Read (a : Option Addr) (n c : Nat) (xs : List UInt8) (hl : xs.length = n) (hp : a = none → n = 0) (hn : n ≤ 90000) : Meets Tryz.prog 139 [.slice a n c] [] (fun W => SeesP W a (Aa xs)) (fun v out => v = .tuple #[agg (A1 xs).1.cells, i64 (A1 xs).2] ∧ out = []) := by
  intro W hW
  obtain ⟨x1, r1, h1⟩ : ∃ l r, A5 xs 0 0 = (l, r) := ⟨_, _, rfl⟩
  obtain ⟨a1, e1⟩ := r1
  obtain ⟨x2, r2, h2⟩ : ∃ l r, A5 xs a1 e1 = (l, r) := ⟨_, _, rfl⟩
  obtain ⟨a2, e2⟩ := r2
  obtain ⟨x3, r3, h3⟩ : ∃ l r, A5 xs a2 e2 = (l, r) := ⟨_, _, rfl⟩
  obtain ⟨a3, e3⟩ := r3
  obtain ⟨l4, r4, h4⟩ : ∃ l r, Cf xs a3 e3 = (l, r) := ⟨_, _, rfl⟩
  obtain ⟨a4, e4⟩ := r4
  obtain ⟨x5, r5, h5⟩ : ∃ l r, A5 xs a4 e4 = (l, r) := ⟨_, _, rfl⟩
  obtain ⟨a5, e5⟩ := r5
  obtain ⟨l6, r6, h6⟩ : ∃ l r, Cf xs a5 e5 = (l, r) := ⟨_, _, rfl⟩
  obtain ⟨a6, e6⟩ := r6
  obtain ⟨l7, r7, h7⟩ : ∃ l r, takR xs 64 a6 e6 = (l, r) := ⟨_, _, rfl⟩
  obtain ⟨a7, e7⟩ := r7
  have hvp : voteP xs = (({ Vote.zero with fHeight := x1, fRound := x2, fPhase := ((min x3.toNat 4 : Nat) : Int), fValue := l4, fProof := x5, fVoter := l6, fSig := l7 ++ Vote.zero.fSig.drop l7.length } : Vote), a7, e7) := by simp only [voteP, h1, h2, h3, h4, h5, h6, h7]; rfl
  have hq := vcheck_min ({ Vote.zero with fHeight := x1, fRound := x2, fPhase := ((min x3.toNat 4 : Nat) : Int), fValue := l4, fProof := x5, fVoter := l6, fSig := l7 ++ Vote.zero.fSig.drop l7.length } : Vote) x3.toNat
  have hd1 := Bm h1 hl (Nat.zero_le _)
  have hd2 := Bm h2 hl hd1
  have hd3 := Bm h3 hl hd2
  have hd4 := Cc h4 hl hd3
  have hd5 := Bm h5 hl hd4.1
  have hd6 := Cc h6 hl hd5
  have hd7 := takE_le h7 hl hd6.1
  have hlen7 : l7.length ≤ 64 := by rcases hd7.2 with h | h <;> simp [h]
  have hs64 : (l7 ++ Vote.zero.fSig.drop l7.length).length = 64 := by rcases hd7.2 with h | h <;> simp [h, Vote.zero]
  have ok2 : ({ Vote.zero with fHeight := x1, fRound := x2 } : Vote).ok := ⟨rfl, rfl, rfl⟩
  have ok3 : ({ Vote.zero with fHeight := x1, fRound := x2, fPhase := ((min x3.toNat 255 : Nat) : Int) } : Vote).ok := ⟨rfl, rfl, rfl⟩
  have ok4 : ({ Vote.zero with fHeight := x1, fRound := x2, fPhase := ((min x3.toNat 255 : Nat) : Int), fValue := l4 } : Vote).ok := ⟨hd4.2, rfl, rfl⟩
  have ok5 : ({ Vote.zero with fHeight := x1, fRound := x2, fPhase := ((min x3.toNat 255 : Nat) : Int), fValue := l4, fProof := x5 } : Vote).ok := ⟨hd4.2, rfl, rfl⟩
  have ok6 : ({ Vote.zero with fHeight := x1, fRound := x2, fPhase := ((min x3.toNat 255 : Nat) : Int), fValue := l4, fProof := x5, fVoter := l6 } : Vote).ok := ⟨hd4.2, hd6.2, rfl⟩
  have okX : ({ Vote.zero with fHeight := x1, fRound := x2, fPhase := ((min x3.toNat 255 : Nat) : Int), fValue := l4, fProof := x5, fVoter := l6, fSig := l7 ++ Vote.zero.fSig.drop l7.length } : Vote).ok := ⟨hd4.2, hd6.2, hs64⟩
  refine Ag Tryz.func139 J 48 Tryz.ntmps139 J (G2 ?_)
  refine .alloc (cs := Vote.zero.cells) J Vote.zr J ?_
  intro n2 hn2 hf2
  refine G6 ?_
  refine .call4 J J J J J Body135 (r1_Read a n c xs hl hp hn) (fun w h => Ao h J hW) ?_
  rintro v10 out10 ⟨n10, q10, cp10, rfl, hcp10, rfl⟩
  refine .nd (fun hnd => ?_)
  have hne : q10 ≠ n10 := by intro e; simp [R1B, e] at hnd
  clear hnd
  refine G6 ?_
  refine .callL (L := [R1B n10 q10 0 n cp10 0 0]) J J J J J Body138 (Cb n10 q10 0 n cp10 0 0 xs hl (Nat.zero_le _) hcp10 oM (fun _ => rfl) x1 a1 e1 h1) (Ac rM Ae) (Ay J) (fun w h => ⟨Ak h Z0, Aj h Z1, hne⟩) ?_
  rintro v12 out12 ⟨o12, ho12, rfl, rfl⟩
  refine G1 ?_
  refine .callL (L := [R1B n10 q10 o12 n cp10 a1 e1]) J J J J J Body138 (Cb n10 q10 o12 n cp10 a1 e1 xs hl hd1 hcp10 oM ho12 x2 a2 e2 h2) (Ac rM Ae) (Ay J) (fun w h => ⟨Ak h Z0, Aj h Z1, hne⟩) ?_
  rintro v14 out14 ⟨o14, ho14, rfl, rfl⟩
  refine .build (cs := ({ Vote.zero with fHeight := x1, fRound := x2 } : Vote).cells) J J J (fun w => by kernel_rfl) ?_
  refine .alloc (cs := Vote.zero.cells) J Vote.zr J ?_
  intro n5 hn5 hf5
  refine G6 ?_
  refine .callL (L := [R1B n10 q10 o14 n cp10 a2 e2]) J J J J J Body138 (Cb n10 q10 o14 n cp10 a2 e2 xs hl hd2 hcp10 oM ho14 x3 a3 e3 h3) (Ac rM Ae) (Ay J) (fun w h => ⟨Ak h Z1, Aj h Z2, hne⟩) ?_
  rintro v17 out17 ⟨o17, ho17, rfl, rfl⟩
  refine G6 ?_
  refine .min2 J J J J (show Value.int .u64 (if (255 : Int) < (x3.toNat : Int) then 255 else (x3.toNat : Int)) = .int .u64 ((min x3.toNat 255 : Nat) : Int) from by congr 1; split <;> omega) ?_
  refine .conv J J J Y48.h Y3.h (show Value.int .i64 (IntKind.i64.wrap ((min x3.toNat 255 : Nat) : Int)) = i64 ((min x3.toNat 255 : Nat) : Int) by rw [i64_wrap oM]) ?_
  refine G7 ?_
  refine .callL (L := [R1B n10 q10 o17 n cp10 a3 e3]) J J J J J Body215 (r1_DigestE n10 q10 o17 n cp10 a3 e3 xs hl hd3 hcp10 oM ho17 l4 a4 e4 h4) (Ac rM Ae) (Ay J) (fun w h => ⟨Ak h Z0, Aj h Z2, hne⟩) ?_
  rintro v23 out23 ⟨o23, ho23, rfl, rfl⟩
  refine G1 ?_
  refine .storeN (Aa _) J J J J J zE Sz50 (by simp [hd4.2]) Z1 (by rw [Vote.length zA]; simp [hd4.2]) (Vote.upd_fValue zA _ (by simp [hd4.2])) zV ?_
  refine G5 ?_
  refine .callL (L := [R1B n10 q10 o23 n cp10 a4 e4]) J J J J J Body138 (Cb n10 q10 o23 n cp10 a4 e4 xs hl hd4.1 hcp10 oM ho23 x5 a5 e5 h5) (Ac rM Ae) (Ay J) (fun w h => ⟨Ak h Z0, Aj h Z2, hne⟩) ?_
  rintro v26 out26 ⟨o26, ho26, rfl, rfl⟩
  refine G7 ?_
  refine .callL (L := [R1B n10 q10 o26 n cp10 a5 e5]) J J J J J Body215 (r1_DigestE n10 q10 o26 n cp10 a5 e5 xs hl hd5 hcp10 oM ho26 l6 a6 e6 h6) (Ac rM Ae) (Ay J) (fun w h => ⟨Ak h Z0, Aj h Z2, hne⟩) ?_
  rintro v29 out29 ⟨o29, ho29, rfl, rfl⟩
  refine .alloc (cs := (Aa (List.replicate 32 0))) J Zr50 J ?_
  intro n7 hn7 hf7
  refine .sA J J J J zE Sz50 (by (simp [hd6.2]; done)) Z0 sP zU ?_
  refine G4 ?_
  refine .lA J J J Y50.h J Sz50 Z0 (by (simp [hd6.2]; done)) ?_
  refine G1 ?_
  refine .storeN (Aa _) J J J J J zE Sz75 (by simp [hd6.2]) Z2 (by rw [Vote.length zA]; simp [hd6.2]) (Vote.upd_fVoter zA _ (by simp [hd6.2])) (by exact upd2) ?_
  refine G5 ?_
  refine .callL (L := [R1B n10 q10 o29 n cp10 a6 e6]) J J J J J Body216 (r1_TakeE n10 q10 o29 n cp10 a6 e6 64 dE dE xs hl hd6.1 hcp10 oM ho29 l7 a7 e7 h7) (Ac rM Ae) (Ay J) (fun w h => ⟨Ak h Z1, Aj h Z3, hne⟩) ?_
  rintro v33 out33 ⟨s33, bl33, o33, ho33, rfl, hac33, rfl⟩
  simp only [List.append_assoc, List.cons_append, List.nil_append]
  refine G8 ?_
  refine .copyP (Aa l7) l7.length J J J J J Y58.h Sz5 (fun w h => hac33.see (Lies.of h (by repeat (exact Aq)))) (fun e => hac33.nil e) (by simp [Aa, hac33.num]) (by rw [hac33.num]; omega) (List.take_of_length_le (by simp [Aa])) (As _) mR (by rw [Vote.length ok6]; show 68 + l7.length ≤ 132; omega) (upd_vsig ok6 hd7.2) uU ?_
  refine G6 ?_
  refine .cV J J J J Body140 (r1_End n10 q10 o33 n cp10 a7 e7 hd7.1 oM) (fun w h => Ak h mR) ?_
  refine two (fun r hr k => Tr.nei J J J J hr k) (fun hs11_20 => ?_) (fun hs11_20 => ?_)
  ·
    have hs11_2 := nd_t hs11_20
    refine G7 ?_
    refine .cond_t J J (G2 ?_)
    refine .build (cs := Vote.zero.cells) J J J (fun w => by kernel_rfl) ?_
    refine G7 ?_
    refine Ah (out := []) (Am J J J Y81.h J Sz81 mR (by exact Vote.length zT)) Ae ?_
    first
      | exact ⟨by rw [voteRd_bad (by rw [hvp, hl]; exact fun h => hs11_2 h.1)], rfl⟩
      | exact ⟨by rw [voteRd_bad (by rw [hvp, hl]; exact fun h => hc0 (hq.1.2 h.2))], rfl⟩
      | (have e9 := hq.2 hc0
         exact ⟨by rw [voteRd_ok (by rw [hvp, hl]; exact ⟨hs11_2, hq.1.1 hc0⟩), hvp]; exact congrArg (fun z : Vote => Value.tuple #[agg z.cells, i64 0]) e9.symm, rfl⟩)
  have hs11_2 := nd_f hs11_20
  refine G2 ?_
  refine .cV J J J J Body143 (r20_Check ({ Vote.zero with fHeight := x1, fRound := x2, fPhase := ((min x3.toNat 255 : Nat) : Int), fValue := l4, fProof := x5, fVoter := l6, fSig := l7 ++ Vote.zero.fSig.drop l7.length } : Vote) okX) tV (G4 ?_)
  refine .condNP J (fun hc0 => ?_) (fun hc0 => ?_)
  ·
    refine G2 ?_
    refine .build (cs := Vote.zero.cells) J J J (fun w => by kernel_rfl) ?_
    refine G7 ?_
    refine Ah (out := []) (Am J J J Y81.h J Sz81 mR (by exact Vote.length zT)) Ae ?_
    first
      | exact ⟨by rw [voteRd_bad (by rw [hvp, hl]; exact fun h => hs11_2 h.1)], rfl⟩
      | exact ⟨by rw [voteRd_bad (by rw [hvp, hl]; exact fun h => hc0 (hq.1.2 h.2))], rfl⟩
      | (have e9 := hq.2 hc0
         exact ⟨by rw [voteRd_ok (by rw [hvp, hl]; exact ⟨hs11_2, hq.1.1 hc0⟩), hvp]; exact congrArg (fun z : Vote => Value.tuple #[agg z.cells, i64 0]) e9.symm, rfl⟩)
  refine G11 ?_
  refine Ah (out := []) (Am J J J Y81.h J Sz81 mR (by exact Vote.length zA)) Ae ?_
  first
    | exact ⟨by rw [voteRd_bad (by rw [hvp, hl]; exact fun h => hs11_2 h.1)], rfl⟩
    | exact ⟨by rw [voteRd_bad (by rw [hvp, hl]; exact fun h => hc0 (hq.1.2 h.2))], rfl⟩
    | (have e9 := hq.2 hc0
       exact ⟨by rw [voteRd_ok (by rw [hvp, hl]; exact ⟨hs11_2, hq.1.1 hc0⟩), hvp]; exact congrArg (fun z : Vote => Value.tuple #[agg z.cells, i64 0]) e9.symm, rfl⟩)
end Go.Proofs.YtdifpjmfabhpiaaGreat
end

section
namespace Go.Proofs.YtdifpjmfabhpiaaGreat
open Go Hw


theorem dcheck_2 {D : DB} (h : ¬ D.check = 0) : D.check = 2 := by
  unfold DB.check at h ⊢
  by_cases h1 : D.head = true
  · rw [if_pos h1]
  · rw [if_neg h1] at h ⊢
    by_cases h2 : linksBad D.prev D.ls = true
    · rw [if_pos h2]
    · rw [if_neg h2] at h; exact absurd rfl h

theorem r15_cmp (a b : List UInt8) (ha : a.length = 32) (hb : b.length = 32) : Meets Tryz.prog 144 [agg (Aa a), agg (Aa b)] [] (fun _ => True) (fun v out => v = i64 (cmpB a b) ∧ out = []) := by
 intro W hW
 refine Ag Tryz.func144 J 24 Tryz.ntmps144 J (G3 ?_)
 intro n2 hn2 hf2
 refine G1 ?_
 intro n3 hn3 hf3
 refine G10 ?_
 refine .loop (ι := Nat) (fun k => ⟨[(2, ptr n2 0), (3, ptr n3 0), (5, i64 (k : Int))], [⟨n3, Aa b, 50, (Aa b).length⟩, ⟨n2, Aa a, 50, (Aa a).length⟩]⟩) (fun k => k ≤ 32 ∧ ∀ j, j < k → a.getD j 0 = b.getD j 0) (fun k => 32 - k) (0) ?_ ?_ ?_
 · exact ⟨Nat.zero_le _, fun j hj => absurd hj (Nat.not_lt_zero _)⟩
 · exact Ai (wk1 rfl (wk1 rfl (wk1 rfl wk0))) (wh1 Z0 (wh1 Z1 wh0)) nD
 rintro k ⟨hk, hsm⟩
 refine G7 ?_
 refine .condP J (fun hc0 => ?_) (fun hc0 => ?_)
 ·
  have hk2 : k < 32 := by omega
  refine G6 ?_
  refine .draw [(0, 0), (0, 1), (1, 2), (0, 3), (0, 4), (1, 5), (0, 6)] Ba zK (G1 ?_)
  refine .i1 J J J J Y50.h Sz5 k J oM (G2 ?_)
  refine .i1 J J J J Y50.h Sz5 k J oM (G4 ?_)
  refine .condP J (fun hc1 => ?_) (fun hc1 => ?_)
  ·
   have hek : a.getD k 0 ≠ b.getD k 0 := fun e => by rw [e] at hc1; omega
   refine G13 ?_
   refine ⟨_, [], Ad J J, sP, sP, ?_, rfl⟩
   (rw [cmpB_at k a b oM hsm oM hek]; unfold cmpI; rw [if_pos oM]; done)
  refine G3 ?_
  refine .draw [(0, 0), (0, 1), (1, 2), (0, 3), (0, 4), (1, 5), (0, 6)] Ba zK (G1 ?_)
  refine .i1 J J J J Y50.h Sz5 k J oM (G2 ?_)
  refine .i1 J J J J Y50.h Sz5 k J oM (G4 ?_)
  refine .condP J (fun hc2 => ?_) (fun hc2 => ?_)
  ·
   have hek : a.getD k 0 ≠ b.getD k 0 := fun e => by rw [e] at hc2; omega
   refine G12 ?_
   refine ⟨_, [], Ad J J, sP, sP, ?_, rfl⟩
   (rw [cmpB_at k a b oM hsm oM hek]; unfold cmpI; rw [if_neg oM, if_pos oM]; done)
  have hek : a.getD k 0 = b.getD k 0 := UInt8.toNat_inj.1 oM
  refine G9 ?_
  exact ⟨k + 1, ⟨by omega, fun j hj => by rcases Nat.lt_or_ge j k with h1 | h1; exact hsm j h1; exact (show j = k by omega) ▸ hek⟩, by omega, Ai (wk1 rfl (wk1 rfl (wk1 (by rw [Int.natCast_add]; rfl) wk0))) (wh1 Z0 (wh1 Z1 wh0)) nD⟩
 have hk2 : k = 32 := by omega
 refine G12 ?_
 refine ⟨_, [], Ad J J, sP, sP, ?_, rfl⟩
 (rw [cmpB_all ha hb (fun j hj => hsm j oM)]; done)
theorem r15_check (B : Block) (hB : B.ok) (ls : List (List UInt8)) : Meets Tryz.prog 154 [agg B.cells] [] (fun W => RowsAt W B.fLinks 32 ls) (fun v out => v = i64 (bcheck B ls) ∧ out = []) := by
 intro W hW
 have hcx : B.fLinks.n ≤ maxLen := hW.max
 simp only [maxLen] at hcx
 have hcn := hW.cap
 refine Ag Tryz.func154 J 74 Tryz.ntmps154 J (G3 ?_)
 intro n1 hn1 hf1
 refine G5 ?_
 refine .build (cs := Aa (List.replicate 32 0)) J J J (fun w => by kernel_rfl) ?_
 refine .alloc (cs := (Aa (List.replicate 32 0))) J Zr50 J ?_
 intro n3 hn3 hf3
 refine .sA J J J J zE Sz50 sP Z0 sP zU ?_
 refine G4 ?_
 refine .draw [(0, 0), (1, 1), (0, 2), (0, 3), (0, 4), (1, 5), (1, 6), (0, 7), (0, 8), (1, 9), (0, 10), (0, 11), (0, 12), (0, 13), (0, 14), (1, 15), (0, 16), (0, 17), (0, 18), (0, 19), (0, 20), (1, 21), (0, 22), (0, 23), (0, 24)] Ba zK (G2 ?_)
 refine two (fun r hr k => Tr.gtr J J J J hr k) (fun hs2_20 => ?_) (fun hs2_20 => ?_)
 ·
  have hs2_2 := of_decide_eq_true hs2_20
  refine G24 ?_
  refine .cond_t J J (G8 ?_)
  refine ⟨_, [], Ad J J, sP, sP, ?_, rfl⟩
  exact congrArg i64 (bcheck_head (by unfold bhead bheadB; simp_all)).symm
 have hs2_2 := of_decide_eq_false hs2_20
 refine G2 ?_
 refine .lN (Aa _) J J J Y50.h J Sz50 Z1 (Block.row_fPrev zA) (Block.rl_fPrev zA) ?_
 refine .lA J J J Y50.h J Sz50 Z0 sP ?_
 refine .eql_bytes J J J J Tryz.eqGuardType50 Y50.h Y5.h Sz5 (by (simp [hB.l_fPrev]; done)) sP J ?_
 refine G3 ?_
 refine two (fun r hr k => Tr.neb J J J J Y4 hr k) (fun hs2_110 => ?_) (fun hs2_110 => ?_)
 ·
  have hs2_11 := nd_t hs2_110
  refine G15 ?_
  refine .cond_t J J (G8 ?_)
  refine ⟨_, [], Ad J J, sP, sP, ?_, rfl⟩
  exact congrArg i64 (bcheck_head (by unfold bhead bheadB; simp_all)).symm
 have hs2_11 := nd_f hs2_110
 refine G5 ?_
 refine two (fun r hr k => Tr.gtr J J J J hr k) (fun hs2_170 => ?_) (fun hs2_170 => ?_)
 ·
  have hs2_17 := of_decide_eq_true hs2_170
  refine G9 ?_
  refine .cond_t J J (G8 ?_)
  refine ⟨_, [], Ad J J, sP, sP, ?_, rfl⟩
  exact congrArg i64 (bcheck_head (by unfold bhead bheadB; simp_all)).symm
 have hs2_17 := of_decide_eq_false hs2_170
 refine G9 ?_
 refine .condP J (fun hc0 => ?_) (fun hc0 => ?_)
 ·
  refine G8 ?_
  refine ⟨_, [], Ad J J, sP, sP, ?_, rfl⟩
  exact congrArg i64 (bcheck_head (by unfold bhead bheadB; simp_all)).symm
 have hnb : ¬ bhead B := by unfold bhead bheadB; simp_all
 refine G9 ?_
 refine .loop (ι := Nat) (fun k => ⟨[(1, ptr n1 0), (3, ptr n3 0), (4, i64 (k : Int))], [⟨n3, Aa (List.replicate 32 0), 50, 32⟩, ⟨n1, B.cells, 79, B.cells.length⟩]⟩) (fun k => k ≤ B.fLinks.n ∧ ∀ j, j < k → badAt B.fPrev ls j = false) (fun k => B.fLinks.n - k) (0) ?_ ?_ ?_
 · exact ⟨by omega, fun j hj => by omega⟩
 · exact Ai (wk1 rfl (wk1 rfl (wk1 rfl wk0))) (wh1 Z0 (wh1 Z1 wh0)) nD
 rintro k ⟨hk, hg⟩
 refine G10 ?_
 refine .condP J (fun hc1 => ?_) (fun hc1 => ?_)
 ·
  have hk2 : k < B.fLinks.n := by omega
  have hll := hW.len
  obtain ⟨b, o, hbp, hbs⟩ := hW.see.at (by rw [Bi hW.row]; omega)
  have hr0 : (ls.getD k []).length = 32 := Bg hW.row oM
  have hr1 : (ls.getD (k - 1) []).length = 32 := Bg hW.row oM
  refine G2 ?_
  refine .join (ι := Unit) (fun _u => ⟨[(1, ptr n1 0), (3, ptr n3 0), (4, i64 (k : Int))], [⟨n3, Aa (List.replicate 32 0), 50, 32⟩, ⟨n1, B.cells, 79, B.cells.length⟩]⟩) (fun _u => badAt B.fPrev ls k = false) ?_ ?_
  ·
   refine G2 ?_
   refine .draw [(0, 0), (1, 1), (0, 2), (0, 3), (1, 4), (1, 5), (0, 6), (0, 7), (0, 8), (1, 9), (0, 10), (0, 11), (1, 12), (0, 13), (1, 14), (0, 15), (0, 16), (0, 17), (0, 18), (0, 19), (0, 20), (0, 21), (1, 22), (0, 23), (0, 24), (0, 25), (1, 26), (0, 27), (1, 28), (0, 29), (0, 30), (1, 31), (3, 32), (0, 33), (0, 34), (0, 35)] Ba zK (G3 ?_)
   refine .idxSlP 32 J J J hbp J Y51.h Sz50 k J oM (.loadEN (Aa (ls.getD (k) [])) J J J Y50.h J Sz50 sP (by rw [Aa, List.length_map]; exact Bg hW.row (by rw [hW.len]; omega)) (sees_row hW.row hbs (by rw [hW.len]; omega)) ?_)
   refine .lA J J J Y50.h J Sz50 Z0 sP ?_
   refine two (fun r hr k => Tr.eql_bytes J J J J Tryz.eqGuardType50 Y50.h Y5.h Sz5 zA sP hr k) (fun hs7_60 => ?_) (fun hs7_60 => ?_)
   ·
    have hs7_6 := of_decide_eq_true hs7_60
    refine G31 ?_
    refine .cond_t J J (G12 ?_)
    refine ⟨_, [], Ad J J, sP, sP, ?_, rfl⟩
    exact congrArg i64 (bcheck_bad hnb (linksBad_at (k := k) oM (by unfold badAt; simp_all))).symm
   have hs7_6 := of_decide_eq_false hs7_60
   refine G4 ?_
   refine .idxSlP 32 J J J hbp J Y51.h Sz50 k J oM (.loadEN (Aa (ls.getD (k) [])) J J J Y50.h J Sz50 sP (by rw [Aa, List.length_map]; exact Bg hW.row (by rw [hW.len]; omega)) (sees_row hW.row hbs (by rw [hW.len]; omega)) ?_)
   refine G1 ?_
   refine .lN (Aa _) J J J Y50.h J Sz50 Z1 (Block.row_fPrev zA) (Block.rl_fPrev zA) ?_
   refine two (fun r hr k => Tr.eql_bytes J J J J Tryz.eqGuardType50 Y50.h Y5.h Sz5 zA (by (simp [hB.l_fPrev]; done)) hr k) (fun hs7_150 => ?_) (fun hs7_150 => ?_)
   ·
    have hs7_15 := of_decide_eq_true hs7_150
    refine G22 ?_
    refine .cond_t J J (G12 ?_)
    refine ⟨_, [], Ad J J, sP, sP, ?_, rfl⟩
    exact congrArg i64 (bcheck_bad hnb (linksBad_at (k := k) oM (by unfold badAt; simp_all))).symm
   have hs7_15 := of_decide_eq_false hs7_150
   refine G3 ?_
   refine two (fun r hr k => Tr.gtr J J J J hr k) (fun hs7_190 => ?_) (fun hs7_190 => ?_)
   ·
    have hs7_19 := of_decide_eq_true hs7_190
    refine G5 ?_
    refine .idxSlP 32 J J J hbp J Y51.h Sz50 (k - 1) oM oM (.loadEN (Aa (ls.getD (k - 1) [])) J J J Y50.h J Sz50 sP (by rw [Aa, List.length_map]; exact Bg hW.row (by rw [hW.len]; omega)) (sees_row hW.row hbs (by rw [hW.len]; omega)) ?_)
    refine G3 ?_
    refine .idxSlP 32 J J J hbp J Y51.h Sz50 k J oM (.loadEN (Aa (ls.getD (k) [])) J J J Y50.h J Sz50 sP (by rw [Aa, List.length_map]; exact Bg hW.row (by rw [hW.len]; omega)) (sees_row hW.row hbs (by rw [hW.len]; omega)) ?_)
    refine .cV J J J J Body144 (r15_cmp _ _ hr1 hr0) tV (G5 ?_)
    refine .condP J (fun hc2 => ?_) (fun hc2 => ?_)
    ·
     refine G12 ?_
     refine ⟨_, [], Ad J J, sP, sP, ?_, rfl⟩
     exact congrArg i64 (bcheck_bad hnb (linksBad_at (k := k) oM (by unfold badAt; simp_all))).symm
    refine G3 ?_
    refine ⟨(), by unfold badAt; simp_all, Ai (wk1 J (wk1 J (wk1 J wk0))) (wh1 Z0 (wh1 Z1 wh0)) nD⟩
   have hs7_19 := of_decide_eq_false hs7_190
   refine G18 ?_
   refine .cond_f J J (G3 ?_)
   refine ⟨(), by unfold badAt; simp_all, Ai (wk1 J (wk1 J (wk1 J wk0))) (wh1 Z0 (wh1 Z1 wh0)) nD⟩
  intro _u hj
  have hgk := hj
  refine G6 ?_
  exact ⟨k + 1, ⟨by omega, fun j hj => by rcases Nat.lt_succ_iff_lt_or_eq.1 hj with h | rfl; exact hg j h; exact hgk⟩, by omega, Ai (wk1 rfl (wk1 rfl (wk1 (by rw [Int.natCast_add]; rfl) wk0))) (wh1 Z0 (wh1 Z1 wh0)) nD⟩
 obtain rfl : k = B.fLinks.n := by omega
 refine G12 ?_
 refine ⟨_, [], Ad J J, sP, sP, ?_, rfl⟩
 exact congrArg i64 (bcheck_ok hnb (linksBad_not (by rw [hW.len]; exact hg))).symm
theorem r15_Check (B : Block) (D : DB) : Meets Tryz.prog 154 [agg B.cells] [] (fun W => BlockIs W B D) (fun v out => v = i64 D.check ∧ out = []) :=
  fun W hW => by rw [← hW.check]; exact r15_check B hW.ok D.ls W hW.ls

theorem r1_Block (p r : Option Addr) (n c m d : Nat) (l ys : List UInt8) (hl : l.length = n) (hy : ys.length = m) (hp : p = none → n = 0) (hr : r = none → m = 0) (hn : n ≤ 40000) (hm : m ≤ 40000) : Meets Tryz.prog 133 [.slice p n c, .slice r m d] [] (fun W => SeesP W p (Aa l) ∧ SeesP W r (Aa ys)) (fun v out => FreshRow v out (Aa (l ++ A6 (UInt64.ofNat m) ++ ys)) 5 (n + szN m + m) 1) := by
 intro W hW
 have hz := A2 m
 have hw : A8 (m : Int) = UInt64.ofNat m := by simp only [A8]; congr 1; omega
 have hmn : (UInt64.ofNat m).toNat = m := by rw [UInt64.toNat_ofNat', Nat.mod_eq_of_lt oM]
 refine Ag Tryz.func133 J 12 Tryz.ntmps133 J (G11 ?_)
 rw [hw]
 refine .call4 J J J J J Body132 (r1_Number p n c l (UInt64.ofNat m) hl hp oM) (fun w h => Ao h J hW.1) ?_
 rintro v9 out9 ⟨q9, c9, rfl, hc9, rfl⟩
 rw [hmn] at hc9 ⊢
 refine G1 ?_
 refine .appendSl (z := u8 0) (by' := 1) (Aa ys) J J J J J Y58.h Y58.h Sz5 Zr5 (by unfold By; kernel_rfl) J (fun w h => Ao h J hW.2) hr (As _) rM J (by rw [Aa, List.length_map, List.length_append, Ax, hl, hmn, Nat.mul_one]) oM oM oM (by rw [Aa, List.length_map, hy, Nat.mul_one]) ?_
 intro q11 c11 hq11
 rw [← Bx]
 refine G5 ?_
 refine Ah (out := (⟨q11, Aa (l ++ A6 (UInt64.ofNat m) ++ ys), 5, c11 * 1⟩ :: [])) (Ad J J) (Ac rM Ae) ?_
 exact ⟨q11, c11, rfl, hq11, rfl⟩

theorem btag_length : btag.length = 5 := rfl

theorem r15_Text (B : Block) (D : DB) (hB : B.ok) (h1 : D.ls.length ≤ 40) (h2 : D.ds.length ≤ 2000) : Meets Tryz.prog 219 [agg B.cells] [] (fun W => BlockIs W B D) (fun v out => FreshRow v out (Aa (btxt D)) 5 (btxt D).length 1) := by
 intro W hW
 have hbs0 := DB.body_small hW.dok h1 h2
 have e1 := hW.ls.len
 have e2 := hW.ds.len
 have hz1 := A2 B.fSeq.toNat
 have hz2 := A2 (UInt64.ofNat B.fLinks.n).toNat
 have hz3 := A2 B.fData.n
 have hw2 := word_nat (n := B.fLinks.n) oM
 have hrow := hW.ls.row
 refine Ag Tryz.func219 J 41 Tryz.ntmps219 J (G3 ?_)
 intro n1 hn1 hf1
 refine G5 ?_
 refine .mkRow (z := u8 0) [u8 98, u8 108, u8 111, u8 99, u8 107] (Aa btag) J J J Y58.h Sz5 Zr5 J J (by intro v hv; simp only [List.mem_cons, List.not_mem_nil, or_false] at hv; rcases hv with rfl | rfl | rfl | rfl | rfl <;> rfl) dE J ?_
 intro q5
 refine .constB J J J J Y58.h Y5.h Z0 ?_
 refine G2 ?_
 refine .appendSl (z := u8 0) (by' := 1) (Aa B.fWriter) J J J J J Y58.h Y58.h Sz5 Zr5 (by unfold By; kernel_rfl) J (fun w h => SeesP.of (sees_part h Z1 (Block.see_fWriter hB))) (fun e => by cases e) (As _) rM J J dE dE dE (by simp [hB.l_fWriter]) ?_
 intro q9 c9 hq9
 rw [← Bx]
 refine G4 ?_
 refine .draw [(0, 0), (0, 1), (1, 2), (0, 4), (0, 5), (4, 3), (4, 6), (0, 7)] Ba zK (G5 ?_)
 refine .call4 J J J J J Body132 (r1_Number (some ⟨q9, 0, none⟩) (5 + 32) c9 (btag ++ B.fWriter) (B.fSeq) (by simp only [List.length_append, Ax, hB.l_fWriter, hB.l_fPrev, btag_length]) (fun e => by cases e) oM) (fun w h => SeesP.of (Aj (cs := Aa (btag ++ B.fWriter)) h Z0)) ?_
 rintro v13 out13 ⟨q13, c13, rfl, hc13, rfl⟩
 refine .appendSl (z := u8 0) (by' := 1) (Aa B.fPrev) J J J J J Y58.h Y58.h Sz5 Zr5 (by unfold By; kernel_rfl) J (fun w h => SeesP.of (sees_part h Z2 (Block.see_fPrev hB))) (fun e => by cases e) (As _) rM J (by rw [Aa, List.length_map, Nat.mul_one]; simp only [List.length_append, Ax, hB.l_fWriter, hB.l_fPrev, btag_length]) oM oM oM (by simp [hB.l_fPrev]) ?_
 intro q16 c16 hq16
 rw [← Bx]
 refine G10 ?_
 rw [hw2]
 refine .call4 J J J J J Body132 (r1_Number (some ⟨q16, 0, none⟩) (5 + 32 + szN B.fSeq.toNat + 32) c16 (btag ++ B.fWriter ++ A6 B.fSeq ++ B.fPrev) (UInt64.ofNat B.fLinks.n) (by simp only [List.length_append, Ax, hB.l_fWriter, hB.l_fPrev, btag_length]) (fun e => by cases e) oM) (fun w h => SeesP.of (Aj (cs := Aa (btag ++ B.fWriter ++ A6 B.fSeq ++ B.fPrev)) h Z0)) ?_
 rintro v22 out22 ⟨q22, c22, rfl, hc22, rfl⟩
 refine G10 ?_
 refine .loop (ι := Nat × Nat × Nat) (fun p => ⟨[(1, ptr n1 0), (3, .slice (some ⟨p.2.1, 0, none⟩) (5 + 32 + szN B.fSeq.toNat + 32 + szN (UInt64.ofNat B.fLinks.n).toNat + 32 * p.1) p.2.2), (4, i64 (p.1 : Int))], [⟨p.2.1, Aa (btag ++ B.fWriter ++ A6 B.fSeq ++ B.fPrev ++ A6 (UInt64.ofNat B.fLinks.n) ++ (D.ls.take p.1).flatten), 5, p.2.2 * 1⟩, ⟨n1, B.cells, 79, B.cells.length⟩]⟩) (fun p => p.1 ≤ B.fLinks.n ∧ 5 + 32 + szN B.fSeq.toNat + 32 + szN (UInt64.ofNat B.fLinks.n).toNat + 32 * p.1 ≤ p.2.2) (fun p => B.fLinks.n - p.1) ((0, q22, c22)) ?_ ?_ ?_
 · exact ⟨Nat.zero_le _, by simp only []; omega⟩
 · exact Af (wk1 rfl (wk1 rfl (wk1 rfl wk0))) (pm_consE rM (by simp only [List.take_zero, List.flatten_nil, List.append_nil]) rfl (Ac rM Ae))
 rintro p ⟨hp1, hp2⟩
 refine G10 ?_
 refine .condP J (fun hc0 => ?_) (fun hc0 => ?_)
 ·
  have hp3 : p.1 < B.fLinks.n := by omega
  obtain ⟨b, o, hbp, hbs⟩ := hW.ls.see.at (by rw [Bi hrow]; omega)
  have hrk : (D.ls.getD p.1 []).length = 32 := Bg hrow oM
  refine G9 ?_
  refine .idxSlP 32 J J J hbp J Y51.h Sz50 p.1 J oM (G1 ?_)
  refine .appendSl (z := u8 0) (by' := 1) (Aa (D.ls.getD p.1 [])) J J J J J Y58.h Y58.h Sz5 Zr5 (by unfold By; kernel_rfl) J (fun w h => SeesP.of (Bt h sP (sees_row hrow hbs oM))) (fun e => by cases e) (As _) rM J (by simp only [Aa, List.length_map, List.length_append, Ax, hB.l_fWriter, hB.l_fPrev, btag_length, Bn hrow (show p.1 ≤ D.ls.length by omega)]; omega) oM oM oM (by rw [Aa, List.length_map, hrk]) ?_
  intro q36 c36 hq36
  rw [← Bx]
  refine G10 ?_
  exact ⟨(p.1 + 1, q36, c36), ⟨by simp only []; omega, by simp only []; omega⟩, by simp only []; omega, Af (wk1 rfl (wk1 (by rw [show 5 + 32 + szN B.fSeq.toNat + 32 + szN (UInt64.ofNat B.fLinks.n).toNat + 32 * (p.1 + 1) = 5 + 32 + szN B.fSeq.toNat + 32 + szN (UInt64.ofNat B.fLinks.n).toNat + 32 * p.1 + 32 by omega]; rfl) (wk1 (by rw [Int.natCast_add]; rfl) wk0))) (pm_consE rM (by rw [flatten_take_step oM, ← List.append_assoc]) rfl (Ac rM Ae))⟩
 have hp3 : p.1 = B.fLinks.n := by omega
 refine G10 ?_
 refine .call4 J J J J J Body133 (r1_Block (some ⟨p.2.1, 0, none⟩) B.fData.p (5 + 32 + szN B.fSeq.toNat + 32 + szN (UInt64.ofNat B.fLinks.n).toNat + 32 * p.1) p.2.2 B.fData.n B.fData.c (btag ++ B.fWriter ++ A6 B.fSeq ++ B.fPrev ++ A6 (UInt64.ofNat B.fLinks.n) ++ (D.ls.take p.1).flatten) D.ds (by simp only [List.length_append, Ax, hB.l_fWriter, hB.l_fPrev, btag_length, Bn hrow (show p.1 ≤ D.ls.length by omega)]; omega) e2 (fun e => by cases e) (fun e => by have h3 := hW.ds.nil e; have h4 := hW.ds.cap; omega) oM oM) (fun w h => ⟨SeesP.of (Aj h Z0), Ao h J hW.ds.see⟩) ?_
 rintro v40 out40 ⟨q40, c40, rfl, hc40, rfl⟩
 refine G5 ?_
 refine Ah (out := (⟨q40, Aa (btag ++ B.fWriter ++ A6 B.fSeq ++ B.fPrev ++ A6 (UInt64.ofNat B.fLinks.n) ++ (D.ls.take p.1).flatten ++ A6 (UInt64.ofNat B.fData.n) ++ D.ds), 5, c40 * 1⟩ :: [])) (Ad J J) (Ac rM Ae) ?_
 have hfin : btag ++ B.fWriter ++ A6 B.fSeq ++ B.fPrev ++ A6 (UInt64.ofNat B.fLinks.n) ++ (D.ls.take p.1).flatten ++ A6 (UInt64.ofNat B.fData.n) ++ D.ds = btxt D := by rw [btxt, DB.body, ← hW.w, ← hW.seq, ← hW.prev, e1, e2, List.take_of_length_le oM]; simp only [List.append_assoc]
 have hlen : 5 + 32 + szN B.fSeq.toNat + 32 + szN (UInt64.ofNat B.fLinks.n).toNat + 32 * p.1 + szN B.fData.n + B.fData.n = (btxt D).length := by rw [← hfin]; simp only [List.length_append, Ax, hB.l_fWriter, hB.l_fPrev, btag_length, Bn hrow (show p.1 ≤ D.ls.length by omega), e2, Bc (show B.fData.n ≤ 1000000 by omega)]; omega
 rw [hfin]
 exact ⟨q40, c40, by rw [hlen], by omega, rfl⟩
end Go.Proofs.YtdifpjmfabhpiaaGreat
end

section
namespace Go.Proofs.YtdifpjmfabhpiaaGreat
open Go Hw


theorem numR_stays {xs : List UInt8} {x : UInt64} {a a1 : Nat} {e e1 : Int} (h : A5 xs a e = (x, a1, e1)) (he : ¬ e1 = 0) : a1 = a := by
  unfold A5 at h
  split at h
  · exact (congrArg (fun z => z.2.1) h).symm
  split at h
  · exact (congrArg (fun z => z.2.1) h).symm
  split at h
  · exact (congrArg (fun z => z.2.1) h).symm
  split at h
  · exact absurd (congrArg (fun z => z.2.2) h).symm he
  · exact (congrArg (fun z => z.2.1) h).symm

theorem r1t_zero (n q N cp at' o : Nat) (xs : List UInt8) (hx : xs.length = N) (hat : at' ≤ N) (hN : N ≤ cp) (hbig : N ≤ 90000)  : Meets Tryz.prog 216 [ptr n 0, i64 ((0 : Nat) : Int)] [n] (fun W => BlkOk W (R1B n q (o) N cp (at') (0)) ∧ B8 W q 0 (Aa xs) ∧ q ≠ n) (fun v out => ∃ q1 c1, v = .slice (some ⟨q1, 0, none⟩) 0 c1 ∧ 0 ≤ c1 ∧ out = [⟨q1, Aa [], 5, c1 * 1⟩, R1B n q (if cp - at' = 0 then o else o + 0 * 1) N cp (at' + 0) (0)]) := by
 intro W hW
 have hfn : (rd1 q o N cp at' 0).fB.n = N - at' := rfl
 have hfc : (rd1 q o N cp at' 0).fB.c = cp - at' := rfl
 have hfe : (rd1 q o N cp at' 0).fE = 0 := rfl
 refine A3 (hp0 := [R1B n q (o) N cp (at') (0)]) Tryz.func216 J 48 Tryz.ntmps216 J (HRep.one hW.1) (G8 ?_)
 refine .max2 J J J J (show Value.int .i64 (if (0 : Int) > ((0 : Nat) : Int) then 0 else ((0 : Nat) : Int)) = i64 ((0 : Nat) : Int) by rw [if_neg oM]) ?_
 refine G10 ?_
 refine .eqi J J J J (decide_eq_true (rfl)) (G7 ?_)
 refine .lss J J J J (decide_eq_false oM) (G3 ?_)
 refine .cond_f J (rfl) (G9 ?_)
 refine .nei J J J J (show (!decide _) = false from congrArg not (decide_eq_true (rfl))) (G2 ?_)
 refine .cond_f J (rfl) (G9 ?_)
 refine .sliceHi 0 J J J J J oM Y58.h Sz5 (G11 ?_)
 refine .sliceLoN 0 J J J J J oM oM Y58.h Sz5 (G2 ?_)
 refine .s1 J J J J J Sz58 Z0 (by rw [Rdr.length (by exact rd1_ok _ _ _ _ _ _)]; decide) (by exact Rdr.setS_fB (by exact rd1_ok _ _ _ _ _ _) _ _ _) zU ?_
 refine G4 ?_
 refine .mkRow2 (z := u8 0) [] [] rfl J Y58.h Sz5 Zr5 J J (by intro v hv; cases hv) dE J ?_
 intro q45
 refine G1 ?_
 refine .appendSl (z := u8 0) (by' := 1) (Aa []) J J J J J Y58.h Y58.h Sz5 Zr5 (by unfold By; kernel_rfl) J (fun w h => SeesP.nil) (fun e => by cases e) (As _) Az J J oM oM oM J ?_
 intro q47 c47 hq47
 refine G5 ?_
 refine ⟨_, [⟨q47, [] ++ Aa [], 5, c47 * 1⟩, R1B n q (if cp - at' = 0 then o else o + 0 * 1) N cp (at' + 0) (0)], Ad J J, (by intro b hb; rcases List.mem_cons.1 hb with rfl | hb; exact B7; rw [List.mem_singleton.1 hb, r1b_move]; exact mem1), (fun h => h.sublist (by simp [R1B])), ?_⟩
 exact ⟨q47, c47, rfl, Nat.zero_le _, rfl⟩

theorem r1_TakeA (n q o N cp a : Nat) (e : Int) (m : Nat) (hm : m ≤ 90000) (xs : List UInt8) (hx : xs.length = N) (hat : a ≤ N) (hN : N ≤ cp) (hbig : N ≤ 90000) (ho : At1 cp a o) (l : List UInt8) (a1 : Nat) (h : takR xs m a 0 = (l, a1, 0)) : Meets Tryz.prog 216 [ptr n 0, i64 (m : Int)] [n] (fun W => BlkOk W (R1B n q o N cp a 0) ∧ B8 W q 0 (Aa xs) ∧ q ≠ n)
    (fun v out => ∃ s bl o1, At1 cp a1 o1 ∧ v = s.v ∧ Acc s bl (Aa l) 5 l.length 1 ∧ out = bl ++ [R1B n q o1 N cp a1 0]) := by
  rcases Nat.eq_zero_or_pos m with rfl | hm0
  · have h0 := h
    unfold takR at h0
    rw [if_neg sP, if_neg oM] at h0
    obtain ⟨rfl, rfl⟩ : [] = l ∧ a + 0 = a1 := by simpa using h0
    refine (r1t_zero n q N cp a o xs hx hat hN hbig).imp (fun w h => h) fun v out ⟨q1, c1, h1, h2, h3⟩ => ⟨⟨some ⟨q1, 0, none⟩, 0, c1⟩, [_], _, fun hlt => ?_, h1, ?_, h3⟩
    · have := ho hlt
      simp only [Nat.zero_mul, Nat.add_zero, ite_self]
      omega
    · exact Acc.some h2 rfl
  · exact r1_TakeE n q o N cp a 0 m hm0 hm xs hx hat hN hbig ho l a1 0 h

theorem r1b_err (n q o N cp at' : Nat) (e : Int) (xs : List UInt8) (hx : xs.length = N) (hat : at' ≤ N) (hN : N ≤ cp) (hbig : N ≤ 90000) (ho : At1 cp at' o) (x : UInt64) (a1 : Nat) (e1 : Int) (h1 : A5 xs at' e = (x, a1, e1)) (he1 : ¬ e1 = 0) : Meets Tryz.prog 137 [ptr n 0] [n] (fun W => BlkOk W (R1B n q (o) N cp (at') (e)) ∧ B8 W q 0 (Aa xs) ∧ q ≠ n) (fun v out => ∃ o1, At1 cp a1 o1 ∧ v = .slice none 0 0 ∧ out = [R1B n q o1 N cp a1 e1]) := by
 intro W hW
 have hla := Bm h1 hx hat
 refine A3 (hp0 := [R1B n q (o) N cp (at') (e)]) Tryz.func137 J 42 Tryz.ntmps137 J (HRep.one hW.1) (G17 ?_)
 refine .callL (L := [R1B n q (o) N cp (at') (e)]) J J J J J Body138 (Cb n q o N cp at' e xs hx hat hN hbig ho x a1 e1 h1) (Ac rM Ae) (Ay J) (fun w h => ⟨Ak h Z0, Bt h (by simp; exact hW.2.2) hW.2.1, hW.2.2⟩) ?_
 rintro v10 out10 ⟨o1, ho1, rfl, rfl⟩
 refine G6 ?_
 have hfn : (rd1 q o1 N cp a1 e1).fB.n = N - a1 := rfl
 have hfe : (rd1 q o1 N cp a1 e1).fE = e1 := rfl
 have hwn : (A8 ((N - a1 : Nat) : Int)).toNat = N - a1 := by simp only [A8, UInt64.toNat_ofNat']; omega
 refine G4 ?_
 refine .eqi J J J J (decide_eq_false (he1)) (G12 ?_)
 refine .cond_f J (rfl) (G9 ?_)
 refine .nei J J J J (show (!decide _) = true from congrArg not (decide_eq_false (he1))) (G2 ?_)
 refine .cond_t J (rfl) (G8 ?_)
 refine Ah (out := (R1B n q o1 N cp a1 e1 :: [])) (Ad J J) (Ac rM Ae) ?_
 exact ⟨o1, ho1, rfl, rfl⟩

theorem r1b_more (n q o N cp at' : Nat) (e : Int) (xs : List UInt8) (hx : xs.length = N) (hat : at' ≤ N) (hN : N ≤ cp) (hbig : N ≤ 90000) (ho : At1 cp at' o) (x : UInt64) (a1 : Nat) (e1 : Int) (h1 : A5 xs at' e = (x, a1, e1)) (he1 : e1 = 0) (hk : N < a1 + x.toNat) : Meets Tryz.prog 137 [ptr n 0] [n] (fun W => BlkOk W (R1B n q (o) N cp (at') (e)) ∧ B8 W q 0 (Aa xs) ∧ q ≠ n) (fun v out => v = .slice none 0 0 ∧ out = [R1B n q o N cp at' 5]) := by
 intro W hW
 have hla := Bm h1 hx hat
 refine A3 (hp0 := [R1B n q (o) N cp (at') (e)]) Tryz.func137 J 42 Tryz.ntmps137 J (HRep.one hW.1) (G17 ?_)
 refine .callL (L := [R1B n q (o) N cp (at') (e)]) J J J J J Body138 (Cb n q o N cp at' e xs hx hat hN hbig ho x a1 e1 h1) (Ac rM Ae) (Ay J) (fun w h => ⟨Ak h Z0, Bt h (by simp; exact hW.2.2) hW.2.1, hW.2.2⟩) ?_
 rintro v10 out10 ⟨o1, ho1, rfl, rfl⟩
 subst he1
 refine G6 ?_
 have hfn : (rd1 q o1 N cp a1 0).fB.n = N - a1 := rfl
 have hfe : (rd1 q o1 N cp a1 0).fE = 0 := rfl
 have hwn : (A8 ((N - a1 : Nat) : Int)).toNat = N - a1 := by simp only [A8, UInt64.toNat_ofNat']; omega
 refine G4 ?_
 refine .eqi J J J J (decide_eq_true (rfl)) (G6 ?_)
 refine .lenSl (n := N - a1) J J J Y58.h (G1 ?_)
 refine .gtr J J J J (decide_eq_true (by rw [hwn]; omega)) ?_
 refine G3 ?_
 refine .cond_t J (rfl) (G9 ?_)
 refine .s1 J J J J J Sz58 Z0 (by rw [Rdr.length (by exact rd1_ok _ _ _ _ _ _)]; decide) (by exact Rdr.set_fB (by exact rd1_ok _ _ _ _ _ _) _) zU ?_
 refine G9 ?_
 refine .nei J J J J (show (!decide _) = true from congrArg not (decide_eq_false (by show ¬ ((5 : Int) = 0); decide))) ?_
 refine G2 ?_
 refine .cond_t J (rfl) (G8 ?_)
 refine Ah (out := (R1B n q o N cp at' 5 :: [])) (Ad J J) (Ac rM Ae) ?_
 exact ⟨rfl, rfl⟩

theorem r1b_ok (n q o N cp at' : Nat) (e : Int) (xs : List UInt8) (hx : xs.length = N) (hat : at' ≤ N) (hN : N ≤ cp) (hbig : N ≤ 90000) (ho : At1 cp at' o) (x : UInt64) (a1 : Nat) (e1 : Int) (h1 : A5 xs at' e = (x, a1, e1)) (he1 : e1 = 0) (hk : a1 + x.toNat ≤ N) (l : List UInt8) (a2 : Nat) (h2 : takR xs x.toNat a1 0 = (l, a2, 0)) : Meets Tryz.prog 137 [ptr n 0] [n] (fun W => BlkOk W (R1B n q (o) N cp (at') (e)) ∧ B8 W q 0 (Aa xs) ∧ q ≠ n) (fun v out => ∃ s bl o2, At1 cp a2 o2 ∧ v = s.v ∧ Acc s bl (Aa l) 5 l.length 1 ∧ out = bl ++ [R1B n q o2 N cp a2 0]) := by
 intro W hW
 have hla := Bm h1 hx hat
 refine A3 (hp0 := [R1B n q (o) N cp (at') (e)]) Tryz.func137 J 42 Tryz.ntmps137 J (HRep.one hW.1) (G17 ?_)
 refine .callL (L := [R1B n q (o) N cp (at') (e)]) J J J J J Body138 (Cb n q o N cp at' e xs hx hat hN hbig ho x a1 e1 h1) (Ac rM Ae) (Ay J) (fun w h => ⟨Ak h Z0, Bt h (by simp; exact hW.2.2) hW.2.1, hW.2.2⟩) ?_
 rintro v10 out10 ⟨o1, ho1, rfl, rfl⟩
 subst he1
 refine G6 ?_
 have hfn : (rd1 q o1 N cp a1 0).fB.n = N - a1 := rfl
 have hfe : (rd1 q o1 N cp a1 0).fE = 0 := rfl
 have hwn : (A8 ((N - a1 : Nat) : Int)).toNat = N - a1 := by simp only [A8, UInt64.toNat_ofNat']; omega
 refine G4 ?_
 refine .eqi J J J J (decide_eq_true (rfl)) (G6 ?_)
 refine .lenSl (n := N - a1) J J J Y58.h (G1 ?_)
 refine .gtr J J J J (decide_eq_false (by rw [hwn]; omega)) ?_
 refine G3 ?_
 refine .cond_f J (rfl) (G9 ?_)
 refine .nei J J J J (show (!decide _) = false from congrArg not (decide_eq_true (rfl))) (G2 ?_)
 refine .cond_f J (rfl) (G6 ?_)
 refine .conv J J J Y48.h Y3.h (cv_u64_i64 oM) (.callL (L := [R1B n q (o1) N cp (a1) (0)]) J J J J J Body216 (r1_TakeA n q o1 N cp a1 0 x.toNat oM xs hx hla hN hbig ho1 l a2 h2) (Ac rM Ae) (Ay J) (fun w h => ⟨Ak h Z0, Bt h (by simp; exact hW.2.2) hW.2.1, hW.2.2⟩) ?_)
 rintro v41 out41 ⟨s41, bl41, o2, ho2, rfl, hac41, rfl⟩
 simp only [List.append_assoc, List.cons_append, List.nil_append]
 refine G5 ?_
 refine Ah (out := (bl41 ++ (R1B n q o2 N cp a2 0 :: []))) (Ad J J) (Ab sG (Ac rM Ae)) ?_
 exact ⟨s41, bl41, o2, ho2, rfl, hac41, by simp⟩

theorem r1_BlockE (n q o0 N cp a : Nat) (e : Int) (xs : List UInt8) (hx : xs.length = N) (hat : a ≤ N) (hN : N ≤ cp) (hbig : N ≤ 90000) (ho : At1 cp a o0) (o : Option (List UInt8)) (a1 : Nat) (e1 : Int) (h : blkR xs a e = (o, a1, e1)) : Meets Tryz.prog 137 [ptr n 0] [n] (fun W => BlkOk W (R1B n q o0 N cp a e) ∧ B8 W q 0 (Aa xs) ∧ q ≠ n)
    (fun v out => ∃ s bl o2, At1 cp a1 o2 ∧ v = s.v ∧ Acc s bl (Aa (o.getD [])) 5 (o.getD []).length 1 ∧ out = bl ++ [R1B n q o2 N cp a1 e1]) := by
  obtain ⟨x, r, h1⟩ : ∃ l r, A5 xs a e = (l, r) := ⟨_, _, rfl⟩
  obtain ⟨a2, e2⟩ := r
  have hla := Bm h1 hx hat
  unfold blkR at h
  rw [h1] at h
  simp only at h
  by_cases he : e2 = 0
  · subst he
    rw [if_neg sP] at h
    by_cases h2 : xs.length < a2 + x.toNat
    · rw [if_pos h2] at h
      obtain ⟨rfl, rfl, rfl⟩ : none = o ∧ a = a1 ∧ (5 : Int) = e1 := by simpa using h
      exact (r1b_more n q o0 N cp a e xs hx hat hN hbig ho x a2 0 h1 rfl oM).imp (fun w h => h) fun v out ⟨h1, h2⟩ => ⟨Sl.nil, [], o0, ho, h1, Acc.none, h2⟩
    · rw [if_neg h2] at h
      obtain ⟨rfl, rfl, rfl⟩ : some ((xs.drop a2).take x.toNat) = o ∧ a2 + x.toNat = a1 ∧ (0 : Int) = e1 := by simpa using h
      have ht : takR xs x.toNat a2 0 = ((xs.drop a2).take x.toNat, a2 + x.toNat, 0) := by
        unfold takR
        rw [if_neg sP, if_neg h2]
      exact (r1b_ok n q o0 N cp a e xs hx hat hN hbig ho x a2 0 h1 rfl oM _ _ ht).imp (fun w h => h) fun v out h => h
  · rw [if_pos he] at h
    obtain ⟨rfl, ha, rfl⟩ : none = o ∧ a = a1 ∧ e2 = e1 := by simpa using h
    have h3 : a2 = a := numR_stays h1 he
    subst h3
    subst ha
    exact (r1b_err n q o0 N cp a2 e xs hx hat hN hbig ho x a2 e2 h1 he).imp (fun w h => h) fun v out ⟨o1, h1, h2, h3⟩ => ⟨Sl.nil, [], o1, h1, h2, Acc.none, h3⟩
theorem digR_err {xs : List UInt8} {a : Nat} {e : Int} (he : ¬ e = 0) : (Cf xs a e).2.2 = e := by unfold Cf; rw [if_pos he]
theorem digsR_err {xs : List UInt8} {a : Nat} {e : Int} (he : ¬ e = 0) : ∀ j, (Av xs j a e).2.2 = e
  | 0 => rfl
  | j + 1 => by
    have h := digsR_err (xs := xs) (a := a) he j
    simp only [Av]
    rw [digR_err (by rw [h]; exact he), h]
theorem numR_err {xs : List UInt8} {a : Nat} {e : Int} (he : ¬ e = 0) : (A5 xs a e).2.2 = e := by unfold A5; rw [if_pos he]
theorem blkR_err {xs : List UInt8} {a : Nat} {e : Int} (he : ¬ e = 0) : (blkR xs a e).2.2 = e := by
  have h := numR_err (xs := xs) (a := a) he
  unfold blkR
  rw [if_pos (by rw [h]; exact he), h]
theorem takR_err {xs : List UInt8} {m a : Nat} {e : Int} (he : ¬ e = 0) : (takR xs m a e).2.2 = e := by unfold takR; rw [if_pos he]

end Go.Proofs.YtdifpjmfabhpiaaGreat
end

section
namespace Go.Proofs.YtdifpjmfabhpiaaGreat
open Go Hw


theorem body_pos (D : DB) : 0 < D.body.length := by
  have := A2 D.seq.toNat
  simp only [DB.body, List.length_append, Ax]
  omega

theorem text_off {q c : Nat} {D : DB} {E : TypeId} (hc : (btxt D).length ≤ c) (hl : (btxt D).length = 5 + D.body.length) : AccO ⟨some ⟨q, if c = 5 then 0 else 0 + 5 * 1, none⟩, (btxt D).length - 5, c - 5⟩ [⟨q, Aa (btxt D), E, c * 1⟩] (Aa D.body) E ((btxt D).length - 5) := by
  refine .inr ⟨q, if c = 5 then 0 else 0 + 5 * 1, c - 5, c * 1, Aa (if c = 5 then [] else btag), Aa [], rfl, by omega, by rw [Aa, List.length_map]; omega, ?_, .inl rfl, ?_, ?_⟩
  · split <;> rfl
  · split <;> omega
  · by_cases h5 : c = 5
    · exfalso; have hb : 0 < D.body.length := body_pos D; omega
    · rw [if_neg h5, ← Bx, ← Bx, List.append_nil]; rfl

end Go.Proofs.YtdifpjmfabhpiaaGreat
end

section
namespace Go.Proofs.YtdifpjmfabhpiaaGreat
open Go Hw


def RowsR (L : List (List UInt8)) (v : Value) (out : List Blk) : Prop := ∃ s : Sl, v = s.v ∧ s.n = L.length ∧ ∀ W2, Lies out W2 → SeesP W2 s.p (Bs L)
theorem RowsR.loose {L : List (List UInt8)} (hr : ∀ l ∈ L, l.length = 32) : Loose (RowsR L) := fun l hl => by
  obtain ⟨v, out, ⟨q, c, h1, h2, h3⟩, h4⟩ := FreshRow.loose (Bs L) 50 L.length 32 l hl
  exact ⟨v, out, ⟨⟨some ⟨q, 0, none⟩, L.length, c⟩, h1, rfl, fun W2 h => by subst h3; exact (Acc.some (E := 50) h2 (Bi hr)).see h⟩, h4⟩
theorem check_many {D : DB} (h : 16 < D.ls.length) : ¬ D.check = 0 := fun e => by have := D.head_small e; omega
theorem endR_err {N a : Nat} {e : Int} (h : ¬ e = 0) : ¬ endR N a e = 0 := by unfold endR; rw [if_neg h]; exact h

theorem r15_Read_e (pa : Option Addr) (n c : Nat) (xs : List UInt8) (hl : xs.length = n) (hp : pa = none → n = 0) (hn : n ≤ 90000) (l1 : List UInt8) (a1 : Nat) (e1 : Int) (x2 : UInt64) (a2 : Nat) (e2 : Int) (l3 : List UInt8) (a3 : Nat) (e3 : Int) (x4 : UInt64) (a4 : Nat) (e4 : Int) (ls : List (List UInt8)) (a5 : Nat) (e5 : Int) (o : Option (List UInt8)) (a6 : Nat) (e6 : Int) (l7 : List UInt8) (a7 : Nat) (e7 : Int) (h1 : Cf xs 0 0 = (l1, a1, e1)) (h2 : A5 xs a1 e1 = (x2, a2, e2)) (h3 : Cf xs a2 e2 = (l3, a3, e3)) (h4 : A5 xs a3 e3 = (x4, a4, e4)) (h5 : Av xs (min x4.toNat 17) a4 e4 = (ls, a5, e5)) (h6 : blkR xs a5 e5 = (o, a6, e6)) (h7 : takR xs 64 a6 e6 = (l7, a7, e7)) (he4 : ¬ e4 = 0) : Meets Tryz.prog 153 [.slice pa n c] [] (fun W => SeesP W pa (Aa xs)) (fun v out => ∃ B : Block, B.ok ∧ v = .tuple #[agg B.cells, i64 (B3 xs).2] ∧ ∀ W2, Lies out W2 → BlockIs W2 B (B3 xs).1) := by
 intro W hW
 have hrp : Cm xs = ((⟨l1, x2, l3, ls, o.getD [], l7 ++ (List.replicate 64 0).drop l7.length⟩ : DB), a7, e7) := by simp only [Cm, h1, h2, h3, h4, h5, h6, h7]
 have hd1 := Cc h1 hl (Nat.zero_le _)
 have hd2 := Bm h2 hl hd1.1
 have hd3 := Cc h3 hl hd2
 have hd4 := Bm h4 hl hd3.1
 have hd5 := digsR_at (e := e4) hl hd4 (min x4.toNat 17)
 rw [h5] at hd5
 have hd6 := blkE_le h6 hl hd5.1
 have hd7 := takE_le h7 hl hd6.1
 have hs64 : (l7 ++ Block.zero.fSig.drop l7.length).length = 64 := by rcases hd7.2 with h | h <;> simp [h, Block.zero]
 have hlen7 : l7.length ≤ 64 := by rcases hd7.2 with h | h <;> simp [h]
 have ok1 : ({ Block.zero with fWriter := l1 } : Block).ok := ⟨hd1.2, rfl, rfl⟩
 have ok2 : ({ Block.zero with fWriter := l1, fSeq := x2 } : Block).ok := ⟨hd1.2, rfl, rfl⟩
 have okL : ∀ s, ({ Block.zero with fWriter := l1, fSeq := x2, fPrev := l3, fLinks := s } : Block).ok := fun s => ⟨hd1.2, hd3.2, rfl⟩
 have okD : ∀ s d, ({ Block.zero with fWriter := l1, fSeq := x2, fPrev := l3, fLinks := s, fData := d } : Block).ok := fun s d => ⟨hd1.2, hd3.2, rfl⟩
 have okX : ∀ s2 s3, ({ Block.zero with fWriter := l1, fSeq := x2, fPrev := l3, fLinks := s2, fData := s3, fSig := l7 ++ Block.zero.fSig.drop l7.length } : Block).ok := fun s2 s3 => ⟨hd1.2, hd3.2, hs64⟩
 have hbad : ¬ (endR xs.length a7 e7 = 0 ∧ ((⟨l1, x2, l3, ls, o.getD [], l7 ++ (List.replicate 64 0).drop l7.length⟩ : DB)).check = 0) := by
  have g5 : e5 = e4 := by have := digsR_err (xs := xs) (a := a4) he4 (min x4.toNat 17); rwa [h5] at this
  have g6 : e6 = e5 := by have := blkR_err (xs := xs) (a := a5) (e := e5) (by rw [g5]; exact he4); rwa [h6] at this
  have g7 : e7 = e6 := by have := takR_err (xs := xs) (m := 64) (a := a6) (e := e6) (by rw [g6, g5]; exact he4); rwa [h7] at this
  exact fun h => endR_err (by rw [g7, g6, g5]; exact he4) h.1
 refine Ag Tryz.func153 J 62 Tryz.ntmps153 J (G2 ?_)
 refine .alloc (cs := Block.zero.cells) J Block.zr J ?_
 intro n2 hn2 hf2
 refine G6 ?_
 refine .call4 J J J J J Body135 (r1_Read pa n c xs hl hp hn) (fun w h => Ao h J hW) ?_
 rintro v9 out9 ⟨n9, q9, cp9, rfl, hcp9, rfl⟩
 refine .nd (fun hnd => ?_)
 have hne : q9 ≠ n9 := by intro e; simp [R1B, e] at hnd
 clear hnd
 refine G5 ?_
 refine .alloc (cs := Block.zero.cells) J Block.zr J ?_
 intro n5 hn5 hf5
 refine G5 ?_
 refine .callL (L := [R1B n9 q9 (0) n cp9 (0) (0)]) J J J J J Body215 (r1_DigestE n9 q9 0 n cp9 0 0 xs hl (Nat.zero_le _) hcp9 oM (fun _ => rfl) l1 a1 e1 h1) (Ac rM Ae) (Ay J) (fun w h => ⟨Ak h Z1, Aj h Z2, hne⟩) ?_
 rintro v11 out11 ⟨o11, ho11, rfl, rfl⟩
 refine G1 ?_
 refine .storeN (Aa _) J J J J J zE Sz75 (by simp [hd1.2]) Z1 (by rw [Block.length (by exact Block.zero_ok)]; simp [hd1.2]) (Block.upd_fWriter (by exact Block.zero_ok) _ (by simp [hd1.2])) zV ?_
 refine G5 ?_
 refine .callL (L := [R1B n9 q9 (o11) n cp9 (a1) (e1)]) J J J J J Body138 (Cb n9 q9 o11 n cp9 a1 e1 xs hl hd1.1 hcp9 oM ho11 x2 a2 e2 h2) (Ac rM Ae) (Ay J) (fun w h => ⟨Ak h Z0, Aj h Z2, hne⟩) ?_
 rintro v14 out14 ⟨o14, ho14, rfl, rfl⟩
 refine G7 ?_
 refine .callL (L := [R1B n9 q9 (o14) n cp9 (a2) (e2)]) J J J J J Body215 (r1_DigestE n9 q9 o14 n cp9 a2 e2 xs hl hd2 hcp9 oM ho14 l3 a3 e3 h3) (Ac rM Ae) (Ay J) (fun w h => ⟨Ak h Z0, Aj h Z2, hne⟩) ?_
 rintro v17 out17 ⟨o17, ho17, rfl, rfl⟩
 refine G1 ?_
 refine .storeN (Aa _) J J J J J zE Sz50 (by simp [hd3.2]) Z1 (by rw [Block.length zA]; simp [hd3.2]) (Block.upd_fPrev zA _ (by simp [hd3.2])) zV ?_
 refine G5 ?_
 refine .callL (L := [R1B n9 q9 (o17) n cp9 (a3) (e3)]) J J J J J Body138 (Cb n9 q9 o17 n cp9 a3 e3 xs hl hd3.1 hcp9 oM ho17 x4 a4 e4 h4) (Ac rM Ae) (Ay J) (fun w h => ⟨Ak h Z0, Aj h Z2, hne⟩) ?_
 rintro v20 out20 ⟨o20, ho20, rfl, rfl⟩
 refine G10 ?_
 refine .nei J J J J (show (!decide _) = true from congrArg not (decide_eq_false (he4))) (G6 ?_)
 refine .cond_t J (rfl) (G2 ?_)
 refine .build (cs := Block.zero.cells) J J J (fun w => by kernel_rfl) ?_
 refine G7 ?_
 refine Ah (out := []) (Am J J J Y79.h J Sz79 Z3 (by exact Block.length (by exact Block.zero_ok))) Ae ?_
 exact fin_bad (by rw [hrp]; exact hbad)

theorem r15_Read_m (pa : Option Addr) (n c : Nat) (xs : List UInt8) (hl : xs.length = n) (hp : pa = none → n = 0) (hn : n ≤ 90000) (l1 : List UInt8) (a1 : Nat) (e1 : Int) (x2 : UInt64) (a2 : Nat) (e2 : Int) (l3 : List UInt8) (a3 : Nat) (e3 : Int) (x4 : UInt64) (a4 : Nat) (e4 : Int) (ls : List (List UInt8)) (a5 : Nat) (e5 : Int) (o : Option (List UInt8)) (a6 : Nat) (e6 : Int) (l7 : List UInt8) (a7 : Nat) (e7 : Int) (h1 : Cf xs 0 0 = (l1, a1, e1)) (h2 : A5 xs a1 e1 = (x2, a2, e2)) (h3 : Cf xs a2 e2 = (l3, a3, e3)) (h4 : A5 xs a3 e3 = (x4, a4, e4)) (h5 : Av xs (min x4.toNat 17) a4 e4 = (ls, a5, e5)) (h6 : blkR xs a5 e5 = (o, a6, e6)) (h7 : takR xs 64 a6 e6 = (l7, a7, e7)) (he4 : e4 = 0) (hm : 16 < x4.toNat) : Meets Tryz.prog 153 [.slice pa n c] [] (fun W => SeesP W pa (Aa xs)) (fun v out => ∃ B : Block, B.ok ∧ v = .tuple #[agg B.cells, i64 (B3 xs).2] ∧ ∀ W2, Lies out W2 → BlockIs W2 B (B3 xs).1) := by
 intro W hW
 subst he4
 have hrp : Cm xs = ((⟨l1, x2, l3, ls, o.getD [], l7 ++ (List.replicate 64 0).drop l7.length⟩ : DB), a7, e7) := by simp only [Cm, h1, h2, h3, h4, h5, h6, h7]
 have hd1 := Cc h1 hl (Nat.zero_le _)
 have hd2 := Bm h2 hl hd1.1
 have hd3 := Cc h3 hl hd2
 have hd4 := Bm h4 hl hd3.1
 have hd5 := digsR_at (e := 0) hl hd4 (min x4.toNat 17)
 rw [h5] at hd5
 have hd6 := blkE_le h6 hl hd5.1
 have hd7 := takE_le h7 hl hd6.1
 have hs64 : (l7 ++ Block.zero.fSig.drop l7.length).length = 64 := by rcases hd7.2 with h | h <;> simp [h, Block.zero]
 have hlen7 : l7.length ≤ 64 := by rcases hd7.2 with h | h <;> simp [h]
 have ok1 : ({ Block.zero with fWriter := l1 } : Block).ok := ⟨hd1.2, rfl, rfl⟩
 have ok2 : ({ Block.zero with fWriter := l1, fSeq := x2 } : Block).ok := ⟨hd1.2, rfl, rfl⟩
 have okL : ∀ s, ({ Block.zero with fWriter := l1, fSeq := x2, fPrev := l3, fLinks := s } : Block).ok := fun s => ⟨hd1.2, hd3.2, rfl⟩
 have okD : ∀ s d, ({ Block.zero with fWriter := l1, fSeq := x2, fPrev := l3, fLinks := s, fData := d } : Block).ok := fun s d => ⟨hd1.2, hd3.2, rfl⟩
 have okX : ∀ s2 s3, ({ Block.zero with fWriter := l1, fSeq := x2, fPrev := l3, fLinks := s2, fData := s3, fSig := l7 ++ Block.zero.fSig.drop l7.length } : Block).ok := fun s2 s3 => ⟨hd1.2, hd3.2, hs64⟩
 have hbad : ¬ (endR xs.length a7 e7 = 0 ∧ ((⟨l1, x2, l3, ls, o.getD [], l7 ++ (List.replicate 64 0).drop l7.length⟩ : DB)).check = 0) := fun h => check_many (by show 16 < ls.length; rw [hd5.2.2]; omega) h.2
 refine Ag Tryz.func153 J 62 Tryz.ntmps153 J (G2 ?_)
 refine .alloc (cs := Block.zero.cells) J Block.zr J ?_
 intro n2 hn2 hf2
 refine G6 ?_
 refine .call4 J J J J J Body135 (r1_Read pa n c xs hl hp hn) (fun w h => Ao h J hW) ?_
 rintro v9 out9 ⟨n9, q9, cp9, rfl, hcp9, rfl⟩
 refine .nd (fun hnd => ?_)
 have hne : q9 ≠ n9 := by intro e; simp [R1B, e] at hnd
 clear hnd
 refine G5 ?_
 refine .alloc (cs := Block.zero.cells) J Block.zr J ?_
 intro n5 hn5 hf5
 refine G5 ?_
 refine .callL (L := [R1B n9 q9 (0) n cp9 (0) (0)]) J J J J J Body215 (r1_DigestE n9 q9 0 n cp9 0 0 xs hl (Nat.zero_le _) hcp9 oM (fun _ => rfl) l1 a1 e1 h1) (Ac rM Ae) (Ay J) (fun w h => ⟨Ak h Z1, Aj h Z2, hne⟩) ?_
 rintro v11 out11 ⟨o11, ho11, rfl, rfl⟩
 refine G1 ?_
 refine .storeN (Aa _) J J J J J zE Sz75 (by simp [hd1.2]) Z1 (by rw [Block.length (by exact Block.zero_ok)]; simp [hd1.2]) (Block.upd_fWriter (by exact Block.zero_ok) _ (by simp [hd1.2])) zV ?_
 refine G5 ?_
 refine .callL (L := [R1B n9 q9 (o11) n cp9 (a1) (e1)]) J J J J J Body138 (Cb n9 q9 o11 n cp9 a1 e1 xs hl hd1.1 hcp9 oM ho11 x2 a2 e2 h2) (Ac rM Ae) (Ay J) (fun w h => ⟨Ak h Z0, Aj h Z2, hne⟩) ?_
 rintro v14 out14 ⟨o14, ho14, rfl, rfl⟩
 refine G7 ?_
 refine .callL (L := [R1B n9 q9 (o14) n cp9 (a2) (e2)]) J J J J J Body215 (r1_DigestE n9 q9 o14 n cp9 a2 e2 xs hl hd2 hcp9 oM ho14 l3 a3 e3 h3) (Ac rM Ae) (Ay J) (fun w h => ⟨Ak h Z0, Aj h Z2, hne⟩) ?_
 rintro v17 out17 ⟨o17, ho17, rfl, rfl⟩
 refine G1 ?_
 refine .storeN (Aa _) J J J J J zE Sz50 (by simp [hd3.2]) Z1 (by rw [Block.length zA]; simp [hd3.2]) (Block.upd_fPrev zA _ (by simp [hd3.2])) zV ?_
 refine G5 ?_
 refine .callL (L := [R1B n9 q9 (o17) n cp9 (a3) (e3)]) J J J J J Body138 (Cb n9 q9 o17 n cp9 a3 e3 xs hl hd3.1 hcp9 oM ho17 x4 a4 0 h4) (Ac rM Ae) (Ay J) (fun w h => ⟨Ak h Z0, Aj h Z2, hne⟩) ?_
 rintro v20 out20 ⟨o20, ho20, rfl, rfl⟩
 refine G10 ?_
 refine .nei J J J J (show (!decide _) = false from congrArg not (decide_eq_true (rfl))) (G2 ?_)
 refine .gtr J J J J (decide_eq_true oM) (G3 ?_)
 refine .cond_t J (rfl) (G2 ?_)
 refine .build (cs := Block.zero.cells) J J J (fun w => by kernel_rfl) ?_
 refine G7 ?_
 refine Ah (out := []) (Am J J J Y79.h J Sz79 Z3 (by exact Block.length (by exact Block.zero_ok))) Ae ?_
 exact fin_bad (by rw [hrp]; exact hbad)

theorem r15_Read_k (pa : Option Addr) (n c : Nat) (xs : List UInt8) (hl : xs.length = n) (hp : pa = none → n = 0) (hn : n ≤ 90000) (l1 : List UInt8) (a1 : Nat) (e1 : Int) (x2 : UInt64) (a2 : Nat) (e2 : Int) (l3 : List UInt8) (a3 : Nat) (e3 : Int) (x4 : UInt64) (a4 : Nat) (e4 : Int) (ls : List (List UInt8)) (a5 : Nat) (e5 : Int) (o : Option (List UInt8)) (a6 : Nat) (e6 : Int) (l7 : List UInt8) (a7 : Nat) (e7 : Int) (h1 : Cf xs 0 0 = (l1, a1, e1)) (h2 : A5 xs a1 e1 = (x2, a2, e2)) (h3 : Cf xs a2 e2 = (l3, a3, e3)) (h4 : A5 xs a3 e3 = (x4, a4, e4)) (h5 : Av xs (min x4.toNat 17) a4 e4 = (ls, a5, e5)) (h6 : blkR xs a5 e5 = (o, a6, e6)) (h7 : takR xs 64 a6 e6 = (l7, a7, e7)) (he4 : e4 = 0) (hm : x4.toNat ≤ 16) : Meets Tryz.prog 153 [.slice pa n c] [] (fun W => SeesP W pa (Aa xs)) (fun v out => ∃ B : Block, B.ok ∧ v = .tuple #[agg B.cells, i64 (B3 xs).2] ∧ ∀ W2, Lies out W2 → BlockIs W2 B (B3 xs).1) := by
 intro W hW
 subst he4
 have hrp : Cm xs = ((⟨l1, x2, l3, ls, o.getD [], l7 ++ (List.replicate 64 0).drop l7.length⟩ : DB), a7, e7) := by simp only [Cm, h1, h2, h3, h4, h5, h6, h7]
 have hd1 := Cc h1 hl (Nat.zero_le _)
 have hd2 := Bm h2 hl hd1.1
 have hd3 := Cc h3 hl hd2
 have hd4 := Bm h4 hl hd3.1
 have hd5 := digsR_at (e := 0) hl hd4 (min x4.toNat 17)
 rw [h5] at hd5
 have hd6 := blkE_le h6 hl hd5.1
 have hd7 := takE_le h7 hl hd6.1
 have hs64 : (l7 ++ Block.zero.fSig.drop l7.length).length = 64 := by rcases hd7.2 with h | h <;> simp [h, Block.zero]
 have hlen7 : l7.length ≤ 64 := by rcases hd7.2 with h | h <;> simp [h]
 have ok1 : ({ Block.zero with fWriter := l1 } : Block).ok := ⟨hd1.2, rfl, rfl⟩
 have ok2 : ({ Block.zero with fWriter := l1, fSeq := x2 } : Block).ok := ⟨hd1.2, rfl, rfl⟩
 have okL : ∀ s, ({ Block.zero with fWriter := l1, fSeq := x2, fPrev := l3, fLinks := s } : Block).ok := fun s => ⟨hd1.2, hd3.2, rfl⟩
 have okD : ∀ s d, ({ Block.zero with fWriter := l1, fSeq := x2, fPrev := l3, fLinks := s, fData := d } : Block).ok := fun s d => ⟨hd1.2, hd3.2, rfl⟩
 have okX : ∀ s2 s3, ({ Block.zero with fWriter := l1, fSeq := x2, fPrev := l3, fLinks := s2, fData := s3, fSig := l7 ++ Block.zero.fSig.drop l7.length } : Block).ok := fun s2 s3 => ⟨hd1.2, hd3.2, hs64⟩
 refine Ag Tryz.func153 J 62 Tryz.ntmps153 J (G2 ?_)
 refine .alloc (cs := Block.zero.cells) J Block.zr J ?_
 intro n2 hn2 hf2
 refine G6 ?_
 refine .call4 J J J J J Body135 (r1_Read pa n c xs hl hp hn) (fun w h => Ao h J hW) ?_
 rintro v9 out9 ⟨n9, q9, cp9, rfl, hcp9, rfl⟩
 refine .nd (fun hnd => ?_)
 have hne : q9 ≠ n9 := by intro e; simp [R1B, e] at hnd
 clear hnd
 refine G5 ?_
 refine .alloc (cs := Block.zero.cells) J Block.zr J ?_
 intro n5 hn5 hf5
 refine G5 ?_
 refine .callL (L := [R1B n9 q9 (0) n cp9 (0) (0)]) J J J J J Body215 (r1_DigestE n9 q9 0 n cp9 0 0 xs hl (Nat.zero_le _) hcp9 oM (fun _ => rfl) l1 a1 e1 h1) (Ac rM Ae) (Ay J) (fun w h => ⟨Ak h Z1, Aj h Z2, hne⟩) ?_
 rintro v11 out11 ⟨o11, ho11, rfl, rfl⟩
 refine G1 ?_
 refine .storeN (Aa _) J J J J J zE Sz75 (by simp [hd1.2]) Z1 (by rw [Block.length (by exact Block.zero_ok)]; simp [hd1.2]) (Block.upd_fWriter (by exact Block.zero_ok) _ (by simp [hd1.2])) zV ?_
 refine G5 ?_
 refine .callL (L := [R1B n9 q9 (o11) n cp9 (a1) (e1)]) J J J J J Body138 (Cb n9 q9 o11 n cp9 a1 e1 xs hl hd1.1 hcp9 oM ho11 x2 a2 e2 h2) (Ac rM Ae) (Ay J) (fun w h => ⟨Ak h Z0, Aj h Z2, hne⟩) ?_
 rintro v14 out14 ⟨o14, ho14, rfl, rfl⟩
 refine G7 ?_
 refine .callL (L := [R1B n9 q9 (o14) n cp9 (a2) (e2)]) J J J J J Body215 (r1_DigestE n9 q9 o14 n cp9 a2 e2 xs hl hd2 hcp9 oM ho14 l3 a3 e3 h3) (Ac rM Ae) (Ay J) (fun w h => ⟨Ak h Z0, Aj h Z2, hne⟩) ?_
 rintro v17 out17 ⟨o17, ho17, rfl, rfl⟩
 refine G1 ?_
 refine .storeN (Aa _) J J J J J zE Sz50 (by simp [hd3.2]) Z1 (by rw [Block.length zA]; simp [hd3.2]) (Block.upd_fPrev zA _ (by simp [hd3.2])) zV ?_
 refine G5 ?_
 refine .callL (L := [R1B n9 q9 (o17) n cp9 (a3) (e3)]) J J J J J Body138 (Cb n9 q9 o17 n cp9 a3 e3 xs hl hd3.1 hcp9 oM ho17 x4 a4 0 h4) (Ac rM Ae) (Ay J) (fun w h => ⟨Ak h Z0, Aj h Z2, hne⟩) ?_
 rintro v20 out20 ⟨o20, ho20, rfl, rfl⟩
 refine G10 ?_
 refine .nei J J J J (show (!decide _) = false from congrArg not (decide_eq_true (rfl))) (G2 ?_)
 refine .gtr J J J J (decide_eq_false oM) (G3 ?_)
 refine .cond_f J (rfl) (G9 ?_)
 refine .loop (ι := Nat × Nat × Sl × List Blk) (fun p => ⟨[(2, ptr n2 0), (4, ptr n9 0), (5, ptr n5 0), (6, u64 x4), (7, i64 (p.1 : Int))], (R1B n9 q9 p.2.1 n cp9 (Av xs p.1 a4 0).2.1 (Av xs p.1 a4 0).2.2 :: (⟨q9, Aa xs, 5, cp9 * 1⟩ :: (⟨n5, ({ Block.zero with fWriter := l1, fSeq := x2, fPrev := l3, fLinks := p.2.2.1 } : Block).cells, 79, 131⟩ :: (⟨n2, Block.zero.cells, 79, 131⟩ :: (p.2.2.2 ++ [])))))⟩) (fun p => p.1 ≤ x4.toNat ∧ At1 cp9 (Av xs p.1 a4 0).2.1 p.2.1 ∧ Acc p.2.2.1 p.2.2.2 (Bs (Av xs p.1 a4 0).1) 50 p.1 32) (fun p => x4.toNat - p.1) ((0, o20, Sl.nil, [])) ?_ ?_ ?_
 · exact ⟨Nat.zero_le _, ho20, Acc.none⟩
 · exact Af (wk1 rfl (wk1 rfl (wk1 rfl (wk1 rfl (wk1 rfl wk0))))) (Ac rM (Ac rM (Ac rM (Ac rM (Bh Ae)))))
 rintro p ⟨hp1, hop, hac⟩
 have hD := digsR_at (e := 0) hl hd4 p.1
 obtain ⟨l8, r8, hd8⟩ : ∃ l r, Cf xs (Av xs p.1 a4 0).2.1 (Av xs p.1 a4 0).2.2 = (l, r) := ⟨_, _, rfl⟩
 obtain ⟨a8, e8⟩ := r8
 have hdl := Cc hd8 hl hD.1
 have hs8 := digsR_succ hd8
 refine G5 ?_
 refine .conv J J J Y48.h Y3.h (cv_u64_i64 oM) (G3 ?_)
 refine .condP J (fun hc1 => ?_) (fun hc1 => ?_)
 ·
  have hp3 : p.1 < x4.toNat := by omega
  refine G4 ?_
  refine .drawK (sp_v (sp_v (sp_k (sp_v (sp_x sp_n))))) J [(0, 0), (0, 1), (0, 2), (4, 3), (2, 4), (4, 5), (0, 6)] [(4, 7)] Ba zK zK (G1 ?_)
  refine .kload1 J J J Y51.h J Z0 (by exact Block.get_fLinks (by exact okL _)) ?_
  refine G1 ?_
  refine .callL (L := [R1B n9 q9 p.2.1 n cp9 (Av xs p.1 a4 0).2.1 (Av xs p.1 a4 0).2.2]) J J J J J Body215 (r1_DigestE n9 q9 p.2.1 n cp9 (Av xs p.1 a4 0).2.1 (Av xs p.1 a4 0).2.2 xs hl hD.1 hcp9 oM hop l8 a8 e8 hd8) (Ac rM Ae) (Ay J) (fun w h => ⟨Ak h Z0, Aj h Z1, hne⟩) ?_
  rintro v40 out40 ⟨o40, ho40, rfl, rfl⟩
  refine .mkRow2 (z := agg (Aa (List.replicate 32 0))) [agg (Aa l8)] (Aa l8) J J Y51.h Sz50 Zr50 J J (by intro v hv; rw [List.mem_singleton.1 hv]; simp [Value.cells, hdl.2]) dE (by simp [Value.cells]) ?_
  intro q41
  refine .appendAcc (z := agg (Aa (List.replicate 32 0))) (by' := 32) (Aa l8) J J J J J Y51.h Y51.h Sz50 Zr50 (by unfold By; kernel_rfl) J hac sG (fun w h => SeesP.of (Aj h Z0)) (fun e => by cases e) (As _) oM oM (by simp [Aa, hdl.2]) ?_
  intro s42 bl42 hac42
  refine G2 ?_
  refine .s1 J J J J J Sz51 Z0 (by rw [Block.length (by exact okL _)]; decide) (by exact Block.set_fLinks (by exact okL _) _) zU ?_
  refine G9 ?_
  refine ⟨(p.1 + 1, o40, s42, bl42), ⟨by simp only []; omega, by simp only [hs8]; exact ho40, ?_⟩, by simp only []; omega, Af (wk1 J (wk1 J (wk1 J (wk1 J (wk1 (by rw [Int.natCast_add]; rfl) wk0))))) (pm_consE rM (by simp only [hs8]) J (Ac rM (Ac rM (Ac rM (Ab sG Ae)))))⟩
  simp only [hs8]
  rw [flatB_append]
  simpa [Bs] using hac42
 have hp3 : p.1 = min x4.toNat 17 := by omega
 rw [hp3, h5] at hac hop
 rw [hp3, h5]
 have hlp : ls.length = min x4.toNat 17 := hd5.2.2
 refine G8 ?_
 refine .callL (L := [R1B n9 q9 p.2.1 n cp9 a5 e5]) J J J J J Body137 (r1_BlockE n9 q9 p.2.1 n cp9 a5 e5 xs hl hd5.1 hcp9 oM hop o a6 e6 h6) (Ac rM Ae) (Ay J) (fun w h => ⟨Ak h Z0, Aj h Z1, hne⟩) ?_
 rintro v45 out45 ⟨s45, bl45, o45, ho45, rfl, hac45, rfl⟩
 simp only [List.append_assoc, List.cons_append, List.nil_append]
 refine G1 ?_
 refine .s1 J J J J J Sz58 mR (by rw [Block.length (by exact okL _)]; decide) (by exact Block.set_fData (by exact okL _) _) uU ?_
 refine G3 ?_
 refine .draw [(0, 0), (0, 1), (0, 2), (4, 3), (4, 4)] Ba zK (G3 ?_)
 refine .callL (L := [R1B n9 q9 o45 n cp9 a6 e6]) J J J J J Body216 (r1_TakeE n9 q9 o45 n cp9 a6 e6 64 dE dE xs hl hd6.1 hcp9 oM ho45 l7 a7 e7 h7) (Ac (by repeat (first | exact Az | apply rem_seg)) Ae) (Ay J) (fun w h => ⟨Ak h mR, Aj h mR, hne⟩) ?_
 rintro v50 out50 ⟨s50, bl50, o50, ho50, rfl, hac50, rfl⟩
 simp only [List.append_assoc, List.cons_append, List.nil_append]
 refine .copyP (Aa l7) l7.length J J J J J Y58.h Sz5 (fun w h => hac50.see (Lies.of h (by repeat (exact Aq)))) (fun e => hac50.nil e) (by simp [Aa, hac50.num]) (by rw [hac50.num]; omega) (List.take_of_length_le (by simp [Aa])) (As _) mR (by rw [Block.length (okD _ _)]; show 67 + l7.length ≤ 131; omega) (upd_sig (okD _ _) hd7.2) uU ?_
 refine G6 ?_
 refine .cV J J J J Body140 (r1_End n9 q9 o50 n cp9 a7 e7 hd7.1 oM) (fun w h => Ak h mR) ?_
 refine two (fun r hr k => Tr.nei J J J J hr k) (fun hs15_20 => ?_) (fun hs15_20 => ?_)
 ·
  have hs15_2 := nd_t hs15_20
  refine G7 ?_
  refine .cond_t J J (G2 ?_)
  refine .build (cs := Block.zero.cells) J J J (fun w => by kernel_rfl) ?_
  refine G7 ?_
  refine Ah (out := (p.2.2.2 ++ (bl45 ++ []))) (Am J J J Y79.h J Sz79 mR (by exact Block.length (by exact Block.zero_ok))) (Ab sG (Ab sG Ae)) ?_
  first
   | exact fin_bad (by rw [hrp, hl]; exact fun h => hs15_2 h.1)
   | exact fin_bad (by rw [hrp, ← bcheck_D (B := ({ Block.zero with fWriter := l1, fSeq := x2, fPrev := l3, fLinks := p.2.2.1, fData := s45, fSig := l7 ++ Block.zero.fSig.drop l7.length } : Block)) rfl rfl (by rw [hac.num]; exact hlp.symm) hac45.num]; exact fun h => hc2 h.2)
   | exact fin_ok (by rw [hrp, hl, ← bcheck_D (B := ({ Block.zero with fWriter := l1, fSeq := x2, fPrev := l3, fLinks := p.2.2.1, fData := s45, fSig := l7 ++ Block.zero.fSig.drop l7.length } : Block)) rfl rfl (by rw [hac.num]; exact hlp.symm) hac45.num]; exact ⟨hs15_2, hc2⟩) (okX _ _) (fun W2 h2 => by
     rw [hrp]
     exact ⟨okX _ _, rfl, rfl, rfl, acc_rows hac (h2.sub Aq) hd5.2.1 hlp oM, Ci hac45 (h2.sub (Ce Aq)) rfl (by have := hd6.2; omega), rfl⟩)
 have hs15_2 := nd_f hs15_20
 refine G1 ?_
 refine .lA J J J Y79.h J Sz79 mR (Block.length (by exact okX _ _)) ?_
 refine .cV J J J J Body154 (r15_check ({ Block.zero with fWriter := l1, fSeq := x2, fPrev := l3, fLinks := p.2.2.1, fData := s45, fSig := l7 ++ Block.zero.fSig.drop l7.length } : Block) (okX _ _) ls) (fun w h => acc_rows hac (Lies.of h (by repeat (first | exact Aq | refine in_there ?_ | refine Ce ?_))) hd5.2.1 hlp oM) ?_
 refine G4 ?_
 refine .condNP J (fun hc2 => ?_) (fun hc2 => ?_)
 ·
  refine G2 ?_
  refine .build (cs := Block.zero.cells) J J J (fun w => by kernel_rfl) ?_
  refine G7 ?_
  refine Ah (out := (p.2.2.2 ++ (bl45 ++ []))) (Am J J J Y79.h J Sz79 mR (by exact Block.length (by exact Block.zero_ok))) (Ab sG (Ab sG Ae)) ?_
  first
   | exact fin_bad (by rw [hrp, hl]; exact fun h => hs15_2 h.1)
   | exact fin_bad (by rw [hrp, ← bcheck_D (B := ({ Block.zero with fWriter := l1, fSeq := x2, fPrev := l3, fLinks := p.2.2.1, fData := s45, fSig := l7 ++ Block.zero.fSig.drop l7.length } : Block)) rfl rfl (by rw [hac.num]; exact hlp.symm) hac45.num]; exact fun h => hc2 h.2)
   | exact fin_ok (by rw [hrp, hl, ← bcheck_D (B := ({ Block.zero with fWriter := l1, fSeq := x2, fPrev := l3, fLinks := p.2.2.1, fData := s45, fSig := l7 ++ Block.zero.fSig.drop l7.length } : Block)) rfl rfl (by rw [hac.num]; exact hlp.symm) hac45.num]; exact ⟨hs15_2, hc2⟩) (okX _ _) (fun W2 h2 => by
     rw [hrp]
     exact ⟨okX _ _, rfl, rfl, rfl, acc_rows hac (h2.sub Aq) hd5.2.1 hlp oM, Ci hac45 (h2.sub (Ce Aq)) rfl (by have := hd6.2; omega), rfl⟩)
 refine G4 ?_
 refine .lA J J J Y79.h J Sz79 mR (Block.length (by exact okX _ _)) ?_
 refine .sA J J J J (Block.isCell (by exact okX _ _)) Sz79 (Block.length (by exact okX _ _)) mR (Block.length (by exact Block.zero_ok)) uU ?_
 refine G5 ?_
 refine Ah (out := (p.2.2.2 ++ (bl45 ++ []))) (Am J J J Y79.h J Sz79 mR (by exact Block.length (by exact okX _ _))) (Ab sG (Ab sG Ae)) ?_
 first
  | exact fin_bad (by rw [hrp, hl]; exact fun h => hs15_2 h.1)
  | exact fin_bad (by rw [hrp, ← bcheck_D (B := ({ Block.zero with fWriter := l1, fSeq := x2, fPrev := l3, fLinks := p.2.2.1, fData := s45, fSig := l7 ++ Block.zero.fSig.drop l7.length } : Block)) rfl rfl (by rw [hac.num]; exact hlp.symm) hac45.num]; exact fun h => hc2 h.2)
  | exact fin_ok (by rw [hrp, hl, ← bcheck_D (B := ({ Block.zero with fWriter := l1, fSeq := x2, fPrev := l3, fLinks := p.2.2.1, fData := s45, fSig := l7 ++ Block.zero.fSig.drop l7.length } : Block)) rfl rfl (by rw [hac.num]; exact hlp.symm) hac45.num]; exact ⟨hs15_2, hc2⟩) (okX _ _) (fun W2 h2 => by
    rw [hrp]
    exact ⟨okX _ _, rfl, rfl, rfl, acc_rows hac (h2.sub Aq) hd5.2.1 hlp oM, Ci hac45 (h2.sub (Ce Aq)) rfl (by have := hd6.2; omega), rfl⟩)
theorem r15_Read (p : Option Addr) (n c : Nat) (xs : List UInt8) (hl : xs.length = n) (hp : p = none → n = 0) (hn : n ≤ 90000) : Meets Tryz.prog 153 [.slice p n c] [] (fun W => SeesP W p (Aa xs)) (fun v out => ∃ B : Block, B.ok ∧ v = .tuple #[agg B.cells, i64 (B3 xs).2] ∧ ∀ W2, Lies out W2 → BlockIs W2 B (B3 xs).1) := by
  obtain ⟨l1, r1, h1⟩ : ∃ l r, Cf xs 0 0 = (l, r) := ⟨_, _, rfl⟩
  obtain ⟨a1, e1⟩ := r1
  obtain ⟨x2, r2, h2⟩ : ∃ l r, A5 xs a1 e1 = (l, r) := ⟨_, _, rfl⟩
  obtain ⟨a2, e2⟩ := r2
  obtain ⟨l3, r3, h3⟩ : ∃ l r, Cf xs a2 e2 = (l, r) := ⟨_, _, rfl⟩
  obtain ⟨a3, e3⟩ := r3
  obtain ⟨x4, r4, h4⟩ : ∃ l r, A5 xs a3 e3 = (l, r) := ⟨_, _, rfl⟩
  obtain ⟨a4, e4⟩ := r4
  obtain ⟨ls, r5, h5⟩ : ∃ l r, Av xs (min x4.toNat 17) a4 e4 = (l, r) := ⟨_, _, rfl⟩
  obtain ⟨a5, e5⟩ := r5
  obtain ⟨o, r6, h6⟩ : ∃ l r, blkR xs a5 e5 = (l, r) := ⟨_, _, rfl⟩
  obtain ⟨a6, e6⟩ := r6
  obtain ⟨l7, r7, h7⟩ : ∃ l r, takR xs 64 a6 e6 = (l, r) := ⟨_, _, rfl⟩
  obtain ⟨a7, e7⟩ := r7
  by_cases he : e4 = 0
  · rcases Nat.lt_or_ge 16 x4.toNat with h | h
    · exact r15_Read_m p n c xs hl hp hn l1 a1 e1 x2 a2 e2 l3 a3 e3 x4 a4 e4 ls a5 e5 o a6 e6 l7 a7 e7 h1 h2 h3 h4 h5 h6 h7 he h
    · exact r15_Read_k p n c xs hl hp hn l1 a1 e1 x2 a2 e2 l3 a3 e3 x4 a4 e4 ls a5 e5 o a6 e6 l7 a7 e7 h1 h2 h3 h4 h5 h6 h7 he h
  · exact r15_Read_e p n c xs hl hp hn l1 a1 e1 x2 a2 e2 l3 a3 e3 x4 a4 e4 ls a5 e5 o a6 e6 l7 a7 e7 h1 h2 h3 h4 h5 h6 h7 he

end Go.Proofs.YtdifpjmfabhpiaaGreat
end

section
namespace Go.Proofs.YtdifpjmfabhpiaaGreat
open Go Hw

def DMsg.has (D : DMsg) (k : Int) : Prop := ¬ andI (partsI D.dKind) k = 0
open Classical in
noncomputable def mB1 (D : DMsg) : List UInt8 := if D.has 1 then [Hw.Cg D.dKind] ++ A6 D.dHeight else [Hw.Cg D.dKind]
open Classical in
noncomputable def mB2 (D : DMsg) : List UInt8 := if D.has 2 then mB1 D ++ A6 (UInt64.ofNat D.dHeads.length) ++ D.dHeads.flatten else mB1 D
open Classical in
noncomputable def mB3 (D : DMsg) : List UInt8 := if D.has 4 then mB2 D ++ A6 (UInt64.ofNat D.dWant.length) ++ D.dWant.flatten else mB2 D
open Classical in
noncomputable def mB4 (D : DMsg) : List UInt8 := if D.has 8 then mB3 D ++ A6 (UInt64.ofNat D.dBlocks.length) ++ B4 A7 D.dBlocks else mB3 D
open Classical in
noncomputable def mB5 (D : DMsg) : List UInt8 := if D.has 16 then mB4 D ++ A6 (UInt64.ofNat D.dVotes.length) ++ B4 A0 D.dVotes else mB4 D
open Classical in
noncomputable def mB6 (D : DMsg) : List UInt8 := if D.has 32 then mB5 D ++ A6 (UInt64.ofNat D.dCuts.length) ++ B4 Bp D.dCuts else mB5 D
open Classical in
noncomputable def msgB (D : DMsg) : List UInt8 := if D.has 64 then mB6 D ++ A6 (UInt64.ofNat D.dCerts.length) ++ B4 Bd D.dCerts else mB6 D
structure DMsg.oks (D : DMsg) : Prop where
  h : ∀ l ∈ D.dHeads, l.length = 32
  w : ∀ l ∈ D.dWant, l.length = 32
  b : ∀ d ∈ D.dBlocks, d.ok
  v : ∀ d ∈ D.dVotes, d.ok
  c : ∀ d ∈ D.dCuts, d.dPrev.length = 32 ∧ ∀ l ∈ d.dHeads, l.length = 32
  e : ∀ d ∈ D.dCerts, (d.dCut.dPrev.length = 32 ∧ ∀ l ∈ d.dCut.dHeads, l.length = 32) ∧ ∀ v ∈ d.dVotes, v.ok
structure DMsg.Sizes (D : DMsg) : Prop where
  h : D.dHeads.length ≤ 32
  w : D.dWant.length ≤ 32
  b : D.dBlocks.length ≤ 8
  v : D.dVotes.length ≤ 20
  c : D.dCuts.length ≤ 4
  e : D.dCerts.length ≤ 2
  gb : ∀ d ∈ D.dBlocks, d.check = 0
  gv : ∀ d ∈ D.dVotes, Ap d = 0
  gc : ∀ d ∈ D.dCuts, d.check = 0
  ge : ∀ d ∈ D.dCerts, d.check = 0
  height : D.dHeight.toNat ≤ 4294967295
  part : ¬ partsI D.dKind = 0
  fit : andNotI D.used (partsI D.dKind) = 0
  some : ¬ (¬ D.dKind = 1 ∧ ¬ D.dKind = 2 ∧ D.used = 0)
structure BSz (D : DMsg) : Prop where
  b1 : (mB1 D).length ≤ 10
  b2 : (mB2 D).length ≤ 1043
  b3 : (mB3 D).length ≤ 2076
  b4 : (mB4 D).length ≤ 11757
  b5 : (mB5 D).length ≤ 15226
  b6 : (mB6 D).length ≤ 23271
  b7 : (msgB D).length ≤ 33298
theorem flat32 {ls : List (List UInt8)} (h : ∀ l ∈ ls, l.length = 32) : ls.flatten.length = ls.length * 32 := by
  have := Bn h (Nat.le_refl ls.length)
  rwa [List.take_length] at this
end Go.Proofs.YtdifpjmfabhpiaaGreat
end

section
namespace Go.Proofs.YtdifpjmfabhpiaaGreat
open Go Hw

theorem cmpB_ge0 : ∀ (a : List UInt8) (n : Nat), a.length = n → 0 ≤ cmpB a (List.replicate n 0)
  | [], n, h => by
    obtain rfl : n = 0 := by simpa using h.symm
    simp [cmpB, Go.Lib.compareBytes]
  | x :: a, 0, h => by simp at h
  | x :: a, n + 1, h => by
    rw [List.replicate_succ]
    by_cases hx : x = 0
    · subst hx
      rw [cmpB_same]
      exact cmpB_ge0 a n (by simpa using h)
    · rw [cmpB_other hx]
      unfold cmpI
      have : (0 : UInt8).toNat = 0 := rfl
      split
      · omega
      · split <;> omega
theorem cmpB_lt0 : ∀ (b : List UInt8) (n : Nat), b.length = n → ¬ b = List.replicate n 0 → cmpB (List.replicate n 0) b < 0
  | [], n, h, hz => by
    obtain rfl : n = 0 := by simpa using h.symm
    exact absurd rfl hz
  | x :: b, 0, h, _ => by simp at h
  | x :: b, n + 1, h, hz => by
    rw [List.replicate_succ] at hz ⊢
    by_cases hx : x = 0
    · subst hx
      rw [cmpB_same]
      exact cmpB_lt0 b n (by simpa using h) (fun e => hz (by rw [e]))
    · rw [cmpB_other (Ne.symm hx)]
      unfold cmpI
      have h0 : (0 : UInt8).toNat = 0 := rfl
      have h1 : x.toNat ≠ 0 := fun e => hx (UInt8.toNat_inj.1 (by rw [e]; rfl))
      rw [if_pos oM]
      decide
theorem head_zero {ls : List (List UInt8)} {k : Nat} (hl : ∀ l ∈ ls, l.length = 32) (hk : k < ls.length) (h : ls.getD k [] = List.replicate 32 0) : headBad ls k = true := by
  unfold headBad
  rw [h]
  exact decide_eq_true (cmpB_ge0 _ 32 (lastH_length hl oM))
theorem head_first {ls : List (List UInt8)} (hl : ∀ l ∈ ls, l.length = 32) (hk : 0 < ls.length) (h : ¬ ls.getD 0 [] = List.replicate 32 0) : headBad ls 0 = false := by
  unfold headBad
  have e : lastH ls 0 = List.replicate 32 0 := if_pos rfl
  rw [e]
  have := cmpB_lt0 (ls.getD 0 []) 32 (Bg hl hk) h
  exact decide_eq_false oM
theorem head_next {ls : List (List UInt8)} {k : Nat} (hk : 0 < k) : headBad ls k = decide ((0 : Int) ≤ cmpB (ls.getD (k - 1) []) (ls.getD k [])) := by
  unfold headBad
  have e : lastH ls k = ls.getD (k - 1) [] := if_neg oM
  rw [e]

theorem r19_Check (C : Cut) (D : DCut) : Meets Tryz.prog 141 [agg C.cells] [] (fun W => CutIs W C D) (fun v out => v = i64 D.check ∧ out = []) := by
 intro W hW
 have hB := hW.ok
 have hcx : C.fHeads.n ≤ maxLen := hW.fHeads.max
 simp only [maxLen] at hcx
 have hcn := hW.fHeads.cap
 have hll := hW.fHeads.len
 have eH := hW.fHeight
 have eP := hW.fPrev
 refine Ag Tryz.func141 J 68 Tryz.ntmps141 J (G3 ?_)
 intro n1 hn1 hf1
 refine G5 ?_
 refine .alloc (cs := (Aa (List.replicate 32 0))) J Zr50 J ?_
 intro n3 hn3 hf3
 refine G4 ?_
 refine .draw [(0, 0), (1, 1), (0, 2), (0, 3), (0, 4), (1, 5), (0, 6), (0, 7), (0, 8), (0, 9), (1, 10), (1, 11), (0, 12), (0, 13), (1, 14), (0, 15), (0, 16), (0, 17), (0, 18), (0, 19), (1, 20), (0, 21), (0, 22), (0, 23), (0, 24), (0, 25), (1, 26), (0, 27), (0, 28), (0, 29)] Ba zK (G2 ?_)
 refine two (fun r hr k => Tr.lss J J J J hr k) (fun hs2_20 => ?_) (fun hs2_20 => ?_)
 ·
  have hs2_2 := of_decide_eq_true hs2_20
  refine G29 ?_
  refine .cond_t J J (G8 ?_)
  refine ⟨_, [], Ad J J, sP, sP, ?_, rfl⟩
  exact congrArg i64 (cut_bad1 (by unfold cheadB; simp_all; try omega)).symm
 have hs2_2 := of_decide_eq_false hs2_20
 refine G3 ?_
 refine two (fun r hr k => Tr.geq J J J J hr k) (fun hs2_60 => ?_) (fun hs2_60 => ?_)
 ·
  have hs2_6 := of_decide_eq_true hs2_60
  refine G25 ?_
  refine .cond_t J J (G8 ?_)
  refine ⟨_, [], Ad J J, sP, sP, ?_, rfl⟩
  exact congrArg i64 (cut_bad1 (by unfold cheadB; simp_all; try omega)).symm
 have hs2_6 := of_decide_eq_false hs2_60
 refine G3 ?_
 refine .lN (Aa _) J J J Y50.h J Sz50 Z1 (Cut.row_fPrev zA) (Cut.rl_fPrev zA) ?_
 refine .lA J J J Y50.h J Sz50 Z0 sP ?_
 refine .eql_bytes J J J J Tryz.eqGuardType50 Y50.h Y5.h Sz5 (by (simp [hB.l_fPrev]; done)) sP J ?_
 refine G3 ?_
 refine two (fun r hr k => Tr.neb J J J J Y4 hr k) (fun hs2_160 => ?_) (fun hs2_160 => ?_)
 ·
  have hs2_16 := nd_t hs2_160
  refine G15 ?_
  refine .cond_t J J (G8 ?_)
  refine ⟨_, [], Ad J J, sP, sP, ?_, rfl⟩
  exact congrArg i64 (cut_bad1 (by unfold cheadB; simp_all; try omega)).symm
 have hs2_16 := nd_f hs2_160
 refine G5 ?_
 refine two (fun r hr k => Tr.lss J J J J hr k) (fun hs2_220 => ?_) (fun hs2_220 => ?_)
 ·
  have hs2_22 := of_decide_eq_true hs2_220
  refine G9 ?_
  refine .cond_t J J (G8 ?_)
  refine ⟨_, [], Ad J J, sP, sP, ?_, rfl⟩
  exact congrArg i64 (cut_bad1 (by unfold cheadB; simp_all; try omega)).symm
 have hs2_22 := of_decide_eq_false hs2_220
 refine G9 ?_
 refine .condP J (fun hc0 => ?_) (fun hc0 => ?_)
 ·
  refine G8 ?_
  refine ⟨_, [], Ad J J, sP, sP, ?_, rfl⟩
  exact congrArg i64 (cut_bad1 (by unfold cheadB; simp_all; try omega)).symm
 have hnb : ¬ cheadB D.dHeight D.dPrev D.dHeads.length = true := by unfold cheadB; simp_all; try omega
 refine G9 ?_
 refine .loop (ι := Nat) (fun k => ⟨[(1, ptr n1 0), (3, ptr n3 0), (4, i64 (k : Int))], [⟨n3, Aa (List.replicate 32 0), 50, 32⟩, ⟨n1, C.cells, 53, C.cells.length⟩]⟩) (fun k => k ≤ C.fHeads.n ∧ ∀ j, j < k → headBad D.dHeads j = false) (fun k => C.fHeads.n - k) (0) ?_ ?_ ?_
 · exact ⟨by omega, fun j hj => by omega⟩
 · exact Ai (wk1 rfl (wk1 rfl (wk1 rfl wk0))) (wh1 Z0 (wh1 Z1 wh0)) nD
 rintro k ⟨hk, hg⟩
 refine G10 ?_
 refine .condP J (fun hc1 => ?_) (fun hc1 => ?_)
 ·
  have hk2 : k < C.fHeads.n := by omega
  obtain ⟨b, o, hbp, hbs⟩ := hW.fHeads.see.at (by rw [Bi hW.fHeads.row]; omega)
  have hr0 : (D.dHeads.getD k []).length = 32 := Bg hW.fHeads.row oM
  have hr1 : (D.dHeads.getD (k - 1) []).length = 32 := Bg hW.fHeads.row oM
  refine G2 ?_
  refine .join (ι := Unit) (fun _u => ⟨[(1, ptr n1 0), (3, ptr n3 0), (4, i64 (k : Int))], [⟨n3, Aa (List.replicate 32 0), 50, 32⟩, ⟨n1, C.cells, 53, C.cells.length⟩]⟩) (fun _u => headBad D.dHeads k = false) ?_ ?_
  ·
   refine G2 ?_
   refine .draw [(0, 0), (1, 1), (0, 2), (0, 3), (1, 4), (1, 5), (0, 6), (0, 7), (0, 8), (0, 9), (0, 10), (0, 11), (1, 12), (0, 13), (0, 14), (0, 15), (1, 16), (0, 17), (1, 18), (0, 19), (0, 20), (1, 21), (3, 22), (0, 23), (0, 24), (0, 25)] Ba zK (G3 ?_)
   refine .idxSlP 32 J J J hbp J Y51.h Sz50 k J oM (.loadEN (Aa (D.dHeads.getD (k) [])) J J J Y50.h J Sz50 sP (by rw [Aa, List.length_map]; exact Bg hW.fHeads.row (by rw [hW.fHeads.len]; omega)) (sees_row hW.fHeads.row hbs (by rw [hW.fHeads.len]; omega)) ?_)
   refine .lA J J J Y50.h J Sz50 Z0 sP ?_
   refine two (fun r hr k => Tr.eql_bytes J J J J Tryz.eqGuardType50 Y50.h Y5.h Sz5 zA sP hr k) (fun hs7_60 => ?_) (fun hs7_60 => ?_)
   ·
    have hs7_6 := of_decide_eq_true hs7_60
    refine G21 ?_
    refine .cond_t J J (G12 ?_)
    refine ⟨_, [], Ad J J, sP, sP, ?_, rfl⟩
    exact congrArg i64 (cut_bad2 hnb (headsBad_at (k := k) oM (head_zero hW.fHeads.row oM zA))).symm
   have hs7_6 := of_decide_eq_false hs7_60
   refine G2 ?_
   refine two (fun r hr k => Tr.gtr J J J J hr k) (fun hs7_90 => ?_) (fun hs7_90 => ?_)
   ·
    have hs7_9 := of_decide_eq_true hs7_90
    refine G5 ?_
    refine .idxSlP 32 J J J hbp J Y51.h Sz50 (k - 1) oM oM (.loadEN (Aa (D.dHeads.getD (k - 1) [])) J J J Y50.h J Sz50 sP (by rw [Aa, List.length_map]; exact Bg hW.fHeads.row (by rw [hW.fHeads.len]; omega)) (sees_row hW.fHeads.row hbs (by rw [hW.fHeads.len]; omega)) ?_)
    refine G3 ?_
    refine .idxSlP 32 J J J hbp J Y51.h Sz50 k J oM (.loadEN (Aa (D.dHeads.getD (k) [])) J J J Y50.h J Sz50 sP (by rw [Aa, List.length_map]; exact Bg hW.fHeads.row (by rw [hW.fHeads.len]; omega)) (sees_row hW.fHeads.row hbs (by rw [hW.fHeads.len]; omega)) ?_)
    refine .cV J J J J Body144 (r15_cmp _ _ hr1 hr0) tV (G5 ?_)
    refine .condP J (fun hc2 => ?_) (fun hc2 => ?_)
    ·
     refine G12 ?_
     refine ⟨_, [], Ad J J, sP, sP, ?_, rfl⟩
     exact congrArg i64 (cut_bad2 hnb (headsBad_at (k := k) oM ((head_next oM).trans (decide_eq_true oM)))).symm
    refine G3 ?_
    refine ⟨(), by exact (head_next oM).trans (decide_eq_false oM), Ai (wk1 J (wk1 J (wk1 J wk0))) (wh1 Z0 (wh1 Z1 wh0)) nD⟩
   have hs7_9 := of_decide_eq_false hs7_90
   refine G18 ?_
   refine .cond_f J J (G3 ?_)
   refine ⟨(), by (obtain rfl := (show k = 0 by omega); exact head_first hW.fHeads.row oM hs7_6), Ai (wk1 J (wk1 J (wk1 J wk0))) (wh1 Z0 (wh1 Z1 wh0)) nD⟩
  intro _u hj
  have hgk := hj
  refine G6 ?_
  exact ⟨k + 1, ⟨by omega, fun j hj => by rcases Nat.lt_succ_iff_lt_or_eq.1 hj with h | rfl; exact hg j h; exact hgk⟩, by omega, Ai (wk1 rfl (wk1 rfl (wk1 (by rw [Int.natCast_add]; rfl) wk0))) (wh1 Z0 (wh1 Z1 wh0)) nD⟩
 obtain rfl : k = C.fHeads.n := by omega
 refine G12 ?_
 refine ⟨_, [], Ad J J, sP, sP, ?_, rfl⟩
 exact congrArg i64 (cut_good hnb (headsBad_not (by rw [hll]; exact hg))).symm
theorem cut_two {D : DCut} (h : ¬ D.check = 0) : D.check = 2 := by
  unfold DCut.check at h ⊢
  split
  · rfl
  · split
    · rfl
    · rename_i h1 h2; rw [if_neg h1, if_neg h2] at h; exact absurd rfl h

theorem r19_Bytes (C : Cut) (D : DCut) : Meets Tryz.prog 131 [agg C.cells] [] (fun W => CutIs W C D) (fun v out => ∃ s, v = .tuple #[s.v, i64 D.check] ∧ Hw.Acc s out (Aa (Bp D)) 5 (Bp D).length 1) := by
 intro W hW
 have hB := hW.ok
 have hll := hW.fHeads.len
 have hz1 := A2 C.fHeight.toNat
 have hz2 := A2 (UInt64.ofNat C.fHeads.n).toNat
 have hz3 := A2 D.dHeight.toNat
 have hz4 := A2 (UInt64.ofNat D.dHeads.length).toNat
 have hb0 := DCut.body_len (hW.fPrev ▸ hB.l_fPrev) hW.fHeads.row (Nat.zero_le _)
 refine Ag Tryz.func131 J 36 Tryz.ntmps131 J (G3 ?_)
 intro n1 hn1 hf1
 refine G8 ?_
 refine .cV J J J J Body141 (r19_Check C D) (fun w h => hW.ext h J) (G3 ?_)
 refine .condNP J (fun hc0 => ?_) (fun hc0 => ?_)
 ·
  refine G9 ?_
  refine Ah (out := []) (A9 J J J) Ae ?_
  exact ⟨Sl.nil, by rw [cut_two hc0]; rfl, by rw [show Bp D = [] from if_neg hc0]; exact Acc.none⟩
 have hc : D.check = 0 := by omega
 have hsm := D.small hc
 refine G3 ?_
 refine .draw [(0, 0), (1, 1), (0, 3), (0, 4), (4, 2), (4, 5), (0, 6)] Ba zK (G4 ?_)
 refine .call4 J J J J J Body132 (r1_Number none 0 0 [] C.fHeight J (fun _ => rfl) dE) (fun _ _ => SeesP.nil) ?_
 rintro v11 out11 ⟨q11, c11, rfl, hc11, rfl⟩
 refine .appendAcc (z := u8 0) (by' := 1) (Aa C.fPrev) J J J J J Y58.h Y58.h Sz5 Zr5 (by unfold By; kernel_rfl) J (Acc.some (cells := Aa ([] ++ A6 C.fHeight)) hc11 (by simp [Ax])) sG (fun W2 W2h => SeesP.of (sees_part W2h Z1 (Cut.see_fPrev hB))) (fun e => by cases e) (As _) oM oM (by simp [hB.l_fPrev]) ?_
 intro s14 bl14 hac14
 refine G10 ?_
 have hn14 := hac14.num
 rw [word_nat (n := C.fHeads.n) oM]
 refine .call4 J J J J J Body132 (r1_Number s14.p s14.n s14.c ([] ++ A6 C.fHeight ++ C.fPrev) (UInt64.ofNat C.fHeads.n) (by rw [hn14, List.length_append, hB.l_fPrev]; simp [Ax]) (fun e => hac14.nil e) oM) (fun w h => by have := hac14.see (Lies.of h (by repeat (exact Aq))); rwa [← Bx] at this) ?_
 rintro v20 out20 ⟨q20, c20, rfl, hc20, rfl⟩
 rw [show s14.n + szN (UInt64.ofNat C.fHeads.n).toNat = szN D.dHeight.toNat + 32 + szN (UInt64.ofNat D.dHeads.length).toNat + 0 * 32 by rw [hn14, ← hW.fHeight, hll]; omega] at hc20 ⊢
 rw [show [] ++ A6 C.fHeight ++ C.fPrev ++ A6 (UInt64.ofNat C.fHeads.n) = D.body 0 by rw [DCut.body, hW.fHeight, hW.fPrev, hll]; simp]
 refine G10 ?_
 refine .loop (ι := Nat × Sl × List Blk) (fun p => ⟨[(1, ptr n1 0), (4, p.2.1.v), (5, i64 (p.1 : Int))], (p.2.2 ++ (⟨n1, C.cells, 53, C.cells.length⟩ :: []))⟩) (fun p => p.1 ≤ C.fHeads.n ∧ Hw.Acc p.2.1 p.2.2 (Aa (D.body p.1)) 5 (szN D.dHeight.toNat + 32 + szN (UInt64.ofNat D.dHeads.length).toNat + p.1 * 32) 1) (fun p => C.fHeads.n - p.1) ((0, ⟨some ⟨q20, 0, none⟩, szN D.dHeight.toNat + 32 + szN (UInt64.ofNat D.dHeads.length).toNat + 0 * 32, c20⟩, [⟨q20, Aa (D.body 0), 5, c20 * 1⟩])) ?_ ?_ ?_
 · exact ⟨Nat.zero_le _, Acc.some hc20 (by rw [Aa, List.length_map, hb0, Nat.mul_one])⟩
 · exact Af (wk1 rfl (wk1 rfl (wk1 rfl wk0))) (pm_one (Ac rM (Ac (by repeat (first | exact Az | apply rem_seg)) Ae)))
 rintro p ⟨hp1, hap⟩
 refine G10 ?_
 refine .condP J (fun hc1 => ?_) (fun hc1 => ?_)
 ·
  have hk2 : p.1 < C.fHeads.n := by omega
  obtain ⟨b, o, hbp, hbs⟩ := hW.fHeads.see.at (by rw [Bi hW.fHeads.row]; omega)
  have hr0 : (D.dHeads.getD p.1 []).length = 32 := Bg hW.fHeads.row oM
  refine G9 ?_
  refine .idxSlP 32 J J J hbp J Y51.h Sz50 p.1 J oM (G1 ?_)
  refine .appendAcc (z := u8 0) (by' := 1) (Aa (D.dHeads.getD p.1 [])) J J J J J Y58.h Y58.h Sz5 Zr5 (by unfold By; kernel_rfl) J hap sG (fun w h => Ao h J (SeesP.of (sees_row hW.fHeads.row hbs (by rw [hll]; omega)))) (fun e => by cases e) (As _) oM oM (by rw [Aa, List.length_map, hr0]) ?_
  intro s34 bl34 hac34
  refine G10 ?_
  refine ⟨(p.1 + 1, s34, bl34), ⟨by simp only []; omega, ?_⟩, by simp only []; omega, Af (wk1 J (wk1 J (wk1 (by rw [Int.natCast_add]; rfl) wk0))) (Ab sG (Ac rM Ae))⟩
  rw [show (szN D.dHeight.toNat + 32 + szN (UInt64.ofNat D.dHeads.length).toNat + (p.1 + 1) * 32) = (szN D.dHeight.toNat + 32 + szN (UInt64.ofNat D.dHeads.length).toNat + p.1 * 32) + 32 by omega, DCut.body_step oM, Bx]
  exact hac34
 have hpe : p.1 = C.fHeads.n := by omega
 refine G14 ?_
 refine Ah (out := (p.2.2 ++ [])) (A9 J J J) (Ab sG Ae) ?_
 refine ⟨p.2.1, by rw [hc], ?_⟩
 rw [show Bp D = D.bytes from if_pos hc]
 rw [hpe, ← hll] at hap
 rw [show D.bytes.length = szN D.dHeight.toNat + 32 + szN (UInt64.ofNat D.dHeads.length).toNat + D.dHeads.length * 32 from DCut.body_len (hW.fPrev ▸ hB.l_fPrev) hW.fHeads.row (Nat.le_refl _), List.append_nil]
 exact hap
theorem cons_of' {α : Type} {l : List α} {n : Nat} (h : l.length = n + 1) : ∃ a l', l = a :: l' ∧ l'.length = n := by
  cases l with
  | nil => simp at h
  | cons a l => exact ⟨a, l, rfl, by simpa using h⟩
theorem build_cut (x : UInt64) {l : List UInt8} (h : l.length = 32) (w : World) : (Instr.build 53 #[(0, u64 x), (1, agg (Aa l))]).run Tryz.prog w = .ok (agg ({ Cut.zero with fHeight := x, fPrev := l } : Cut).cells) w := by
  iterate 32 (obtain ⟨a, l, e, h2⟩ := cons_of' h; clear h; subst e; have h := h2; clear h2)
  obtain rfl := List.eq_nil_of_length_eq_zero h
  (refine Eq.trans ?_ rfl; kernel_rfl)
theorem digs_pos {xs : List UInt8} {a k : Nat} {e : Int} (ha : a ≤ xs.length) (h : (Av xs k a e).2.2 = 0) : (Av xs k a e).2.1 = a + 32 * k ∧ a + 32 * k ≤ xs.length := by
  obtain ⟨ls, p, hd⟩ : ∃ ls p, Av xs k a e = (ls, p) := ⟨_, _, rfl⟩
  obtain ⟨a1, e1⟩ := p
  have hat := digsR_at (xs := xs) (a := a) (N := xs.length) (e := e) rfl ha k
  rw [hd] at h hat ⊢
  simp only at h hat ⊢
  subst h
  obtain ⟨_, h2, h3⟩ := digs_bwd _ _ _ hd
  have h4 := congrArg List.length h3
  rw [List.length_append, List.length_drop, List.length_drop, flat32 hat.2.1, h2] at h4
  omega
theorem digs_more {xs : List UInt8} {a : Nat} {e : Int} (k : Nat) : ∀ m, ¬ (Av xs k a e).2.2 = 0 → ¬ (Av xs (k + m) a e).2.2 = 0
  | 0, h => h
  | m + 1, h => by
    have ih := digs_more k m h
    rw [← Nat.add_assoc, Av]
    unfold Cf
    rw [if_pos ih]
    exact ih
theorem cutRd_many {xs : List UInt8} (h : ¬ ((cutP xs).2.2 = 0 ∧ (cutP xs).1.dHeads.length ≤ 32)) : Bk xs = (DCut.zero, 4) := by
  refine if_neg fun hg => h ⟨?_, (cutP xs).1.small hg.2⟩
  have he := hg.1
  unfold endR at he
  split at he
  · assumption
  · rename_i h1; exact absurd he h1

theorem r19_Name (C : Cut) (D : DCut) : Meets Tryz.prog 142 [agg C.cells] [] (fun W => CutIs W C D) (fun v out => v = agg (Aa (cnameD D)) ∧ out = []) := by
 intro W hW
 have hok := hW.ok
 obtain ⟨k, hk⟩ : ∃ k, Hid (kW = k) := ⟨_, ⟨rfl⟩⟩
 obtain ⟨s0, hs0⟩ : ∃ s0, Hid (xorUp 8 = s0) := ⟨_, ⟨rfl⟩⟩
 obtain ⟨G, hG⟩ : ∃ G, Hid (shaTag = G) := ⟨_, ⟨rfl⟩⟩
 obtain ⟨i0, hi0⟩ : ∃ i0, Hid (allW k s0 G = i0) := ⟨_, ⟨rfl⟩⟩
 have hk80 : k.length = 80 := by rw [← hk.out]; rfl
 have hs8 : s0.length = 8 := by rw [← hs0.out]; exact xorUp_length 8
 have hGl : G.length = 11 := by rw [← hG.out]; rfl
 have hi8 : i0.length = 8 := by rw [← hi0.out, allW_length]; exact hs8
 obtain ⟨r, hr⟩ : ∃ r, Hid (allW k i0 (D.bytes) = r) := ⟨_, ⟨rfl⟩⟩
 obtain ⟨s, hs⟩ : ∃ s, Hid (sumUp r 64 = s) := ⟨_, ⟨rfl⟩⟩
 have hsd : Hid (s.take 32 = sha256 (D.bytes)) := ⟨by rw [← hs.out, ← hr.out, ← hi0.out, ← hG.out, ← hs0.out, ← hk.out]; rfl⟩
 have hs64 : s.length = 64 := by rw [← hs.out]; exact Ca r 64
 have hs32 : (s.take 32).length = 32 := by rw [List.length_take, hs64]; rfl
 refine Ag Tryz.func142 J 16 Tryz.ntmps142 J (G3 ?_)
 intro n1 hn1 hf1
 refine .alloc (cs := (Aa (List.replicate 32 0))) J Zr50 J ?_
 intro n2 hn2 hf2
 refine G5 ?_
 refine .call4 J J J J J Body131 (r19_Bytes C D) (fun w h => hW.ext h J) ?_
 rintro v7 out7 ⟨s7, rfl, hac7⟩
 refine G11 ?_
 refine two (fun r hr k => Tr.nei J J J J hr k) (fun hs2_10 => ?_) (fun hs2_10 => ?_)
 ·
  have hs2_1 := nd_t hs2_10
  skip
  refine G2 ?_
  refine .cond_t J J (G2 ?_)
  refine .build (cs := Aa (List.replicate 32 0)) J J J (fun w => by kernel_rfl) ?_
  refine .sA J J J J zE Sz50 sP mR sP (by (repeat (first | exact upd0 | apply Upd.seg))) ?_
  refine G5 ?_
  refine ⟨_, [], Bo J J Y50.h J Sz50 mR sP, sP, sP, ?_, rfl⟩
  (rw [cnameD, if_neg hs2_1]; done)
 have hs2_1 := nd_f hs2_10
 have h0 : D.check = 0 := by omega
 have hb7 : Bp D = D.bytes := if_pos h0
 refine G2 ?_
 refine .cond_f J J (G5 ?_)
 refine .mkRow (z := .slice none 0 0) [s7.v] [s7.v] rfl J J Y250.h Sz58 Zr58 J J (by intro v hv; rw [List.mem_singleton.1 hv]; rfl) dE J ?_
 intro q14
 refine .cV J J J J Body217 (r2_Sum k s0 i0 G hk hk80 hs0 hs8 hG hGl hi0 hi8 (some ⟨q14, 0, none⟩) 1 1 [s7] [D.bytes] rfl J (fun j hj => (by obtain rfl : j = 0 := oM; exact ⟨by simp [hac7.num, hb7], fun e => hac7.nil e⟩)) D.bytes sP (by have := D.bytes_small h0 (hW.fPrev ▸ hW.ok.l_fPrev) hW.fHeads.row; omega) dE r hr s hs) (fun w h => ⟨SeesP.of (Aj h Z0), fun j hj => (by obtain rfl : j = 0 := oM; exact (by have := hac7.see (Lies.of h (by repeat (first | exact Aq | refine in_there ?_))); rw [hb7] at this; exact this))⟩) ?_
 refine .sA J J J J zE Sz50 (by (simp [hs64]; done)) mR sP uU ?_
 refine G4 ?_
 refine ⟨_, [], Bo J J Y50.h J Sz50 mR (by simp [hs64]), sP, sP, ?_, rfl⟩
 (rw [cnameD, if_pos h0, hsd.out]; done)
theorem digs_len (xs : List UInt8) : ∀ (k a : Nat) (e : Int), (Av xs k a e).1.length = k
  | 0, a, e => rfl
  | k + 1, a, e => by
    have := digs_len xs k a e
    simp [Av, this]

theorem endR_zero {n a : Nat} {e : Int} (h : endR n a e = 0) : e = 0 := by
  unfold endR at h
  split at h
  · assumption
  · rename_i h1; exact absurd h h1
section
variable {xs : List UInt8} {x1 x3 : UInt64} {l2 : List UInt8} {a3 k : Nat} {e3 : Int} {out : List Blk} {C : Cut}
theorem r19_same (hcp : cutP xs = (⟨x1, l2, (Av xs (min x3.toNat 33) a3 e3).1⟩, (Av xs (min x3.toNat 33) a3 e3).2)) (hf : k = x3.toNat ∨ ¬ (Av xs k a3 e3).2.2 = 0) (hk : k ≤ x3.toNat) :
    (Bk xs = (DCut.zero, 4) ∧ (¬ endR xs.length (Av xs k a3 e3).2.1 (Av xs k a3 e3).2.2 = 0 ∨ ¬ (⟨x1, l2, (Av xs k a3 e3).1⟩ : DCut).check = 0)) ∨ k = min x3.toNat 33 := by
  by_cases hm : k = min x3.toNat 33
  · exact .inr hm
  · refine .inl ?_
    by_cases he : (Av xs k a3 e3).2.2 = 0
    · have hk2 : k = x3.toNat := by
        rcases hf with h | h
        · exact h
        · exact absurd he h
      have h33 : min x3.toNat 33 = 33 := by omega
      have hl33 : (Av xs 33 a3 e3).1.length = 33 := digs_len xs 33 a3 e3
      refine ⟨cutRd_many ?_, .inr fun hc => ?_⟩
      · rw [hcp, h33]
        simp only [hl33]
        omega
      · have := DCut.small hc
        have hlk : (Av xs k a3 e3).1.length = k := digs_len xs k a3 e3
        simp only [hlk] at this
        omega
    · refine ⟨cutRd_many ?_, .inl fun h => he (endR_zero h)⟩
      rw [hcp]
      simp only
      rintro ⟨h1, h2⟩
      rw [digs_len] at h2
      have hle : k ≤ min x3.toNat 33 := by omega
      have := digs_more (xs := xs) (a := a3) (e := e3) k (min x3.toNat 33 - k) he
      rw [show k + (min x3.toNat 33 - k) = min x3.toNat 33 by omega] at this
      exact this h1
theorem r19_fin1 (hcp : cutP xs = (⟨x1, l2, (Av xs (min x3.toNat 33) a3 e3).1⟩, (Av xs (min x3.toNat 33) a3 e3).2)) (hf : k = x3.toNat ∨ ¬ (Av xs k a3 e3).2.2 = 0) (hk : k ≤ x3.toNat) (hb : ¬ (endR xs.length (Av xs k a3 e3).2.1 (Av xs k a3 e3).2.2 = 0 ∧ (⟨x1, l2, (Av xs k a3 e3).1⟩ : DCut).check = 0)) : CutRead xs (.tuple #[agg Cut.zero.cells, i64 4]) out := by
  rcases r19_same hcp hf hk with ⟨h, _⟩ | h
  · exact ⟨Cut.zero, Cut.zero_ok, by rw [h], fun W2 _ => by rw [h]; exact cutz_is W2⟩
  · refine cut_bad ?_
    rw [hcp, ← h]
    exact hb
theorem r19_fin3 (hcp : cutP xs = (⟨x1, l2, (Av xs (min x3.toNat 33) a3 e3).1⟩, (Av xs (min x3.toNat 33) a3 e3).2)) (hf : k = x3.toNat ∨ ¬ (Av xs k a3 e3).2.2 = 0) (hk : k ≤ x3.toNat) (h1 : endR xs.length (Av xs k a3 e3).2.1 (Av xs k a3 e3).2.2 = 0) (h2 : (⟨x1, l2, (Av xs k a3 e3).1⟩ : DCut).check = 0) (hok : C.ok) (hC : ∀ W2, Lies out W2 → CutIs W2 C ⟨x1, l2, (Av xs k a3 e3).1⟩) : CutRead xs (.tuple #[agg C.cells, i64 0]) out := by
  rcases r19_same hcp hf hk with ⟨_, h | h⟩ | h
  · exact absurd h1 h
  · exact absurd h2 h
  · refine cut_ok (by rw [hcp, ← h]; exact ⟨h1, h2⟩) hok (fun W2 hl => by rw [hcp, ← h]; exact hC W2 hl)
end

theorem r19_Read (pa : Option Addr) (n c : Nat) (xs : List UInt8) (hl : xs.length = n) (hp : pa = none → n = 0) (hn : n ≤ 90000) : Meets Tryz.prog 136 [.slice pa n c] [] (fun W => SeesP W pa (Aa xs)) (CutRead xs) := by
 intro W hW
 obtain ⟨x1, r1, h1⟩ : ∃ l r, A5 xs 0 0 = (l, r) := ⟨_, _, rfl⟩
 obtain ⟨a1, e1⟩ := r1
 obtain ⟨l2, r2, h2⟩ : ∃ l r, Cf xs a1 e1 = (l, r) := ⟨_, _, rfl⟩
 obtain ⟨a2, e2⟩ := r2
 obtain ⟨x3, r3, h3⟩ : ∃ l r, A5 xs a2 e2 = (l, r) := ⟨_, _, rfl⟩
 obtain ⟨a3, e3⟩ := r3
 have hcp : cutP xs = (⟨x1, l2, (Av xs (min x3.toNat 33) a3 e3).1⟩, (Av xs (min x3.toNat 33) a3 e3).2) := by simp only [cutP, h1, h2, h3]
 have hd1 := Bm h1 hl (Nat.zero_le _)
 have hd2 := Cc h2 hl hd1
 have hd3 := Bm h3 hl hd2.1
 have ok1 : ({ Cut.zero with fHeight := x1, fPrev := l2 } : Cut).ok := ⟨hd2.2⟩
 have okX : ∀ s, ({ Cut.zero with fHeight := x1, fPrev := l2, fHeads := s } : Cut).ok := fun s => ⟨hd2.2⟩
 refine Ag Tryz.func136 J 46 Tryz.ntmps136 J (G2 ?_)
 refine .alloc (cs := Cut.zero.cells) J Cut.zr J ?_
 intro n2 hn2 hf2
 refine G6 ?_
 refine .call4 J J J J J Body135 (r1_Read pa n c xs hl hp hn) (fun w h => Ao h J hW) ?_
 rintro v9 out9 ⟨n9, q9, cp9, rfl, hcp9, rfl⟩
 refine .nd (fun hnd => ?_)
 have hne : q9 ≠ n9 := by intro e; simp [R1B, e] at hnd
 clear hnd
 refine G6 ?_
 refine .callL (L := [R1B n9 q9 (0) n cp9 (0) (0)]) J J J J J Body138 (Cb n9 q9 0 n cp9 0 0 xs hl (Nat.zero_le _) hcp9 oM (fun _ => rfl) x1 a1 e1 h1) (Ac rM Ae) (Ay J) (fun w h => ⟨Ak h Z0, Aj h Z1, hne⟩) ?_
 rintro v11 out11 ⟨o11, ho11, rfl, rfl⟩
 refine G1 ?_
 refine .callL (L := [R1B n9 q9 (o11) n cp9 (a1) (e1)]) J J J J J Body215 (r1_DigestE n9 q9 o11 n cp9 a1 e1 xs hl hd1 hcp9 oM ho11 l2 a2 e2 h2) (Ac rM Ae) (Ay J) (fun w h => ⟨Ak h Z0, Aj h Z1, hne⟩) ?_
 rintro v13 out13 ⟨o13, ho13, rfl, rfl⟩
 refine .build (cs := ({ Cut.zero with fHeight := x1, fPrev := l2 } : Cut).cells) J J J (fun w => by exact build_cut x1 hd2.2 w) ?_
 refine .alloc (cs := Cut.zero.cells) J Cut.zr J ?_
 intro n5 hn5 hf5
 refine G6 ?_
 refine .callL (L := [R1B n9 q9 (o13) n cp9 (a2) (e2)]) J J J J J Body138 (Cb n9 q9 o13 n cp9 a2 e2 xs hl hd2.1 hcp9 oM ho13 x3 a3 e3 h3) (Ac rM Ae) (Ay J) (fun w h => ⟨Ak h Z1, Aj h Z2, hne⟩) ?_
 rintro v16 out16 ⟨o16, ho16, rfl, rfl⟩
 refine G6 ?_
 refine .a J J (show Al _ _ = some (u64 0) from rfl) (G3 ?_)
 refine .loop (ι := Nat × Nat × Sl × List Blk) (fun p => ⟨[(2, ptr n2 0), (3, i64 0), (4, ptr n9 0), (5, ptr n5 0), (6, u64 x3), (7, u64 (UInt64.ofNat p.1))], (R1B n9 q9 p.2.1 n cp9 (Av xs p.1 a3 e3).2.1 (Av xs p.1 a3 e3).2.2 :: (⟨q9, Aa xs, 5, cp9 * 1⟩ :: (⟨n5, ({ Cut.zero with fHeight := x1, fPrev := l2, fHeads := p.2.2.1 } : Cut).cells, 53, 34⟩ :: (⟨n2, Cut.zero.cells, 53, 34⟩ :: (p.2.2.2 ++ [])))))⟩) (fun p => p.1 ≤ x3.toNat ∧ At1 cp9 (Av xs p.1 a3 e3).2.1 p.2.1 ∧ Hw.Acc p.2.2.1 p.2.2.2 (Bs (Av xs p.1 a3 e3).1) 50 p.1 32 ∧ p.1 ≤ 2900) (fun p => x3.toNat - p.1) ((0, o16, Sl.nil, [])) ?_ ?_ ?_
 · exact ⟨Nat.zero_le _, ho16, Acc.none, Nat.zero_le _⟩
 · exact Af (wk1 rfl (wk1 rfl (wk1 rfl (wk1 rfl (wk1 rfl (wk1 rfl wk0)))))) (Ac rM (Ac rM (Ac rM (Ac rM (Bh Ae)))))
 rintro p ⟨hp1, hop, hac, hk9⟩
 have hk6 : p.1 ≤ 1000000 := by omega
 have hj64 : (UInt64.ofNat p.1).toNat = p.1 := Bc oM
 have hD := digsR_at (e := e3) hl hd3 p.1
 obtain ⟨l8, r8, hd8⟩ : ∃ l r, Cf xs (Av xs p.1 a3 e3).2.1 (Av xs p.1 a3 e3).2.2 = (l, r) := ⟨_, _, rfl⟩
 obtain ⟨a8, e8⟩ := r8
 have hdl := Cc hd8 hl hD.1
 have hs8 := digsR_succ hd8
 refine G5 ?_
 refine two (fun r hr k => Tr.lss J J J J hr k) (fun hs5_20 => ?_) (fun hs5_20 => ?_)
 ·
  have hs5_2 := of_decide_eq_true hs5_20
  refine G5 ?_
  refine two (fun r hr k => Tr.eqi J J J J hr k) (fun hs5_80 => ?_) (fun hs5_80 => ?_)
  ·
   have hs5_8 := of_decide_eq_true hs5_80
   refine G3 ?_
   refine .cond_t J J (G4 ?_)
   refine .drawK (sp_v (sp_v (sp_k (sp_v (sp_x sp_n))))) J [(0, 0), (0, 1), (0, 2), (4, 3), (2, 4), (4, 5), (0, 6)] [(4, 7)] Ba zK zK (G1 ?_)
   refine .kload1 J J J Y51.h J Z0 (by exact Cut.get_fHeads (by exact okX _)) ?_
   refine G1 ?_
   refine .callL (L := [R1B n9 q9 p.2.1 n cp9 (Av xs p.1 a3 e3).2.1 (Av xs p.1 a3 e3).2.2]) J J J J J Body215 (r1_DigestE n9 q9 p.2.1 n cp9 (Av xs p.1 a3 e3).2.1 (Av xs p.1 a3 e3).2.2 xs hl hD.1 hcp9 oM hop l8 a8 e8 hd8) (Ac rM Ae) (Ay J) (fun w h => ⟨Ak h Z0, Aj h Z1, hne⟩) ?_
   rintro v40 out40 ⟨o40, ho40, rfl, rfl⟩
   refine .mkRow2 (z := agg (Aa (List.replicate 32 0))) [agg (Aa l8)] (Aa l8) J J Y51.h Sz50 Zr50 J J (by intro v hv; rw [List.mem_singleton.1 hv]; simp [Value.cells, hdl.2]) dE (by simp [Value.cells]) ?_
   intro q41
   refine .appendAcc (z := agg (Aa (List.replicate 32 0))) (by' := 32) (Aa l8) J J J J J Y51.h Y51.h Sz50 Zr50 (by unfold By; kernel_rfl) J hac sG (fun w h => SeesP.of (Aj h Z0)) (fun e => by cases e) (As _) oM oM (by simp [Aa, hdl.2]) ?_
   intro s42 bl42 hac42
   refine G2 ?_
   refine .s1 J J J J J Sz51 Z0 (by rw [Cut.length (by exact okX _)]; decide) (by exact Cut.set_fHeads (by exact okX _) _) zU ?_
   refine G5 ?_
   refine .add_u64 J J J (show Al _ _ = some (u64 1) from rfl) (G3 ?_)
   refine ⟨(p.1 + 1, o40, s42, bl42), ⟨by simp only []; omega, by simp only [hs8]; exact ho40, ?_, by have := (digs_pos oM hs5_8).2; simp only []; omega⟩, by simp only []; omega, Af (wk1 J (wk1 J (wk1 J (wk1 J (wk1 J (wk1 (congrArg (fun z => some (u64 z)) (ofNat_step _)) wk0)))))) (pm_consE rM (by simp only [hs8]) J (Ac rM (Ac rM (Ac rM (Ab sG Ae)))))⟩
   simp only [hs8]
   rw [flatB_append]
   simpa [Bs] using hac42
  have hs5_8 := of_decide_eq_false hs5_80
  refine G3 ?_
  refine .cond_f J J (G9 ?_)
  refine .cV J J J J Body140 (r1_End n9 q9 p.2.1 n cp9 (Av xs p.1 a3 e3).2.1 (Av xs p.1 a3 e3).2.2 hD.1 oM) (fun w h => Ak h Z0) ?_
  refine two (fun r hr k => Tr.nei J J J J hr k) (fun hs8_20 => ?_) (fun hs8_20 => ?_)
  ·
   have hs8_2 := nd_t hs8_20
   refine G7 ?_
   refine .cond_t J J (G2 ?_)
   refine .build (cs := Cut.zero.cells) J J J (fun w => by kernel_rfl) ?_
   refine G7 ?_
   refine Ah (out := (p.2.2.2 ++ [])) (Am J J J Y53.h J Sz53 Z3 (by exact Cut.length (by exact Cut.zero_ok))) (Ab sG Ae) ?_
   have hfin : (p.1 = x3.toNat ∨ ¬ (Av xs p.1 a3 e3).2.2 = 0) := by (right; assumption)
   exact r19_fin1 hcp hfin hp1 (by rw [hl]; exact fun h => hs8_2 h.1)
  have hs8_2 := nd_f hs8_20
  refine G2 ?_
  refine .cV J J J J Body141 (r19_Check ({ Cut.zero with fHeight := x1, fPrev := l2, fHeads := p.2.2.1 } : Cut) ⟨x1, l2, (Av xs p.1 a3 e3).1⟩) (fun w h => ⟨okX _, rfl, rfl, acc_rows hac (Lies.of h (by repeat (first | exact Aq | refine in_there ?_))) hD.2.1 hD.2.2 hk6⟩) ?_
  refine G4 ?_
  refine .condNP J (fun hc1 => ?_) (fun hc1 => ?_)
  ·
   refine G2 ?_
   refine .build (cs := Cut.zero.cells) J J J (fun w => by kernel_rfl) ?_
   refine G7 ?_
   refine Ah (out := (p.2.2.2 ++ [])) (Am J J J Y53.h J Sz53 Z3 (by exact Cut.length (by exact Cut.zero_ok))) (Ab sG Ae) ?_
   have hfin : (p.1 = x3.toNat ∨ ¬ (Av xs p.1 a3 e3).2.2 = 0) := by (right; assumption)
   exact r19_fin1 hcp hfin hp1 (by rw [hl]; exact fun h => hc1 h.2)
  refine G11 ?_
  refine Ah (out := (p.2.2.2 ++ [])) (Am J J J Y53.h J Sz53 Z3 (by exact Cut.length (by exact okX _))) (Ab sG Ae) ?_
  have hfin : (p.1 = x3.toNat ∨ ¬ (Av xs p.1 a3 e3).2.2 = 0) := by (right; assumption)
  exact r19_fin3 hcp hfin hp1 (by rw [hl]; exact hs8_2) hc1 (okX _) (fun W2 h2 => ⟨okX _, rfl, rfl, acc_rows hac (h2.sub Aq) hD.2.1 hD.2.2 hk6⟩)
 have hs5_2 := of_decide_eq_false hs5_20
 refine G9 ?_
 refine .cond_f J J (G9 ?_)
 refine .cV J J J J Body140 (r1_End n9 q9 p.2.1 n cp9 (Av xs p.1 a3 e3).2.1 (Av xs p.1 a3 e3).2.2 hD.1 oM) (fun w h => Ak h Z0) ?_
 refine two (fun r hr k => Tr.nei J J J J hr k) (fun hs8_20 => ?_) (fun hs8_20 => ?_)
 ·
  have hs8_2 := nd_t hs8_20
  refine G7 ?_
  refine .cond_t J J (G2 ?_)
  refine .build (cs := Cut.zero.cells) J J J (fun w => by kernel_rfl) ?_
  refine G7 ?_
  refine Ah (out := (p.2.2.2 ++ [])) (Am J J J Y53.h J Sz53 Z3 (by exact Cut.length (by exact Cut.zero_ok))) (Ab sG Ae) ?_
  have hfin : (p.1 = x3.toNat ∨ ¬ (Av xs p.1 a3 e3).2.2 = 0) := by (left; omega)
  exact r19_fin1 hcp hfin hp1 (by rw [hl]; exact fun h => hs8_2 h.1)
 have hs8_2 := nd_f hs8_20
 refine G2 ?_
 refine .cV J J J J Body141 (r19_Check ({ Cut.zero with fHeight := x1, fPrev := l2, fHeads := p.2.2.1 } : Cut) ⟨x1, l2, (Av xs p.1 a3 e3).1⟩) (fun w h => ⟨okX _, rfl, rfl, acc_rows hac (Lies.of h (by repeat (first | exact Aq | refine in_there ?_))) hD.2.1 hD.2.2 hk6⟩) ?_
 refine G4 ?_
 refine .condNP J (fun hc1 => ?_) (fun hc1 => ?_)
 ·
  refine G2 ?_
  refine .build (cs := Cut.zero.cells) J J J (fun w => by kernel_rfl) ?_
  refine G7 ?_
  refine Ah (out := (p.2.2.2 ++ [])) (Am J J J Y53.h J Sz53 Z3 (by exact Cut.length (by exact Cut.zero_ok))) (Ab sG Ae) ?_
  have hfin : (p.1 = x3.toNat ∨ ¬ (Av xs p.1 a3 e3).2.2 = 0) := by (left; omega)
  exact r19_fin1 hcp hfin hp1 (by rw [hl]; exact fun h => hc1 h.2)
 refine G11 ?_
 refine Ah (out := (p.2.2.2 ++ [])) (Am J J J Y53.h J Sz53 Z3 (by exact Cut.length (by exact okX _))) (Ab sG Ae) ?_
 have hfin : (p.1 = x3.toNat ∨ ¬ (Av xs p.1 a3 e3).2.2 = 0) := by (left; omega)
 exact r19_fin3 hcp hfin hp1 (by rw [hl]; exact hs8_2) hc1 (okX _) (fun W2 h2 => ⟨okX _, rfl, rfl, acc_rows hac (h2.sub Aq) hD.2.1 hD.2.2 hk6⟩)
end Go.Proofs.YtdifpjmfabhpiaaGreat
end

section
namespace Go.Proofs.YtdifpjmfabhpiaaGreat
open Go Hw

theorem r25_CheckCert (C : Cert) (D : DCert) : Meets Tryz.prog 42 [agg C.cells] [] (fun W => CertIs W C D) (fun v out => v = i64 D.check ∧ out = []) := by
 intro W hW
 obtain ⟨rs, hV⟩ := hW.fVotes
 have hok := hW.ok
 have hmax := hV.max
 simp only [maxLen] at hmax
 have hcap := hV.cap
 have hnd := hV.nd
 have ehh := hW.fCut.fHeight
 refine Ag Tryz.func42 J 86 Tryz.ntmps42 J (G3 ?_)
 intro n1 hn1 hf1
 refine G7 ?_
 refine .lN (Cut.cells _) J J J Y53.h J Sz53 Z0 (Cert.row_fCut zA) (Cert.rl_fCut zA) ?_
 refine .cV J J J J Body141 (r19_Check C.fCut D.dCut) (fun w h => hW.fCut.ext h J) (two (fun r hr k => Tr.nei J J J J hr k) (fun hs1_30 => ?_) (fun hs1_30 => ?_))
 ·
  have hs1_3 := nd_t hs1_30
  refine G14 ?_
  refine .cond_t J J (G8 ?_)
  refine ⟨_, [], Ad J J, sP, sP, ?_, rfl⟩
  exact congrArg i64 (B1 (by simp only [DCert.head, hnd, Bool.or_eq_true, Bool.not_eq_true', decide_eq_true_eq, decide_eq_false_iff_not]; omega)).symm
 have hs1_3 := nd_f hs1_30
 refine G4 ?_
 refine two (fun r hr k => Tr.lss J J J J hr k) (fun hs1_80 => ?_) (fun hs1_80 => ?_)
 ·
  have hs1_8 := of_decide_eq_true hs1_80
  refine G9 ?_
  refine .cond_t J J (G8 ?_)
  refine ⟨_, [], Ad J J, sP, sP, ?_, rfl⟩
  exact congrArg i64 (B1 (by simp only [DCert.head, hnd, Bool.or_eq_true, Bool.not_eq_true', decide_eq_true_eq, decide_eq_false_iff_not]; omega)).symm
 have hs1_8 := of_decide_eq_false hs1_80
 refine G9 ?_
 refine .condP J (fun hc0 => ?_) (fun hc0 => ?_)
 ·
  refine G8 ?_
  refine ⟨_, [], Ad J J, sP, sP, ?_, rfl⟩
  exact congrArg i64 (B1 (by simp only [DCert.head, hnd, Bool.or_eq_true, Bool.not_eq_true', decide_eq_true_eq, decide_eq_false_iff_not]; omega)).symm
 have hnb : ¬ D.head = true := by simp only [DCert.head, hnd, Bool.or_eq_true, Bool.not_eq_true', decide_eq_true_eq, decide_eq_false_iff_not]; omega
 refine G5 ?_
 refine .lN (Cut.cells _) J J J Y53.h J Sz53 Z0 (Cert.row_fCut zA) (Cert.rl_fCut zA) ?_
 refine .cV J J J J Body142 (r19_Name C.fCut D.dCut) (fun w h => hW.fCut.ext h J) (.alloc (cs := (Aa (List.replicate 32 0))) J Zr50 J ?_)
 intro n3 hn3 hf3
 refine .sA J J J J zE Sz50 (by (simp [cnameD_length]; done)) Z0 sP zU ?_
 refine G9 ?_
 refine .loop (ι := Nat) (fun k => ⟨[(1, ptr n1 0), (3, ptr n3 0), (4, i64 (k : Int))], [⟨n3, Aa (cnameD D.dCut), 50, 32⟩, ⟨n1, C.cells, 55, C.cells.length⟩]⟩) (fun k => k ≤ C.fVotes.n ∧ ∀ j, j < k → ¬ D.bad j) (fun k => C.fVotes.n - k) (0) ?_ ?_ ?_
 · exact ⟨by omega, fun j hj => by omega⟩
 · exact Ai (wk1 rfl (wk1 rfl (wk1 rfl wk0))) (wh1 Z0 (wh1 Z1 wh0)) nD
 rintro k ⟨hk, hg⟩
 refine G10 ?_
 refine .condP J (fun hc1 => ?_) (fun hc1 => ?_)
 ·
  have hk2 : k < C.fVotes.n := by omega
  obtain ⟨b, o, Vk, d, hsp, hr, hd, his, hlen, hsee⟩ := hV.at dE hk2
  obtain rfl := his.eq
  have hVk := his.ok
  have hlv := hVk.l_fValue
  obtain ⟨b0, o0, V0, d0, hsp0, hr0, hd0, his0, hlen0, hsee0⟩ := hV.at dE (show 0 < C.fVotes.n by omega)
  obtain rfl := his0.eq
  have hV0 := his0.ok
  have hvk := vote_is hd
  have hv0 := vote_is hd0
  refine G9 ?_
  refine .idxSlP 132 J J J hsp J Y24.h Sz81 (k) oM oM (.loadEN Vk.cells J J J Y81.h J Sz81 sP hlen hsee (.alloc (cs := Vote.zero.cells) J Vote.zr J ?_))
  intro n5 hn5 hf5
  refine G4 ?_
  refine .draw [(1, 0), (3, 1), (0, 2), (0, 3), (0, 4), (1, 5), (0, 6), (0, 7), (1, 8), (0, 9), (0, 10), (0, 11), (0, 12), (1, 13), (0, 14), (0, 15), (0, 16), (0, 17), (1, 18), (1, 19), (0, 20), (0, 21), (0, 22), (0, 23), (1, 24), (0, 25), (1, 26), (0, 27), (0, 28), (1, 29), (0, 30), (0, 31), (0, 32), (0, 33), (0, 34), (0, 35), (0, 36), (1, 37), (0, 38), (0, 39), (0, 40), (0, 41), (1, 42), (0, 43), (1, 44), (3, 45), (0, 46), (0, 47), (0, 48)] Ba zK (G1 ?_)
  refine .cV J J J J Body143 (r20_Check Vk hVk) tV (two (fun r hr k => Tr.nei J J J J hr k) (fun hs8_20 => ?_) (fun hs8_20 => ?_))
  ·
   have hs8_2 := nd_t hs8_20
   refine G48 ?_
   refine .cond_t J J (G12 ?_)
   refine ⟨_, [], Ad J J, sP, sP, ?_, rfl⟩
   exact congrArg i64 (B0 (k := k) oM (by
      simp only [DCert.bad, hvk, hv0, ← ehh]
      exact .inl ‹_›)).symm
  have hs8_2 := nd_f hs8_20
  refine G5 ?_
  refine .load1 J J J Y48.h J Z2 (Cert.see_fCut hok 0 _ (Cut.get_fHeight hok.o_fCut)) ?_
  refine two (fun r hr k => Tr.nei J J J J hr k) (fun hs8_90 => ?_) (fun hs8_90 => ?_)
  ·
   have hs8_9 := nd_t hs8_90
   refine G41 ?_
   refine .cond_t J J (G12 ?_)
   refine ⟨_, [], Ad J J, sP, sP, ?_, rfl⟩
   exact congrArg i64 (B0 (k := k) oM (by
      simp only [DCert.bad, hvk, hv0, ← ehh]
      exact .inr (.inr (.inl ‹_›)))).symm
  have hs8_9 := nd_f hs8_90
  refine G4 ?_
  refine two (fun r hr k => Tr.nei J J J J hr k) (fun hs8_140 => ?_) (fun hs8_140 => ?_)
  ·
   have hs8_14 := nd_t hs8_140
   refine G36 ?_
   refine .cond_t J J (G12 ?_)
   refine ⟨_, [], Ad J J, sP, sP, ?_, rfl⟩
   exact congrArg i64 (B0 (k := k) oM (by
      simp only [DCert.bad, hvk, hv0, ← ehh]
      exact .inr (.inl ‹_›))).symm
  have hs8_14 := nd_f hs8_140
  refine G3 ?_
  refine .lN (Aa _) J J J Y50.h J Sz50 Z0 (Vote.row_fValue zA) (Vote.rl_fValue zA) ?_
  refine .lA J J J Y50.h J Sz50 Z1 (by (simp [cnameD_length]; done)) ?_
  refine two (fun r hr k => Tr.neq_bytes J J J J Tryz.eqGuardType50 Y50.h Y5.h Sz5 zA (by (simp [cnameD_length]; done)) hr k) (fun hs8_200 => ?_) (fun hs8_200 => ?_)
  ·
   have hs8_20 := nd_t hs8_200
   refine G30 ?_
   refine .cond_t J J (G12 ?_)
   refine ⟨_, [], Ad J J, sP, sP, ?_, rfl⟩
   exact congrArg i64 (B0 (k := k) oM (by
      simp only [DCert.bad, hvk, hv0, ← ehh]
      exact .inr (.inr (.inr (.inl ‹_›))))).symm
  have hs8_20 := nd_f hs8_200
  refine G6 ?_
  refine .idxSlP 132 J J J hsp0 J Y24.h Sz81 (0) oM oM (G1 ?_)
  refine .loadE J J J Y48.h J sP (hsee0 1 _ (Vote.get_fRound hV0)) (two (fun r hr k => Tr.nei J J J J hr k) (fun hs8_300 => ?_) (fun hs8_300 => ?_))
  ·
   have hs8_30 := nd_t hs8_300
   refine G20 ?_
   refine .cond_t J J (G12 ?_)
   refine ⟨_, [], Ad J J, sP, sP, ?_, rfl⟩
   exact congrArg i64 (B0 (k := k) oM (by
      simp only [DCert.bad, hvk, hv0, ← ehh]
      exact .inr (.inr (.inr (.inr (.inl ‹_›)))))).symm
  have hs8_30 := nd_f hs8_300
  refine G3 ?_
  refine two (fun r hr k => Tr.gtr J J J J hr k) (fun hs8_340 => ?_) (fun hs8_340 => ?_)
  ·
   have hs8_34 := of_decide_eq_true hs8_340
   obtain ⟨bp, op, Vp, dp, hspp, hrp, hdp, hisp, hlenp, hseep⟩ := hV.at dE (show k - 1 < C.fVotes.n by omega)
   obtain rfl := hisp.eq
   have hVp := hisp.ok
   refine G5 ?_
   refine .idxSlP 132 J J J hspp J Y24.h Sz81 (k - 1) oM oM (G1 ?_)
   refine .loadEN (Aa Vp.fVoter) J J J (by rfl) J (by rfl) sP (by rw [Aa, List.length_map]; exact hVp.l_fVoter) (sees_sub hseep (Vote.see_fVoter hVp)) ?_
   refine G1 ?_
   refine .lN (Aa _) J J J Y75.h J Sz75 Z0 (Vote.row_fVoter zA) (Vote.rl_fVoter zA) ?_
   refine .cV J J J J Body144 (r15_cmp _ _ hVp.l_fVoter hVk.l_fVoter) tV (G5 ?_)
   refine .condP J (fun hc2 => ?_) (fun hc2 => ?_)
   ·
    refine G12 ?_
    refine ⟨_, [], Ad J J, sP, sP, ?_, rfl⟩
    exact congrArg i64 (B0 (k := k) oM (by
       simp only [DCert.bad, hvk, hv0, ← ehh]
       (rw [vote_is hdp]; exact .inr (.inr (.inr (.inr (.inr ⟨by omega, by omega⟩))))))).symm
   refine G9 ?_
   exact ⟨k + 1, ⟨by omega, fun j hj => by rcases Nat.lt_succ_iff_lt_or_eq.1 hj with h | rfl; exact hg j h; exact (by
    simp only [DCert.bad, hvk, hv0, ← ehh]
    rintro (h | h | h | h | h | ⟨h1, h2⟩) <;> first | exact h ‹_› | (rw [vote_is hdp] at h2; omega))⟩, by omega, Ai (wk1 rfl (wk1 rfl (wk1 rfl wk0))) (wh1 Z1 (wh1 Z2 wh0)) nD⟩
  have hs8_34 := of_decide_eq_false hs8_340
  skip
  refine G16 ?_
  refine .cond_f J J (G9 ?_)
  exact ⟨k + 1, ⟨by omega, fun j hj => by rcases Nat.lt_succ_iff_lt_or_eq.1 hj with h | rfl; exact hg j h; exact (by
   simp only [DCert.bad, hvk, hv0, ← ehh]
   rintro (h | h | h | h | h | ⟨h1, h2⟩) <;> first | exact h ‹_› | omega)⟩, by omega, Ai (wk1 rfl (wk1 rfl (wk1 rfl wk0))) (wh1 Z1 (wh1 Z2 wh0)) nD⟩
 obtain rfl : k = C.fVotes.n := by omega
 refine G12 ?_
 refine ⟨_, [], Ad J J, sP, sP, ?_, rfl⟩
 exact congrArg i64 (B6 hnb (by rw [hnd]; exact hg)).symm

theorem cert_two {D : DCert} (h : ¬ D.check = 0) : D.check = 2 := by
  unfold DCert.check at h ⊢
  split
  · rfl
  · rename_i h1; rw [if_neg h1] at h; exact absurd rfl h

theorem r25_CertBytes (C : Cert) (D : DCert) : Meets Tryz.prog 40 [agg C.cells] [] (fun W => CertIs W C D) (fun v out => ∃ s, v = .tuple #[s.v, i64 D.check] ∧ Hw.Acc s out (Aa (Bd D)) 5 (Bd D).length 1) := by
 intro W hW
 obtain ⟨rs, hvs⟩ := hW.fVotes
 have hcl := cutR_le hW.fCut
 have hvok := seqv_ok hvs
 have hvn := hvs.nd
 have hz := A2 (Bp D.dCut).length
 refine Ag Tryz.func40 J 44 Tryz.ntmps40 J (G3 ?_)
 intro n1 hn1 hf1
 refine G7 ?_
 refine .lA J J J Y55.h J Sz55 Z0 (Cert.length (by exact hW.ok)) ?_
 refine .cV J J J J Body42 (r25_CheckCert C D) (fun w h => hW.ext h J) (G3 ?_)
 refine .condNP J (fun hc0 => ?_) (fun hc0 => ?_)
 ·
  refine G9 ?_
  refine Ah (out := []) (A9 J J J) Ae ?_
  exact ⟨Sl.nil, by rw [cert_two hc0]; rfl, by rw [show Bd D = [] from if_neg hc0]; exact Acc.none⟩
 have hck : D.check = 0 := by omega
 obtain ⟨hk1, hk2, hk3⟩ := DCert.facts hck
 have hle : ∀ k, (blkB (Bp D.dCut) ++ A6 (UInt64.ofNat C.fVotes.n) ++ B4 A0 (D.dVotes.take k)).length ≤ 40000 := fun k => by
  have h1 := listB_take_le A0 164 oM D.dVotes (fun d hd => voteBy_le (hvok d hd)) k
  have h2 : D.dVotes.length * (164 + 9) ≤ 16 * (164 + 9) := Nat.mul_le_mul_right _ hk3
  have h3 := (A2 (UInt64.ofNat C.fVotes.n).toNat).2
  simp only [List.length_append, Ax, blkB_length (show (Bp D.dCut).length ≤ 1000000 by omega)]
  omega
 refine G5 ?_
 refine .lN (Cut.cells _) J J J Y53.h J Sz53 Z0 (Cert.row_fCut (by exact hW.ok)) (Cert.rl_fCut (by exact hW.ok)) ?_
 refine .call4 J J J J J Body131 (r19_Bytes C.fCut D.dCut) (fun w h => hW.fCut.ext h J) ?_
 rintro v14 out14 ⟨s14, rfl, hac14⟩
 have hn14 := hac14.num
 refine G8 ?_
 refine .withK (sp_x (sp_k sp_n)) J (.draw [(0, 0), (0, 2), (0, 3), (0, 4), (0, 5), (4, 1), (4, 6), (0, 7)] Ba zK (G2 ?_))
 refine .kload1 J J J Y24.h J Z0 (by exact Cert.get_fVotes (by exact hW.ok)) ?_
 refine G2 ?_
 refine .call4 J J J J J Body133 (r1_Block none s14.p 0 0 s14.n s14.c [] (Bp D.dCut) J hn14.symm (fun _ => rfl) (fun e => hac14.nil e) dE oM) (fun w h => ⟨SeesP.nil, hac14.see (Lies.of h (by repeat (exact Aq)))⟩) ?_
 rintro v18 out18 ⟨q18, c18, rfl, hc18, rfl⟩
 have hb18 : [] ++ A6 (UInt64.ofNat s14.n) ++ Bp D.dCut = blkB (Bp D.dCut) := by rw [blkB, hn14]; rfl
 rw [hb18]
 rw [word_nat (n := C.fVotes.n) oM]
 refine .call4 J J J J J Body132 (r1_Number (some ⟨q18, 0, none⟩) (0 + szN s14.n + s14.n) c18 (blkB (Bp D.dCut)) (UInt64.ofNat C.fVotes.n) (by rw [blkB_length oM, hn14]; omega) (fun e => by cases e) (by have := A2 s14.n; omega)) (fun w h => SeesP.of (Aj (cs := Aa (blkB (Bp D.dCut))) h Z0)) ?_
 rintro v23 out23 ⟨q23, c23, rfl, hc23, rfl⟩
 have e23 : 0 + szN s14.n + s14.n + szN (UInt64.ofNat C.fVotes.n).toNat = (blkB (Bp D.dCut) ++ A6 (UInt64.ofNat C.fVotes.n) ++ B4 A0 (D.dVotes.take 0)).length := by simp only [List.length_append, List.take_zero, B4, List.map_nil, List.flatten_nil, List.length_nil, Ax, blkB_length (show (Bp D.dCut).length ≤ 1000000 by omega), hn14]; omega
 rw [e23] at hc23 ⊢
 refine G10 ?_
 refine .loop (ι := Nat × Nat × Nat) (fun p => ⟨[(1, ptr n1 0), (6, .slice (some ⟨p.2.1, 0, none⟩) (blkB (Bp D.dCut) ++ A6 (UInt64.ofNat C.fVotes.n) ++ B4 A0 (D.dVotes.take p.1)).length p.2.2), (7, i64 (p.1 : Int))], [⟨p.2.1, Aa (blkB (Bp D.dCut) ++ A6 (UInt64.ofNat C.fVotes.n) ++ B4 A0 (D.dVotes.take p.1)), 5, p.2.2 * 1⟩, ⟨n1, C.cells, 55, C.cells.length⟩]⟩) (fun p => p.1 ≤ C.fVotes.n ∧ (blkB (Bp D.dCut) ++ A6 (UInt64.ofNat C.fVotes.n) ++ B4 A0 (D.dVotes.take p.1)).length ≤ p.2.2) (fun p => C.fVotes.n - p.1) ((0, q23, c23)) ?_ ?_ ?_
 · exact ⟨Nat.zero_le _, hc23⟩
 · exact Af (wk1 rfl (wk1 rfl (wk1 rfl wk0))) (pm_consE rM (by simp only [List.take_zero, B4, List.map_nil, List.flatten_nil, List.append_nil]) rfl (Ac rM Ae))
 rintro p ⟨hp1, hp2⟩
 refine G5 ?_
 refine .load1 J J J Y24.h J Z1 (by exact Cert.get_fVotes (by exact hW.ok)) ?_
 refine G4 ?_
 refine .condP J (fun hc1 => ?_) (fun hc1 => ?_)
 ·
  have hk4 : p.1 < C.fVotes.n := by omega
  obtain ⟨b, o, r, d, hsp, hr, hd, his, hlen, hsee⟩ := hvs.at dE hk4
  refine G7 ?_
  refine .load1 J J J Y24.h J Z1 (by exact Cert.get_fVotes (by exact hW.ok)) ?_
  refine G1 ?_
  refine .idxSlP 132 J J J hsp J Y24.h Sz81 p.1 J oM (.loadEN r.cells J J J Y81.h J Sz81 sP hlen hsee ?_)
  obtain rfl := his.eq
  refine .call4 J J J J J Body134 (r20_Bytes r his.ok) tV ?_
  rintro v37 out37 ⟨s37, rfl, hac37⟩
  have hn37 := hac37.num
  have hle37 := voteBy_le (hvok r (List.mem_of_getElem? hd))
  refine G9 ?_
  refine .call4 J J J J J Body133 (r1_Block (some ⟨p.2.1, 0, none⟩) s37.p (blkB (Bp D.dCut) ++ A6 (UInt64.ofNat C.fVotes.n) ++ B4 A0 (D.dVotes.take p.1)).length p.2.2 s37.n s37.c (blkB (Bp D.dCut) ++ A6 (UInt64.ofNat C.fVotes.n) ++ B4 A0 (D.dVotes.take p.1)) (A0 r) J hn37.symm (fun e => by cases e) (fun e => hac37.nil e) (hle _) oM) (fun w h => ⟨SeesP.of (Aj h mR), hac37.see (Lies.of h (by repeat (exact Aq)))⟩) ?_
  rintro v42 out42 ⟨q42, c42, rfl, hc42, rfl⟩
  have hb42 : blkB (Bp D.dCut) ++ A6 (UInt64.ofNat C.fVotes.n) ++ B4 A0 (D.dVotes.take p.1) ++ A6 (UInt64.ofNat s37.n) ++ A0 r = blkB (Bp D.dCut) ++ A6 (UInt64.ofNat C.fVotes.n) ++ B4 A0 (D.dVotes.take (p.1 + 1)) := by rw [listB_step A0 hd, hn37]; simp only [blkB, List.append_assoc]
  rw [hb42]
  have he42 : (blkB (Bp D.dCut) ++ A6 (UInt64.ofNat C.fVotes.n) ++ B4 A0 (D.dVotes.take p.1)).length + szN s37.n + s37.n = (blkB (Bp D.dCut) ++ A6 (UInt64.ofNat C.fVotes.n) ++ B4 A0 (D.dVotes.take (p.1 + 1))).length := by rw [← hb42]; simp only [List.length_append, Ax, Bc (n := s37.n) oM]; omega
  rw [he42] at hc42 ⊢
  refine G10 ?_
  exact ⟨(p.1 + 1, q42, c42), ⟨by simp only []; omega, hc42⟩, by simp only []; omega, Af (wk1 rfl (wk1 rfl (wk1 rfl wk0))) (Ac rM (Ac rM Ae))⟩
 have hpe : p.1 = C.fVotes.n := by omega
 have hds : D.dVotes.take p.1 = D.dVotes := List.take_of_length_le oM
 refine G14 ?_
 refine Ah (out := (⟨p.2.1, Aa (blkB (Bp D.dCut) ++ A6 (UInt64.ofNat C.fVotes.n) ++ B4 A0 (D.dVotes.take p.1)), 5, p.2.2 * 1⟩ :: [])) (A9 J J J) (Ac rM Ae) ?_
 refine ⟨⟨some ⟨p.2.1, 0, none⟩, (blkB (Bp D.dCut) ++ A6 (UInt64.ofNat C.fVotes.n) ++ B4 A0 (D.dVotes.take p.1)).length, p.2.2⟩, (by rw [hck]; try rfl), ?_⟩
 rw [show Bd D = D.bytes from if_pos hck, DCert.bytes, hvn]
 rw [hds] at hp2 ⊢
 exact Acc.some hp2 (by rw [Aa, List.length_map, Nat.mul_one])

def itR {D : Type} (f : List UInt8 → D × Int) (xs : List UInt8) : Nat → Nat → Int → Option (List D × Nat × Int)
  | 0, a, e => some ([], a, e)
  | k + 1, a, e => (itR f xs k a e).bind fun r => if (f ((blkR xs r.2.1 r.2.2).1.getD [])).2 = 0 ∧ (blkR xs r.2.1 r.2.2).2.2 = 0 then some (r.1 ++ [(f ((blkR xs r.2.1 r.2.2).1.getD [])).1], (blkR xs r.2.1 r.2.2).2) else none
def listR {D : Type} (f : List UInt8 → D × Int) (xs : List UInt8) (M a : Nat) (e : Int) : Option (List D × Nat × Int) :=
  if (A5 xs a e).2.2 = 0 ∧ (A5 xs a e).1.toNat ≤ M then itR f xs (A5 xs a e).1.toNat (A5 xs a e).2.1 (A5 xs a e).2.2 else none
theorem itR_step {D : Type} {f : List UInt8 → D × Int} {xs : List UInt8} {k a : Nat} {e : Int} {vs : List D} {a2 a3 : Nat} {e2 e3 : Int} {o : Option (List UInt8)} (h : itR f xs k a e = some (vs, a2, e2)) (hb : blkR xs a2 e2 = (o, a3, e3)) (h1 : (f (o.getD [])).2 = 0) (h2 : e3 = 0) : itR f xs (k + 1) a e = some (vs ++ [(f (o.getD [])).1], a3, e3) := by
  rw [itR, h, Option.bind_some]
  simp only [hb]
  rw [if_pos ⟨h1, h2⟩]
theorem itR_stop {D : Type} {f : List UInt8 → D × Int} {xs : List UInt8} {k a : Nat} {e : Int} {vs : List D} {a2 a3 : Nat} {e2 e3 : Int} {o : Option (List UInt8)} (h : itR f xs k a e = some (vs, a2, e2)) (hb : blkR xs a2 e2 = (o, a3, e3)) (h1 : ¬ ((f (o.getD [])).2 = 0 ∧ e3 = 0)) : ∀ m, k < m → itR f xs m a e = none
  | 0, hm => absurd hm oM
  | m + 1, hm => by
    rcases Nat.lt_succ_iff_lt_or_eq.1 hm with h3 | rfl
    · rw [itR, itR_stop h hb h1 m h3]; rfl
    · rw [itR, h, Option.bind_some]
      simp only [hb]
      rw [if_neg h1]
theorem votesR_it {xs : List UInt8} {a : Nat} {e : Int} : ∀ k, votesR xs k a e = itR A1 xs k a e
  | 0 => rfl
  | k + 1 => by rw [votesR, itR, votesR_it k]
theorem readVL_is (xs : List UInt8) (M a : Nat) (e : Int) : readVL xs M a e = listR A1 xs M a e := by
  unfold readVL listR
  rw [votesR_it]
structure LSt (R D : Type) where
  k : Nat
  s : Sl
  bl : List Blk
  o : List Blk
  rs : List R
  vs : List D
  a : Nat
  e : Int
structure DSt where
  k : Nat
  s : Sl
  bl : List Blk
  vs : List (List UInt8)
  a : Nat
  e : Int

abbrev RS := Option (DMsg × Nat × Int)
structure RSt where
  b : Bool
  m : Msg
  D : DMsg
  a : Nat
  e : Int
  bl : List Blk
structure RJ (k : Int) (st : RS) (N : Nat) (p : RSt) : Prop where
  a : p.a ≤ N
  yes : p.b = true → st = some (p.D, p.a, p.e) ∧ p.D.dKind = k ∧ ∀ W2, Lies p.bl W2 → MsgIs W2 p.m p.D
  no : p.b = false → st = none
theorem RJ.good {k : Int} {st : RS} {N : Nat} {m : Msg} {D : DMsg} {a : Nat} {e : Int} {bl : List Blk} (ha : a ≤ N) (h1 : st = some (D, a, e)) (h2 : D.dKind = k) (h3 : ∀ W2, Lies bl W2 → MsgIs W2 m D) : RJ k st N ⟨true, m, D, a, e, bl⟩ := ⟨ha, fun _ => ⟨h1, h2, h3⟩, fun h => by cases h⟩
theorem RJ.fail {k : Int} {st : RS} {N : Nat} {m : Msg} {D : DMsg} {a : Nat} {e : Int} {bl : List Blk} (ha : a ≤ N) (h1 : st = none) : RJ k st N ⟨false, m, D, a, e, bl⟩ := ⟨ha, fun h => (by cases h), fun _ => h1⟩


def DMsg.hd (D : DMsg) : Prop := (1 ≤ D.dKind ∧ D.dKind ≤ 6) ∧ D.dHeight.toNat ≤ 4294967295 ∧ (D.dKind = 1 ∨ D.dKind = 6 ∨ D.dHeight.toNat = 0) ∧ (D.dKind = 1 ∨ D.dKind = 2 ∨ D.dHeads.length = 0) ∧ (D.dKind = 2 ∨ D.dWant.length = 0) ∧ (D.dKind = 3 ∨ D.dBlocks.length = 0) ∧ (D.dKind = 4 ∨ D.dVotes.length = 0) ∧ (D.dKind = 4 ∨ D.dCuts.length = 0) ∧ (D.dKind = 5 ∨ D.dCerts.length = 0) ∧
  D.dHeads.length ≤ 32 ∧ D.dWant.length ≤ 32 ∧ D.dBlocks.length ≤ 8 ∧ D.dVotes.length ≤ 20 ∧ D.dCuts.length ≤ 4 ∧ D.dCerts.length ≤ 2 ∧ (D.dKind = 1 ∨ D.dKind = 2 ∨ ¬ (D.dHeight.toNat = 0 ∧ D.dHeads.length = 0 ∧ D.dWant.length = 0 ∧ D.dBlocks.length = 0 ∧ D.dVotes.length = 0 ∧ D.dCuts.length = 0 ∧ D.dCerts.length = 0))
structure DMsg.els (D : DMsg) : Prop where
  b : (D.dBlocks.all fun d => decide (d.check = 0)) = true
  v : (D.dVotes.all fun d => decide (Ap d = 0)) = true
  c : (D.dCuts.all fun d => decide (d.check = 0)) = true
  e : (D.dCerts.all fun d => decide (d.check = 0)) = true
section
variable {W : World} {m : Msg} {D E : DMsg}
end

end Go.Proofs.YtdifpjmfabhpiaaGreat
end

section
namespace Go.Proofs.YtdifpjmfabhpiaaGreat
open Go Hw

structure DMsg.tiny (a : DMsg) : Prop where
  h : a.dHeads.length ≤ 1000000
  w : a.dWant.length ≤ 1000000
  b : ∀ d ∈ a.dBlocks, d.ls.length ≤ 1000000
  c : ∀ d ∈ a.dCuts, d.dHeads.length ≤ 1000000
  e : ∀ d ∈ a.dCerts, d.dCut.dHeads.length ≤ 1000000

theorem lin_same (p q : Option Addr) (n m c1 c2 : Nat) (xs ys : List (List UInt8)) (hx : ∀ l ∈ xs, l.length = 32) (hy : ∀ l ∈ ys, l.length = 32) (h1 : xs.length = n) (h2 : ys.length = m) (hn : n ≤ 1000000) : Meets Tryz.prog 218 [.slice p n c1, .slice q m c2] [] (fun W => SeesP W p (Bs xs) ∧ SeesP W q (Bs ys)) (fun v out => v = .bool (decide (xs = ys)) ∧ out = []) := by
 intro W hW
 refine Ag Tryz.func218 J 8 Tryz.ntmps218 J (G9 ?_)
 refine .cV J J J J Body155 (seq_any p q n m c1 c2 xs ys hx hy h1 h2 hn) (fun w h => ⟨Ao h J hW.1, Ao h J hW.2⟩) (G5 ?_)
 refine ⟨_, [], Ad J J, sP, sP, ?_, rfl⟩
 rfl

theorem cut_same (A B : Cut) (a b : DCut) (hn : A.fHeads.n ≤ 1000000) : Meets Tryz.prog 145 [agg A.cells, agg B.cells] [] (fun W => CutIs W A a ∧ CutIs W B b) (fun v out => v = .bool (sameC a b) ∧ out = []) := by
 intro W hW
 have hA := hW.1.ok
 have hB := hW.2.ok
 have e1 := hW.1.fHeight
 have e2 := hW.2.fHeight
 have e3 := hW.1.fPrev
 have e4 := hW.2.fPrev
 refine Ag Tryz.func145 J 24 Tryz.ntmps145 J (G3 ?_)
 intro n2 hn2 hf2
 refine G1 ?_
 intro n3 hn3 hf3
 refine G9 ?_
 refine two (fun r hr k => Tr.eqi J J J J hr k) (fun hs1_40 => ?_) (fun hs1_40 => ?_)
 ·
  have hs1_4 := of_decide_eq_true hs1_40
  refine G2 ?_
  refine .lN (Aa _) J J J Y50.h J Sz50 Z1 (Cut.row_fPrev zA) (Cut.rl_fPrev zA) ?_
  refine G1 ?_
  refine .lN (Aa _) J J J Y50.h J Sz50 Z0 (Cut.row_fPrev zA) (Cut.rl_fPrev zA) ?_
  refine two (fun r hr k => Tr.eql_bytes J J J J Tryz.eqGuardType50 Y50.h Y5.h Sz5 (by (simp [hA.l_fPrev]; done)) (by (simp [hB.l_fPrev]; done)) hr k) (fun hs1_100 => ?_) (fun hs1_100 => ?_)
  ·
   have hs1_10 := of_decide_eq_true hs1_100
   refine G6 ?_
   refine .cV J J J J Body218 (lin_same _ _ _ _ _ _ a.dHeads b.dHeads hW.1.fHeads.row hW.2.fHeads.row hW.1.fHeads.len hW.2.fHeads.len hn) (fun w h => ⟨Ao h J hW.1.fHeads.see, Ao h J hW.2.fHeads.see⟩) (G6 ?_)
   refine ⟨_, [], Ad J J, sP, sP, ?_, rfl⟩
   unfold sameC
   simp_all
  have hs1_10 := of_decide_eq_false hs1_100
  refine G13 ?_
  refine ⟨_, [], Ad J J, sP, sP, ?_, rfl⟩
  unfold sameC
  simp_all
 have hs1_4 := of_decide_eq_false hs1_40
 refine G19 ?_
 refine ⟨_, [], Ad J J, sP, sP, ?_, rfl⟩
 unfold sameC
 simp_all
theorem vote_sameV (a b : Vote) (ha : a.ok) (hb : b.ok) : Meets Tryz.prog 147 [agg a.cells, agg b.cells] [] (fun _ => True) (fun v out => v = .bool (sameV a b) ∧ out = []) := vote_same a b ha hb
theorem block_sameD (A B : Block) (a b : DB) (hn : A.fLinks.n ≤ 1000000) : Meets Tryz.prog 157 [agg A.cells, agg B.cells] [] (fun W => BlockIs W A a ∧ BlockIs W B b) (fun v out => v = .bool (sameBk a b) ∧ out = []) := fun W hW => by
  rw [← sameB_Bk hW.1 hW.2]
  exact block_same A B hW.1.ok hW.2.ok a.ls b.ls a.ds b.ds hn W ⟨⟨hW.1.ls, hW.1.ds⟩, ⟨hW.2.ls, hW.2.ds⟩⟩

theorem eqfg_vote (s u : Sl) (xs ys : List Vote) : Meets Tryz.prog 146 [s.v, u.v, .func (.func 147) #[] #[]] [] (fun W => VotesAt W s xs ∧ VotesAt W u ys) (fun v out => v = .bool (sameL sameV xs ys) ∧ out = []) := by
 intro W hW
 obtain ⟨⟨rs, hs⟩, ⟨ru, hu⟩⟩ := hW
 have hnd := hs.nd
 have hnu := hu.nd
 have hmax := hs.max
 have hmaxu := hu.max
 simp only [maxLen] at hmax hmaxu
 refine Ag Tryz.func146 J 32 Tryz.ntmps146 J (G15 ?_)
 refine .condNP J (fun hc0 => ?_) (fun hc0 => ?_)
 ·
  refine G8 ?_
  refine ⟨_, [], Ad J J, sP, sP, ?_, rfl⟩
  exact congrArg Value.bool (sameL_len (by rw [hnd, hnu]; omega)).symm
 refine G11 ?_
 refine .loop (ι := Nat) (fun k => ⟨[(1, u.v), (2, .func (.func 147) #[] #[]), (15, s.v), (16, i64 (s.n : Int)), (17, i64 (k : Int))], []⟩) (fun k => k ≤ s.n ∧ s.n = u.n ∧ ∀ (j : Nat) (a b : Vote), j < k → xs[j]? = some a → ys[j]? = some b → sameV a b = true) (fun k => s.n - k) (0) ?_ ?_ ?_
 · exact ⟨by omega, by omega, fun j a b hj => by omega⟩
 · exact Ai (wk1 rfl (wk1 rfl (wk1 rfl (wk1 rfl (wk1 rfl wk0))))) wh0 nD
 rintro k ⟨hk, hsu, hg⟩
 refine G6 ?_
 refine .condP J (fun hc1 => ?_) (fun hc1 => ?_)
 ·
  have hk2 : k < s.n := by omega
  obtain ⟨b, o, r, d, hsp, hr, hd, his, hlen, hsee⟩ := hs.at dE hk2
  obtain ⟨b2, o2, r2, d2, hspu, hru, hdu, hiu, hlenu, hseeu⟩ := hu.at dE (show k < u.n by omega)
  obtain rfl := his.eq
  obtain rfl := hiu.eq
  refine G7 ?_
  refine .idxSlP 132 J J J hsp J Y24.h Sz81 k J oM (.loadEN r.cells J J J Y81.h J Sz81 sP hlen hsee (.alloc (cs := Vote.zero.cells) J Vote.zr J ?_))
  intro n8 hn8 hf8
  refine G1 ?_
  refine .sA J J J J (Vote.isCell (by exact his.ok)) Sz81 (Vote.length (by exact his.ok)) Z0 (Vote.length zT) zU ?_
  refine G6 ?_
  refine .idxSlP 132 J J J hspu J Y24.h Sz81 k J oM (.loadEN r2.cells J J J Y81.h J Sz81 sP hlenu hseeu (.alloc (cs := Vote.zero.cells) J Vote.zr J ?_))
  intro n9 hn9 hf9
  refine .sA J J J J (Vote.isCell (by exact hiu.ok)) Sz81 (Vote.length (by exact hiu.ok)) Z0 (Vote.length zT) zU ?_
  refine G5 ?_
  refine .lA J J J Y81.h J Sz81 Z1 (Vote.length (by exact his.ok)) ?_
  refine .lA J J J Y81.h J Sz81 Z0 (Vote.length (by exact hiu.ok)) ?_
  refine .cV J J J J Body147 (vote_sameV r r2 his.ok hiu.ok) tV (G3 ?_)
  refine .cond J (fun hc2 => ?_) (fun hc2 => ?_)
  ·
   refine G12 ?_
   refine ⟨_, [], Ad J J, sP, sP, ?_, rfl⟩
   exact congrArg Value.bool (sameL_no hd hdu (by simp_all; done)).symm
  refine G8 ?_
  exact ⟨k + 1, ⟨by omega, hsu, fun j a b hj ha hb => by rcases Nat.lt_succ_iff_lt_or_eq.1 hj with h | rfl; exact hg j a b h ha hb; exact (by rw [hd] at ha; rw [hdu] at hb; cases ha; cases hb; simp_all)⟩, by omega, Ai (wk1 rfl (wk1 rfl (wk1 rfl (wk1 rfl (wk1 (by rw [Int.natCast_add]; rfl) wk0))))) wh0 nD⟩
 obtain rfl : k = s.n := by omega
 refine G12 ?_
 refine ⟨_, [], Ad J J, sP, sP, ?_, rfl⟩
 exact congrArg Value.bool (sameL_yes (by rw [hnd, hnu]; omega) (by rw [hnd]; exact hg)).symm
theorem eqfg_cut (s u : Sl) (xs ys : List DCut) (hsm : ∀ d ∈ xs, d.dHeads.length ≤ 1000000) : Meets Tryz.prog 158 [s.v, u.v, .func (.func 145) #[] #[]] [] (fun W => CutsAt W s xs ∧ CutsAt W u ys) (fun v out => v = .bool (sameL sameC xs ys) ∧ out = []) := by
 intro W hW
 obtain ⟨⟨rs, hs⟩, ⟨ru, hu⟩⟩ := hW
 have hnd := hs.nd
 have hnu := hu.nd
 have hmax := hs.max
 have hmaxu := hu.max
 simp only [maxLen] at hmax hmaxu
 refine Ag Tryz.func158 J 32 Tryz.ntmps158 J (G15 ?_)
 refine .condNP J (fun hc0 => ?_) (fun hc0 => ?_)
 ·
  refine G8 ?_
  refine ⟨_, [], Ad J J, sP, sP, ?_, rfl⟩
  exact congrArg Value.bool (sameL_len (by rw [hnd, hnu]; omega)).symm
 refine G11 ?_
 refine .loop (ι := Nat) (fun k => ⟨[(1, u.v), (2, .func (.func 145) #[] #[]), (15, s.v), (16, i64 (s.n : Int)), (17, i64 (k : Int))], []⟩) (fun k => k ≤ s.n ∧ s.n = u.n ∧ ∀ (j : Nat) (a b : DCut), j < k → xs[j]? = some a → ys[j]? = some b → sameC a b = true) (fun k => s.n - k) (0) ?_ ?_ ?_
 · exact ⟨by omega, by omega, fun j a b hj => by omega⟩
 · exact Ai (wk1 rfl (wk1 rfl (wk1 rfl (wk1 rfl (wk1 rfl wk0))))) wh0 nD
 rintro k ⟨hk, hsu, hg⟩
 refine G6 ?_
 refine .condP J (fun hc1 => ?_) (fun hc1 => ?_)
 ·
  have hk2 : k < s.n := by omega
  obtain ⟨b, o, r, d, hsp, hr, hd, his, hlen, hsee⟩ := hs.at dE hk2
  obtain ⟨b2, o2, r2, d2, hspu, hru, hdu, hiu, hlenu, hseeu⟩ := hu.at dE (show k < u.n by omega)
  refine G7 ?_
  refine .idxSlP 34 J J J hsp J Y25.h Sz53 k J oM (.loadEN r.cells J J J Y53.h J Sz53 sP hlen hsee (.alloc (cs := Cut.zero.cells) J Cut.zr J ?_))
  intro n8 hn8 hf8
  refine G1 ?_
  refine .sA J J J J (Cut.isCell (by exact his.ok)) Sz53 (Cut.length (by exact his.ok)) Z0 (Cut.length (by exact Cut.zero_ok)) zU ?_
  refine G6 ?_
  refine .idxSlP 34 J J J hspu J Y25.h Sz53 k J oM (.loadEN r2.cells J J J Y53.h J Sz53 sP hlenu hseeu (.alloc (cs := Cut.zero.cells) J Cut.zr J ?_))
  intro n9 hn9 hf9
  refine .sA J J J J (Cut.isCell (by exact hiu.ok)) Sz53 (Cut.length (by exact hiu.ok)) Z0 (Cut.length (by exact Cut.zero_ok)) zU ?_
  refine G5 ?_
  refine .lA J J J Y53.h J Sz53 Z1 (Cut.length (by exact his.ok)) ?_
  refine .lA J J J Y53.h J Sz53 Z0 (Cut.length (by exact hiu.ok)) ?_
  refine .cV J J J J Body145 (cut_same r r2 d d2 (by rw [← his.fHeads.len]; exact hsm d (List.mem_of_getElem? hd))) (fun w h => ⟨his.ext h J, hiu.ext h J⟩) ?_
  refine G3 ?_
  refine .cond J (fun hc2 => ?_) (fun hc2 => ?_)
  ·
   refine G12 ?_
   refine ⟨_, [], Ad J J, sP, sP, ?_, rfl⟩
   exact congrArg Value.bool (sameL_no hd hdu (by simp_all; done)).symm
  refine G8 ?_
  exact ⟨k + 1, ⟨by omega, hsu, fun j a b hj ha hb => by rcases Nat.lt_succ_iff_lt_or_eq.1 hj with h | rfl; exact hg j a b h ha hb; exact (by rw [hd] at ha; rw [hdu] at hb; cases ha; cases hb; simp_all)⟩, by omega, Ai (wk1 rfl (wk1 rfl (wk1 rfl (wk1 rfl (wk1 (by rw [Int.natCast_add]; rfl) wk0))))) wh0 nD⟩
 obtain rfl : k = s.n := by omega
 refine G12 ?_
 refine ⟨_, [], Ad J J, sP, sP, ?_, rfl⟩
 exact congrArg Value.bool (sameL_yes (by rw [hnd, hnu]; omega) (by rw [hnd]; exact hg)).symm
theorem eqfg_block (s u : Sl) (xs ys : List DB) (hsm : ∀ d ∈ xs, d.ls.length ≤ 1000000) : Meets Tryz.prog 156 [s.v, u.v, .func (.func 157) #[] #[]] [] (fun W => BlocksAt W s xs ∧ BlocksAt W u ys) (fun v out => v = .bool (sameL sameBk xs ys) ∧ out = []) := by
 intro W hW
 obtain ⟨⟨rs, hs⟩, ⟨ru, hu⟩⟩ := hW
 have hnd := hs.nd
 have hnu := hu.nd
 have hmax := hs.max
 have hmaxu := hu.max
 simp only [maxLen] at hmax hmaxu
 refine Ag Tryz.func156 J 32 Tryz.ntmps156 J (G15 ?_)
 refine .condNP J (fun hc0 => ?_) (fun hc0 => ?_)
 ·
  refine G8 ?_
  refine ⟨_, [], Ad J J, sP, sP, ?_, rfl⟩
  exact congrArg Value.bool (sameL_len (by rw [hnd, hnu]; omega)).symm
 refine G11 ?_
 refine .loop (ι := Nat) (fun k => ⟨[(1, u.v), (2, .func (.func 157) #[] #[]), (15, s.v), (16, i64 (s.n : Int)), (17, i64 (k : Int))], []⟩) (fun k => k ≤ s.n ∧ s.n = u.n ∧ ∀ (j : Nat) (a b : DB), j < k → xs[j]? = some a → ys[j]? = some b → sameBk a b = true) (fun k => s.n - k) (0) ?_ ?_ ?_
 · exact ⟨by omega, by omega, fun j a b hj => by omega⟩
 · exact Ai (wk1 rfl (wk1 rfl (wk1 rfl (wk1 rfl (wk1 rfl wk0))))) wh0 nD
 rintro k ⟨hk, hsu, hg⟩
 refine G6 ?_
 refine .condP J (fun hc1 => ?_) (fun hc1 => ?_)
 ·
  have hk2 : k < s.n := by omega
  obtain ⟨b, o, r, d, hsp, hr, hd, his, hlen, hsee⟩ := hs.at dE hk2
  obtain ⟨b2, o2, r2, d2, hspu, hru, hdu, hiu, hlenu, hseeu⟩ := hu.at dE (show k < u.n by omega)
  refine G7 ?_
  refine .idxSlP 131 J J J hsp J Y22.h Sz79 k J oM (.loadEN r.cells J J J Y79.h J Sz79 sP hlen hsee (.alloc (cs := Block.zero.cells) J Block.zr J ?_))
  intro n8 hn8 hf8
  refine G1 ?_
  refine .sA J J J J (Block.isCell (by exact his.ok)) Sz79 (Block.length (by exact his.ok)) Z0 (Block.length (by exact Block.zero_ok)) zU ?_
  refine G6 ?_
  refine .idxSlP 131 J J J hspu J Y22.h Sz79 k J oM (.loadEN r2.cells J J J Y79.h J Sz79 sP hlenu hseeu (.alloc (cs := Block.zero.cells) J Block.zr J ?_))
  intro n9 hn9 hf9
  refine .sA J J J J (Block.isCell (by exact hiu.ok)) Sz79 (Block.length (by exact hiu.ok)) Z0 (Block.length (by exact Block.zero_ok)) zU ?_
  refine G5 ?_
  refine .lA J J J Y79.h J Sz79 Z1 (Block.length (by exact his.ok)) ?_
  refine .lA J J J Y79.h J Sz79 Z0 (Block.length (by exact hiu.ok)) ?_
  refine .cV J J J J Body157 (block_sameD r r2 d d2 (by rw [← his.ls.len]; exact hsm d (List.mem_of_getElem? hd))) (fun w h => ⟨his.ext h J, hiu.ext h J⟩) ?_
  refine G3 ?_
  refine .cond J (fun hc2 => ?_) (fun hc2 => ?_)
  ·
   refine G12 ?_
   refine ⟨_, [], Ad J J, sP, sP, ?_, rfl⟩
   exact congrArg Value.bool (sameL_no hd hdu (by simp_all; done)).symm
  refine G8 ?_
  exact ⟨k + 1, ⟨by omega, hsu, fun j a b hj ha hb => by rcases Nat.lt_succ_iff_lt_or_eq.1 hj with h | rfl; exact hg j a b h ha hb; exact (by rw [hd] at ha; rw [hdu] at hb; cases ha; cases hb; simp_all)⟩, by omega, Ai (wk1 rfl (wk1 rfl (wk1 rfl (wk1 rfl (wk1 (by rw [Int.natCast_add]; rfl) wk0))))) wh0 nD⟩
 obtain rfl : k = s.n := by omega
 refine G12 ?_
 refine ⟨_, [], Ad J J, sP, sP, ?_, rfl⟩
 exact congrArg Value.bool (sameL_yes (by rw [hnd, hnu]; omega) (by rw [hnd]; exact hg)).symm
theorem same_cert (A B : Cert) (a b : DCert) (hn : A.fCut.fHeads.n ≤ 1000000) : Meets Tryz.prog 43 [agg A.cells, agg B.cells] [] (fun W => CertIs W A a ∧ CertIs W B b) (fun v out => v = .bool (sameE a b) ∧ out = []) := by
 intro W hW
 have hA := hW.1.ok
 have hB := hW.2.ok
 refine Ag Tryz.func43 J 17 Tryz.ntmps43 J (G3 ?_)
 intro n2 hn2 hf2
 refine G1 ?_
 intro n3 hn3 hf3
 refine G6 ?_
 refine .lN (Cut.cells _) J J J Y53.h J Sz53 Z1 (Cert.row_fCut zA) (Cert.rl_fCut zA) ?_
 refine G1 ?_
 refine .lN (Cut.cells _) J J J Y53.h J Sz53 Z0 (Cert.row_fCut zA) (Cert.rl_fCut zA) ?_
 refine .callB J J J J Body145 (cut_same A.fCut B.fCut a.dCut b.dCut hn) (fun w h => ⟨hW.1.fCut.ext h J, hW.2.fCut.ext h J⟩) (fun hs1_40 => ?_) (fun hs1_40 => ?_)
 ·
  have hs1_4 := hs1_40
  refine G5 ?_
  refine .cV J J J J Body146 (eqfg_vote A.fVotes B.fVotes a.dVotes b.dVotes) (fun w h => ⟨Cj h J hW.1.fVotes, Cj h J hW.2.fVotes⟩) (G6 ?_)
  refine ⟨_, [], Ad J J, sP, sP, ?_, rfl⟩
  simp_all [sameE]
 have hs1_4 := hs1_40
 refine G12 ?_
 refine ⟨_, [], Ad J J, sP, sP, ?_, rfl⟩
 simp_all [sameE]
theorem eqfg_cert (s u : Sl) (xs ys : List DCert) (hsm : ∀ d ∈ xs, d.dCut.dHeads.length ≤ 1000000) : Meets Tryz.prog 159 [s.v, u.v, .func (.func 43) #[] #[]] [] (fun W => CertsAt W s xs ∧ CertsAt W u ys) (fun v out => v = .bool (sameL sameE xs ys) ∧ out = []) := by
 intro W hW
 obtain ⟨⟨rs, hs⟩, ⟨ru, hu⟩⟩ := hW
 have hnd := hs.nd
 have hnu := hu.nd
 have hmax := hs.max
 have hmaxu := hu.max
 simp only [maxLen] at hmax hmaxu
 refine Ag Tryz.func159 J 32 Tryz.ntmps159 J (G15 ?_)
 refine .condNP J (fun hc0 => ?_) (fun hc0 => ?_)
 ·
  refine G8 ?_
  refine ⟨_, [], Ad J J, sP, sP, ?_, rfl⟩
  exact congrArg Value.bool (sameL_len (by rw [hnd, hnu]; omega)).symm
 refine G11 ?_
 refine .loop (ι := Nat) (fun k => ⟨[(1, u.v), (2, .func (.func 43) #[] #[]), (15, s.v), (16, i64 (s.n : Int)), (17, i64 (k : Int))], []⟩) (fun k => k ≤ s.n ∧ s.n = u.n ∧ ∀ (j : Nat) (a b : DCert), j < k → xs[j]? = some a → ys[j]? = some b → sameE a b = true) (fun k => s.n - k) (0) ?_ ?_ ?_
 · exact ⟨by omega, by omega, fun j a b hj => by omega⟩
 · exact Ai (wk1 rfl (wk1 rfl (wk1 rfl (wk1 rfl (wk1 rfl wk0))))) wh0 nD
 rintro k ⟨hk, hsu, hg⟩
 refine G6 ?_
 refine .condP J (fun hc1 => ?_) (fun hc1 => ?_)
 ·
  have hk2 : k < s.n := by omega
  obtain ⟨b, o, r, d, hsp, hr, hd, his, hlen, hsee⟩ := hs.at dE hk2
  obtain ⟨b2, o2, r2, d2, hspu, hru, hdu, hiu, hlenu, hseeu⟩ := hu.at dE (show k < u.n by omega)
  refine G7 ?_
  refine .idxSlP 35 J J J hsp J Y23.h Sz55 k J oM (.loadEN r.cells J J J Y55.h J Sz55 sP hlen hsee (.alloc (cs := Cert.zero.cells) J Cert.zr J ?_))
  intro n8 hn8 hf8
  refine G1 ?_
  refine .sA J J J J (Cert.isCell (by exact his.ok)) Sz55 (Cert.length (by exact his.ok)) Z0 (Cert.length (by exact Cert.zero_ok)) zU ?_
  refine G6 ?_
  refine .idxSlP 35 J J J hspu J Y23.h Sz55 k J oM (.loadEN r2.cells J J J Y55.h J Sz55 sP hlenu hseeu (.alloc (cs := Cert.zero.cells) J Cert.zr J ?_))
  intro n9 hn9 hf9
  refine .sA J J J J (Cert.isCell (by exact hiu.ok)) Sz55 (Cert.length (by exact hiu.ok)) Z0 (Cert.length (by exact Cert.zero_ok)) zU ?_
  refine G5 ?_
  refine .lA J J J Y55.h J Sz55 Z1 (Cert.length (by exact his.ok)) ?_
  refine .lA J J J Y55.h J Sz55 Z0 (Cert.length (by exact hiu.ok)) ?_
  refine .cV J J J J Body43 (same_cert r r2 d d2 (by rw [← his.fCut.fHeads.len]; exact hsm d (List.mem_of_getElem? hd))) (fun w h => ⟨his.ext h J, hiu.ext h J⟩) ?_
  refine G3 ?_
  refine .cond J (fun hc2 => ?_) (fun hc2 => ?_)
  ·
   refine G12 ?_
   refine ⟨_, [], Ad J J, sP, sP, ?_, rfl⟩
   exact congrArg Value.bool (sameL_no hd hdu (by simp_all; done)).symm
  refine G8 ?_
  exact ⟨k + 1, ⟨by omega, hsu, fun j a b hj ha hb => by rcases Nat.lt_succ_iff_lt_or_eq.1 hj with h | rfl; exact hg j a b h ha hb; exact (by rw [hd] at ha; rw [hdu] at hb; cases ha; cases hb; simp_all)⟩, by omega, Ai (wk1 rfl (wk1 rfl (wk1 rfl (wk1 rfl (wk1 (by rw [Int.natCast_add]; rfl) wk0))))) wh0 nD⟩
 obtain rfl : k = s.n := by omega
 refine G12 ?_
 refine ⟨_, [], Ad J J, sP, sP, ?_, rfl⟩
 exact congrArg Value.bool (sameL_yes (by rw [hnd, hnu]; omega) (by rw [hnd]; exact hg)).symm

theorem r8_Check (X : Record) (D : DRecord) : Meets Tryz.prog 221 [agg X.cells] [] (fun W => RecordIs W X D) (fun v out => v = i64 D.check ∧ out = []) := by
 intro W hW
 have hok := hW.ok
 have hk := hW.fKind
 have hl := hW.fData.len
 refine Ag Tryz.func221 J 12 Tryz.ntmps221 J (G3 ?_)
 intro n1 hn1 hf1
 refine G8 ?_
 refine two (fun r hr k => Tr.eqi J J J J hr k) (fun hs1_20 => ?_) (fun hs1_20 => ?_)
 ·
  have hs1_2 := of_decide_eq_true hs1_20
  refine G8 ?_
  refine .cond_t J J (G8 ?_)
  refine ⟨_, [], Ad J J, sP, sP, ?_, rfl⟩
  unfold DRecord.check
  (refine congrArg i64 (if_pos (Or.inl (UInt8.toNat_inj.1 ?_))).symm; simp_all; done)
 have hs1_2 := of_decide_eq_false hs1_20
 refine G8 ?_
 refine .condP J (fun hc0 => ?_) (fun hc0 => ?_)
 ·
  refine G8 ?_
  refine ⟨_, [], Ad J J, sP, sP, ?_, rfl⟩
  unfold DRecord.check
  (refine congrArg i64 (if_pos (Or.inr ?_)).symm; omega)
 refine G9 ?_
 refine ⟨_, [], Ad J J, sP, sP, ?_, rfl⟩
 unfold DRecord.check
 (refine congrArg i64 (if_neg ?_).symm; have h0 : D.dKind = 0 → X.fKind.toNat = 0 := (fun e => by rw [hk, e]; rfl); rintro (h | h); (have := h0 h; omega); omega)
noncomputable def recX (K : UInt8) (s : Sl) (bs : List UInt8) (e : Int) : Record := if e = 0 then (if (⟨K, bs⟩ : DRecord).check = 0 then ⟨K, s⟩ else Record.zero) else Record.zero
theorem recX_1 {K : UInt8} {s : Sl} {bs : List UInt8} {e : Int} (h : ¬ e = 0) : (.tuple #[agg Record.zero.cells, i64 e] : Value) = .tuple #[agg (recX K s bs e).cells, i64 (Ar K bs e).2] := by
  rw [recX, if_neg h, Ar, if_neg h]
theorem recX_2 {K : UInt8} {s : Sl} {bs : List UInt8} {e : Int} (h : e = 0) (h2 : ¬ (⟨K, bs⟩ : DRecord).check = 0) : (.tuple #[agg Record.zero.cells, i64 (⟨K, bs⟩ : DRecord).check] : Value) = .tuple #[agg (recX K s bs e).cells, i64 (Ar K bs e).2] := by
  rw [recX, if_pos h, if_neg h2, Ar, if_pos h, if_neg h2]
  unfold DRecord.check at h2 ⊢
  split at h2
  · rw [if_pos zA]
  · exact absurd rfl h2
theorem recX_3 {K : UInt8} {s : Sl} {bs : List UInt8} {e : Int} (h : e = 0) (h2 : (⟨K, bs⟩ : DRecord).check = 0) : (.tuple #[agg (⟨K, s⟩ : Record).cells, i64 0] : Value) = .tuple #[agg (recX K s bs e).cells, i64 (Ar K bs e).2] := by
  rw [recX, if_pos h, if_pos h2, Ar, if_pos h, if_pos h2]

theorem r26_record (K : UInt8) (s : Sl) (bs : List UInt8) (e : Int) : Meets Tryz.prog 161 [u8 K, s.v, i64 e] [] (fun W => BytesAt W s bs) (fun v out => v = .tuple #[agg (recX K s bs e).cells, i64 (Ar K bs e).2] ∧ out = []) := by
  intro W hW
  refine Ag Tryz.func161 J 21 Tryz.ntmps161 J (G2 ?_)
  refine .alloc (cs := Record.zero.cells) J Record.zr J ?_
  intro n6 hn6 hf6
  refine G7 ?_
  refine .build (cs := (⟨K, s⟩ : Record).cells) J J J (fun w => by kernel_rfl) ?_
  refine .alloc (cs := Record.zero.cells) J Record.zr J ?_
  intro n8 hn8 hf8
  refine .sA J J J J (Record.isCell (by exact ⟨trivial⟩)) Sz91 (Record.length (by exact ⟨trivial⟩)) Z0 (Record.length (by exact Record.zero_ok)) zU ?_
  refine G2 ?_
  refine .join (ι := Int) (fun j => ⟨[(2, i64 j), (6, ptr n6 0), (8, ptr n8 0)], [⟨n8, (⟨K, s⟩ : Record).cells, 91, 2⟩, ⟨n6, Record.zero.cells, 91, 2⟩]⟩) (fun j => j = (if e = 0 then (⟨K, bs⟩ : DRecord).check else e)) ?_ ?_
  ·
    refine G6 ?_
    refine .condP J (fun hc0 => ?_) (fun hc0 => ?_)
    ·
      refine .region (.lA J J J Y91.h J Sz91 Z0 (Record.length (by exact ⟨trivial⟩)) ?_)
      refine .cV J J J J Body221 (r8_Check ⟨K, s⟩ ⟨K, bs⟩) (fun w h => ⟨⟨trivial⟩, rfl, bytes_ext h J hW⟩) (G3 ?_)
      exact ⟨_, (if_pos hc0).symm, Ai (wk1 rfl (wk1 rfl (wk1 rfl wk0))) (wh1 Z0 (wh1 Z1 wh0)) nD⟩
    refine G2 ?_
    exact ⟨_, (if_neg hc0).symm, Ai (wk1 rfl (wk1 rfl (wk1 rfl wk0))) (wh1 Z0 (wh1 Z1 wh0)) nD⟩
  intro j hj
  skip
  refine G7 ?_
  refine .condNP J (fun hc1 => ?_) (fun hc1 => ?_)
  ·
    refine G2 ?_
    refine .build (cs := Record.zero.cells) J J J (fun w => by kernel_rfl) ?_
    refine G8 ?_
    refine ⟨_, [], Am J J J Y91.h J Sz91 Z1 (by exact Record.length (by exact Record.zero_ok)), sP, sP, ?_, rfl⟩
    first
      | (by_cases h : e = 0
         · rw [if_pos h] at hj; subst hj; exact recX_2 h zA
         · rw [if_neg h] at hj; subst hj; exact recX_1 h)
      | (have hj0 : j = 0 := by omega
         rw [hj] at hj0; by_cases h : e = 0
         · rw [if_pos h] at hj0; exact recX_3 h hj0
         · rw [if_neg h] at hj0; exact absurd hj0 h)
  refine G4 ?_
  refine .lA J J J Y91.h J Sz91 Z0 (Record.length (by exact ⟨trivial⟩)) ?_
  refine .sA J J J J (Record.isCell (by exact ⟨trivial⟩)) Sz91 (Record.length (by exact ⟨trivial⟩)) Z1 (Record.length (by exact Record.zero_ok)) zV ?_
  refine G5 ?_
  refine ⟨_, [], Am J J J Y91.h J Sz91 Z1 (by exact Record.length (by exact ⟨trivial⟩)), sP, sP, ?_, rfl⟩
  first
    | (by_cases h : e = 0
       · rw [if_pos h] at hj; subst hj; exact recX_2 h zA
       · rw [if_neg h] at hj; subst hj; exact recX_1 h)
    | (have hj0 : j = 0 := by omega
       rw [hj] at hj0; by_cases h : e = 0
       · rw [if_pos h] at hj0; exact recX_3 h hj0
       · rw [if_neg h] at hj0; exact absurd hj0 h)
def ByC (e : Int) (l : List UInt8) (v : Value) (out : List Blk) : Prop := ∃ s : Sl, v = .tuple #[s.v, i64 e] ∧ s.n = l.length ∧ ∀ W2, Lies out W2 → BytesAt W2 s l
theorem r15_BytesC (B : Block) (D : DB) (hB : B.ok) : Meets Tryz.prog 149 [agg B.cells] [] (fun W => BlockIs W B D) (ByC D.check (bytesR D)) := by
 intro W hW
 have hsl := hB.l_fSig
 have hsg := hW.sg
 refine Ag Tryz.func149 J 13 Tryz.ntmps149 J (G3 ?_)
 intro n1 hn1 hf1
 refine G8 ?_
 refine .cV J J J J Body154 (r15_Check B D) (fun w h => hW.ext h J) (G3 ?_)
 refine .condNP J (fun hc0 => ?_) (fun hc0 => ?_)
 ·
  have hq0 : ¬ D.check = 0 := by omega
  refine G9 ?_
  refine Ah (out := []) (A9 J J J) Ae ?_
  rw [dcheck_2 hq0]
  exact ⟨Sl.nil, rfl, by rw [show bytesR D = [] from if_neg hq0]; rfl, fun W2 _ => by rw [show bytesR D = [] from if_neg hq0]; exact ⟨rfl, Nat.le_refl _, SeesP.nil, by decide, fun _ => rfl⟩⟩
 have hq0 : D.check = 0 := by omega
 obtain ⟨h1, h2⟩ := D.head_small hq0
 have hvn : (btxt D).length ≤ 4005 := DB.body_small hW.dok oM oM
 have hbl5 : (btxt D).length = 5 + D.body.length := by rw [btxt, List.length_append]; rfl
 refine G3 ?_
 refine .draw [(1, 0), (0, 3), (0, 4), (3, 1), (0, 2), (4, 5), (0, 6), (0, 7)] Ba zK (G3 ?_)
 refine .call J J J J Body219 (r15_Text B D hB oM oM) (FreshRow.loose _ _ _ _) (fun w h => hW.ext h J) ?_
 rintro v8 out8 ⟨q8, c8, rfl, hc8, rfl⟩
 refine .sliceLoN 5 J J J J J oM oM Y58.h Sz5 (.appendO (z := u8 0) (by' := 1) (Aa B.fSig) J J J J J Y58.h Y58.h Sz5 Zr5 (by unfold By; kernel_rfl) J (text_off hc8 hbl5) sG (fun w h => SeesP.of (sees_part h Z1 (Block.see_fSig hB))) dE (fun e => by cases e) (As _) oM oM (by simp [hsl]) ?_)
 intro s12 bl12 hac12
 refine G6 ?_
 refine Ah (out := (bl12 ++ [])) (A9 J J J) (Ab sG Ae) ?_
 rw [hq0, show bytesR D = D.body ++ D.sg from if_pos hq0, ← hsg, List.append_nil]
 have hnn : s12.n = (D.body ++ B.fSig).length := by rw [hac12.num, List.length_append, hsl]; omega
 refine ⟨s12, rfl, hnn, fun W2 h2 => ⟨hnn.symm, hac12.cap, by rw [Bx]; exact hac12.see h2, by rw [hnn, List.length_append, hsl]; simp only [maxLen]; omega, hac12.nilc⟩⟩
theorem rec_okB {K : UInt8} {bs : List UInt8} {chk : Int} {out : List Blk} {s : Sl} (h : chk = 0) (h2 : (⟨K, bs⟩ : DRecord).check = 0) (ha : ∀ W2, Lies out W2 → BytesAt W2 s bs) : RecMade K bs chk (.tuple #[agg (⟨K, s⟩ : Record).cells, i64 0]) out := by
  have e : Ar K bs chk = (⟨K, bs⟩, 0) := by rw [Ar, if_pos h, if_pos h2]
  refine ⟨⟨K, s⟩, ⟨trivial⟩, ?_, ?_, fun W2 hl => ?_⟩ <;> rw [e]
  exact ⟨⟨trivial⟩, rfl, ha W2 hl⟩
theorem recX_madeB {K : UInt8} {s : Sl} {bs : List UInt8} {e : Int} {out : List Blk} (ha : ∀ W2, Lies out W2 → BytesAt W2 s bs) : RecMade K bs e (.tuple #[agg (recX K s bs e).cells, i64 (Ar K bs e).2]) out := by
  by_cases h : e = 0
  · by_cases h2 : (⟨K, bs⟩ : DRecord).check = 0
    · rw [← recX_3 h h2, h]; exact rec_okB rfl h2 ha
    · have e1 : (⟨K, bs⟩ : DRecord).check = 2 := by
        unfold DRecord.check at h2 ⊢
        split at h2
        · rw [if_pos zA]
        · exact absurd rfl h2
      have := rec_bad2 (K := K) (bs := bs) (chk := e) (out := out) h h2
      rw [← recX_2 h h2, e1]; exact this
  · rw [← recX_1 h]; exact rec_bad1 h

theorem recX_ok (K : UInt8) (s : Sl) (bs : List UInt8) (e : Int) : (recX K s bs e).ok := ⟨trivial⟩

theorem r26_Block (X : Block) (D : DB) (hX : X.ok) (hsz : (A7 D).length ≤ 40000) : Meets Tryz.prog 50 [agg X.cells] [] (fun W => BlockIs W X D) (RecMade 1 (A7 D) (D.check)) := by
 intro W hW
 refine Ag Tryz.func50 J 16 Tryz.ntmps50 J (G3 ?_)
 intro n1 hn1 hf1
 refine .alloc (cs := Record.zero.cells) J Record.zr J ?_
 intro n2 hn2 hf2
 refine G6 ?_
 refine .call4 J J J J J Body149 (r15_BytesC X D hX) (fun w h => hW.ext h J) ?_
 rintro v8 out8 ⟨s8, rfl, hn8, hby8⟩
 refine G11 ?_
 refine .cV J J J J Body161 (r26_record 1 s8 (A7 D) (D.check)) (fun w h => hby8 w (Lies.of h (by repeat (exact Aq)))) ?_
 refine G2 ?_
 refine .sA J J J J (Record.isCell (by exact recX_ok _ _ _ _)) Sz91 (Record.length (by exact recX_ok _ _ _ _)) mR (Record.length (by exact Record.zero_ok)) (by (repeat (first | exact upd0 | apply Upd.seg))) ?_
 refine G5 ?_
 refine Ah (out := (out8 ++ [])) (Am J J J Y91.h J Sz91 mR (by exact Record.length (by exact recX_ok _ _ _ _))) (Ab sG Ae) ?_
 rw [List.append_nil]; exact recX_madeB hby8

theorem r26_Cert (X : Cert) (D : DCert) (hsz : (Bd D).length ≤ 40000) : Meets Tryz.prog 53 [agg X.cells] [] (fun W => CertIs W X D) (RecMade 2 (Bd D) (D.check)) := by
 intro W hW
 refine Ag Tryz.func53 J 16 Tryz.ntmps53 J (G3 ?_)
 intro n1 hn1 hf1
 refine .alloc (cs := Record.zero.cells) J Record.zr J ?_
 intro n2 hn2 hf2
 refine G5 ?_
 refine .lA J J J Y55.h J Sz55 Z1 (Cert.length (by exact hW.ok)) ?_
 refine .call4 J J J J J Body40 (r25_CertBytes X D) (fun w h => hW.ext h J) ?_
 rintro v8 out8 ⟨s8, rfl, hac8⟩
 have hby8 : ∀ W2, Lies out8 W2 → BytesAt W2 s8 (Bd D) := fun W2 h2 => Ci hac8 h2 rfl oM
 refine G11 ?_
 refine .cV J J J J Body161 (r26_record 2 s8 (Bd D) (D.check)) (fun w h => hby8 w (Lies.of h (by repeat (exact Aq)))) ?_
 refine G2 ?_
 refine .sA J J J J (Record.isCell (by exact recX_ok _ _ _ _)) Sz91 (Record.length (by exact recX_ok _ _ _ _)) mR (Record.length (by exact Record.zero_ok)) (by (repeat (first | exact upd0 | apply Upd.seg))) ?_
 refine G5 ?_
 refine Ah (out := (out8 ++ [])) (Am J J J Y91.h J Sz91 mR (by exact Record.length (by exact recX_ok _ _ _ _))) (Ab sG Ae) ?_
 rw [List.append_nil]; exact recX_madeB hby8

theorem r26_Vote (X : Vote) (D : Vote) (hsz : (A0 D).length ≤ 40000) : Meets Tryz.prog 55 [agg X.cells] [] (fun W => VoteIs W X D) (RecMade 3 (A0 D) (Ap D)) := by
 intro W hW
 obtain rfl : D = X := hW.eq.symm
 refine Ag Tryz.func55 J 16 Tryz.ntmps55 J (G3 ?_)
 intro n1 hn1 hf1
 refine .alloc (cs := Record.zero.cells) J Record.zr J ?_
 intro n2 hn2 hf2
 refine G5 ?_
 refine .lA J J J Y81.h J Sz81 Z1 (Vote.length (by exact hW.ok)) ?_
 refine .call4 J J J J J Body134 (r20_Bytes D hW.ok) (fun w h => trivial) ?_
 rintro v8 out8 ⟨s8, rfl, hac8⟩
 have hby8 : ∀ W2, Lies out8 W2 → BytesAt W2 s8 (A0 D) := fun W2 h2 => Ci hac8 h2 rfl oM
 refine G11 ?_
 refine .cV J J J J Body161 (r26_record 3 s8 (A0 D) (Ap D)) (fun w h => hby8 w (Lies.of h (by repeat (exact Aq)))) ?_
 refine G2 ?_
 refine .sA J J J J (Record.isCell (by exact recX_ok _ _ _ _)) Sz91 (Record.length (by exact recX_ok _ _ _ _)) mR (Record.length (by exact Record.zero_ok)) (by (repeat (first | exact upd0 | apply Upd.seg))) ?_
 refine G5 ?_
 refine Ah (out := (out8 ++ [])) (Am J J J Y91.h J Sz91 mR (by exact Record.length (by exact recX_ok _ _ _ _))) (Ab sG Ae) ?_
 rw [List.append_nil]; exact recX_madeB hby8

theorem r26_Cut (X : Cut) (D : DCut) (hsz : (Bp D).length ≤ 40000) : Meets Tryz.prog 57 [agg X.cells] [] (fun W => CutIs W X D) (RecMade 4 (Bp D) (D.check)) := by
 intro W hW
 refine Ag Tryz.func57 J 16 Tryz.ntmps57 J (G3 ?_)
 intro n1 hn1 hf1
 refine .alloc (cs := Record.zero.cells) J Record.zr J ?_
 intro n2 hn2 hf2
 refine G5 ?_
 refine .lA J J J Y53.h J Sz53 Z1 (Cut.length (by exact hW.ok)) ?_
 refine .call4 J J J J J Body131 (r19_Bytes X D) (fun w h => hW.ext h J) ?_
 rintro v8 out8 ⟨s8, rfl, hac8⟩
 have hby8 : ∀ W2, Lies out8 W2 → BytesAt W2 s8 (Bp D) := fun W2 h2 => Ci hac8 h2 rfl oM
 refine G11 ?_
 refine .cV J J J J Body161 (r26_record 4 s8 (Bp D) (D.check)) (fun w h => hby8 w (Lies.of h (by repeat (exact Aq)))) ?_
 refine G2 ?_
 refine .sA J J J J (Record.isCell (by exact recX_ok _ _ _ _)) Sz91 (Record.length (by exact recX_ok _ _ _ _)) mR (Record.length (by exact Record.zero_ok)) (by (repeat (first | exact upd0 | apply Upd.seg))) ?_
 refine G5 ?_
 refine Ah (out := (out8 ++ [])) (Am J J J Y91.h J Sz91 mR (by exact Record.length (by exact recX_ok _ _ _ _))) (Ab sG Ae) ?_
 rw [List.append_nil]; exact recX_madeB hby8


theorem allk_step {α : Type} {ds : List α} {f : α → Bool} {k : Nat} {d : α} (h : ds[k]? = some d) (ha : (ds.take k).all f = true) (hf : f d = true) : (ds.take (k + 1)).all f = true := by
  rw [take_snoc h, List.all_append, ha]; simp [hf]
theorem allk_all {α : Type} {ds : List α} {f : α → Bool} {k : Nat} (ha : (ds.take k).all f = true) (h : ds.length ≤ k) : ds.all f = true := by
  rwa [List.take_of_length_le h] at ha
theorem allk_no {α : Type} {ds : List α} {f : α → Bool} {k : Nat} {d : α} (h : ds[k]? = some d) (hf : ¬ f d = true) : ds.all f = false := by
  refine Bool.eq_false_iff.2 fun h2 => hf (List.all_eq_true.1 h2 d (List.mem_of_getElem? h))
noncomputable abbrev okB (d : DB) : Bool := decide (d.check = 0)
noncomputable abbrev okE (d : DCert) : Bool := decide (d.check = 0)
noncomputable abbrev okV (d : Vote) : Bool := decide (Ap d = 0)
noncomputable abbrev okC (d : DCut) : Bool := decide (d.check = 0)
theorem kc_b {D : DKept} {k : Nat} {d : DB} (h : D.dBlocks[k]? = some d) (hd : ¬ d.check = 0) : i64 2 = i64 D.check := by
  unfold DKept.check DKept.good
  rw [show (D.dBlocks.all fun d => decide (d.check = 0)) = false from allk_no h (by simpa using hd)]; rfl
theorem kc_e {D : DKept} {k : Nat} {d : DCert} (h : D.dCerts[k]? = some d) (hd : ¬ d.check = 0) : i64 2 = i64 D.check := by
  unfold DKept.check DKept.good
  rw [show (D.dCerts.all fun d => decide (d.check = 0)) = false from allk_no h (by simpa using hd), Bool.false_and, Bool.and_false]; rfl
theorem kc_o {D : DKept} {k : Nat} {d : DCert} (h : D.dCerts[k]? = some d) (hd : ¬ d.dCut.dHeight.toNat = k + 1) : i64 2 = i64 D.check := by
  unfold DKept.check DKept.good
  rw [show inOrd D.dCerts = false from inOrd_not (k := k) (List.getElem?_eq_some_iff.1 h).1 (by rwa [cert_is h])]; simp
theorem kc_v {D : DKept} {k : Nat} {d : Vote} (h : D.dVotes[k]? = some d) (hd : ¬ Ap d = 0) : i64 2 = i64 D.check := by
  unfold DKept.check DKept.good
  rw [show (D.dVotes.all fun d => decide (Ap d = 0)) = false from allk_no h (by simpa using hd)]; simp
theorem kc_c {D : DKept} {k : Nat} {d : DCut} (h : D.dCuts[k]? = some d) (hd : ¬ d.check = 0) : i64 2 = i64 D.check := by
  unfold DKept.check DKept.good
  rw [show (D.dCuts.all fun d => decide (d.check = 0)) = false from allk_no h (by simpa using hd)]; simp
theorem kc_ok {D : DKept} (h1 : D.dBlocks.all okB = true) (h2 : D.dCerts.all okE = true) (h3 : D.dVotes.all okV = true) (h4 : D.dCuts.all okC = true) (h5 : inOrd D.dCerts = true) : i64 0 = i64 D.check := by
  unfold DKept.check DKept.good
  rw [if_pos (by rw [Bool.and_eq_true, Bool.and_eq_true, Bool.and_eq_true, Bool.and_eq_true]; exact ⟨h1, h2, h3, h4, h5⟩)]

theorem r26_Check (X : Kept) (D : DKept) : Meets Tryz.prog 63 [agg X.cells] [] (fun W => KeptIs W X D) (fun v out => v = i64 D.check ∧ out = []) := by
 intro W hW
 have hok := hW.ok
 obtain ⟨rB, hBlocks⟩ := hW.fBlocks
 obtain ⟨rE, hCerts⟩ := hW.fCerts
 obtain ⟨rV, hVotes⟩ := hW.fVotes
 obtain ⟨rC, hCuts⟩ := hW.fCuts
 have nB := hBlocks.nd
 have nE := hCerts.nd
 have nV := hVotes.nd
 have nC := hCuts.nd
 have mB := hBlocks.max
 have mE := hCerts.max
 have mV := hVotes.max
 have mC := hCuts.max
 simp only [maxLen] at mB mE mV mC
 refine Ag Tryz.func63 J 76 Tryz.ntmps63 J (G3 ?_)
 intro n1 hn1 hf1
 refine G10 ?_
 refine .loop (ι := Nat) (fun a => ⟨[(1, ptr n1 0), (3, i64 (a : Int))], [⟨n1, X.cells, 27, X.cells.length⟩]⟩) (fun a => a ≤ X.fBlocks.n ∧ (D.dBlocks.take a).all okB = true) (fun a => X.fBlocks.n - a) (0) ?_ ?_ ?_
 · exact ⟨Nat.zero_le _, rfl⟩
 · exact Ai (wk1 rfl (wk1 rfl wk0)) (wh1 Z0 wh0) nD
 rintro a ⟨ha1, ha2⟩
 refine G10 ?_
 refine .condP J (fun hc0 => ?_) (fun hc0 => ?_)
 ·
  have hk2 : a < X.fBlocks.n := by omega
  obtain ⟨b, o, r, d, hsp, hr, hd, his, hlen, hsee⟩ := hBlocks.at dE hk2
  refine G9 ?_
  refine .idxSlP 131 J J J hsp J Y22.h Sz79 a J oM (.loadEN r.cells J J J Y79.h J Sz79 sP hlen hsee (.cV J J J J Body154 (r15_Check r d) (fun w h => his.ext h J) (G3 ?_)))
  refine .condNP J (fun hc1 => ?_) (fun hc1 => ?_)
  ·
   refine G12 ?_
   refine ⟨_, [], Ad J J, sP, sP, ?_, rfl⟩
   exact kc_b hd oM
  refine G9 ?_
  exact ⟨a + 1, ⟨by omega, allk_step hd ha2 (decide_eq_true oM)⟩, by omega, Ai (wk1 rfl (wk1 (by rw [Int.natCast_add]; rfl) wk0)) (wh1 Z0 wh0) nD⟩
 have hae : a = X.fBlocks.n := by omega
 refine G12 ?_
 refine .loop (ι := Nat) (fun e => ⟨[(1, ptr n1 0), (4, i64 (e : Int))], [⟨n1, X.cells, 27, X.cells.length⟩]⟩) (fun e => e ≤ X.fCerts.n ∧ (D.dCerts.take e).all okE = true ∧ ∀ j, j < e → (D.dCerts.getD j dcertz).dCut.dHeight.toNat = j + 1) (fun e => X.fCerts.n - e) (0) ?_ ?_ ?_
 · exact ⟨Nat.zero_le _, rfl, fun j hj => absurd hj (Nat.not_lt_zero _)⟩
 · exact Ai (wk1 rfl (wk1 rfl wk0)) (wh1 Z0 wh0) nD
 rintro e ⟨he1, he2, he3⟩
 refine G10 ?_
 refine .condP J (fun hc2 => ?_) (fun hc2 => ?_)
 ·
  have hk2 : e < X.fCerts.n := by omega
  obtain ⟨b, o, r, d, hsp, hr, hd, his, hlen, hsee⟩ := hCerts.at dE hk2
  have ehh : r.fCut.fHeight.toNat = d.dCut.dHeight.toNat := by rw [his.fCut.fHeight]
  have hw1 : (A8 (e : Int) + 1).toNat = e + 1 := word_next oM
  refine G9 ?_
  refine .idxSlP 35 J J J hsp J Y23.h Sz55 e J oM (.loadEN r.cells J J J Y55.h J Sz55 sP hlen hsee (.cV J J J J Body42 (r25_CheckCert r d) (fun w h => his.ext h J) (two (fun r hr k => Tr.nei J J J J hr k) (fun hs9_60 => ?_) (fun hs9_60 => ?_))))
  ·
   have hs9_6 := nd_t hs9_60
   refine G15 ?_
   refine .cond_t J J (G12 ?_)
   refine ⟨_, [], Ad J J, sP, sP, ?_, rfl⟩
   exact kc_e hd oM
  have hs9_6 := nd_f hs9_60
  refine G4 ?_
  refine .idxSlP 35 J J J hsp J Y23.h Sz55 e J oM (G2 ?_)
  refine .loadE J J J Y48.h J sP (hsee 0 _ (Cert.see_fCut his.ok 0 _ (Cut.get_fHeight his.ok.o_fCut))) (G2 ?_)
  refine .add_u64 J J J (show Al _ _ = some (u64 1) from rfl) (G4 ?_)
  refine .condNP J (fun hc3 => ?_) (fun hc3 => ?_)
  ·
   refine G12 ?_
   refine ⟨_, [], Ad J J, sP, sP, ?_, rfl⟩
   exact kc_o hd oM
  refine G9 ?_
  exact ⟨e + 1, ⟨by omega, allk_step hd he2 (decide_eq_true oM), fun j hj => by rcases Nat.lt_succ_iff_lt_or_eq.1 hj with h | rfl; exact he3 j h; exact (by rw [cert_is hd]; omega)⟩, by omega, Ai (wk1 rfl (wk1 (by rw [Int.natCast_add]; rfl) wk0)) (wh1 Z0 wh0) nD⟩
 have hee : e = X.fCerts.n := by omega
 refine G12 ?_
 refine .loop (ι := Nat) (fun v => ⟨[(1, ptr n1 0), (5, i64 (v : Int))], [⟨n1, X.cells, 27, X.cells.length⟩]⟩) (fun v => v ≤ X.fVotes.n ∧ (D.dVotes.take v).all okV = true) (fun v => X.fVotes.n - v) (0) ?_ ?_ ?_
 · exact ⟨Nat.zero_le _, rfl⟩
 · exact Ai (wk1 rfl (wk1 rfl wk0)) (wh1 Z0 wh0) nD
 rintro v ⟨hv1, hv2⟩
 refine G10 ?_
 refine .condP J (fun hc4 => ?_) (fun hc4 => ?_)
 ·
  have hk2 : v < X.fVotes.n := by omega
  obtain ⟨b, o, r, d, hsp, hr, hd, his, hlen, hsee⟩ := hVotes.at dE hk2
  obtain rfl := his.eq
  refine G9 ?_
  refine .idxSlP 132 J J J hsp J Y24.h Sz81 v J oM (.loadEN r.cells J J J Y81.h J Sz81 sP hlen hsee (.cV J J J J Body143 (r20_Check r his.ok) (fun w h => trivial) (G3 ?_)))
  refine .condNP J (fun hc5 => ?_) (fun hc5 => ?_)
  ·
   refine G12 ?_
   refine ⟨_, [], Ad J J, sP, sP, ?_, rfl⟩
   exact kc_v hd oM
  refine G9 ?_
  exact ⟨v + 1, ⟨by omega, allk_step hd hv2 (decide_eq_true oM)⟩, by omega, Ai (wk1 rfl (wk1 (by rw [Int.natCast_add]; rfl) wk0)) (wh1 Z0 wh0) nD⟩
 have hve : v = X.fVotes.n := by omega
 refine G12 ?_
 refine .loop (ι := Nat) (fun c => ⟨[(1, ptr n1 0), (6, i64 (c : Int))], [⟨n1, X.cells, 27, X.cells.length⟩]⟩) (fun c => c ≤ X.fCuts.n ∧ (D.dCuts.take c).all okC = true) (fun c => X.fCuts.n - c) (0) ?_ ?_ ?_
 · exact ⟨Nat.zero_le _, rfl⟩
 · exact Ai (wk1 rfl (wk1 rfl wk0)) (wh1 Z0 wh0) nD
 rintro c ⟨hc1, hc2⟩
 refine G10 ?_
 refine .condP J (fun hc6 => ?_) (fun hc6 => ?_)
 ·
  have hk2 : c < X.fCuts.n := by omega
  obtain ⟨b, o, r, d, hsp, hr, hd, his, hlen, hsee⟩ := hCuts.at dE hk2
  refine G9 ?_
  refine .idxSlP 34 J J J hsp J Y25.h Sz53 c J oM (.loadEN r.cells J J J Y53.h J Sz53 sP hlen hsee (.cV J J J J Body141 (r19_Check r d) (fun w h => his.ext h J) (G3 ?_)))
  refine .condNP J (fun hc7 => ?_) (fun hc7 => ?_)
  ·
   refine G12 ?_
   refine ⟨_, [], Ad J J, sP, sP, ?_, rfl⟩
   exact kc_c hd oM
  refine G9 ?_
  exact ⟨c + 1, ⟨by omega, allk_step hd hc2 (decide_eq_true oM)⟩, by omega, Ai (wk1 rfl (wk1 (by rw [Int.natCast_add]; rfl) wk0)) (wh1 Z0 wh0) nD⟩
 have hce : c = X.fCuts.n := by omega
 refine G12 ?_
 refine ⟨_, [], Ad J J, sP, sP, ?_, rfl⟩
 exact kc_ok (allk_all ha2 oM) (allk_all he2 oM) (allk_all hv2 oM) (allk_all hc2 oM) (inOrd_yes (n := e) oM he3)

theorem r26_Said (X : Kept) (hX : X.ok) (ds : List Vote) (h : UInt64) (hsn : X.fVotes.n ≤ 1000) : Meets Tryz.prog 65 [agg X.cells, u64 h] [] (fun W => VotesAt W X.fVotes ds) (SaidR (ds.filter (eqV h))) := by
 intro W hW
 obtain ⟨rs, hs⟩ := hW
 have hnd := hs.nd
 refine Ag Tryz.func65 J 31 Tryz.ntmps65 J (G3 ?_)
 intro n2 hn2 hf2
 refine G15 ?_
 refine .loop (ι := Nat × Sl × List Blk × Nat × List Vote) (fun v => ⟨[(1, u64 h), (2, ptr n2 0), (5, v.2.1.v), (6, i64 (v.1 : Int))], (v.2.2.1 ++ (⟨n2, X.cells, 27, X.cells.length⟩ :: []))⟩) (fun v => v.1 ≤ X.fVotes.n ∧ v.2.2.2.1 ≤ v.1 ∧ OwnSeq Vote.cells 132 VoteIs 81 v.2.1 v.2.2.1 [] v.2.2.2.2 ((ds.take v.1).filter (eqV h)) v.2.2.2.1) (fun v => X.fVotes.n - v.1) ((0, Sl.nil, [], 0, [])) ?_ ?_ ?_
 · exact ⟨Nat.zero_le _, Nat.le_refl _, OwnSeq.none⟩
 · exact Af (wk1 rfl (wk1 rfl (wk1 rfl (wk1 rfl wk0)))) (Bh (Ac rM Ae))
 rintro v ⟨hv1, hv2, hov⟩
 refine G10 ?_
 refine .condP J (fun hc0 => ?_) (fun hc0 => ?_)
 ·
  have hk2 : v.1 < X.fVotes.n := by omega
  obtain ⟨b, o, r, d, hsp, hr, hd, his, hlen, hsee⟩ := hs.at dE hk2
  have okr := his.ok
  obtain rfl := his.eq
  refine G2 ?_
  refine .join (ι := Nat × Sl × List Blk × Nat × List Vote) (fun j => ⟨[(1, u64 h), (2, ptr n2 0), (5, j.2.1.v), (6, i64 (v.1 : Int))], (j.2.2.1 ++ (⟨n2, X.cells, 27, X.cells.length⟩ :: []))⟩) (fun j => j.2.2.2.1 ≤ v.1 + 1 ∧ OwnSeq Vote.cells 132 VoteIs 81 j.2.1 j.2.2.1 [] j.2.2.2.2 ((ds.take (v.1 + 1)).filter (eqV h)) j.2.2.2.1) ?_ ?_
  ·
   refine G6 ?_
   refine .idxSlP 132 J J J hsp J Y24.h Sz81 v.1 J oM (G1 ?_)
   refine .loadE J J J Y48.h J sP (hsee 0 _ (Vote.get_fHeight okr)) (G4 ?_)
   refine .condP J (fun hc1 => ?_) (fun hc1 => ?_)
   ·
    refine G5 ?_
    refine .idxSlP 132 J J J hsp J Y24.h Sz81 v.1 J oM (.loadEN r.cells J J J Y81.h J Sz81 sP hlen hsee (.mkRow2 (z := agg Vote.zero.cells) [agg r.cells] r.cells J J Y24.h Sz81 Vote.zr J J (by intro v hv; rw [List.mem_singleton.1 hv]; exact Vote.length okr) dE (by simp [Value.cells]) ?_))
    intro q28
    refine .appendAcc (z := agg Vote.zero.cells) (by' := 160) (r.cells) J J J J J Y24.h Y24.h Sz81 Vote.zr (by unfold By; kernel_rfl) J hov.acc sG (fun w h => SeesP.of (Aj h Z0)) (fun e => by cases e) (Vote.isCell okr) oM oM (by rw [Vote.length okr]) ?_
    intro s29 bl29 hac29
    refine G4 ?_
    exact ⟨(v.1, s29, bl29, v.2.2.2.1 + 1, v.2.2.2.2 ++ [r]), ⟨by simp only []; omega, by simp only [filt_yes hd (show eqV h r = true from decide_eq_true hc1)]; exact hov.snoc (bl3 := []) hac29 (Vote.length okr) (fun W2 _ => ⟨his.ok, rfl, his.wf⟩)⟩, Af (wk1 rfl (wk1 rfl (wk1 rfl (wk1 rfl wk0)))) (Ab sG (Ac rM Ae))⟩
   refine G3 ?_
   exact ⟨(v.1, v.2.1, v.2.2.1, v.2.2.2.1, v.2.2.2.2), ⟨by simp only []; omega, by simp only [filt_no hd (show eqV h r = false from decide_eq_false hc1)]; exact hov⟩, Af (wk1 rfl (wk1 rfl (wk1 rfl (wk1 rfl wk0)))) (Ab sG (Ac rM Ae))⟩
  intro j hj
  skip
  refine G6 ?_
  exact ⟨(v.1 + 1, j.2.1, j.2.2.1, j.2.2.2.1, j.2.2.2.2), ⟨by simp only []; omega, by have := hj.1; simp only []; omega, hj.2⟩, by simp only []; omega, Af (wk1 rfl (wk1 rfl (wk1 rfl (wk1 (by rw [Int.natCast_add]; rfl) wk0)))) (Ab sG (Ac rM Ae))⟩
 have hve : v.1 = X.fVotes.n := by omega
 refine G13 ?_
 refine Ah (out := (v.2.2.1 ++ [])) (Ad J J) (Ab sG Ae) ?_
 rw [List.take_of_length_le oM] at hov
 have hnn := hov.nd
 rw [← hnn] at hov
 exact ⟨v.2.1, v.2.2.2.2, rfl, by simpa using hov⟩

theorem sees_kb {C : Cx} {hp : List Blk} {w : World} {b : Nat} {cs cs' : List Value} {T : TypeId} {m : Nat} (h : HRep C hp w) (hb : (⟨b, cs, T, m⟩ : Blk) ∈ C.kb) (hs : ∀ (j : Nat) (v : Value), cs'[j]? = some v → cs[j]? = some v) : B8 w b 0 cs' := fun j v hv => by
  rw [Nat.zero_add]; exact (h.kok _ hb).cell (b := ⟨b, cs, T, m⟩) (hs j v hv)
def recBy (D : DRecord) (n : Nat) : List UInt8 := [D.dKind] ++ A6 (UInt64.ofNat n) ++ D.dData
theorem recBy_len {D : DRecord} {n : Nat} (h : D.dData.length = n) (hn : n ≤ 100000) : (recBy D n).length = 1 + szN n + n := by
  have : (UInt64.ofNat n).toNat = n := Bc oM
  simp only [recBy, List.length_append, Ax, this, h, List.length_singleton]

theorem r8_Next (lc : List UInt8) (hlc : lc.length = 32) (X : Record) (D : DRecord) (hsm : D.dData.length ≤ 40000) : Meets Tryz.prog 242 [agg (Aa lc), agg X.cells] [] (fun W => RecordIs W X D) (fun v out => ∃ l : List UInt8, l.length = 32 ∧ v = agg (Aa l) ∧ out = []) := by
 intro W hW
 have hok := hW.ok
 have hby := hW.fData
 have hlen := hby.len
 have hkk := hW.fKind
 have hz := A2 X.fData.n
 have hfl : (lc ++ (recBy D X.fData.n)).length = 32 + (1 + szN X.fData.n + X.fData.n) := by rw [List.length_append, hlc, recBy_len hlen oM]
 obtain ⟨k, hk⟩ : ∃ k, Hid (kW = k) := ⟨_, ⟨rfl⟩⟩
 obtain ⟨s0, hs0⟩ : ∃ s0, Hid (xorUp 8 = s0) := ⟨_, ⟨rfl⟩⟩
 obtain ⟨G, hG⟩ : ∃ G, Hid (shaTag = G) := ⟨_, ⟨rfl⟩⟩
 obtain ⟨i0, hi0⟩ : ∃ i0, Hid (allW k s0 G = i0) := ⟨_, ⟨rfl⟩⟩
 have hk80 : k.length = 80 := by rw [← hk.out]; rfl
 have hs8 : s0.length = 8 := by rw [← hs0.out]; exact xorUp_length 8
 have hGl : G.length = 11 := by rw [← hG.out]; rfl
 have hi8 : i0.length = 8 := by rw [← hi0.out, allW_length]; exact hs8
 obtain ⟨r, hr⟩ : ∃ r, Hid (allW k i0 (lc ++ (recBy D X.fData.n)) = r) := ⟨_, ⟨rfl⟩⟩
 obtain ⟨s, hs⟩ : ∃ s, Hid (sumUp r 64 = s) := ⟨_, ⟨rfl⟩⟩
 have hsd : Hid (s.take 32 = sha256 (lc ++ (recBy D X.fData.n))) := ⟨by rw [← hs.out, ← hr.out, ← hi0.out, ← hG.out, ← hs0.out, ← hk.out]; rfl⟩
 have hs64 : s.length = 64 := by rw [← hs.out]; exact Ca r 64
 have hs32 : (s.take 32).length = 32 := by rw [List.length_take, hs64]; rfl
 refine Ag Tryz.func242 J 14 Tryz.ntmps242 J (G3 ?_)
 intro n2 hn2 hf2
 refine G1 ?_
 intro n3 hn3 hf3
 refine .alloc (cs := (Aa (List.replicate 32 0))) J Zr50 J ?_
 intro n4 hn4 hf4
 refine G3 ?_
 refine .withK (sp_v (sp_k (sp_k sp_n))) J (.draw [(0, 0), (0, 1), (0, 2), (0, 4), (0, 5), (4, 3), (3, 6), (4, 7), (3, 8), (4, 9)] Ba zK (G2 ?_))
 refine .kload1 J J J Y5.h J Z0 (by exact Record.get_fKind zA) ?_
 refine G1 ?_
 refine .kload1 J J J Y58.h J Z0 (by exact Record.get_fData zA) ?_
 refine .mkRow (z := u8 0) [u8 X.fKind] (Aa [X.fKind]) J J J Y58.h Sz5 Zr5 J J (by intro v hv; rw [List.mem_singleton.1 hv]; rfl) dE J ?_
 intro q8
 refine .call J J J J Body133 (r1_Block (some ⟨q8, 0, none⟩) X.fData.p 1 1 X.fData.n X.fData.c [X.fKind] D.dData J hlen (fun e => by cases e) (fun e => by have := hby.nil e; have := hby.cap; omega) dE oM) (FreshRow.loose _ _ _ _) (fun w h => ⟨SeesP.of (Aj h Z0), bytes_ext h J hby |>.see⟩) ?_
 rintro v11 out11 ⟨q11, c11, rfl, hc11, rfl⟩
 rw [hkk, show ([D.dKind] ++ A6 (UInt64.ofNat X.fData.n) ++ D.dData) = (recBy D X.fData.n) from rfl]
 refine .mkRow (z := .slice none 0 0) [.slice (some ⟨n2, 0, none⟩) 32 32, .slice (some ⟨q11, 0, none⟩) (1 + szN X.fData.n + X.fData.n) c11] [.slice (some ⟨n2, 0, none⟩) 32 32, .slice (some ⟨q11, 0, none⟩) (1 + szN X.fData.n + X.fData.n) c11] rfl J J Y250.h Sz58 Zr58 J J (by intro v hv; simp only [List.mem_cons, List.not_mem_nil, or_false] at hv; rcases hv with rfl | rfl <;> rfl) dE J ?_
 intro q12
 refine .cV J J J J Body217 (r2_Sum k s0 i0 G hk hk80 hs0 hs8 hG hGl hi0 hi8 (some ⟨q12, 0, none⟩) 2 2 [⟨some ⟨n2, 0, none⟩, 32, 32⟩, ⟨some ⟨q11, 0, none⟩, 1 + szN X.fData.n + X.fData.n, c11⟩] [lc, (recBy D X.fData.n)] rfl J (fun j hj => (by obtain rfl | rfl : j = 0 ∨ j = 1 := oM; exact ⟨by simp [hlc], fun e => by cases e⟩; exact ⟨by simp [recBy_len hlen (show X.fData.n ≤ 100000 by omega)], fun e => by cases e⟩)) (lc ++ (recBy D X.fData.n)) sP oM dE r hr s hs) (fun w h => ⟨SeesP.of (Aj h Z0), fun j hj => (by obtain rfl | rfl : j = 0 ∨ j = 1 := oM; exact SeesP.of (sees_kb h Z1 (fun j v hj => hj)); exact SeesP.of (Aj h Z1))⟩) ?_
 refine .sA J J J J zE Sz50 (by (simp [hs64]; done)) Z3 sP (by exact upd3) ?_
 refine G4 ?_
 refine Ah (out := []) (Bo J J Y50.h J Sz50 Z3 (by simp [hs64])) Ae ?_
 exact ⟨_, hs32, rfl, rfl⟩

theorem r8_Bytes (lc : List UInt8) (hlc : lc.length = 32) (X : Record) (D : DRecord) (hsm : D.dData.length ≤ 40000) : Meets Tryz.prog 224 [agg (Aa lc), agg X.cells] [] (fun W => RecordIs W X D) (fun v out => ∃ (s : Sl) (l : List UInt8), l.length = 32 ∧ v = .tuple #[s.v, agg (Aa l), i64 D.check] ∧ s.n = recSz D) := by
 intro W hW
 have hok := hW.ok
 have hby := hW.fData
 have hlen := hby.len
 have hkk := hW.fKind
 have hz := A2 X.fData.n
 have hl14 := True.intro
 refine Ag Tryz.func224 J 24 Tryz.ntmps224 J (G3 ?_)
 intro n2 hn2 hf2
 refine G1 ?_
 intro n3 hn3 hf3
 refine G1 ?_
 refine .alloc (cs := (Aa (List.replicate 32 0))) J Zr50 J ?_
 intro n5 hn5 hf5
 refine G7 ?_
 refine .cV J J J J Body221 (r8_Check X D) (fun w h => hW.ext h J) (G3 ?_)
 refine .condNP J (fun hc0 => ?_) (fun hc0 => ?_)
 ·
  have hcz : ¬ D.check = 0 := by omega
  refine G2 ?_
  refine .build (cs := Aa (List.replicate 32 0)) J J J (fun w => by kernel_rfl) ?_
  refine G1 ?_
  refine .sA J J J J zE Sz50 sP Z0 sP zU ?_
  refine G6 ?_
  refine Ah (out := []) (res_tmp_cell_tmp J J J J Y50.h J Sz50 Z0 sP) Ae ?_
  have hd2 : D.check = 2 := by
   unfold DRecord.check at hcz ⊢
   split at hcz
   · rw [if_pos zA]
   · exact absurd rfl hcz
  rw [hd2]
  exact ⟨Sl.nil, List.replicate 32 0, rfl, rfl, by rw [recSz, if_neg hcz]; rfl⟩
 have hcz : D.check = 0 := by omega
 refine G4 ?_
 refine .lA J J J Y50.h J Sz50 Z2 (by (rw [Aa, List.length_map]; assumption)) ?_
 refine G1 ?_
 refine .call4 J J J J J Body242 (r8_Next lc hlc X D hsm) (fun w h => hW.ext h J) ?_
 rintro v14 out14 ⟨l14, hl14, rfl, rfl⟩
 refine .alloc (cs := (Aa (List.replicate 32 0))) J Zr50 J ?_
 intro n7 hn7 hf7
 refine .sA J J J J zE Sz50 (by (simp [hl14]; done)) Z0 sP zU ?_
 refine G3 ?_
 refine .withK (sp_k (sp_v (sp_k (sp_k sp_n)))) J (.draw [(0, 0), (0, 1), (0, 3), (0, 4), (0, 6), (0, 8), (4, 2), (3, 5), (4, 7), (0, 9), (4, 10), (0, 11)] Ba zK (G1 ?_))
 refine .kload1 J J J Y5.h J Z1 (by exact Record.get_fKind zA) ?_
 refine G1 ?_
 refine .kload1 J J J Y58.h J Z1 (by exact Record.get_fData zA) ?_
 refine .sliceArrHi 8 J J J J J dE dE Y50.h Sz5 (.kloadAll J J J Y50.h J Sz50 Z0 (by (simp [hl14]; done)) ?_)
 refine .mkRow (z := u8 0) [u8 X.fKind] (Aa [X.fKind]) J J J Y58.h Sz5 Zr5 J J (by intro v hv; rw [List.mem_singleton.1 hv]; rfl) dE J ?_
 intro q17
 refine .call J J J J Body133 (r1_Block (some ⟨q17, 0, none⟩) X.fData.p 1 1 X.fData.n X.fData.c [X.fKind] D.dData J hlen (fun e => by cases e) (fun e => by have := hby.nil e; have := hby.cap; omega) dE oM) (FreshRow.loose _ _ _ _) (fun w h => ⟨SeesP.of (Aj h Z0), bytes_ext h J hby |>.see⟩) ?_
 rintro v20 out20 ⟨q20, c20, rfl, hc20, rfl⟩
 rw [hkk, show ([D.dKind] ++ A6 (UInt64.ofNat X.fData.n) ++ D.dData) = (recBy D X.fData.n) from rfl]
 refine .appendAcc (z := u8 0) (by' := 1) (Aa (l14.take 8)) J J J J J Y58.h Y58.h Sz5 Zr5 (by unfold By; kernel_rfl) J (Acc.some (E := 5) (cells := Aa (recBy D X.fData.n)) hc20 (by rw [Aa, List.length_map, recBy_len hlen oM, Nat.mul_one])) sG (fun w h => SeesP.of (sees_kb h Z0 (fun j v hj => by rw [Aa, List.map_take, List.getElem?_take] at hj; split at hj; exact hj; cases hj))) (fun e => by cases e) (As _) oM oM (by simp [hl14]) ?_
 intro s22 bl22 hac22
 refine G1 ?_
 refine .sA J J J J zE Sz50 (by (simp [hl14]; done)) mR sP uU ?_
 refine G5 ?_
 simp only [List.cons_append, List.nil_append, List.append_nil, List.append_assoc]
 refine Ah (out := []) (res_tmp_cell_tmp J J J J Y50.h J Sz50 mR (by simp [hl14])) Ae ?_
 rw [hcz]
 exact ⟨s22, l14, hl14, rfl, by rw [recSz, if_pos hcz, hac22.num, hlen]; omega⟩
theorem r8_Size (X : Record) (D : DRecord) (hsm : D.dData.length ≤ 40000) : Meets Tryz.prog 168 [agg X.cells] [] (fun W => RecordIs W X D) (fun v out => v = i64 (recSz D : Int) ∧ out = []) := by
 intro W hW
 have hl9 := True.intro
 refine Ag Tryz.func168 J 15 Tryz.ntmps168 J (G3 ?_)
 intro n1 hn1 hf1
 refine G5 ?_
 refine .build (cs := Aa (List.replicate 32 0)) J J J (fun w => by kernel_rfl) ?_
 refine .lA J J J Y91.h J Sz91 Z0 (Record.length (by exact hW.ok)) ?_
 refine .call4 J J J J J Body224 (r8_Bytes (List.replicate 32 0) J X D hsm) (fun w h => hW.ext h J) ?_
 rintro v9 out9 ⟨s9, l9, hl9, rfl, hn9⟩
 refine G4 ?_
 refine .alloc (cs := (Aa (List.replicate 32 0))) J Zr50 J ?_
 intro n4 hn4 hf4
 refine G1 ?_
 refine .sA J J J J zE Sz50 (by (simp [hl9]; done)) Z0 sP zU ?_
 refine G12 ?_
 refine Ah (out := []) (Ad J J) Ae ?_
 rw [hn9]; exact ⟨rfl, rfl⟩

theorem r26_Size (s : Sl) (ds : List DRecord) (hsn : s.n ≤ 1000) (hsm : ∀ d ∈ ds, d.dData.length ≤ 40000) : Meets Tryz.prog 66 [s.v] [] (fun W => RecordsAt W s ds) (fun v out => v = i64 (recsSz ds : Int) ∧ out = []) := by
 intro W hW
 obtain ⟨rs, hs⟩ := hW
 have hnd := hs.nd
 have hle := fun k => recsSz_le (ds.take k) (fun d hd => by have := hsm d (List.mem_of_mem_take hd); omega)
 have hlt : ∀ k, (ds.take k).length ≤ 1000 := fun k => by rw [List.length_take]; omega
 refine Ag Tryz.func66 J 19 Tryz.ntmps66 J (G17 ?_)
 refine .loop (ι := Nat) (fun k => ⟨[(0, s.v), (3, i64 (recsSz (ds.take k) : Int)), (4, i64 (k : Int))], []⟩) (fun k => k ≤ s.n) (fun k => s.n - k) (0) ?_ ?_ ?_
 · exact Nat.zero_le _
 · exact Ai (wk1 rfl (wk1 rfl (wk1 rfl wk0))) wh0 nD
 rintro k hi
 refine G9 ?_
 refine .condP J (fun hc0 => ?_) (fun hc0 => ?_)
 ·
  have hk2 : k < s.n := by omega
  obtain ⟨b, o, r, d, hsp, hr, hd, his, hlen, hsee⟩ := hs.at dE hk2
  refine G8 ?_
  refine .idxSlP 2 J J J hsp J Y28.h Sz91 k J oM (.loadEN r.cells J J J Y91.h J Sz91 sP hlen hsee (.cV J J J J Body168 (r8_Size r d (hsm d (List.mem_of_getElem? hd))) (fun w h => his.ext h J) ?_))
  have hb1 := hle k
  have hb2 := hlt k
  have hb3 := recSz_le (show d.dData.length ≤ 100000 by have := hsm d (List.mem_of_getElem? hd); omega)
  refine G11 ?_
  exact ⟨k + 1, by omega, by omega, Ai (wk1 rfl (wk1 (by rw [recsSz_step hd, Int.natCast_add]; rfl) (wk1 (by rw [Int.natCast_add]; rfl) wk0))) wh0 nD⟩
 have hke : k = s.n := by omega
 refine G13 ?_
 refine ⟨_, [], Ad J J, sP, sP, ?_, rfl⟩
 rw [hke, List.take_of_length_le oM]

theorem stgA {D : Type} {f : D → DRecord × Int} {ds : List D} {q : List DRecord × Int} (h : q.2 = 0) (h2 : putE f ds = 0) : stg f ds q = (q.1 ++ putD f ds, 0) := by rw [stg, if_pos h, if_pos h2]
theorem stgB {D : Type} {f : D → DRecord × Int} {ds : List D} {q : List DRecord × Int} (h : q.2 = 0) (h2 : ¬ putE f ds = 0) : stg f ds q = ([], putE f ds) := by rw [stg, if_pos h, if_neg h2]
theorem stgP {D : Type} {f : D → DRecord × Int} {ds : List D} {q : List DRecord × Int} (h : ¬ q.2 = 0) : stg f ds q = q := by rw [stg, if_neg h]
theorem recs_nil {D : DKept} {x : Int} (h : recsRd D = ([], x)) : RecsR D (.tuple #[Sl.nil.v, i64 x]) [] := ⟨Sl.nil, [], by rw [h], by rw [h]; rfl, fun W2 _ => by rw [h]; exact SeqIs.none⟩
theorem recs_0 {D : DKept} (h : ¬ D.check = 0) : recsRd D = ([], D.check) := by
  have e1 : rsE D = ([], D.check) := stgP h
  have e2 := (congrArg (stg (fun X : DB => Ar 1 (A7 X) (DB.check X)) D.dBlocks) e1).trans (stgP h)
  have e3 := (congrArg (stg (fun X : DCut => Ar 4 (Bp X) (DCut.check X)) D.dCuts) e2).trans (stgP h)
  exact (congrArg (stg (fun X : Vote => Ar 3 (A0 X) (Ap X)) D.dVotes) e3).trans (stgP h)
theorem recs_1 {D : DKept} (h0 : D.check = 0) {x : Int} (h : putE (fun X : DCert => Ar 2 (Bd X) (DCert.check X)) D.dCerts = x) (hx : ¬ x = 0) : recsRd D = ([], x) := by
  subst h
  have e1 : rsE D = ([], _) := stgB h0 hx
  have e2 := (congrArg (stg (fun X : DB => Ar 1 (A7 X) (DB.check X)) D.dBlocks) e1).trans (stgP hx)
  have e3 := (congrArg (stg (fun X : DCut => Ar 4 (Bp X) (DCut.check X)) D.dCuts) e2).trans (stgP hx)
  exact (congrArg (stg (fun X : Vote => Ar 3 (A0 X) (Ap X)) D.dVotes) e3).trans (stgP hx)
theorem recs_2 {D : DKept} (h0 : D.check = 0) (h1 : putE (fun X : DCert => Ar 2 (Bd X) (DCert.check X)) D.dCerts = 0) {x : Int} (h : putE (fun X : DB => Ar 1 (A7 X) (DB.check X)) D.dBlocks = x) (hx : ¬ x = 0) : recsRd D = ([], x) := by
  subst h
  have e1 : rsE D = (_, 0) := stgA h0 h1
  have e2 := (congrArg (stg (fun X : DB => Ar 1 (A7 X) (DB.check X)) D.dBlocks) e1).trans (stgB rfl hx)
  have e3 := (congrArg (stg (fun X : DCut => Ar 4 (Bp X) (DCut.check X)) D.dCuts) e2).trans (stgP hx)
  exact (congrArg (stg (fun X : Vote => Ar 3 (A0 X) (Ap X)) D.dVotes) e3).trans (stgP hx)
theorem recs_3 {D : DKept} (h0 : D.check = 0) (h1 : putE (fun X : DCert => Ar 2 (Bd X) (DCert.check X)) D.dCerts = 0) (h2 : putE (fun X : DB => Ar 1 (A7 X) (DB.check X)) D.dBlocks = 0) {x : Int} (h : putE (fun X : DCut => Ar 4 (Bp X) (DCut.check X)) D.dCuts = x) (hx : ¬ x = 0) : recsRd D = ([], x) := by
  subst h
  have e1 : rsE D = (_, 0) := stgA h0 h1
  have e2 := (congrArg (stg (fun X : DB => Ar 1 (A7 X) (DB.check X)) D.dBlocks) e1).trans (stgA rfl h2)
  have e3 := (congrArg (stg (fun X : DCut => Ar 4 (Bp X) (DCut.check X)) D.dCuts) e2).trans (stgB rfl hx)
  exact (congrArg (stg (fun X : Vote => Ar 3 (A0 X) (Ap X)) D.dVotes) e3).trans (stgP hx)
theorem recs_4 {D : DKept} (h0 : D.check = 0) (h1 : putE (fun X : DCert => Ar 2 (Bd X) (DCert.check X)) D.dCerts = 0) (h2 : putE (fun X : DB => Ar 1 (A7 X) (DB.check X)) D.dBlocks = 0) (h3 : putE (fun X : DCut => Ar 4 (Bp X) (DCut.check X)) D.dCuts = 0) {x : Int} (h : putE (fun X : Vote => Ar 3 (A0 X) (Ap X)) D.dVotes = x) (hx : ¬ x = 0) : recsRd D = ([], x) := by
  subst h
  have e1 : rsE D = (_, 0) := stgA h0 h1
  have e2 := (congrArg (stg (fun X : DB => Ar 1 (A7 X) (DB.check X)) D.dBlocks) e1).trans (stgA rfl h2)
  have e3 := (congrArg (stg (fun X : DCut => Ar 4 (Bp X) (DCut.check X)) D.dCuts) e2).trans (stgA rfl h3)
  exact (congrArg (stg (fun X : Vote => Ar 3 (A0 X) (Ap X)) D.dVotes) e3).trans (stgB rfl hx)
theorem recs_5 {D : DKept} (h0 : D.check = 0) (h1 : putE (fun X : DCert => Ar 2 (Bd X) (DCert.check X)) D.dCerts = 0) (h2 : putE (fun X : DB => Ar 1 (A7 X) (DB.check X)) D.dBlocks = 0) (h3 : putE (fun X : DCut => Ar 4 (Bp X) (DCut.check X)) D.dCuts = 0) (h4 : putE (fun X : Vote => Ar 3 (A0 X) (Ap X)) D.dVotes = 0) : recsRd D = (((([] ++ putD (fun X : DCert => Ar 2 (Bd X) (DCert.check X)) D.dCerts) ++ putD (fun X : DB => Ar 1 (A7 X) (DB.check X)) D.dBlocks) ++ putD (fun X : DCut => Ar 4 (Bp X) (DCut.check X)) D.dCuts) ++ putD (fun X : Vote => Ar 3 (A0 X) (Ap X)) D.dVotes, 0) := by
  have e1 : rsE D = (_, 0) := stgA h0 h1
  have e2 := (congrArg (stg (fun X : DB => Ar 1 (A7 X) (DB.check X)) D.dBlocks) e1).trans (stgA rfl h2)
  have e3 := (congrArg (stg (fun X : DCut => Ar 4 (Bp X) (DCut.check X)) D.dCuts) e2).trans (stgA rfl h3)
  exact (congrArg (stg (fun X : Vote => Ar 3 (A0 X) (Ap X)) D.dVotes) e3).trans (stgA rfl h4)
theorem recs_fin {D : DKept} {L : List DRecord} (h : recsRd D = (L, 0)) {s : Sl} {b o : List Blk} {rs : List Record} {M : Nat} (hq : OwnSeq Record.cells 2 RecordIs 91 s b o rs L M) (hM : M ≤ 100000) : RecsR D (.tuple #[s.v, i64 0]) (b ++ (o ++ [])) :=
  ⟨s, rs, by rw [h], by rw [h]; exact hq.acc.num.trans hq.nd.symm, fun W2 hl => by
    rw [h]; exact hq.seq (fun x hx => hl x (List.mem_append_left _ hx)) (fun x hx => hl x (List.mem_append_right _ (List.mem_append_left _ hx))) oM⟩
theorem rec_snoc {D : Type} {f : D → DRecord × Int} {ds : List D} {k m : Nat} {d : D} {s s2 : Sl} {b b2 o out : List Blk} {rs : List Record} {dr : List DRecord} {X : Record} (h : OwnSeq Record.cells 2 RecordIs 91 s b o rs (dr ++ putD f (ds.take k)) (m + k)) (hd : ds[k]? = some d) (ha : Hw.Acc s2 b2 ((rs.map Record.cells).flatten ++ X.cells) 91 (m + k + 1) 2) (ok : X.ok) (hX : ∀ W2, Lies out W2 → RecordIs W2 X (f d).1) :
    OwnSeq Record.cells 2 RecordIs 91 s2 b2 (out ++ o) (rs ++ [X]) (dr ++ putD f (ds.take (k + 1))) (m + (k + 1)) := by
  have := put_snoc (o0 := []) (by simpa using h) hd ha ok hX
  simpa using this
theorem rec_next {D : Type} (f : D → DRecord × Int) {ds : List D} {m : Nat} {s : Sl} {b o : List Blk} {rs : List Record} {dr : List DRecord} (h : OwnSeq Record.cells 2 RecordIs 91 s b o rs dr m) : OwnSeq Record.cells 2 RecordIs 91 s b o rs (dr ++ putD f (ds.take 0)) (m + 0) := by
  simpa [putD] using h

theorem r26_Records (X : Kept) (D : DKept) (h1 : X.fBlocks.n ≤ 1000) (h2 : X.fCerts.n ≤ 1000) (h3 : X.fVotes.n ≤ 1000) (h4 : X.fCuts.n ≤ 1000) : Meets Tryz.prog 61 [agg X.cells] [] (fun W => KeptIs W X D) (RecsR D) := by
 intro W hW
 have hok := hW.ok
 obtain ⟨rsE_, hE⟩ := hW.fCerts
 obtain ⟨rsB_, hB⟩ := hW.fBlocks
 obtain ⟨rsC_, hC⟩ := hW.fCuts
 obtain ⟨rsV_, hV⟩ := hW.fVotes
 have zE : ∀ d ∈ D.dCerts, (Bd d).length ≤ 40000 := (fun d hd => by obtain ⟨i, hi⟩ := List.getElem?_of_mem hd; obtain ⟨b, o, r, d', hp, hr, hd', hI, _⟩ := hE.at dE (show i < X.fCerts.n by rw [← hE.nd]; exact (List.getElem?_eq_some_iff.1 hi).1); rw [hi] at hd'; cases hd'; exact certBy_le hI)
 have zB : ∀ d ∈ D.dBlocks, (A7 d).length ≤ 40000 := (fun d hd => by obtain ⟨i, hi⟩ := List.getElem?_of_mem hd; obtain ⟨b, o, r, d', hp, hr, hd', hI, _⟩ := hB.at dE (show i < X.fBlocks.n by rw [← hB.nd]; exact (List.getElem?_eq_some_iff.1 hi).1); rw [hi] at hd'; cases hd'; exact blockBy_le hI.dok)
 have zC : ∀ d ∈ D.dCuts, (Bp d).length ≤ 40000 := (fun d hd => by obtain ⟨i, hi⟩ := List.getElem?_of_mem hd; obtain ⟨b, o, r, d', hp, hr, hd', hI, _⟩ := hC.at dE (show i < X.fCuts.n by rw [← hC.nd]; exact (List.getElem?_eq_some_iff.1 hi).1); rw [hi] at hd'; cases hd'; exact Nat.le_trans (cutR_le hI) dE)
 have zV : ∀ d ∈ D.dVotes, (A0 d).length ≤ 40000 := (fun d hd => Nat.le_trans (voteBy_le (seqv_ok hV d hd)) dE)
 have nE := hE.nd
 have nB := hB.nd
 have nC := hC.nd
 have nV := hV.nd
 refine Ag Tryz.func61 J 113 Tryz.ntmps61 J (G3 ?_)
 intro n1 hn1 hf1
 refine G8 ?_
 refine .cV J J J J Body63 (r26_Check X D) (fun w h => hW.ext h J) (G3 ?_)
 refine .condNP J (fun hc0 => ?_) (fun hc0 => ?_)
 ·
  have hq0 : ¬ D.check = 0 := by omega
  refine G9 ?_
  refine Ah (out := []) (A9 J J J) Ae ?_
  have h22 : D.check = 2 := by
   unfold DKept.check at hq0 ⊢
   split at hq0
   · exact absurd rfl hq0
   · rw [if_neg zA]
  have := recs_nil (recs_0 hq0)
  rw [h22] at this
  exact this
 have hq0 : D.check = 0 := by omega
 refine G14 ?_
 refine .loop (ι := Nat × Sl × List Blk × List Blk × List Record) (fun e => ⟨[(1, ptr n1 0), (4, e.2.1.v), (5, i64 (e.1 : Int))], (⟨n1, X.cells, 27, X.cells.length⟩ :: (e.2.2.1 ++ (e.2.2.2.1 ++ [])))⟩) (fun e => e.1 ≤ X.fCerts.n ∧ putE (fun X : DCert => Ar 2 (Bd X) (DCert.check X)) (D.dCerts.take e.1) = 0 ∧ OwnSeq Record.cells 2 RecordIs 91 e.2.1 e.2.2.1 e.2.2.2.1 e.2.2.2.2 ([] ++ putD (fun X : DCert => Ar 2 (Bd X) (DCert.check X)) (D.dCerts.take e.1)) (0 + e.1)) (fun e => X.fCerts.n - e.1) ((0, Sl.nil, [], [], [])) ?_ ?_ ?_
 · exact ⟨Nat.zero_le _, rfl, rec_next _ OwnSeq.none⟩
 · exact Af (wk1 rfl (wk1 rfl (wk1 rfl wk0))) (Ac rM (Bh (Bh Ae)))
 rintro e ⟨he1, he2, he3⟩
 refine G10 ?_
 refine .condP J (fun hc1 => ?_) (fun hc1 => ?_)
 ·
  have hk2 : e.1 < X.fCerts.n := by omega
  obtain ⟨b, o, r, d, hsp, hr, hd, his, hlen, hsee⟩ := hE.at dE hk2
  have okr : r.ok := his.ok
  refine G9 ?_
  refine .idxSlP 35 J J J hsp J Y23.h Sz55 e.1 J oM (.loadEN r.cells J J J Y55.h J Sz55 sP hlen hsee (.call4 J J J J J Body53 (r26_Cert r d (zE d (List.mem_of_getElem? hd))) (fun w h => his.ext h J) ?_))
  rintro v33 out33 ⟨X33, ok33, rfl, k33, h33⟩
  refine G3 ?_
  refine .alloc (cs := Record.zero.cells) J Record.zr J ?_
  intro n6 hn6 hf6
  refine G11 ?_
  refine .condNP J (fun hc2 => ?_) (fun hc2 => ?_)
  ·
   have he1 : ¬ ((fun X : DCert => Ar 2 (Bd X) (DCert.check X)) d).2 = 0 := by omega
   refine G15 ?_
   refine Ah (out := []) (A9 J J J) Ae ?_
   exact recs_nil (recs_1 hq0 (putE_fail _ _ _ _ hd he2 he1) he1)
  have he0 : ((fun X : DCert => Ar 2 (Bd X) (DCert.check X)) d).2 = 0 := by omega
  refine G5 ?_
  refine .mkRow2 (z := agg Record.zero.cells) [agg X33.cells] X33.cells J J Y28.h Sz91 Record.zr J J (by intro v hv; rw [List.mem_singleton.1 hv]; exact Record.length ok33) dE (by simp [Value.cells]) ?_
  intro q41
  refine .appendAcc (z := agg Record.zero.cells) (by' := 32) (X33.cells) J J J J J Y28.h Y28.h Sz91 Record.zr (by unfold By; kernel_rfl) J he3.acc sG (fun w h => SeesP.of (Aj h Z0)) (fun e => by cases e) (Record.isCell ok33) oM oM (by rw [Record.length ok33]) ?_
  intro s42 bl42 hac42
  refine G10 ?_
  exact ⟨(e.1 + 1, s42, bl42, out33 ++ e.2.2.2.1, e.2.2.2.2 ++ [X33]), ⟨by simp only []; omega, putE_step _ _ _ _ hd he2 he0, rec_snoc he3 hd hac42 ok33 h33⟩, by simp only []; omega, Af (wk1 rfl (wk1 rfl (wk1 (by rw [Int.natCast_add]; rfl) wk0))) (Ac rM (Ab sG (Br (Ab sG (Ab sG Ae)))))⟩
 have hee : e.1 = X.fCerts.n := by omega
 have he0 : putE (fun X : DCert => Ar 2 (Bd X) (DCert.check X)) D.dCerts = 0 := by rw [List.take_of_length_le (by have := hE.nd; omega)] at he2; exact he2
 have heq : OwnSeq Record.cells 2 RecordIs 91 e.2.1 e.2.2.1 e.2.2.2.1 e.2.2.2.2 ([] ++ putD (fun X : DCert => Ar 2 (Bd X) (DCert.check X)) D.dCerts) (0 + X.fCerts.n) := by rw [List.take_of_length_le (by have := hE.nd; omega), hee] at he3; exact he3
 refine G12 ?_
 refine .loop (ι := Nat × Sl × List Blk × List Blk × List Record) (fun a => ⟨[(1, ptr n1 0), (4, a.2.1.v), (8, i64 (a.1 : Int))], (⟨n1, X.cells, 27, X.cells.length⟩ :: (a.2.2.1 ++ (a.2.2.2.1 ++ [])))⟩) (fun a => a.1 ≤ X.fBlocks.n ∧ putE (fun X : DB => Ar 1 (A7 X) (DB.check X)) (D.dBlocks.take a.1) = 0 ∧ OwnSeq Record.cells 2 RecordIs 91 a.2.1 a.2.2.1 a.2.2.2.1 a.2.2.2.2 (([] ++ putD (fun X : DCert => Ar 2 (Bd X) (DCert.check X)) D.dCerts) ++ putD (fun X : DB => Ar 1 (A7 X) (DB.check X)) (D.dBlocks.take a.1)) ((0 + X.fCerts.n) + a.1)) (fun a => X.fBlocks.n - a.1) ((0, e.2.1, e.2.2.1, e.2.2.2.1, e.2.2.2.2)) ?_ ?_ ?_
 · exact ⟨Nat.zero_le _, rfl, rec_next _ heq⟩
 · exact Af (wk1 rfl (wk1 rfl (wk1 rfl wk0))) (Ac rM (Ab sG (Ab sG Ae)))
 rintro a ⟨ha1, ha2, ha3⟩
 refine G10 ?_
 refine .condP J (fun hc3 => ?_) (fun hc3 => ?_)
 ·
  have hk2 : a.1 < X.fBlocks.n := by omega
  obtain ⟨b, o, r, d, hsp, hr, hd, his, hlen, hsee⟩ := hB.at dE hk2
  have okr : r.ok := his.ok
  refine G9 ?_
  refine .idxSlP 131 J J J hsp J Y22.h Sz79 a.1 J oM (.loadEN r.cells J J J Y79.h J Sz79 sP hlen hsee (.call4 J J J J J Body50 (r26_Block r d his.ok (zB d (List.mem_of_getElem? hd))) (fun w h => his.ext h J) ?_))
  rintro v56 out56 ⟨X56, ok56, rfl, k56, h56⟩
  refine G3 ?_
  refine .alloc (cs := Record.zero.cells) J Record.zr J ?_
  intro n9 hn9 hf9
  refine G11 ?_
  refine .condNP J (fun hc4 => ?_) (fun hc4 => ?_)
  ·
   have he1 : ¬ ((fun X : DB => Ar 1 (A7 X) (DB.check X)) d).2 = 0 := by omega
   refine G15 ?_
   refine Ah (out := []) (A9 J J J) Ae ?_
   exact recs_nil (recs_2 hq0 he0 (putE_fail _ _ _ _ hd ha2 he1) he1)
  have he0 : ((fun X : DB => Ar 1 (A7 X) (DB.check X)) d).2 = 0 := by omega
  refine G5 ?_
  refine .mkRow2 (z := agg Record.zero.cells) [agg X56.cells] X56.cells J J Y28.h Sz91 Record.zr J J (by intro v hv; rw [List.mem_singleton.1 hv]; exact Record.length ok56) dE (by simp [Value.cells]) ?_
  intro q64
  refine .appendAcc (z := agg Record.zero.cells) (by' := 32) (X56.cells) J J J J J Y28.h Y28.h Sz91 Record.zr (by unfold By; kernel_rfl) J ha3.acc sG (fun w h => SeesP.of (Aj h Z0)) (fun e => by cases e) (Record.isCell ok56) oM oM (by rw [Record.length ok56]) ?_
  intro s65 bl65 hac65
  refine G10 ?_
  exact ⟨(a.1 + 1, s65, bl65, out56 ++ a.2.2.2.1, a.2.2.2.2 ++ [X56]), ⟨by simp only []; omega, putE_step _ _ _ _ hd ha2 he0, rec_snoc ha3 hd hac65 ok56 h56⟩, by simp only []; omega, Af (wk1 rfl (wk1 rfl (wk1 (by rw [Int.natCast_add]; rfl) wk0))) (Ac rM (Ab sG (Br (Ab sG (Ab sG Ae)))))⟩
 have hae : a.1 = X.fBlocks.n := by omega
 have ha0 : putE (fun X : DB => Ar 1 (A7 X) (DB.check X)) D.dBlocks = 0 := by rw [List.take_of_length_le (by have := hB.nd; omega)] at ha2; exact ha2
 have haq : OwnSeq Record.cells 2 RecordIs 91 a.2.1 a.2.2.1 a.2.2.2.1 a.2.2.2.2 (([] ++ putD (fun X : DCert => Ar 2 (Bd X) (DCert.check X)) D.dCerts) ++ putD (fun X : DB => Ar 1 (A7 X) (DB.check X)) D.dBlocks) ((0 + X.fCerts.n) + X.fBlocks.n) := by rw [List.take_of_length_le (by have := hB.nd; omega), hae] at ha3; exact ha3
 refine G12 ?_
 refine .loop (ι := Nat × Sl × List Blk × List Blk × List Record) (fun c => ⟨[(1, ptr n1 0), (4, c.2.1.v), (11, i64 (c.1 : Int))], (⟨n1, X.cells, 27, X.cells.length⟩ :: (c.2.2.1 ++ (c.2.2.2.1 ++ [])))⟩) (fun c => c.1 ≤ X.fCuts.n ∧ putE (fun X : DCut => Ar 4 (Bp X) (DCut.check X)) (D.dCuts.take c.1) = 0 ∧ OwnSeq Record.cells 2 RecordIs 91 c.2.1 c.2.2.1 c.2.2.2.1 c.2.2.2.2 ((([] ++ putD (fun X : DCert => Ar 2 (Bd X) (DCert.check X)) D.dCerts) ++ putD (fun X : DB => Ar 1 (A7 X) (DB.check X)) D.dBlocks) ++ putD (fun X : DCut => Ar 4 (Bp X) (DCut.check X)) (D.dCuts.take c.1)) ((0 + X.fCerts.n + X.fBlocks.n) + c.1)) (fun c => X.fCuts.n - c.1) ((0, a.2.1, a.2.2.1, a.2.2.2.1, a.2.2.2.2)) ?_ ?_ ?_
 · exact ⟨Nat.zero_le _, rfl, rec_next _ haq⟩
 · exact Af (wk1 rfl (wk1 rfl (wk1 rfl wk0))) (Ac rM (Ab sG (Ab sG Ae)))
 rintro c ⟨hc1, hc2, hc3⟩
 refine G10 ?_
 refine .condP J (fun hc5 => ?_) (fun hc5 => ?_)
 ·
  have hk2 : c.1 < X.fCuts.n := by omega
  obtain ⟨b, o, r, d, hsp, hr, hd, his, hlen, hsee⟩ := hC.at dE hk2
  have okr : r.ok := his.ok
  refine G9 ?_
  refine .idxSlP 34 J J J hsp J Y25.h Sz53 c.1 J oM (.loadEN r.cells J J J Y53.h J Sz53 sP hlen hsee (.call4 J J J J J Body57 (r26_Cut r d (zC d (List.mem_of_getElem? hd))) (fun w h => his.ext h J) ?_))
  rintro v79 out79 ⟨X79, ok79, rfl, k79, h79⟩
  refine G3 ?_
  refine .alloc (cs := Record.zero.cells) J Record.zr J ?_
  intro n12 hn12 hf12
  refine G11 ?_
  refine .condNP J (fun hc6 => ?_) (fun hc6 => ?_)
  ·
   have he1 : ¬ ((fun X : DCut => Ar 4 (Bp X) (DCut.check X)) d).2 = 0 := by omega
   refine G15 ?_
   refine Ah (out := []) (A9 J J J) Ae ?_
   exact recs_nil (recs_3 hq0 he0 ha0 (putE_fail _ _ _ _ hd hc2 he1) he1)
  have he0 : ((fun X : DCut => Ar 4 (Bp X) (DCut.check X)) d).2 = 0 := by omega
  refine G5 ?_
  refine .mkRow2 (z := agg Record.zero.cells) [agg X79.cells] X79.cells J J Y28.h Sz91 Record.zr J J (by intro v hv; rw [List.mem_singleton.1 hv]; exact Record.length ok79) dE (by simp [Value.cells]) ?_
  intro q87
  refine .appendAcc (z := agg Record.zero.cells) (by' := 32) (X79.cells) J J J J J Y28.h Y28.h Sz91 Record.zr (by unfold By; kernel_rfl) J hc3.acc sG (fun w h => SeesP.of (Aj h Z0)) (fun e => by cases e) (Record.isCell ok79) oM oM (by rw [Record.length ok79]) ?_
  intro s88 bl88 hac88
  refine G10 ?_
  exact ⟨(c.1 + 1, s88, bl88, out79 ++ c.2.2.2.1, c.2.2.2.2 ++ [X79]), ⟨by simp only []; omega, putE_step _ _ _ _ hd hc2 he0, rec_snoc hc3 hd hac88 ok79 h79⟩, by simp only []; omega, Af (wk1 rfl (wk1 rfl (wk1 (by rw [Int.natCast_add]; rfl) wk0))) (Ac rM (Ab sG (Br (Ab sG (Ab sG Ae)))))⟩
 have hce : c.1 = X.fCuts.n := by omega
 have hc0 : putE (fun X : DCut => Ar 4 (Bp X) (DCut.check X)) D.dCuts = 0 := by rw [List.take_of_length_le (by have := hC.nd; omega)] at hc2; exact hc2
 have hcq : OwnSeq Record.cells 2 RecordIs 91 c.2.1 c.2.2.1 c.2.2.2.1 c.2.2.2.2 ((([] ++ putD (fun X : DCert => Ar 2 (Bd X) (DCert.check X)) D.dCerts) ++ putD (fun X : DB => Ar 1 (A7 X) (DB.check X)) D.dBlocks) ++ putD (fun X : DCut => Ar 4 (Bp X) (DCut.check X)) D.dCuts) ((0 + X.fCerts.n + X.fBlocks.n) + X.fCuts.n) := by rw [List.take_of_length_le (by have := hC.nd; omega), hce] at hc3; exact hc3
 refine G12 ?_
 refine .loop (ι := Nat × Sl × List Blk × List Blk × List Record) (fun v => ⟨[(1, ptr n1 0), (4, v.2.1.v), (14, i64 (v.1 : Int))], (⟨n1, X.cells, 27, X.cells.length⟩ :: (v.2.2.1 ++ (v.2.2.2.1 ++ [])))⟩) (fun v => v.1 ≤ X.fVotes.n ∧ putE (fun X : Vote => Ar 3 (A0 X) (Ap X)) (D.dVotes.take v.1) = 0 ∧ OwnSeq Record.cells 2 RecordIs 91 v.2.1 v.2.2.1 v.2.2.2.1 v.2.2.2.2 (((([] ++ putD (fun X : DCert => Ar 2 (Bd X) (DCert.check X)) D.dCerts) ++ putD (fun X : DB => Ar 1 (A7 X) (DB.check X)) D.dBlocks) ++ putD (fun X : DCut => Ar 4 (Bp X) (DCut.check X)) D.dCuts) ++ putD (fun X : Vote => Ar 3 (A0 X) (Ap X)) (D.dVotes.take v.1)) ((0 + X.fCerts.n + X.fBlocks.n + X.fCuts.n) + v.1)) (fun v => X.fVotes.n - v.1) ((0, c.2.1, c.2.2.1, c.2.2.2.1, c.2.2.2.2)) ?_ ?_ ?_
 · exact ⟨Nat.zero_le _, rfl, rec_next _ hcq⟩
 · exact Af (wk1 rfl (wk1 rfl (wk1 rfl wk0))) (Ac rM (Ab sG (Ab sG Ae)))
 rintro v ⟨hv1, hv2, hv3⟩
 refine G10 ?_
 refine .condP J (fun hc7 => ?_) (fun hc7 => ?_)
 ·
  have hk2 : v.1 < X.fVotes.n := by omega
  obtain ⟨b, o, r, d, hsp, hr, hd, his, hlen, hsee⟩ := hV.at dE hk2
  have okr : r.ok := his.ok
  refine G9 ?_
  refine .idxSlP 132 J J J hsp J Y24.h Sz81 v.1 J oM (.loadEN r.cells J J J Y81.h J Sz81 sP hlen hsee (.call4 J J J J J Body55 (r26_Vote r d (zV d (List.mem_of_getElem? hd))) (fun w h => his.ext h J) ?_))
  rintro v102 out102 ⟨X102, ok102, rfl, k102, h102⟩
  refine G3 ?_
  refine .alloc (cs := Record.zero.cells) J Record.zr J ?_
  intro n15 hn15 hf15
  refine G11 ?_
  refine .condNP J (fun hc8 => ?_) (fun hc8 => ?_)
  ·
   have he1 : ¬ ((fun X : Vote => Ar 3 (A0 X) (Ap X)) d).2 = 0 := by omega
   refine G15 ?_
   refine Ah (out := []) (A9 J J J) Ae ?_
   exact recs_nil (recs_4 hq0 he0 ha0 hc0 (putE_fail _ _ _ _ hd hv2 he1) he1)
  have he0 : ((fun X : Vote => Ar 3 (A0 X) (Ap X)) d).2 = 0 := by omega
  refine G5 ?_
  refine .mkRow2 (z := agg Record.zero.cells) [agg X102.cells] X102.cells J J Y28.h Sz91 Record.zr J J (by intro v hv; rw [List.mem_singleton.1 hv]; exact Record.length ok102) dE (by simp [Value.cells]) ?_
  intro q110
  refine .appendAcc (z := agg Record.zero.cells) (by' := 32) (X102.cells) J J J J J Y28.h Y28.h Sz91 Record.zr (by unfold By; kernel_rfl) J hv3.acc sG (fun w h => SeesP.of (Aj h Z0)) (fun e => by cases e) (Record.isCell ok102) oM oM (by rw [Record.length ok102]) ?_
  intro s111 bl111 hac111
  refine G10 ?_
  exact ⟨(v.1 + 1, s111, bl111, out102 ++ v.2.2.2.1, v.2.2.2.2 ++ [X102]), ⟨by simp only []; omega, putE_step _ _ _ _ hd hv2 he0, rec_snoc hv3 hd hac111 ok102 h102⟩, by simp only []; omega, Af (wk1 rfl (wk1 rfl (wk1 (by rw [Int.natCast_add]; rfl) wk0))) (Ac rM (Ab sG (Br (Ab sG (Ab sG Ae)))))⟩
 have hve : v.1 = X.fVotes.n := by omega
 have hv0 : putE (fun X : Vote => Ar 3 (A0 X) (Ap X)) D.dVotes = 0 := by rw [List.take_of_length_le (by have := hV.nd; omega)] at hv2; exact hv2
 have hvq : OwnSeq Record.cells 2 RecordIs 91 v.2.1 v.2.2.1 v.2.2.2.1 v.2.2.2.2 (((([] ++ putD (fun X : DCert => Ar 2 (Bd X) (DCert.check X)) D.dCerts) ++ putD (fun X : DB => Ar 1 (A7 X) (DB.check X)) D.dBlocks) ++ putD (fun X : DCut => Ar 4 (Bp X) (DCut.check X)) D.dCuts) ++ putD (fun X : Vote => Ar 3 (A0 X) (Ap X)) D.dVotes) ((0 + X.fCerts.n + X.fBlocks.n + X.fCuts.n) + X.fVotes.n) := by rw [List.take_of_length_le (by have := hV.nd; omega), hve] at hv3; exact hv3
 refine G14 ?_
 refine Ah (out := (v.2.2.1 ++ (v.2.2.2.1 ++ []))) (A9 J J J) (Ab sG (Ab sG Ae)) ?_
 exact recs_fin (recs_5 hq0 he0 ha0 hc0 hv0) hvq oM

theorem seq_cell {R D : Type} {cells : R → List Value} {k : Nat} {Is : World → R → D → Prop} {W : World} {s : Sl} {rs : List R} {ds : List D} (h : SeqIs cells k Is W s rs ds) (hc : ∀ r d, Is W r d → ∀ u ∈ cells r, isCell u = true) : ∀ u ∈ (rs.map cells).flatten, isCell u = true := fun u hu => by
  obtain ⟨l, hl, hu⟩ := List.mem_flatten.1 hu
  obtain ⟨r, hr, rfl⟩ := List.mem_map.1 hl
  obtain ⟨i, hi⟩ := List.getElem?_of_mem hr
  have h1 : i < ds.length := by rw [h.nd, ← h.nr]; exact (List.getElem?_eq_some_iff.1 hi).1
  exact hc r _ (h.is i r _ hi (List.getElem?_eq_getElem h1)) u hu
theorem rowE_seq {R D : Type} {cells : R → List Value} {k n : Nat} {Is : World → R → D → Prop} {W W2 : World} {s s0 : Sl} {bl : List Blk} {rs : List R} {ds : List D} (h : RowE s bl (rs.map cells).flatten n) (hl : Lies bl W2) (h0 : SeqIs cells k Is W s0 rs ds) (hn : s0.n = n) (e : ∀ (i : Nat) (r : R) (d : D), rs[i]? = some r → ds[i]? = some d → Is W2 r d) : SeqIs cells k Is W2 s rs ds :=
  ⟨by rw [h.num, h0.nr, hn], by rw [h.num, h0.nd, hn], e, h0.len, h.cap, h.see W2 hl, by rw [h.num, ← hn]; exact h0.max, h.nil⟩
theorem seq_mono {R D : Type} {cells : R → List Value} {k : Nat} {Is Is2 : World → R → D → Prop} {W : World} {s : Sl} {rs : List R} {ds : List D} (h : SeqIs cells k Is W s rs ds) (f : ∀ r d, Is W r d → Is2 W r d) : SeqIs cells k Is2 W s rs ds :=
  ⟨h.nr, h.nd, fun i r d a b => f r d (h.is i r d a b), h.len, h.cap, h.see, h.max, h.nil⟩
def AtR {R D : Type} (Is : World → R → D → Prop) (rs : List R) (ds : List D) (W : World) : Prop := ∀ (i : Nat) (r : R) (d : D), rs[i]? = some r → ds[i]? = some d → Is W r d
def CutS (rC : List Cut) (dC : List DCut) (_ : World) (r : Cut) (d : DCut) : Prop := ∃ i : Nat, rC[i]? = some r ∧ dC[i]? = some d
def NeedS (D : DKept) (rB : List Block) (rE : List Cert) (rC : List Cut) (v : Value) (out : List Blk) : Prop := ∃ Y : Kept, Y.ok ∧ v = .tuple #[agg Y.cells, i64 (neededRd D).2] ∧ ∀ W2, Lies out W2 → AtR BlockIs rB D.dBlocks W2 → AtR CertIs rE D.dCerts W2 → AtR CutIs rC D.dCuts W2 → KeptIs W2 Y (neededRd D).1

theorem r26_Needed (X : Kept) (D : DKept) (rB : List Block) (rE : List Cert) (rC : List Cut) (hX : X.ok) (h1 : X.fBlocks.n ≤ 1000) (h2 : X.fCerts.n ≤ 1000) (h3 : X.fVotes.n ≤ 1000) (h4 : X.fCuts.n ≤ 1000) : Meets Tryz.prog 60 [agg X.cells] [] (fun W => KeptIs W X D ∧ SeqIs Block.cells 131 BlockIs W X.fBlocks rB D.dBlocks ∧ SeqIs Cert.cells 35 CertIs W X.fCerts rE D.dCerts ∧ SeqIs Cut.cells 34 CutIs W X.fCuts rC D.dCuts) (NeedS D rB rE rC) := by
 intro W hW
 obtain ⟨hK, hB, hE, hC⟩ := hW
 obtain ⟨rsV_, hV⟩ := hK.fVotes
 have nB := hB.nd
 have nE := hE.nd
 have nV := hV.nd
 have nC := hC.nd
 have hw1 : (A8 (X.fCerts.n : Int)).toNat = X.fCerts.n := by rw [word_nat oM, Bc oM]
 refine Ag Tryz.func60 J 77 Tryz.ntmps60 J (G3 ?_)
 intro n1 hn1 hf1
 refine .alloc (cs := Kept.zero.cells) J Kept.zr J ?_
 intro n2 hn2 hf2
 refine G7 ?_
 refine .cV J J J J Body63 (r26_Check X D) (fun w h => hK.ext h J) (G3 ?_)
 refine .condNP J (fun hc0 => ?_) (fun hc0 => ?_)
 ·
  have hcz : ¬ D.check = 0 := by omega
  refine G2 ?_
  refine .build (cs := Kept.zero.cells) J J J (fun w => by kernel_rfl) ?_
  refine G7 ?_
  refine Ah (out := []) (Am J J J Y27.h J Sz27 Z0 (by exact Kept.length (by exact Kept.zero_ok))) Ae ?_
  have h22 : D.check = 2 := by
   unfold DKept.check at hcz ⊢
   split at hcz
   · exact absurd rfl hcz
   · rw [if_neg zA]
  exact ⟨Kept.zero, Kept.zero_ok, by rw [neededRd, if_neg hcz, h22], fun W2 _ _ _ _ => by rw [neededRd, if_neg hcz]; exact keptz_is W2⟩
 have hcz : D.check = 0 := by omega
 refine G3 ?_
 refine .draw [(0, 1), (1, 2), (0, 5), (1, 6), (2, 0), (3, 3), (2, 4), (3, 7), (0, 8), (2, 9), (4, 10)] Ba zK (G4 ?_)
 refine .mkRow2 (z := agg Block.zero.cells) [] [] rfl J Y22.h Sz79 Block.zr J J (by intro v hv; cases hv) dE J ?_
 intro q11
 refine .appendE (z := agg Block.zero.cells) (by' := 184) ((rB.map Block.cells).flatten) J J J J Y22.h Y22.h Sz79 Block.zr (by unfold By; kernel_rfl) J (fun w h => Ao h J hB.see) (fun e => hB.nil0 e) (seq_cell hB fun r d h => Block.isCell h.ok) oM oM hB.flat ?_
 intro s14 bl14 hr14
 refine .mkRow2 (z := agg Cert.zero.cells) [] [] rfl J Y23.h Sz55 Cert.zr J J (by intro v hv; cases hv) dE J ?_
 intro q15
 refine .appendE (z := agg Cert.zero.cells) (by' := 88) ((rE.map Cert.cells).flatten) J J J J Y23.h Y23.h Sz55 Cert.zr (by unfold By; kernel_rfl) J (fun w h => Ao h J hE.see) (fun e => hE.nil0 e) (seq_cell hE fun r d h => Cert.isCell h.ok) oM oM hE.flat ?_
 intro s18 bl18 hr18
 refine .build (cs := ({ Kept.zero with fBlocks := s14, fCerts := s18 } : Kept).cells) J J J (fun w => by kernel_rfl) ?_
 refine .alloc (cs := Kept.zero.cells) J Kept.zr J ?_
 intro n4 hn4 hf4
 refine .sA J J J J (Kept.isCell (by exact ⟨trivial⟩)) Sz27 (Kept.length (by exact ⟨trivial⟩)) Z0 (Kept.length (by exact Kept.zero_ok)) zU ?_
 refine G9 ?_
 refine .loop (ι := Nat × Sl × List Blk × Nat × List Vote) (fun v => ⟨[(1, ptr n1 0), (2, ptr n2 0), (4, ptr n4 0), (5, i64 (v.1 : Int))], (⟨n4, ({ Kept.zero with fBlocks := s14, fCerts := s18, fVotes := v.2.1 } : Kept).cells, 27, 4⟩ :: (⟨n2, Kept.zero.cells, 27, 4⟩ :: (⟨n1, X.cells, 27, X.cells.length⟩ :: (bl14 ++ (bl18 ++ (v.2.2.1 ++ []))))))⟩) (fun v => v.1 ≤ X.fVotes.n ∧ v.2.2.2.1 ≤ v.1 ∧ OwnSeq Vote.cells 132 VoteIs 81 v.2.1 v.2.2.1 [] v.2.2.2.2 ((D.dVotes.take v.1).filter (gtV X.fCerts.n)) v.2.2.2.1) (fun v => X.fVotes.n - v.1) ((0, Sl.nil, [], 0, [])) ?_ ?_ ?_
 · exact ⟨Nat.zero_le _, Nat.le_refl _, OwnSeq.none⟩
 · exact Af (wk1 rfl (wk1 rfl (wk1 rfl (wk1 rfl wk0)))) (Ac rM (Ac rM (Ac rM (Ab sG (Ab sG (Bh Ae))))))
 rintro v ⟨hv1, hv2, hov⟩
 refine G10 ?_
 refine .condP J (fun hc1 => ?_) (fun hc1 => ?_)
 ·
  have hk2 : v.1 < X.fVotes.n := by omega
  obtain ⟨b, o, r, d, hsp, hr, hd, his, hlen, hsee⟩ := hV.at dE hk2
  have okr := his.ok
  obtain rfl := his.eq
  refine G2 ?_
  refine .join (ι := Nat × Sl × List Blk × Nat × List Vote) (fun j => ⟨[(1, ptr n1 0), (2, ptr n2 0), (4, ptr n4 0), (5, i64 (v.1 : Int))], (⟨n4, ({ Kept.zero with fBlocks := s14, fCerts := s18, fVotes := j.2.1 } : Kept).cells, 27, 4⟩ :: (⟨n2, Kept.zero.cells, 27, 4⟩ :: (⟨n1, X.cells, 27, X.cells.length⟩ :: (bl14 ++ (bl18 ++ (j.2.2.1 ++ []))))))⟩) (fun j => j.2.2.2.1 ≤ v.1 + 1 ∧ OwnSeq Vote.cells 132 VoteIs 81 j.2.1 j.2.2.1 [] j.2.2.2.2 ((D.dVotes.take (v.1 + 1)).filter (gtV X.fCerts.n)) j.2.2.2.1) ?_ ?_
  ·
   refine G2 ?_
   refine .draw [(0, 0), (1, 1), (0, 2), (0, 3), (0, 4), (1, 5), (0, 6), (1, 7), (0, 8), (0, 9), (0, 10)] Ba zK (G3 ?_)
   refine .idxSlP 132 J J J hsp J Y24.h Sz81 v.1 J oM (G1 ?_)
   refine .loadE J J J Y48.h J sP (hsee 0 _ (Vote.get_fHeight okr)) (G7 ?_)
   refine .condP J (fun hc2 => ?_) (fun hc2 => ?_)
   ·
    refine .draw [(0, 0), (1, 1), (0, 2), (1, 3), (0, 4), (0, 5), (1, 6), (2, 7), (4, 8), (0, 9), (4, 10)] Ba zK (G1 ?_)
    refine .load1 J J J Y24.h J Z0 (by exact Kept.get_fVotes (by exact ⟨trivial⟩)) ?_
    refine G3 ?_
    refine .idxSlP 132 J J J hsp J Y24.h Sz81 v.1 J oM (.loadEN r.cells J J J Y81.h J Sz81 sP hlen hsee (.mkRow2 (z := agg Vote.zero.cells) [agg r.cells] r.cells J J Y24.h Sz81 Vote.zr J J (by intro v hv; rw [List.mem_singleton.1 hv]; exact Vote.length okr) dE (by simp [Value.cells]) ?_))
    intro q45
    refine .appendAcc (z := agg Vote.zero.cells) (by' := 160) (r.cells) J J J J J Y24.h Y24.h Sz81 Vote.zr (by unfold By; kernel_rfl) J hov.acc sG (fun w h => SeesP.of (Aj h Z0)) (fun e => by cases e) (Vote.isCell okr) oM oM (by rw [Vote.length okr]) ?_
    intro s46 bl46 hac46
    refine G1 ?_
    refine .s1 J J J J J Sz24 mR (by rw [Kept.length (by exact ⟨trivial⟩)]; decide) (by exact Kept.set_fVotes (by exact ⟨trivial⟩) _) uU ?_
    refine G3 ?_
    exact ⟨(v.1, s46, bl46, v.2.2.2.1 + 1, v.2.2.2.2 ++ [r]), ⟨by simp only []; omega, by simp only [filt_yes hd (show gtV X.fCerts.n r = true from decide_eq_true oM)]; exact hov.snoc (bl3 := []) hac46 (Vote.length okr) (fun W2 _ => ⟨his.ok, rfl, his.wf⟩)⟩, Af (wk1 rfl (wk1 rfl (wk1 rfl (wk1 rfl wk0)))) (Ac rM (Ac rM (Ac rM (Ab sG (Ab sG (Ab sG Ae))))))⟩
   refine G3 ?_
   exact ⟨(v.1, v.2.1, v.2.2.1, v.2.2.2.1, v.2.2.2.2), ⟨by simp only []; omega, by simp only [filt_no hd (show gtV X.fCerts.n r = false from decide_eq_false oM)]; exact hov⟩, Af (wk1 rfl (wk1 rfl (wk1 rfl (wk1 rfl wk0)))) (Ac rM (Ac rM (Ac rM (Ab sG (Ab sG (Ab sG Ae))))))⟩
  intro j hj
  skip
  refine G6 ?_
  exact ⟨(v.1 + 1, j.2.1, j.2.2.1, j.2.2.2.1, j.2.2.2.2), ⟨by simp only []; omega, by have := hj.1; simp only []; omega, hj.2⟩, by simp only []; omega, Af (wk1 rfl (wk1 rfl (wk1 rfl (wk1 (by rw [Int.natCast_add]; rfl) wk0)))) (Ac rM (Ac rM (Ac rM (Ab sG (Ab sG (Ab sG Ae))))))⟩
 have hve : v.1 = X.fVotes.n := by omega
 refine G12 ?_
 refine .loop (ι := Nat × Sl × List Blk × Nat × List Cut) (fun u => ⟨[(1, ptr n1 0), (2, ptr n2 0), (4, ptr n4 0), (6, i64 (u.1 : Int))], (⟨n4, ({ Kept.zero with fBlocks := s14, fCerts := s18, fVotes := v.2.1, fCuts := u.2.1 } : Kept).cells, 27, 4⟩ :: (⟨n2, Kept.zero.cells, 27, 4⟩ :: (⟨n1, X.cells, 27, X.cells.length⟩ :: (bl14 ++ (bl18 ++ (v.2.2.1 ++ (u.2.2.1 ++ [])))))))⟩) (fun u => u.1 ≤ X.fCuts.n ∧ u.2.2.2.1 ≤ u.1 ∧ OwnSeq Cut.cells 34 (CutS rC D.dCuts) 53 u.2.1 u.2.2.1 [] u.2.2.2.2 ((D.dCuts.take u.1).filter (gtC X.fCerts.n)) u.2.2.2.1) (fun u => X.fCuts.n - u.1) ((0, Sl.nil, [], 0, [])) ?_ ?_ ?_
 · exact ⟨Nat.zero_le _, Nat.le_refl _, OwnSeq.none⟩
 · exact Af (wk1 rfl (wk1 rfl (wk1 rfl (wk1 rfl wk0)))) (Ac rM (Ac rM (Ac rM (Ab sG (Ab sG (Ab sG (Bh Ae)))))))
 rintro u ⟨hu1, hu2, hou⟩
 refine G10 ?_
 refine .condP J (fun hc3 => ?_) (fun hc3 => ?_)
 ·
  have hk2 : u.1 < X.fCuts.n := by omega
  obtain ⟨b, o, r, d, hsp, hr, hd, his, hlen, hsee⟩ := hC.at dE hk2
  have okr := his.ok
  refine G2 ?_
  refine .join (ι := Nat × Sl × List Blk × Nat × List Cut) (fun j => ⟨[(1, ptr n1 0), (2, ptr n2 0), (4, ptr n4 0), (6, i64 (u.1 : Int))], (⟨n4, ({ Kept.zero with fBlocks := s14, fCerts := s18, fVotes := v.2.1, fCuts := j.2.1 } : Kept).cells, 27, 4⟩ :: (⟨n2, Kept.zero.cells, 27, 4⟩ :: (⟨n1, X.cells, 27, X.cells.length⟩ :: (bl14 ++ (bl18 ++ (v.2.2.1 ++ (j.2.2.1 ++ [])))))))⟩) (fun j => j.2.2.2.1 ≤ u.1 + 1 ∧ OwnSeq Cut.cells 34 (CutS rC D.dCuts) 53 j.2.1 j.2.2.1 [] j.2.2.2.2 ((D.dCuts.take (u.1 + 1)).filter (gtC X.fCerts.n)) j.2.2.2.1) ?_ ?_
  ·
   refine G2 ?_
   refine .draw [(0, 0), (1, 1), (0, 2), (0, 3), (0, 4), (1, 5), (0, 6), (1, 7), (0, 8), (0, 9), (0, 10)] Ba zK (G3 ?_)
   refine .idxSlP 34 J J J hsp J Y25.h Sz53 u.1 J oM (G1 ?_)
   refine .loadE J J J Y48.h J sP (hsee 0 _ (Cut.get_fHeight okr)) (G7 ?_)
   refine .condP J (fun hc4 => ?_) (fun hc4 => ?_)
   ·
    refine .draw [(0, 0), (1, 1), (0, 2), (1, 3), (0, 4), (0, 5), (1, 6), (2, 7), (4, 8), (0, 9), (4, 10)] Ba zK (G1 ?_)
    refine .load1 J J J Y25.h J Z0 (by exact Kept.get_fCuts (by exact ⟨trivial⟩)) ?_
    refine G3 ?_
    refine .idxSlP 34 J J J hsp J Y25.h Sz53 u.1 J oM (.loadEN r.cells J J J Y53.h J Sz53 sP hlen hsee (.mkRow2 (z := agg Cut.zero.cells) [agg r.cells] r.cells J J Y25.h Sz53 Cut.zr J J (by intro v hv; rw [List.mem_singleton.1 hv]; exact Cut.length okr) dE (by simp [Value.cells]) ?_))
    intro q73
    refine .appendAcc (z := agg Cut.zero.cells) (by' := 64) (r.cells) J J J J J Y25.h Y25.h Sz53 Cut.zr (by unfold By; kernel_rfl) J hou.acc sG (fun w h => SeesP.of (Aj h Z0)) (fun e => by cases e) (Cut.isCell okr) oM oM (by rw [Cut.length okr]) ?_
    intro s74 bl74 hac74
    refine G1 ?_
    refine .s1 J J J J J Sz25 mR (by rw [Kept.length (by exact ⟨trivial⟩)]; decide) (by exact Kept.set_fCuts (by exact ⟨trivial⟩) _) uU ?_
    refine G3 ?_
    exact ⟨(u.1, s74, bl74, u.2.2.2.1 + 1, u.2.2.2.2 ++ [r]), ⟨by simp only []; omega, by simp only [filt_yes hd (show gtC X.fCerts.n d = true from decide_eq_true (by rw [← his.fHeight]; omega))]; exact hou.snoc (bl3 := []) hac74 (Cut.length okr) (fun W2 _ => ⟨u.1, hr, hd⟩)⟩, Af (wk1 rfl (wk1 rfl (wk1 rfl (wk1 rfl wk0)))) (Ac rM (Ac rM (Ac rM (Ab sG (Ab sG (Ab sG (Ab sG Ae)))))))⟩
   refine G3 ?_
   exact ⟨(u.1, u.2.1, u.2.2.1, u.2.2.2.1, u.2.2.2.2), ⟨by simp only []; omega, by simp only [filt_no hd (show gtC X.fCerts.n d = false from decide_eq_false (by rw [← his.fHeight]; omega))]; exact hou⟩, Af (wk1 rfl (wk1 rfl (wk1 rfl (wk1 rfl wk0)))) (Ac rM (Ac rM (Ac rM (Ab sG (Ab sG (Ab sG (Ab sG Ae)))))))⟩
  intro j hj
  skip
  refine G6 ?_
  exact ⟨(u.1 + 1, j.2.1, j.2.2.1, j.2.2.2.1, j.2.2.2.2), ⟨by simp only []; omega, by have := hj.1; simp only []; omega, hj.2⟩, by simp only []; omega, Af (wk1 rfl (wk1 rfl (wk1 rfl (wk1 (by rw [Int.natCast_add]; rfl) wk0)))) (Ac rM (Ac rM (Ac rM (Ab sG (Ab sG (Ab sG (Ab sG Ae)))))))⟩
 have hue : u.1 = X.fCuts.n := by omega
 refine G7 ?_
 refine .lA J J J Y27.h J Sz27 Z0 (Kept.length (by exact ⟨trivial⟩)) ?_
 refine .sA J J J J (Kept.isCell (by exact ⟨trivial⟩)) Sz27 (Kept.length (by exact ⟨trivial⟩)) Z1 (Kept.length (by exact Kept.zero_ok)) zV ?_
 refine G5 ?_
 refine Ah (out := (bl14 ++ (bl18 ++ (v.2.2.1 ++ (u.2.2.1 ++ []))))) (Am J J J Y27.h J Sz27 Z1 (by exact Kept.length (by exact ⟨trivial⟩))) (Ab sG (Ab sG (Ab sG (Ab sG Ae)))) ?_
 refine ⟨({ Kept.zero with fBlocks := s14, fCerts := s18, fVotes := v.2.1, fCuts := u.2.1 } : Kept), ⟨trivial⟩, by rw [neededRd, if_pos hcz], fun W2 hl eB eE eC => ?_⟩
 rw [List.take_of_length_le oM] at hov hou
 rw [neededRd, if_pos hcz, nE]
 exact ⟨⟨trivial⟩, ⟨rB, rowE_seq hr14 (hl.sub (by repeat (exact Aq))) hB rfl eB⟩, ⟨rE, rowE_seq hr18 (hl.sub (by repeat (first | exact Aq | refine Ce ?_))) hE rfl eE⟩, ⟨_, hov.seq (hl.sub (by repeat (first | exact Aq | refine Ce ?_))) (fun b hb => (by cases hb)) oM⟩, ⟨_, seq_mono (hou.seq (hl.sub (by repeat (first | exact Aq | refine Ce ?_))) (fun b hb => (by cases hb)) oM) (fun r d h => (by obtain ⟨i, g1, g2⟩ := h; exact eC i r d g1 g2))⟩⟩

structure DMsg.Few (D : DMsg) : Prop where
  h : D.dHeads.length ≤ 100000
  w : D.dWant.length ≤ 100000
  b : D.dBlocks.length ≤ 100000
  v : D.dVotes.length ≤ 100000
  c : D.dCuts.length ≤ 100000
  x : D.dCerts.length ≤ 100000

theorem num_err {xs : List UInt8} {a : Nat} {e : Int} (h : (A5 xs a e).2.2 = 0) : e = 0 := by
  unfold A5 at h
  by_cases he : e = 0
  · exact he
  · rw [if_pos he] at h; exact h
theorem blk_err {xs : List UInt8} {a : Nat} {e : Int} (h : (blkR xs a e).2.2 = 0) : e = 0 := by
  unfold blkR at h
  split at h
  · rename_i h1; exact absurd h h1
  · rename_i h1; exact num_err (Classical.not_not.1 h1)
section
variable {D : Type} {f : List UInt8 → D × Int} {xs : List UInt8}
theorem itR_err : ∀ {k a : Nat} {e : Int} {vs : List D} {a2 : Nat}, itR f xs k a e = some (vs, a2, 0) → e = 0
  | 0, a, e, vs, a2, h => by
    have := congrArg (fun r => (Option.get! r).2.2) h
    simpa [itR] using this
  | k + 1, a, e, vs, a2, h => by
    rw [itR] at h
    obtain ⟨r, hr, h2⟩ := Option.bind_eq_some_iff.1 h
    obtain ⟨v1, a1, e1⟩ := r
    split at h2
    · rename_i hg
      have := blk_err hg.2
      simp only at this
      subst this
      exact itR_err hr
    · cases h2
def ItInv (f : List UInt8 → D × Int) (xs : List UInt8) (a3 : Nat) (e3 ev0 : Int) (k : Nat) (vs : List D) (a : Nat) (e ev : Int) : Prop :=
  vs.length = k ∧ ((ev = ev0 ∧ itR f xs k a3 e3 = some (vs, a, e)) ∨ ((¬ ev = 0 ∨ ¬ e = 0) ∧ ∀ m, k ≤ m → itR f xs m a3 e3 = none))
theorem inv_zero (a3 : Nat) (e3 ev0 : Int) : ItInv f xs a3 e3 ev0 0 [] a3 e3 ev0 := ⟨rfl, .inl ⟨rfl, rfl⟩⟩
theorem inv_step {a3 k a a2 : Nat} {e3 ev0 e ev e2 : Int} {vs : List D} {o : Option (List UInt8)} (h : ItInv f xs a3 e3 ev0 k vs a e ev) (he : e = 0) (hv : ev = 0) (hb : blkR xs a e = (o, a2, e2)) : ItInv f xs a3 e3 ev0 (k + 1) (vs ++ [(f (o.getD [])).1]) a2 e2 (f (o.getD [])).2 := by
  refine ⟨by rw [List.length_append, h.1]; rfl, ?_⟩
  rcases h.2 with ⟨h1, h2⟩ | ⟨h1, h2⟩
  · by_cases hg : (f (o.getD [])).2 = 0 ∧ e2 = 0
    · exact .inl ⟨by rw [hg.1, ← h1, hv], itR_step h2 hb hg.1 hg.2⟩
    · refine .inr ⟨?_, fun m hm => itR_stop h2 hb hg m hm⟩
      by_cases h3 : (f (o.getD [])).2 = 0
      · exact .inr fun h4 => hg ⟨h3, h4⟩
      · exact .inl h3
  · rcases h1 with h1 | h1
    · exact absurd hv h1
    · exact absurd he h1
theorem inv_some {a3 k a N : Nat} {e3 ev0 e ev : Int} {vs : List D} (h : ItInv f xs a3 e3 ev0 k vs a e ev) (hx : k = N ∨ ¬ e = 0 ∨ ¬ ev = 0) (hk : k ≤ N) (h0 : ev0 = 0) {r : List D × Nat × Int} (hr : itR f xs N a3 e3 = some r) (h3 : N ≠ 0 ∨ e3 = 0) : k = N ∧ ev = 0 ∧ r = (vs, a, e) := by
  rcases h.2 with ⟨h1, h2⟩ | ⟨_, h2⟩
  · have hkn : k = N := by
      by_cases hkn : k = N
      · exact hkn
      · exfalso
        have he : ¬ e = 0 := by
          rcases hx with hx | hx | hx
          · exact absurd hx hkn
          · exact hx
          · exact absurd (h1.trans h0) hx
        obtain ⟨o, a4, e4, hb⟩ : ∃ o a4 e4, blkR xs a e = (o, a4, e4) := ⟨_, _, _, rfl⟩
        have h4 : ¬ e4 = 0 := fun h5 => he (blk_err (xs := xs) (a := a) (by rw [hb]; exact h5))
        have := itR_stop (f := f) h2 hb (fun g => h4 g.2) N oM
        rw [hr] at this
        cases this
    subst hkn
    rw [hr] at h2
    exact ⟨rfl, h1.trans h0, Option.some.inj h2⟩
  · rw [h2 N hk] at hr; cases hr
end
theorem cert_fin {xs : List UInt8} {o : Option (List UInt8)} {a1 a3 k a : Nat} {e1 e3 e ev : Int} {x3 : UInt64} {vs : List Vote} (h1 : blkR xs 0 0 = (o, a1, e1)) (h3 : A5 xs a1 e1 = (x3, a3, e3)) (hi : ItInv A1 xs a3 e3 (Bk (o.getD [])).2 k vs a e ev) (hx : k = x3.toNat ∨ k = 17 ∨ ¬ e = 0 ∨ ¬ ev = 0) (hk : k ≤ x3.toNat) :
    (endR xs.length a e = 0 ∧ ev = 0 ∧ (⟨(Bk (o.getD [])).1, vs⟩ : DCert).check = 0 → Bj xs = (⟨(Bk (o.getD [])).1, vs⟩, 0)) ∧ (¬ (endR xs.length a e = 0 ∧ ev = 0 ∧ (⟨(Bk (o.getD [])).1, vs⟩ : DCert).check = 0) → Bj xs = (dcertz, 4)) := by
  have hcr : Bj xs = if (Bk (o.getD [])).2 = 0 then (match readVL xs 16 a1 e1 with | some (vs, a, e) => if endR xs.length a e = 0 ∧ (⟨(Bk (o.getD [])).1, vs⟩ : DCert).check = 0 then ((⟨(Bk (o.getD [])).1, vs⟩ : DCert), (0 : Int)) else (dcertz, (4 : Int)) | none => (dcertz, (4 : Int))) else (dcertz, (4 : Int)) := by simp only [Bj, h1]; rfl
  have hrv : readVL xs 16 a1 e1 = if e3 = 0 ∧ x3.toNat ≤ 16 then itR A1 xs x3.toNat a3 e3 else none := by rw [readVL_is, listR, h3]
  constructor
  · rintro ⟨g1, g2, g3⟩
    have he : e = 0 := endR_zero g1
    have h16 := (DCert.facts g3).2.2
    simp only [hi.1] at h16
    have hk3 : k = x3.toNat := by
      rcases hx with hx | hx | hx | hx
      · exact hx
      · omega
      · exact absurd he hx
      · exact absurd g2 hx
    have h0 : (Bk (o.getD [])).2 = 0 ∧ itR A1 xs k a3 e3 = some (vs, a, e) := by
      rcases hi.2 with ⟨h4, h5⟩ | ⟨h4, _⟩
      · exact ⟨h4 ▸ g2, h5⟩
      · rcases h4 with h4 | h4
        · exact absurd g2 h4
        · exact absurd he h4
    have he3 : e3 = 0 := by have := h0.2; rw [he] at this; exact itR_err this
    rw [hcr, if_pos h0.1, hrv, if_pos ⟨he3, by omega⟩, ← hk3, h0.2]
    exact if_pos ⟨g1, g3⟩
  · intro g
    rw [hcr]
    by_cases h0 : (Bk (o.getD [])).2 = 0
    · rw [if_pos h0, hrv]
      by_cases h4 : e3 = 0 ∧ x3.toNat ≤ 16
      · rw [if_pos h4]
        cases hr : itR A1 xs x3.toNat a3 e3 with
        | none => rfl
        | some r =>
          obtain ⟨g4, g5, g6⟩ := inv_some (N := x3.toNat) hi (by
            rcases hx with hx | hx | hx
            · exact .inl hx
            · omega
            · exact .inr hx) hk h0 hr (.inr h4.1)
          subst g6
          exact if_neg fun g7 => g ⟨g7.1, g5, g7.2⟩
      · rw [if_neg h4]
    · rw [if_neg h0]

end Go.Proofs.YtdifpjmfabhpiaaGreat
end

section
namespace Go.Proofs.YtdifpjmfabhpiaaGreat
open Go Hw

structure VS9 where
  k : Nat
  ac : Nat
  s : Sl
  bl : List Blk
  vs : List Vote
  a : Nat
  e : Int
  ev : Int
  o : Nat

theorem r25_ReadCert (pa : Option Addr) (n c : Nat) (xs : List UInt8) (hl : xs.length = n) (hp : pa = none → n = 0) (hn : n ≤ 90000) : Meets Tryz.prog 41 [.slice pa n c] [] (fun W => SeesP W pa (Aa xs)) (CertRead xs) := by
  intro W hW
  obtain ⟨o1, r1, h1⟩ : ∃ l r, blkR xs 0 0 = (l, r) := ⟨_, _, rfl⟩
  obtain ⟨a1, e1⟩ := r1
  have hd1 := blkE_le h1 hl (Nat.zero_le _)
  obtain ⟨x3, r3, h3⟩ : ∃ l r, A5 xs a1 e1 = (l, r) := ⟨_, _, rfl⟩
  obtain ⟨a3, e3⟩ := r3
  have hd3 := Bm h3 hl hd1.1
  refine Ag Tryz.func41 J 67 Tryz.ntmps41 J (G2 ?_)
  refine .alloc (cs := Cert.zero.cells) J Cert.zr J ?_
  intro n2 hn2 hf2
  refine G6 ?_
  refine .call4 J J J J J Body135 (r1_Read pa n c xs hl hp hn) (fun w h => Ao h J hW) ?_
  rintro v11 out11 ⟨n11, q11, cp11, rfl, hcp11, rfl⟩
  refine .nd (fun hnd => ?_)
  have hne : q11 ≠ n11 := by intro e; simp [R1B, e] at hnd
  clear hnd
  refine G5 ?_
  refine .alloc (cs := Cert.zero.cells) J Cert.zr J ?_
  intro n5 hn5 hf5
  refine G10 ?_
  refine .callL (L := [R1B n11 q11 (0) n cp11 (0) (0)]) J J J J J Body137 (r1_BlockE n11 q11 0 n cp11 0 0 xs hl (Nat.zero_le _) hcp11 oM (fun _ => rfl) o1 a1 e1 h1) (Ac rM Ae) (Ay J) (fun w h => ⟨Ak h Z1, Aj h Z2, hne⟩) ?_
  rintro v14 out14 ⟨s14, bl14, o14, ho14, rfl, hac14, rfl⟩
  simp only [List.append_assoc, List.cons_append, List.nil_append]
  have hm14 := hac14.num
  refine .call4 J J J J J Body136 (r19_Read s14.p s14.n s14.c (o1.getD []) hm14.symm (fun e => hac14.nil e) (by rw [hm14]; omega)) (fun w h => hac14.see (Lies.of h (by repeat (exact Aq)))) ?_
  rintro v15 out15 ⟨C15, okC, rfl, hC15⟩
  refine G4 ?_
  refine .storeN C15.cells J J J J J (Cut.isCell okC) Sz53 (Cut.length okC) mR (by rw [Cert.length Cert.zero_ok, Cut.length okC]; decide) (upd_cut Cert.zero_ok okC) uU ?_
  refine G6 ?_
  refine .callL (L := [R1B n11 q11 (o14) n cp11 (a1) (e1)]) J J J J J Body138 (Cb n11 q11 o14 n cp11 a1 e1 xs hl hd1.1 hcp11 oM ho14 x3 a3 e3 h3) (Ac (by repeat (first | exact Az | apply rem_seg)) Ae) (Ay J) (fun w h => ⟨Ak h mR, Aj h mR, hne⟩) ?_
  rintro v20 out20 ⟨o20, ho20, rfl, rfl⟩
  refine G3 ?_
  refine .join (ι := VS9) (fun j => ⟨[(2, ptr n2 0), (3, i64 0), (4, ptr n11 0), (5, ptr n5 0), (6, i64 j.ev), (7, u64 x3), (8, u64 (UInt64.ofNat j.k))], (R1B n11 q11 j.o n cp11 j.a j.e :: (⟨q11, Aa xs, 5, cp11 * 1⟩ :: (⟨n5, ({ Cert.zero with fCut := C15, fVotes := j.s } : Cert).cells, 55, 35⟩ :: (⟨n2, Cert.zero.cells, 55, 35⟩ :: (out15 ++ (j.bl ++ []))))))⟩) (fun j => j.k ≤ x3.toNat ∧ j.k ≤ 17 ∧ j.a ≤ n ∧ At1 cp11 j.a j.o ∧ Hw.Acc j.s j.bl (j.vs.map Vote.cells).flatten 81 j.vs.length 132 ∧ (∀ V ∈ j.vs, Vgood V) ∧ ItInv A1 xs a3 e3 (Bk (o1.getD [])).2 j.k j.vs j.a j.e j.ev ∧ (j.k = x3.toNat ∨ j.k = 17 ∨ ¬ j.e = 0 ∨ ¬ j.ev = 0)) ?_ ?_
  ·
    refine G2 ?_
    refine .a J J (show Al _ _ = some (u64 0) from rfl) (G3 ?_)
    refine .loop (ι := VS9) (fun p => ⟨[(2, ptr n2 0), (3, i64 0), (4, ptr n11 0), (5, ptr n5 0), (6, i64 p.ev), (7, u64 x3), (8, u64 (UInt64.ofNat p.k))], (R1B n11 q11 p.o n cp11 p.a p.e :: (⟨q11, Aa xs, 5, cp11 * 1⟩ :: (⟨n5, ({ Cert.zero with fCut := C15, fVotes := p.s } : Cert).cells, 55, 35⟩ :: (⟨n2, Cert.zero.cells, 55, 35⟩ :: (out15 ++ (p.bl ++ []))))))⟩) (fun p => p.k ≤ x3.toNat ∧ p.k ≤ 17 ∧ p.a ≤ n ∧ At1 cp11 p.a p.o ∧ Hw.Acc p.s p.bl (p.vs.map Vote.cells).flatten 81 p.vs.length 132 ∧ (∀ V ∈ p.vs, Vgood V) ∧ ItInv A1 xs a3 e3 (Bk (o1.getD [])).2 p.k p.vs p.a p.e p.ev) (fun p => 17 - p.k) (⟨0, 0, Sl.nil, [], [], a3, e3, (Bk (o1.getD [])).2, o20⟩) ?_ ?_ ?_
    · exact ⟨Nat.zero_le _, Nat.zero_le _, hd3, ho20, Acc.none, (fun V hV => by cases hV), inv_zero _ _ _⟩
    · exact Af (wk1 rfl (wk1 rfl (wk1 rfl (wk1 rfl (wk1 rfl (wk1 rfl (wk1 rfl wk0))))))) (Ac rM (Ac rM (Ac (by repeat (first | exact Az | apply rem_seg)) (Ac (by repeat (first | exact Az | apply rem_seg)) (Ab sG (Bh Ae))))))
    rintro p ⟨hp1, hp17, hpa, hop, hac, hvo, hin⟩
    have hj64 : (UInt64.ofNat p.k).toNat = p.k := Bc oM
    have hvl := hin.1
    obtain ⟨o8, r8, h8⟩ : ∃ l r, blkR xs p.a p.e = (l, r) := ⟨_, _, rfl⟩
    obtain ⟨a8, e8⟩ := r8
    have hd8 := blkE_le h8 hl hpa
    have hvg := voteRd_good (o8.getD [])
    refine G5 ?_
    refine two (fun r hr k => Tr.lss J J J J hr k) (fun hs7_20 => ?_) (fun hs7_20 => ?_)
    ·
      have hs7_2 := of_decide_eq_true hs7_20
      refine G2 ?_
      refine two (fun r hr k => Tr.leq J J J J hr k) (fun hs7_50 => ?_) (fun hs7_50 => ?_)
      ·
        have hs7_5 := of_decide_eq_true hs7_50
        refine G6 ?_
        refine two (fun r hr k => Tr.eqi J J J J hr k) (fun hs7_120 => ?_) (fun hs7_120 => ?_)
        ·
          have hs7_12 := of_decide_eq_true hs7_120
          refine G7 ?_
          refine .condP J (fun hc0 => ?_) (fun hc0 => ?_)
          ·
            refine G6 ?_
            refine .alloc (cs := Vote.zero.cells) J Vote.zr J ?_
            intro n9 hn9 hf9
            refine G5 ?_
            refine .callL (L := [R1B n11 q11 (p.o) n cp11 (p.a) (p.e)]) J J J J J Body137 (r1_BlockE n11 q11 p.o n cp11 p.a p.e xs hl hpa hcp11 oM hop o8 a8 e8 h8) (Ac rM Ae) (Ay J) (fun w h => ⟨Ak h Z1, Aj h Z2, hne⟩) ?_
            rintro v43 out43 ⟨s43, bl43, o43, ho43, rfl, hac43, rfl⟩
            simp only [List.append_assoc, List.cons_append, List.nil_append]
            have hm43 := hac43.num
            refine .cV J J J J Body139 (r20_Read s43.p s43.n s43.c (o8.getD []) hm43.symm (fun e => hac43.nil e) (by rw [hm43]; omega)) (fun w h => hac43.see (Lies.of h (by repeat (exact Aq)))) ?_
            refine G3 ?_
            refine .sA J J J J (Vote.isCell (by exact hvg.ok)) Sz81 (Vote.length (by exact hvg.ok)) mR (Vote.length zT) uU ?_
            refine G5 ?_
            refine .load1 J J J Y24.h J mR (by exact Cert.get_fVotes (by exact ⟨okC⟩)) ?_
            refine .lA J J J Y81.h J Sz81 mR (Vote.length (by exact hvg.ok)) ?_
            refine .mkRow2 (z := agg Vote.zero.cells) [agg (A1 (o8.getD [])).1.cells] (A1 (o8.getD [])).1.cells J J Y24.h Sz81 Zr81 J J (by intro v hv; rw [List.mem_singleton.1 hv]; simp [Value.cells, Vote.length hvg.ok]) dE (by simp [Value.cells]) ?_
            intro q50
            refine .appendAcc (z := agg Vote.zero.cells) (by' := 160) ((A1 (o8.getD [])).1.cells) J J J J J Y24.h Y24.h Sz81 Zr81 (by unfold By; kernel_rfl) J hac sG (fun w h => SeesP.of (Aj h Z0)) (fun e => by cases e) (Vote.isCell hvg.ok) oM oM (by rw [Vote.length hvg.ok]) ?_
            intro s51 bl51 hac51
            refine G1 ?_
            refine .s1 J J J J J Sz24 mR (by rw [Cert.length (by exact ⟨okC⟩)]; decide) (by exact Cert.set_fVotes (by exact ⟨okC⟩) _) uU ?_
            refine G5 ?_
            refine .add_u64 J J J (show Al _ _ = some (u64 1) from rfl) (G3 ?_)
            refine ⟨⟨p.k + 1, 0, s51, bl51, p.vs ++ [(A1 (o8.getD [])).1], a8, e8, (A1 (o8.getD [])).2, o43⟩, ⟨by simp only []; omega, by simp only []; omega, hd8.1, ho43, ?_, ?_, inv_step hin zA zA h8⟩, by simp only []; omega, Af (wk1 J (wk1 J (wk1 J (wk1 J (wk1 J (wk1 J (wk1 (congrArg (fun z => some (u64 z)) (ofNat_step _)) wk0))))))) (Ac rM (Ac rM (Ac rM (Ac rM (Ab sG (Ab sG Ae))))))⟩
            · simp only [List.map_append, List.map_cons, List.map_nil, List.flatten_append, List.flatten_cons, List.flatten_nil, List.append_nil, List.length_append, List.length_singleton]
              exact hac51
            · intro V hV
              rcases List.mem_append.1 hV with h | h
              · exact hvo V h
              · rw [List.mem_singleton.1 h]; exact hvg
          refine G5 ?_
          exact ⟨p, ⟨hp1, hp17, hpa, hop, hac, hvo, hin, by (right; right; right; assumption)⟩, Af (wk1 rfl (wk1 rfl (wk1 rfl (wk1 rfl (wk1 rfl (wk1 rfl (wk1 rfl wk0))))))) (Ac rM (Ac rM (Ac rM (Ac rM (Ab sG (Ab sG Ae))))))⟩
        have hs7_12 := of_decide_eq_false hs7_120
        refine G7 ?_
        refine .cond_f J J (G5 ?_)
        exact ⟨p, ⟨hp1, hp17, hpa, hop, hac, hvo, hin, by (right; right; left; assumption)⟩, Af (wk1 rfl (wk1 rfl (wk1 rfl (wk1 rfl (wk1 rfl (wk1 rfl (wk1 rfl wk0))))))) (Ac rM (Ac rM (Ac rM (Ac rM (Ab sG (Ab sG Ae))))))⟩
      have hs7_5 := of_decide_eq_false hs7_50
      refine G14 ?_
      refine .cond_f J J (G5 ?_)
      exact ⟨p, ⟨hp1, hp17, hpa, hop, hac, hvo, hin, by (right; left; omega)⟩, Af (wk1 rfl (wk1 rfl (wk1 rfl (wk1 rfl (wk1 rfl (wk1 rfl (wk1 rfl wk0))))))) (Ac rM (Ac rM (Ac rM (Ac rM (Ab sG (Ab sG Ae))))))⟩
    have hs7_2 := of_decide_eq_false hs7_20
    refine G17 ?_
    refine .cond_f J J (G5 ?_)
    exact ⟨p, ⟨hp1, hp17, hpa, hop, hac, hvo, hin, by (left; omega)⟩, Af (wk1 rfl (wk1 rfl (wk1 rfl (wk1 rfl (wk1 rfl (wk1 rfl (wk1 rfl wk0))))))) (Ac rM (Ac rM (Ac rM (Ac rM (Ab sG (Ab sG Ae))))))⟩
  intro j hj
  obtain ⟨hp1, hp17, hpa, hop, hac, hvo, hin, hfin⟩ := hj
  have hvl := hin.1
  refine G4 ?_
  refine .cV J J J J Body140 (r1_End n11 q11 j.o n cp11 j.a j.e hpa oM) (fun w h => Ak h Z0) ?_
  refine two (fun r hr k => Tr.nei J J J J hr k) (fun hs12_20 => ?_) (fun hs12_20 => ?_)
  ·
    have hs12_2 := nd_t hs12_20
    refine G11 ?_
    refine .cond_t J J (G2 ?_)
    refine .build (cs := Cert.zero.cells) J J J (fun w => by kernel_rfl) ?_
    refine G7 ?_
    refine Ah (out := (out15 ++ (j.bl ++ []))) (Am J J J Y55.h J Sz55 Z3 (by exact Cert.length (by exact Cert.zero_ok))) (Ab sG (Ab sG Ae)) ?_
    have hF := cert_fin h1 h3 hin hfin hp1
    exact cert_bad (hF.2 (by rw [hl]; exact fun h => hs12_2 h.1))
  have hs12_2 := nd_f hs12_20
  refine G2 ?_
  refine two (fun r hr k => Tr.nei J J J J hr k) (fun hs12_50 => ?_) (fun hs12_50 => ?_)
  ·
    have hs12_5 := nd_t hs12_50
    refine G8 ?_
    refine .cond_t J J (G2 ?_)
    refine .build (cs := Cert.zero.cells) J J J (fun w => by kernel_rfl) ?_
    refine G7 ?_
    refine Ah (out := (out15 ++ (j.bl ++ []))) (Am J J J Y55.h J Sz55 Z3 (by exact Cert.length (by exact Cert.zero_ok))) (Ab sG (Ab sG Ae)) ?_
    have hF := cert_fin h1 h3 hin hfin hp1
    exact cert_bad (hF.2 (by rw [hl]; exact fun h => hs12_5 h.2.1))
  have hs12_5 := nd_f hs12_50
  refine G2 ?_
  refine .lA J J J Y55.h J Sz55 Z2 (Cert.length (by exact ⟨okC⟩)) ?_
  refine .cV J J J J Body42 (r25_CheckCert ({ Cert.zero with fCut := C15, fVotes := j.s } : Cert) ⟨(Bk (o1.getD [])).1, j.vs⟩) (fun w h => ⟨⟨okC⟩, hC15 w (Lies.of h (by repeat (first | exact Aq | refine in_there ?_))), owned_vs hvo hac oM w (Lies.of h (by repeat (first | exact Aq | refine in_there ?_ | refine Ce ?_)))⟩) ?_
  refine G4 ?_
  refine .condNP J (fun hc1 => ?_) (fun hc1 => ?_)
  ·
    refine G2 ?_
    refine .build (cs := Cert.zero.cells) J J J (fun w => by kernel_rfl) ?_
    refine G7 ?_
    refine Ah (out := (out15 ++ (j.bl ++ []))) (Am J J J Y55.h J Sz55 Z3 (by exact Cert.length (by exact Cert.zero_ok))) (Ab sG (Ab sG Ae)) ?_
    have hF := cert_fin h1 h3 hin hfin hp1
    exact cert_bad (hF.2 (by rw [hl]; exact fun h => hc1 h.2.2))
  refine G4 ?_
  refine .lA J J J Y55.h J Sz55 Z2 (Cert.length (by exact ⟨okC⟩)) ?_
  refine .sA J J J J (Cert.isCell (by exact ⟨okC⟩)) Sz55 (Cert.length (by exact ⟨okC⟩)) Z3 (Cert.length (by exact Cert.zero_ok)) (by exact upd3) ?_
  refine G5 ?_
  refine Ah (out := (out15 ++ (j.bl ++ []))) (Am J J J Y55.h J Sz55 Z3 (by exact Cert.length (by exact ⟨okC⟩))) (Ab sG (Ab sG Ae)) ?_
  have hF := cert_fin h1 h3 hin hfin hp1
  exact cert_okR (hF.1 (by rw [hl]; exact ⟨by assumption, by assumption, by assumption⟩)) ⟨okC⟩ (fun W2 h2 => ⟨⟨okC⟩, hC15 W2 (h2.sub (by repeat (exact Aq))), owned_vs hvo hac oM W2 (h2.sub (by repeat (first | exact Aq | refine Ce ?_)))⟩)
end Go.Proofs.YtdifpjmfabhpiaaGreat
end
