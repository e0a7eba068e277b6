/- headwaterlaw15.BlockCalls returns true at every input, and all that it reads reads behind the call as before. Conditions: none beyond the given statement's own. -/
import Derived.WalkKit
import Derived.Orders
import Derived.Deep.LoopGhost
import Derived.IntWalk
import Derived.Laws.StructEq
import Derived.Test.YtpacobmjjjillaaGreatRows
import Derived.KernelRfl
import Derived.ArgAppend
import Derived.Deep.AppendSrc
import Derived.Lib.Bytealg
import Derived.Lib.BytesEntry
import Derived.Laws.IdiomStrings
import Derived.Laws.Externs
import Derived.WideKeyArr2
import Derived.ProofKit
import Derived.OpenShut
import Derived.Deep.Slices
import Derived.Laws.Pointers
import Derived.Laws.Cover3
import Derived.LaidEqlPtr
import Derived.LoopN
import Derived.RangeFuncLeaves
import Derived.RangeFuncSeq
import Derived.OrdersIn
import Derived.Defers
import Derived.Laws.MathBits
import Derived.ChangeOld
import Derived.Below
import Derived.Test.YtpacobmjjjillaaGreatBCallsC5
set_option maxRecDepth 100000
set_option maxHeartbeats 8000000
set_option linter.unusedVariables false
set_option linter.unusedSimpArgs false
section
namespace Go.Proofs.YtpacobmjjjillaaGreat
open Go Hw

theorem Tr.rem_u64 {C : Cx} {ops : Array Oper} {rest : List (Nat × Oper)} {sl : List (Nat × Value)} {hp : List Blk} {Q : St → Prop} {c d : Nat} {ty : TypeId} {pos : String} {af : Array Edge} {g : Option (Nat × Bool)} {xT yT : TypeId} {x y : Operand} {b : Int} {p : UInt64} (hg : Am ops sl g = true) (hk : okD c d C.N = true) (hx : Ah sl x = some (u64 p)) (hy : Ah sl y = some (.int .u64 b)) (n : Nat) (hn : b = n) (h0 : 0 < n)
    (k : Tr C ops rest ⟨(d, u64 (UInt64.ofNat (p.toNat % n))) :: sl, hp⟩ Q) : Tr C ops ((c, ⟨some d, .binOp .rem xT x y yT, ty, pos, af, g⟩) :: rest) ⟨sl, hp⟩ Q :=
  .bin hg hk hx hy (fun w => by
    subst hn
    simp [binOp, Op.intDiv, show ¬ n = 0 by omega]
    have := p.toNat_lt
    have h2 : p.toNat % n ≤ p.toNat := Nat.mod_le _ _
    rw [Int.tmod_eq_emod_of_nonneg (Int.natCast_nonneg _), ← Int.natCast_emod]
    omega) k
theorem one_all : ∀ n, n < 256 → ∀ k, k < 9 → 1 ≤ k → k ≤ B1 (UInt8.ofNat n) → (((UInt8.ofNat ((shr8 (UInt8.ofNat n) (8 - k)).toNat % 2)).toNat : Int) = 1 ↔ k < B1 (UInt8.ofNat n)) := by decide +kernel
theorem one_iff (f : UInt8) (k : Nat) (h1 : 1 ≤ k) (h9 : k < 9) (hc : k ≤ B1 f) : ((UInt8.ofNat ((shr8 f (8 - k)).toNat % 2)).toNat : Int) = 1 ↔ k < B1 f := by
  have h := one_all f.toNat f.toNat_lt k h9 h1
  rw [UInt8.ofNat_toNat] at h
  exact h hc
theorem hrem_all : ∀ n, n < 256 → B1 (UInt8.ofNat n) < 9 → UInt64.ofNat ((UInt8.ofNat n).toUInt64.toNat % (A2 1 (8 - B1 (UInt8.ofNat n))).toNat) = headV (UInt8.ofNat n) := by decide +kernel
theorem head_rem (f : UInt8) (h : B1 f < 9) : UInt64.ofNat (f.toUInt64.toNat % (A2 1 (8 - B1 f)).toNat) = headV f := by
  have h2 := hrem_all f.toNat f.toNat_lt
  rw [UInt8.ofNat_toNat] at h2
  exact h2 h
theorem head_nine (f : UInt8) (h : B1 f = 9) : (0 : UInt64) = headV f := UInt64.toNat_inj.1 ((head_of f).2.2.2.1 h).symm
theorem shl_pos {k : Nat} (h : k < 64) : 0 < (A2 1 k).toNat := by
  have h2 : 2 ^ k < 2 ^ 64 := Nat.pow_lt_pow_right dE h
  rw [A2, UInt64.toNat_ofNat', Nat.mod_eq_of_lt (by simpa using h2)]
  simpa using Nat.pow_pos dE
theorem fold_or (v : UInt64) (b : UInt8) : v * 256 + b.toUInt64 = A2 v 8 ||| b.toUInt64 := by
  apply UInt64.toNat_inj.1
  have hb := b.toNat_lt
  have hv := v.toNat_lt
  have e1 : (A2 v 8).toNat = 256 * (v.toNat % 2 ^ 56) := by
    rw [A2, UInt64.toNat_ofNat']; omega
  rw [UInt64.toNat_or, UInt64.toNat_add, UInt64.toNat_mul, e1]
  show (v.toNat * 256 % 2 ^ 64 + b.toNat) % 2 ^ 64 = 2 ^ 8 * (v.toNat % 2 ^ 56) ||| b.toNat
  rw [← Nat.two_pow_add_eq_or_of_lt (i := 8) hb]
  omega
def rd1 (q o N cp at' : Nat) (e : Int) : Rdr := ⟨⟨some ⟨q, o, none⟩, N - at', cp - at'⟩, e⟩
theorem Bc (q o N cp at' : Nat) (e : Int) : (rd1 q o N cp at' e).ok := ⟨trivial⟩
def R1B (n q o N cp at' : Nat) (e : Int) : Blk := ⟨n, (rd1 q o N cp at' e).cells, 108, 2⟩
theorem r1b_move (n q o N cp a k : Nat) (e : Int) : R1B n q o N cp (a + k) e = ⟨n, ({ fB := ⟨some ⟨q, o, none⟩, N - a - k, cp - a - k⟩, fE := e } : Rdr).cells, 108, 2⟩ := by rw [R1B, rd1, Nat.sub_sub, Nat.sub_sub]

theorem r1n_err (n q N cp at' : Nat) (o : Nat) (e : Int) (xs : List UInt8) (hx : xs.length = N) (hat : at' ≤ N) (hN : N ≤ cp) (hbig : N ≤ 90000) (he : ¬ e = 0) : Meets Tryz.prog 77 [ptr n 0] [n] (fun W => BlkOk W (R1B n q (o) N cp (at') (e)) ∧ Cc W q 0 (Aa xs) ∧ q ≠ n) (fun v out => v = u64 0 ∧ out = [R1B n q (o) N cp (at') (e)]) := by
 intro W hW
 have hfn : (rd1 q o N cp at' e).fB.n = N - at' := rfl
 have hfc : (rd1 q o N cp at' e).fB.c = cp - at' := rfl
 have hfe : (rd1 q o N cp at' e).fE = e := rfl
 refine Ba (hp0 := [R1B n q (o) N cp (at') (e)]) Tryz.func77 J 95 Tryz.ntmps77 J (HRep.one hW.1) (.sr (.a J J (show Ah _ _ = some (u64 0) from rfl) (.na (.seq (.sr (.m J J J (.nC J J J (.fld J J J Db J Sz31 dE _ J (.load1 J J J Y31 J Z0 (by exact Rdr.get_fE (by exact Bc _ _ _ _ _ _)) ?_)))))))))
 refine .nei J J J J (show (!decide _) = true from congrArg not (decide_eq_false (he))) (.na (.cond_t J (rfl) (.sr (.a J J (show Ah _ _ = some (u64 0) from rfl) (.na (.ret (Bg (An ?_))))))))
 refine ⟨_, [R1B n q (o) N cp (at') (e)], Ag J J, (by intro b hb; rw [List.mem_singleton.1 hb]; exact Bo), Ce, ?_⟩
 exact ⟨rfl, rfl⟩

theorem r1n_end (n q N cp at' : Nat) (o : Nat) (xs : List UInt8) (hx : xs.length = N) (hat : at' ≤ N) (hN : N ≤ cp) (hbig : N ≤ 90000) (hk : N ≤ at') : Meets Tryz.prog 77 [ptr n 0] [n] (fun W => BlkOk W (R1B n q (o) N cp (at') (0)) ∧ Cc W q 0 (Aa xs) ∧ q ≠ n) (fun v out => v = u64 0 ∧ out = [R1B n q (o) N cp (at') (5)]) := by
 intro W hW
 have hfn : (rd1 q o N cp at' 0).fB.n = N - at' := rfl
 have hfc : (rd1 q o N cp at' 0).fB.c = cp - at' := rfl
 have hfe : (rd1 q o N cp at' 0).fE = 0 := rfl
 refine Ba (hp0 := [R1B n q (o) N cp (at') (0)]) Tryz.func77 J 95 Tryz.ntmps77 J (HRep.one hW.1) (.sr (.a J J (show Ah _ _ = some (u64 0) from rfl) (.na (.seq (.sr (.m J J J (.nC J J J (.fld J J J Db J Sz31 dE _ J (.load1 J J J Y31 J Z0 (by exact Rdr.get_fE (by exact Bc _ _ _ _ _ _)) ?_)))))))))
 refine .nei J J J J (show (!decide _) = false from congrArg not (decide_eq_true (rfl))) (.na (.cond_f J (rfl) (.skip (Ae (.seq (.sr (.m J J J (.nC J J J (.fld J J J Db J Co dE _ J (.load1 J J J Y39 J Z0 (by exact Rdr.get_fB (by exact Bc _ _ _ _ _ _)) ?_))))))))))
 refine .lenSl J J J Y39 (.eqi J J J J (decide_eq_true oM) (.na (.cond_t J (rfl) (.sr (.m J J J (.nC J J J (.fld J J J Db J Sz31 dE _ J (.s1 J J J J J Sz31 Z0 (by rw [Rdr.length (by exact Bc _ _ _ _ _ _)]; decide) (Rdr.set_fE (by exact Bc _ _ _ _ _ _) _) zU ?_))))))))
 refine .nsr (.a J J (show Ah _ _ = some (u64 0) from rfl) (.na (.ret (Bg (An ?_)))))
 refine ⟨_, [R1B n q (o) N cp (at') (5)], Ag J J, (by intro b hb; rw [List.mem_singleton.1 hb]; exact Bo), Ce, ?_⟩
 exact ⟨rfl, rfl⟩

theorem r1n_short (n q N cp at' : Nat) (xs : List UInt8) (hx : xs.length = N) (hat : at' ≤ N) (hN : N ≤ cp) (hbig : N ≤ 90000) (hk : at' < N) (hk2 : N < at' + (B1 (xs.getD at' 0))) : Meets Tryz.prog 77 [ptr n 0] [n] (fun W => BlkOk W (R1B n q (at') N cp (at') (0)) ∧ Cc W q 0 (Aa xs) ∧ q ≠ n) (fun v out => v = u64 0 ∧ out = [R1B n q (at') N cp (at') (5)]) := by
 intro W hW
 have hfn : (rd1 q at' N cp at' 0).fB.n = N - at' := rfl
 have hfc : (rd1 q at' N cp at' 0).fB.c = cp - at' := rfl
 have hfe : (rd1 q at' N cp at' 0).fE = 0 := rfl
 have hcp := head_of (xs.getD at' 0)
 have hc1 : 1 ≤ (B1 (xs.getD at' 0)) := hcp.1
 have hc9 : (B1 (xs.getD at' 0)) ≤ 9 := hcp.2.1
 clear hcp
 refine Ba (hp0 := [R1B n q (at') N cp (at') (0)]) Tryz.func77 J 95 Tryz.ntmps77 J (HRep.one hW.1) (.sr (.a J J (show Ah _ _ = some (u64 0) from rfl) (.na (.seq (.sr (.m J J J (.nC J J J (.fld J J J Db J Sz31 dE _ J (.load1 J J J Y31 J Z0 (by exact Rdr.get_fE (by exact Bc _ _ _ _ _ _)) ?_)))))))))
 refine .nei J J J J (show (!decide _) = false from congrArg not (decide_eq_true (rfl))) (.na (.cond_f J (rfl) (.skip (Ae (.seq (.sr (.m J J J (.nC J J J (.fld J J J Db J Co dE _ J (.load1 J J J Y39 J Z0 (by exact Rdr.get_fB (by exact Bc _ _ _ _ _ _)) ?_))))))))))
 refine .lenSl J J J Y39 (.eqi J J J J (decide_eq_false oM) (.na (.cond_f J (rfl) (.skip (Ae (.sr (.a J J J (.na (.join (ι := Unit) (fun _u => ⟨[(0, ptr n 0), (3, i64 (((B1 (xs.getD at' 0)) : Nat) : Int))], [⟨n, (rd1 q at' N cp at' 0).cells, 108, 2⟩]⟩) (fun _u => True) ?_ ?_)))))))))
 ·
  refine .block (.loop (ι := Nat) (fun k => ⟨[(0, ptr n 0), (3, i64 (k : Int))], [⟨n, (rd1 q at' N cp at' 0).cells, 108, 2⟩]⟩) (fun k => 1 ≤ k ∧ k ≤ (B1 (xs.getD at' 0))) (fun k => 9 - k) (1) ?_ ?_ ?_)
  · exact ⟨Nat.le_refl _, hc1⟩
  · exact Ac (wk1 rfl (wk1 rfl wk0)) (wh1 Z0 wh0) nD
  ·
   rintro k ⟨hk3, hk4⟩
   refine .seq (.sr (.m J J J (two (fun r hr k => Tr.lss J J J J hr k) (fun hs7_10 => ?_) (fun hs7_10 => ?_))))
   ·
    have hs7_1 := of_decide_eq_true hs7_10
    refine .m J J J (.m J J J (.nC J J J (.fld J J J Db J Co dE _ J (.load1 J J J Y39 J Z0 (by exact Rdr.get_fB (by exact Bc _ _ _ _ _ _)) ?_))))
    refine .idxSlO J J J J Y39 Sz5 0 J oM (.loadE J J J Y5 J (by (simp; exact hW.2.2)) ((by have := hW.2.1 at' _ (B0 oM); rwa [Nat.zero_add] at this)) ?_)
    refine .m J J J (.sub_i64 J J J J oM (.conv J J J Y3 Y35 (A4 _) (.shr_u8 J J J J (8 - k) (by rw [show (8 : Int) - (k : Int) = ((8 - k : Nat) : Int) by omega, Ck _ oM]) oM ?_)))
    refine .rem_u8 J J J J 2 J dE (.eqi J J J J J (.pick J J J J J J (.na (.condP J (fun hc2 => ?_) (fun hc2 => ?_)))))
    ·
     refine .skip (Ae (.block (.region (.m J J J (.aI J J J J oM (.a J J J (.nil (Bj (Ae ?_)))))))))
     exact ⟨k + 1, ⟨by omega, (one_iff _ k hk3 oM hk4).1 zA⟩, by omega, Ac (wk1 rfl (wk1 (by rw [Int.natCast_add]; rfl) wk0)) (wh1 Z0 wh0) nD⟩
    ·
     refine .exit (A1 (A1 (B5 (Ae ?_))))
     exact ⟨(), trivial, Ac (wk1 rfl (wk1 (congrArg (fun z => some (i64 z)) (by (have h5 := one_iff (xs.getD at' 0) k hk3 oM hk4; have h6 : ¬ k < (B1 (xs.getD at' 0)) := fun h => hc2 (h5.2 h); omega))) wk0)) (wh1 Z0 wh0) nD⟩
   ·
    have hs7_1 := of_decide_eq_false hs7_10
    refine .m J J J (.skp J J (.skp J J (.skp J J (.skp J J (.skp J J (.skp J J (.skp J J (.skp J J (.skp J J (.skp J J (.skp J J (.skp J J (.pick J J J J J J (.na (.cond_f J J (.exit (A1 (A1 (B5 (Ae ?_))))))))))))))))))))
    exact ⟨(), trivial, Ac (wk1 rfl (wk1 (congrArg (fun z => some (i64 z)) oM) wk0)) (wh1 Z0 wh0) nD⟩
 ·
  intro _u hj
  skip
  refine .seq (.sr (.m J J J (.nC J J J (.fld J J J Db J Co dE _ J (.load1 J J J Y39 J Z0 (by exact Rdr.get_fB (by exact Bc _ _ _ _ _ _)) ?_)))))
  refine .lenSl J J J Y39 (.m J J J (.lss J J J J (decide_eq_true oM) (.na (.cond_t J (rfl) (.sr (.m J J J (.nC J J J (.fld J J J Db J Sz31 dE _ J (.s1 J J J J J Sz31 Z0 (by rw [Rdr.length (by exact Bc _ _ _ _ _ _)]; decide) (Rdr.set_fE (by exact Bc _ _ _ _ _ _) _) zU ?_)))))))))
  refine .nsr (.a J J (show Ah _ _ = some (u64 0) from rfl) (.na (.ret (Bg (An ?_)))))
  refine ⟨_, [R1B n q (at') N cp (at') (5)], Ag J J, (by intro b hb; rw [List.mem_singleton.1 hb]; exact Bo), Ce, ?_⟩
  exact ⟨rfl, rfl⟩

theorem r1n_bad (n q N cp at' : Nat) (xs : List UInt8) (hx : xs.length = N) (hat : at' ≤ N) (hN : N ≤ cp) (hbig : N ≤ 90000) (hk : at' < N) (hk2 : at' + (B1 (xs.getD at' 0)) ≤ N) (hz : ¬ szN (numV xs at').toNat = (B1 (xs.getD at' 0))) : Meets Tryz.prog 77 [ptr n 0] [n] (fun W => BlkOk W (R1B n q (at') N cp (at') (0)) ∧ Cc W q 0 (Aa xs) ∧ q ≠ n) (fun v out => v = u64 0 ∧ out = [R1B n q (at') N cp (at') (4)]) := by
 intro W hW
 have hfn : (rd1 q at' N cp at' 0).fB.n = N - at' := rfl
 have hfc : (rd1 q at' N cp at' 0).fB.c = cp - at' := rfl
 have hfe : (rd1 q at' N cp at' 0).fE = 0 := rfl
 have hcp := head_of (xs.getD at' 0)
 have hc1 : 1 ≤ (B1 (xs.getD at' 0)) := hcp.1
 have hc9 : (B1 (xs.getD at' 0)) ≤ 9 := hcp.2.1
 clear hcp
 refine Ba (hp0 := [R1B n q (at') N cp (at') (0)]) Tryz.func77 J 95 Tryz.ntmps77 J (HRep.one hW.1) (.sr (.a J J (show Ah _ _ = some (u64 0) from rfl) (.na (.seq (.sr (.m J J J (.nC J J J (.fld J J J Db J Sz31 dE _ J (.load1 J J J Y31 J Z0 (by exact Rdr.get_fE (by exact Bc _ _ _ _ _ _)) ?_)))))))))
 refine .nei J J J J (show (!decide _) = false from congrArg not (decide_eq_true (rfl))) (.na (.cond_f J (rfl) (.skip (Ae (.seq (.sr (.m J J J (.nC J J J (.fld J J J Db J Co dE _ J (.load1 J J J Y39 J Z0 (by exact Rdr.get_fB (by exact Bc _ _ _ _ _ _)) ?_))))))))))
 refine .lenSl J J J Y39 (.eqi J J J J (decide_eq_false oM) (.na (.cond_f J (rfl) (.skip (Ae (.sr (.a J J J (.na (.join (ι := Unit) (fun _u => ⟨[(0, ptr n 0), (3, i64 (((B1 (xs.getD at' 0)) : Nat) : Int))], [⟨n, (rd1 q at' N cp at' 0).cells, 108, 2⟩]⟩) (fun _u => True) ?_ ?_)))))))))
 ·
  refine .block (.loop (ι := Nat) (fun k => ⟨[(0, ptr n 0), (3, i64 (k : Int))], [⟨n, (rd1 q at' N cp at' 0).cells, 108, 2⟩]⟩) (fun k => 1 ≤ k ∧ k ≤ (B1 (xs.getD at' 0))) (fun k => 9 - k) (1) ?_ ?_ ?_)
  · exact ⟨Nat.le_refl _, hc1⟩
  · exact Ac (wk1 rfl (wk1 rfl wk0)) (wh1 Z0 wh0) nD
  ·
   rintro k ⟨hk3, hk4⟩
   refine .seq (.sr (.m J J J (two (fun r hr k => Tr.lss J J J J hr k) (fun hs7_10 => ?_) (fun hs7_10 => ?_))))
   ·
    have hs7_1 := of_decide_eq_true hs7_10
    refine .m J J J (.m J J J (.nC J J J (.fld J J J Db J Co dE _ J (.load1 J J J Y39 J Z0 (by exact Rdr.get_fB (by exact Bc _ _ _ _ _ _)) ?_))))
    refine .idxSlO J J J J Y39 Sz5 0 J oM (.loadE J J J Y5 J (by (simp; exact hW.2.2)) ((by have := hW.2.1 at' _ (B0 oM); rwa [Nat.zero_add] at this)) ?_)
    refine .m J J J (.sub_i64 J J J J oM (.conv J J J Y3 Y35 (A4 _) (.shr_u8 J J J J (8 - k) (by rw [show (8 : Int) - (k : Int) = ((8 - k : Nat) : Int) by omega, Ck _ oM]) oM ?_)))
    refine .rem_u8 J J J J 2 J dE (.eqi J J J J J (.pick J J J J J J (.na (.condP J (fun hc2 => ?_) (fun hc2 => ?_)))))
    ·
     refine .skip (Ae (.block (.region (.m J J J (.aI J J J J oM (.a J J J (.nil (Bj (Ae ?_)))))))))
     exact ⟨k + 1, ⟨by omega, (one_iff _ k hk3 oM hk4).1 zA⟩, by omega, Ac (wk1 rfl (wk1 (by rw [Int.natCast_add]; rfl) wk0)) (wh1 Z0 wh0) nD⟩
    ·
     refine .exit (A1 (A1 (B5 (Ae ?_))))
     exact ⟨(), trivial, Ac (wk1 rfl (wk1 (congrArg (fun z => some (i64 z)) (by (have h5 := one_iff (xs.getD at' 0) k hk3 oM hk4; have h6 : ¬ k < (B1 (xs.getD at' 0)) := fun h => hc2 (h5.2 h); omega))) wk0)) (wh1 Z0 wh0) nD⟩
   ·
    have hs7_1 := of_decide_eq_false hs7_10
    refine .m J J J (.skp J J (.skp J J (.skp J J (.skp J J (.skp J J (.skp J J (.skp J J (.skp J J (.skp J J (.skp J J (.skp J J (.skp J J (.pick J J J J J J (.na (.cond_f J J (.exit (A1 (A1 (B5 (Ae ?_))))))))))))))))))))
    exact ⟨(), trivial, Ac (wk1 rfl (wk1 (congrArg (fun z => some (i64 z)) oM) wk0)) (wh1 Z0 wh0) nD⟩
 ·
  intro _u hj
  skip
  refine .seq (.sr (.m J J J (.nC J J J (.fld J J J Db J Co dE _ J (.load1 J J J Y39 J Z0 (by exact Rdr.get_fB (by exact Bc _ _ _ _ _ _)) ?_)))))
  refine .lenSl J J J Y39 (.m J J J (.lss J J J J (decide_eq_false oM) (.na (.cond_f J (rfl) (.skip (Ae (.sr (.a J J (show Ah _ _ = some (u64 0) from rfl) (.na (.join (ι := Unit) (fun _u => ⟨[(0, ptr n 0), (3, i64 (((B1 (xs.getD at' 0)) : Nat) : Int)), (4, u64 (headV (xs.getD at' 0)))], [⟨n, (rd1 q at' N cp at' 0).cells, 108, 2⟩]⟩) (fun _u => True) ?_ ?_))))))))))
  ·
   refine .sr (.m J J J (.lss J J J J J (.na (.condP J (fun hc4 => ?_) (fun hc4 => ?_)))))
   ·
    refine .region (.m J J J (.nC J J J (.fld J J J Db J Co dE _ J (.load1 J J J Y39 J Z0 (by exact Rdr.get_fB (by exact Bc _ _ _ _ _ _)) ?_))))
    refine .idxSlO J J J J Y39 Sz5 0 J oM (.loadE J J J Y5 J (by (simp; exact hW.2.2)) ((by have := hW.2.1 at' _ (B0 oM); rwa [Nat.zero_add] at this)) ?_)
    refine .conv J J J Y5 Y22 (Cu _) (.m J J J (.sub_i64 J J J J oM (.conv J J J Y3 Y35 (A4 _) (.shl_u64 J J (show Ah _ _ = some (u64 1) from rfl) J (8 - (B1 (xs.getD at' 0))) (by rw [show (8 : Int) - (((B1 (xs.getD at' 0)) : Nat) : Int) = ((8 - (B1 (xs.getD at' 0)) : Nat) : Int) by omega, Ck _ oM]) oM ?_))))
    refine Tr.rem_u64 J J J J (A2 1 (8 - (B1 (xs.getD at' 0)))).toNat J (shl_pos oM) (.a J J J (.na ?_))
    exact ⟨(), trivial, Ac (wk1 rfl (wk1 rfl (wk1 (congrArg (fun z => some (u64 z)) (by exact head_rem _ oM)) wk0))) (wh1 Z0 wh0) nD⟩
   ·
    refine .skip (Ae ?_)
    exact ⟨(), trivial, Ac (wk1 rfl (wk1 rfl (wk1 (congrArg (fun z => some (u64 z)) (by exact head_nine _ oM)) wk0))) (wh1 Z0 wh0) nD⟩
  ·
   intro _u hj
   skip
   refine .seq (.sr (.a J J J (.na (.block (.loop (ι := Nat) (fun j => ⟨[(0, ptr n 0), (3, i64 (((B1 (xs.getD at' 0)) : Nat) : Int)), (4, u64 (foldB (headV (xs.getD at' 0)) ((xs.drop (at' + 1)).take j))), (5, i64 ((j : Int) + 1))], [⟨n, (rd1 q at' N cp at' 0).cells, 108, 2⟩]⟩) (fun j => j ≤ (B1 (xs.getD at' 0)) - 1) (fun j => (B1 (xs.getD at' 0)) - 1 - j) (0) ?_ ?_ ?_)))))
   · exact Nat.zero_le _
   · exact Ac (wk1 rfl (wk1 rfl (wk1 rfl (wk1 rfl wk0)))) (wh1 Z0 wh0) nD
   ·
    rintro j hj
    refine .seq (.sr (.m J J J (.m J J J (.lss J J J J J (.na (.condP J (fun hc5 => ?_) (fun hc5 => ?_)))))))
    ·
     have hj2 : j < (B1 (xs.getD at' 0)) - 1 := by omega
     refine .skip (Ae (.seq (.block (.region (.m J J J (.mul_u64 J J J (show Ah _ _ = some (u64 256) from rfl) (.m J J J (.nC J J J (.fld J J J Db J Co dE _ J (.load1 J J J Y39 J Z0 (by exact Rdr.get_fB (by exact Bc _ _ _ _ _ _)) ?_))))))))))
     refine .m J J J (.idxSlO J J J J Y39 Sz5 (j + 1) oM oM (.loadE J J J Y5 J (by (simp; exact hW.2.2)) ((by have h9 := hW.2.1 (at' + (j + 1)) _ (B0 oM); rwa [Nat.zero_add] at h9)) ?_))
     refine .conv J J J Y5 Y22 (Cu _) (.add_u64 J J J J (.a J J J (.nil (Bj (Ae (.region (.m J J J (.aI J J J J oM (.a J J J (.na ?_))))))))))
     exact ⟨j + 1, by omega, by omega, Ac (wk1 rfl (wk1 rfl (wk1 (congrArg (fun z => some (u64 z)) (by rw [foldB_step xs (at' + 1) j _ oM, show at' + 1 + j = at' + (j + 1) by omega, fold_or])) (wk1 (congrArg (fun z => some (i64 z)) oM) wk0)))) (wh1 Z0 wh0) nD⟩
    ·
     have hj2 : j = (B1 (xs.getD at' 0)) - 1 := by omega
     refine .exit (A1 (A1 (B5 (Ae (.seq (.sr ?_))))))
     have hnv : numV xs at' = foldB (headV (xs.getD at' 0)) ((xs.drop (at' + 1)).take j) := by rw [numV, hj2]
     refine .m J J J (.cV J J J J Body139 (r1_room _) tV (.m J J J (.nei J J J J (show (!decide _) = true from congrArg not (decide_eq_false (by rw [← hnv]; omega))) ?_)))
     refine .na (.cond_t J (rfl) (.sr (.m J J J (.nC J J J (.fld J J J Db J Sz31 dE _ J (.s1 J J J J J Sz31 Z0 (by rw [Rdr.length (by exact Bc _ _ _ _ _ _)]; decide) (Rdr.set_fE (by exact Bc _ _ _ _ _ _) _) zU ?_))))))
     refine .nsr (.a J J (show Ah _ _ = some (u64 0) from rfl) (.na (.ret (Bg (An ?_)))))
     refine ⟨_, [R1B n q (at') N cp (at') (4)], Ag J J, (by intro b hb; rw [List.mem_singleton.1 hb]; exact Bo), Ce, ?_⟩
     exact ⟨rfl, rfl⟩

theorem r1n_ok (n q N cp at' : Nat) (xs : List UInt8) (hx : xs.length = N) (hat : at' ≤ N) (hN : N ≤ cp) (hbig : N ≤ 90000) (hk : at' < N) (hk2 : at' + (B1 (xs.getD at' 0)) ≤ N) (hz : szN (numV xs at').toNat = (B1 (xs.getD at' 0))) : Meets Tryz.prog 77 [ptr n 0] [n] (fun W => BlkOk W (R1B n q (at') N cp (at') (0)) ∧ Cc W q 0 (Aa xs) ∧ q ≠ n) (fun v out => v = u64 (numV xs at') ∧ out = [R1B n q (if cp - at' = (B1 (xs.getD at' 0)) then at' else at' + (B1 (xs.getD at' 0)) * 1) N cp (at' + (B1 (xs.getD at' 0))) (0)]) := by
 intro W hW
 have hfn : (rd1 q at' N cp at' 0).fB.n = N - at' := rfl
 have hfc : (rd1 q at' N cp at' 0).fB.c = cp - at' := rfl
 have hfe : (rd1 q at' N cp at' 0).fE = 0 := rfl
 have hcp := head_of (xs.getD at' 0)
 have hc1 : 1 ≤ (B1 (xs.getD at' 0)) := hcp.1
 have hc9 : (B1 (xs.getD at' 0)) ≤ 9 := hcp.2.1
 clear hcp
 refine Ba (hp0 := [R1B n q (at') N cp (at') (0)]) Tryz.func77 J 95 Tryz.ntmps77 J (HRep.one hW.1) (.sr (.a J J (show Ah _ _ = some (u64 0) from rfl) (.na (.seq (.sr (.m J J J (.nC J J J (.fld J J J Db J Sz31 dE _ J (.load1 J J J Y31 J Z0 (by exact Rdr.get_fE (by exact Bc _ _ _ _ _ _)) ?_)))))))))
 refine .nei J J J J (show (!decide _) = false from congrArg not (decide_eq_true (rfl))) (.na (.cond_f J (rfl) (.skip (Ae (.seq (.sr (.m J J J (.nC J J J (.fld J J J Db J Co dE _ J (.load1 J J J Y39 J Z0 (by exact Rdr.get_fB (by exact Bc _ _ _ _ _ _)) ?_))))))))))
 refine .lenSl J J J Y39 (.eqi J J J J (decide_eq_false oM) (.na (.cond_f J (rfl) (.skip (Ae (.sr (.a J J J (.na (.join (ι := Unit) (fun _u => ⟨[(0, ptr n 0), (3, i64 (((B1 (xs.getD at' 0)) : Nat) : Int))], [⟨n, (rd1 q at' N cp at' 0).cells, 108, 2⟩]⟩) (fun _u => True) ?_ ?_)))))))))
 ·
  refine .block (.loop (ι := Nat) (fun k => ⟨[(0, ptr n 0), (3, i64 (k : Int))], [⟨n, (rd1 q at' N cp at' 0).cells, 108, 2⟩]⟩) (fun k => 1 ≤ k ∧ k ≤ (B1 (xs.getD at' 0))) (fun k => 9 - k) (1) ?_ ?_ ?_)
  · exact ⟨Nat.le_refl _, hc1⟩
  · exact Ac (wk1 rfl (wk1 rfl wk0)) (wh1 Z0 wh0) nD
  ·
   rintro k ⟨hk3, hk4⟩
   refine .seq (.sr (.m J J J (two (fun r hr k => Tr.lss J J J J hr k) (fun hs7_10 => ?_) (fun hs7_10 => ?_))))
   ·
    have hs7_1 := of_decide_eq_true hs7_10
    refine .m J J J (.m J J J (.nC J J J (.fld J J J Db J Co dE _ J (.load1 J J J Y39 J Z0 (by exact Rdr.get_fB (by exact Bc _ _ _ _ _ _)) ?_))))
    refine .idxSlO J J J J Y39 Sz5 0 J oM (.loadE J J J Y5 J (by (simp; exact hW.2.2)) ((by have := hW.2.1 at' _ (B0 oM); rwa [Nat.zero_add] at this)) ?_)
    refine .m J J J (.sub_i64 J J J J oM (.conv J J J Y3 Y35 (A4 _) (.shr_u8 J J J J (8 - k) (by rw [show (8 : Int) - (k : Int) = ((8 - k : Nat) : Int) by omega, Ck _ oM]) oM ?_)))
    refine .rem_u8 J J J J 2 J dE (.eqi J J J J J (.pick J J J J J J (.na (.condP J (fun hc2 => ?_) (fun hc2 => ?_)))))
    ·
     refine .skip (Ae (.block (.region (.m J J J (.aI J J J J oM (.a J J J (.nil (Bj (Ae ?_)))))))))
     exact ⟨k + 1, ⟨by omega, (one_iff _ k hk3 oM hk4).1 zA⟩, by omega, Ac (wk1 rfl (wk1 (by rw [Int.natCast_add]; rfl) wk0)) (wh1 Z0 wh0) nD⟩
    ·
     refine .exit (A1 (A1 (B5 (Ae ?_))))
     exact ⟨(), trivial, Ac (wk1 rfl (wk1 (congrArg (fun z => some (i64 z)) (by (have h5 := one_iff (xs.getD at' 0) k hk3 oM hk4; have h6 : ¬ k < (B1 (xs.getD at' 0)) := fun h => hc2 (h5.2 h); omega))) wk0)) (wh1 Z0 wh0) nD⟩
   ·
    have hs7_1 := of_decide_eq_false hs7_10
    refine .m J J J (.skp J J (.skp J J (.skp J J (.skp J J (.skp J J (.skp J J (.skp J J (.skp J J (.skp J J (.skp J J (.skp J J (.skp J J (.pick J J J J J J (.na (.cond_f J J (.exit (A1 (A1 (B5 (Ae ?_))))))))))))))))))))
    exact ⟨(), trivial, Ac (wk1 rfl (wk1 (congrArg (fun z => some (i64 z)) oM) wk0)) (wh1 Z0 wh0) nD⟩
 ·
  intro _u hj
  skip
  refine .seq (.sr (.m J J J (.nC J J J (.fld J J J Db J Co dE _ J (.load1 J J J Y39 J Z0 (by exact Rdr.get_fB (by exact Bc _ _ _ _ _ _)) ?_)))))
  refine .lenSl J J J Y39 (.m J J J (.lss J J J J (decide_eq_false oM) (.na (.cond_f J (rfl) (.skip (Ae (.sr (.a J J (show Ah _ _ = some (u64 0) from rfl) (.na (.join (ι := Unit) (fun _u => ⟨[(0, ptr n 0), (3, i64 (((B1 (xs.getD at' 0)) : Nat) : Int)), (4, u64 (headV (xs.getD at' 0)))], [⟨n, (rd1 q at' N cp at' 0).cells, 108, 2⟩]⟩) (fun _u => True) ?_ ?_))))))))))
  ·
   refine .sr (.m J J J (.lss J J J J J (.na (.condP J (fun hc4 => ?_) (fun hc4 => ?_)))))
   ·
    refine .region (.m J J J (.nC J J J (.fld J J J Db J Co dE _ J (.load1 J J J Y39 J Z0 (by exact Rdr.get_fB (by exact Bc _ _ _ _ _ _)) ?_))))
    refine .idxSlO J J J J Y39 Sz5 0 J oM (.loadE J J J Y5 J (by (simp; exact hW.2.2)) ((by have := hW.2.1 at' _ (B0 oM); rwa [Nat.zero_add] at this)) ?_)
    refine .conv J J J Y5 Y22 (Cu _) (.m J J J (.sub_i64 J J J J oM (.conv J J J Y3 Y35 (A4 _) (.shl_u64 J J (show Ah _ _ = some (u64 1) from rfl) J (8 - (B1 (xs.getD at' 0))) (by rw [show (8 : Int) - (((B1 (xs.getD at' 0)) : Nat) : Int) = ((8 - (B1 (xs.getD at' 0)) : Nat) : Int) by omega, Ck _ oM]) oM ?_))))
    refine Tr.rem_u64 J J J J (A2 1 (8 - (B1 (xs.getD at' 0)))).toNat J (shl_pos oM) (.a J J J (.na ?_))
    exact ⟨(), trivial, Ac (wk1 rfl (wk1 rfl (wk1 (congrArg (fun z => some (u64 z)) (by exact head_rem _ oM)) wk0))) (wh1 Z0 wh0) nD⟩
   ·
    refine .skip (Ae ?_)
    exact ⟨(), trivial, Ac (wk1 rfl (wk1 rfl (wk1 (congrArg (fun z => some (u64 z)) (by exact head_nine _ oM)) wk0))) (wh1 Z0 wh0) nD⟩
  ·
   intro _u hj
   skip
   refine .seq (.sr (.a J J J (.na (.block (.loop (ι := Nat) (fun j => ⟨[(0, ptr n 0), (3, i64 (((B1 (xs.getD at' 0)) : Nat) : Int)), (4, u64 (foldB (headV (xs.getD at' 0)) ((xs.drop (at' + 1)).take j))), (5, i64 ((j : Int) + 1))], [⟨n, (rd1 q at' N cp at' 0).cells, 108, 2⟩]⟩) (fun j => j ≤ (B1 (xs.getD at' 0)) - 1) (fun j => (B1 (xs.getD at' 0)) - 1 - j) (0) ?_ ?_ ?_)))))
   · exact Nat.zero_le _
   · exact Ac (wk1 rfl (wk1 rfl (wk1 rfl (wk1 rfl wk0)))) (wh1 Z0 wh0) nD
   ·
    rintro j hj
    refine .seq (.sr (.m J J J (.m J J J (.lss J J J J J (.na (.condP J (fun hc5 => ?_) (fun hc5 => ?_)))))))
    ·
     have hj2 : j < (B1 (xs.getD at' 0)) - 1 := by omega
     refine .skip (Ae (.seq (.block (.region (.m J J J (.mul_u64 J J J (show Ah _ _ = some (u64 256) from rfl) (.m J J J (.nC J J J (.fld J J J Db J Co dE _ J (.load1 J J J Y39 J Z0 (by exact Rdr.get_fB (by exact Bc _ _ _ _ _ _)) ?_))))))))))
     refine .m J J J (.idxSlO J J J J Y39 Sz5 (j + 1) oM oM (.loadE J J J Y5 J (by (simp; exact hW.2.2)) ((by have h9 := hW.2.1 (at' + (j + 1)) _ (B0 oM); rwa [Nat.zero_add] at h9)) ?_))
     refine .conv J J J Y5 Y22 (Cu _) (.add_u64 J J J J (.a J J J (.nil (Bj (Ae (.region (.m J J J (.aI J J J J oM (.a J J J (.na ?_))))))))))
     exact ⟨j + 1, by omega, by omega, Ac (wk1 rfl (wk1 rfl (wk1 (congrArg (fun z => some (u64 z)) (by rw [foldB_step xs (at' + 1) j _ oM, show at' + 1 + j = at' + (j + 1) by omega, fold_or])) (wk1 (congrArg (fun z => some (i64 z)) oM) wk0)))) (wh1 Z0 wh0) nD⟩
    ·
     have hj2 : j = (B1 (xs.getD at' 0)) - 1 := by omega
     refine .exit (A1 (A1 (B5 (Ae (.seq (.sr ?_))))))
     have hnv : numV xs at' = foldB (headV (xs.getD at' 0)) ((xs.drop (at' + 1)).take j) := by rw [numV, hj2]
     refine .m J J J (.cV J J J J Body139 (r1_room _) tV (.m J J J (.nei J J J J (show (!decide _) = false from congrArg not (decide_eq_true (by rw [← hnv, hz]))) ?_)))
     refine .na (.cond_f J (rfl) (.skip (Ae (.sr (.m J J J (.m J J J (.nC J J J (.fld J J J Db J Co dE _ J (.load1 J J J Y39 J Z0 (by exact Rdr.get_fB (by exact Bc _ _ _ _ _ _)) ?_)))))))))
     refine .m J J J (.sliceLoN (B1 (xs.getD at' 0)) J J J J J oM oM Y39 Sz5 (.nC J J J (.fld J J J Db J Co dE _ J (.s1 J J J J J Co Z0 (by rw [Rdr.length (by exact Bc _ _ _ _ _ _)]; decide) (by exact Rdr.setS_fB (by exact Bc _ _ _ _ _ _) _ _ _) zU ?_))))
     refine .nsr (.m J J J (.a J J J (.na (.ret (An ?_)))))
     refine ⟨_, [R1B n q (if cp - at' = (B1 (xs.getD at' 0)) then at' else at' + (B1 (xs.getD at' 0)) * 1) N cp (at' + (B1 (xs.getD at' 0))) (0)], Ag J J, (by intro b hb; rw [List.mem_singleton.1 hb, r1b_move]; exact Bo), Ce, ?_⟩
     exact ⟨by rw [hnv], rfl⟩

def At1 (cp a o : Nat) : Prop := a < cp → o = a
theorem at1_move {cp a k : Nat} (h : a < cp) : At1 cp (a + k) (if cp - a = k then a else a + k * 1) := fun h2 => by rw [if_neg oM]; omega
theorem r1_NumberE (n q o N cp at' : Nat) (e : Int) (xs : List UInt8) (hx : xs.length = N) (hat : at' ≤ N) (hN : N ≤ cp) (hbig : N ≤ 90000) (ho : At1 cp at' o) (x : UInt64) (a1 : Nat) (e1 : Int) (h : Cb xs at' e = (x, a1, e1)) : Meets Tryz.prog 77 [ptr n 0] [n] (fun W => BlkOk W (R1B n q o N cp at' e) ∧ Cc W q 0 (Aa xs) ∧ q ≠ n)
    (fun v out => ∃ o1, At1 cp a1 o1 ∧ v = u64 x ∧ out = [R1B n q o1 N cp a1 e1]) := by
  unfold Cb at h
  by_cases he : e = 0
  · subst he
    rw [if_neg sP] at h
    by_cases h1 : xs.length ≤ at'
    · rw [if_pos h1] at h
      obtain ⟨rfl, rfl, rfl⟩ : (0 : UInt64) = x ∧ at' = a1 ∧ (5 : Int) = e1 := by simpa using h
      exact (r1n_end n q N cp at' o xs hx hat hN hbig oM).imp (fun w h => h) fun v out ⟨h1, h2⟩ => ⟨o, ho, h1, h2⟩
    · rw [if_neg h1] at h
      obtain rfl : o = at' := ho oM
      by_cases h2 : xs.length < o + B1 (xs.getD o 0)
      · rw [if_pos h2] at h
        obtain ⟨rfl, rfl, rfl⟩ : (0 : UInt64) = x ∧ o = a1 ∧ (5 : Int) = e1 := by simpa using h
        exact (r1n_short n q N cp o xs hx hat hN hbig oM oM).imp (fun w h => h) fun v out ⟨h1, h2⟩ => ⟨o, ho, h1, h2⟩
      · rw [if_neg h2] at h
        by_cases h3 : szN (numV xs o).toNat = B1 (xs.getD o 0)
        · rw [if_pos h3] at h
          obtain ⟨rfl, rfl, rfl⟩ : numV xs o = x ∧ o + B1 (xs.getD o 0) = a1 ∧ (0 : Int) = e1 := by simpa using h
          exact (r1n_ok n q N cp o xs hx hat hN hbig oM oM h3).imp (fun w h => h) fun v out ⟨h1, h2⟩ => ⟨_, at1_move oM, h1, h2⟩
        · rw [if_neg h3] at h
          obtain ⟨rfl, rfl, rfl⟩ : (0 : UInt64) = x ∧ o = a1 ∧ (4 : Int) = e1 := by simpa using h
          exact (r1n_bad n q N cp o xs hx hat hN hbig oM oM h3).imp (fun w h => h) fun v out ⟨h1, h2⟩ => ⟨o, ho, h1, h2⟩
  · rw [if_pos he] at h
    obtain ⟨rfl, rfl, rfl⟩ : (0 : UInt64) = x ∧ at' = a1 ∧ e = e1 := by simpa using h
    exact (r1n_err n q N cp at' o e xs hx hat hN hbig he).imp (fun w h => h) fun v out ⟨h1, h2⟩ => ⟨o, ho, h1, h2⟩

theorem r1t_err (n q N cp at' : Nat) (o : Nat) (e : Int) (m : Nat) (hm0 : 0 < m) (hm : m ≤ 90000) (xs : List UInt8) (hx : xs.length = N) (hat : at' ≤ N) (hN : N ≤ cp) (hbig : N ≤ 90000) (he : ¬ e = 0) : Meets Tryz.prog 79 [ptr n 0, i64 (m : Int)] [n] (fun W => BlkOk W (R1B n q (o) N cp (at') (e)) ∧ Cc W q 0 (Aa xs) ∧ q ≠ n) (fun v out => v = .slice none 0 0 ∧ out = [R1B n q (o) N cp (at') (e)]) := by
 intro W hW
 have hfn : (rd1 q o N cp at' e).fB.n = N - at' := rfl
 have hfc : (rd1 q o N cp at' e).fB.c = cp - at' := rfl
 have hfe : (rd1 q o N cp at' e).fE = e := rfl
 refine Ba (hp0 := [R1B n q (o) N cp (at') (e)]) Tryz.func79 J 48 Tryz.ntmps79 J (HRep.one hW.1) (.sr (.a J J J (.nsr (.m J J J (.max2 J J J J (show Value.int .i64 (if (0 : Int) > (m : Int) then 0 else (m : Int)) = i64 (m : Int) by rw [if_neg oM]) ?_)))))
 refine .a J J J (.na (.seq (.sr (.m J J J (.nC J J J (.fld J J J Db J Sz31 dE _ J (.load1 J J J Y31 J Z0 (by exact Rdr.get_fE (by exact Bc _ _ _ _ _ _)) ?_)))))))
 refine .eqi J J J J (decide_eq_false (he)) (.m J J J (.skp J J (.skp J J (.skp J J (.skp J J (.skp J J (.skp J J (.skp J J (.pick J J J J J J (.na (.cond_f J (rfl) (.skip (Ae (.seq (.sr (.m J J J (.nC J J J (.fld J J J Db J Sz31 dE _ J (.load1 J J J Y31 J Z0 (by exact Rdr.get_fE (by exact Bc _ _ _ _ _ _)) ?_)))))))))))))))))))
 refine .nei J J J J (show (!decide _) = true from congrArg not (decide_eq_false (he))) (.na (.cond_t J (rfl) (.sr (.a J J J (.na (.ret (Bg (An ?_))))))))
 refine ⟨_, [R1B n q (o) N cp (at') (e)], Ag J J, (by intro b hb; rw [List.mem_singleton.1 hb]; exact Bo), Ce, ?_⟩
 exact ⟨rfl, rfl⟩

theorem r1t_more (n q N cp at' : Nat) (o : Nat) (m : Nat) (hm0 : 0 < m) (hm : m ≤ 90000) (xs : List UInt8) (hx : xs.length = N) (hat : at' ≤ N) (hN : N ≤ cp) (hbig : N ≤ 90000) (hk : N < at' + m) : Meets Tryz.prog 79 [ptr n 0, i64 (m : Int)] [n] (fun W => BlkOk W (R1B n q (o) N cp (at') (0)) ∧ Cc W q 0 (Aa xs) ∧ q ≠ n) (fun v out => v = .slice none 0 0 ∧ out = [R1B n q (o) N cp (at') (5)]) := by
 intro W hW
 have hfn : (rd1 q o N cp at' 0).fB.n = N - at' := rfl
 have hfc : (rd1 q o N cp at' 0).fB.c = cp - at' := rfl
 have hfe : (rd1 q o N cp at' 0).fE = 0 := rfl
 refine Ba (hp0 := [R1B n q (o) N cp (at') (0)]) Tryz.func79 J 48 Tryz.ntmps79 J (HRep.one hW.1) (.sr (.a J J J (.nsr (.m J J J (.max2 J J J J (show Value.int .i64 (if (0 : Int) > (m : Int) then 0 else (m : Int)) = i64 (m : Int) by rw [if_neg oM]) ?_)))))
 refine .a J J J (.na (.seq (.sr (.m J J J (.nC J J J (.fld J J J Db J Sz31 dE _ J (.load1 J J J Y31 J Z0 (by exact Rdr.get_fE (by exact Bc _ _ _ _ _ _)) ?_)))))))
 refine .eqi J J J J (decide_eq_true (rfl)) (.m J J J (.m J J J (.nC J J J (.fld J J J Db J Co dE _ J (.load1 J J J Y39 J Z0 (by exact Rdr.get_fB (by exact Bc _ _ _ _ _ _)) ?_)))))
 refine .lenSl J J J Y39 (.m J J J (.lss J J J J (decide_eq_true oM) (.pick J J J J J J (.na (.cond_t J (rfl) (.region (.m J J J (.nC J J J (.fld J J J Db J Sz31 dE _ J (.s1 J J J J J Sz31 Z0 (by rw [Rdr.length (by exact Bc _ _ _ _ _ _)]; decide) (Rdr.set_fE (by exact Bc _ _ _ _ _ _) _) zU ?_))))))))))
 refine .na (.seq (.sr (.m J J J (.nC J J J (.fld J J J Db J Sz31 dE _ J (.load1 J J J Y31 J Z0 (by exact Rdr.get_fE (by exact Bc _ _ _ _ _ _)) ?_))))))
 refine .nei J J J J (show (!decide _) = true from congrArg not (decide_eq_false (by show ¬ ((5 : Int) = 0); decide))) ?_
 refine .na (.cond_t J (rfl) (.sr (.a J J J (.na (.ret (Bg (An ?_)))))))
 refine ⟨_, [R1B n q (o) N cp (at') (5)], Ag J J, (by intro b hb; rw [List.mem_singleton.1 hb]; exact Bo), Ce, ?_⟩
 exact ⟨rfl, rfl⟩

theorem r1t_ok (n q N cp at' : Nat) (m : Nat) (hm0 : 0 < m) (hm : m ≤ 90000) (xs : List UInt8) (hx : xs.length = N) (hat : at' ≤ N) (hN : N ≤ cp) (hbig : N ≤ 90000) (hk : at' + m ≤ N) : Meets Tryz.prog 79 [ptr n 0, i64 (m : Int)] [n] (fun W => BlkOk W (R1B n q (at') N cp (at') (0)) ∧ Cc W q 0 (Aa xs) ∧ q ≠ n) (fun v out => ∃ q1 c1, v = .slice (some ⟨q1, 0, none⟩) m c1 ∧ m ≤ c1 ∧ out = [⟨q1, Aa ((xs.drop at').take m), 5, c1 * 1⟩, R1B n q (if cp - at' = m then at' else at' + m * 1) N cp (at' + m) (0)]) := by
 intro W hW
 have hfn : (rd1 q at' N cp at' 0).fB.n = N - at' := rfl
 have hfc : (rd1 q at' N cp at' 0).fB.c = cp - at' := rfl
 have hfe : (rd1 q at' N cp at' 0).fE = 0 := rfl
 refine Ba (hp0 := [R1B n q (at') N cp (at') (0)]) Tryz.func79 J 48 Tryz.ntmps79 J (HRep.one hW.1) (.sr (.a J J J (.nsr (.m J J J (.max2 J J J J (show Value.int .i64 (if (0 : Int) > (m : Int) then 0 else (m : Int)) = i64 (m : Int) by rw [if_neg oM]) ?_)))))
 refine .a J J J (.na (.seq (.sr (.m J J J (.nC J J J (.fld J J J Db J Sz31 dE _ J (.load1 J J J Y31 J Z0 (by exact Rdr.get_fE (by exact Bc _ _ _ _ _ _)) ?_)))))))
 refine .eqi J J J J (decide_eq_true (rfl)) (.m J J J (.m J J J (.nC J J J (.fld J J J Db J Co dE _ J (.load1 J J J Y39 J Z0 (by exact Rdr.get_fB (by exact Bc _ _ _ _ _ _)) ?_)))))
 refine .lenSl J J J Y39 (.m J J J (.lss J J J J (decide_eq_false oM) (.pick J J J J J J (.na (.cond_f J (rfl) (.skip (Ae (.seq (.sr (.m J J J (.nC J J J (.fld J J J Db J Sz31 dE _ J (.load1 J J J Y31 J Z0 (by exact Rdr.get_fE (by exact Bc _ _ _ _ _ _)) ?_)))))))))))))
 refine .nei J J J J (show (!decide _) = false from congrArg not (decide_eq_true (rfl))) (.na (.cond_f J (rfl) (.skip (Ae (.sr (.m J J J (.nC J J J (.fld J J J Db J Co dE _ J (.load1 J J J Y39 J Z0 (by exact Rdr.get_fB (by exact Bc _ _ _ _ _ _)) ?_)))))))))
 refine .m J J J (.sliceHi m J J J J J oM Y39 Sz5 (.a J J J (.nsr (.m J J J (.m J J J (.nC J J J (.fld J J J Db J Co dE _ J (.load1 J J J Y39 J Z0 (by exact Rdr.get_fB (by exact Bc _ _ _ _ _ _)) ?_))))))))
 refine .m J J J (.sliceLoN m J J J J J oM oM Y39 Sz5 (.nC J J J (.fld J J J Db J Co dE _ J (.s1 J J J J J Co Z0 (by rw [Rdr.length (by exact Bc _ _ _ _ _ _)]; decide) (by exact Rdr.setS_fB (by exact Bc _ _ _ _ _ _) _ _ _) zU ?_))))
 refine .nsr (.mkRow2 (z := u8 0) [] [] rfl J Y39 Sz5 Zr5 J J (by intro v hv; cases hv) dE J ?_)
 intro q45
 refine .m J J J (.appendSl (z := u8 0) (by' := 1) (Aa ((xs.drop at').take m)) J J J J J Y39 Y39 Sz5 Zr5 (by unfold By; kernel_rfl) J (fun w h => SeesP.of (Ci h (by simp; exact hW.2.2) (sees_cut hW.2.1 at' m))) (fun e => by cases e) (Aw _) Az J J oM oM oM (by simp [Aa]; omega) ?_)
 intro q47 c47 hq47
 rw [Nat.zero_add m] at hq47 ⊢
 refine .a J J J (.na (.ret (An ?_)))
 refine ⟨_, [⟨q47, [] ++ Aa ((xs.drop at').take m), 5, c47 * 1⟩, R1B n q (if cp - at' = m then at' else at' + m * 1) N cp (at' + m) (0)], Ag J J, (by intro b hb; rcases List.mem_cons.1 hb with rfl | hb; exact Bo; rw [List.mem_singleton.1 hb, r1b_move]; exact mem1), (fun h => h.sublist (by simp [R1B])), ?_⟩
 exact ⟨q47, c47, rfl, hq47, rfl⟩

theorem r1_TakeE (n q o N cp a : Nat) (e : Int) (m : Nat) (hm0 : 0 < m) (hm : m ≤ 90000) (xs : List UInt8) (hx : xs.length = N) (hat : a ≤ N) (hN : N ≤ cp) (hbig : N ≤ 90000) (ho : At1 cp a o) (l : List UInt8) (a1 : Nat) (e1 : Int) (h : takR xs m a e = (l, a1, e1)) : Meets Tryz.prog 79 [ptr n 0, i64 (m : Int)] [n] (fun W => BlkOk W (R1B n q o N cp a e) ∧ Cc W q 0 (Aa xs) ∧ q ≠ n)
    (fun v out => ∃ s bl o1, At1 cp a1 o1 ∧ v = s.v ∧ Acc s bl (Aa l) 5 l.length 1 ∧ out = bl ++ [R1B n q o1 N cp a1 e1]) := by
  unfold takR at h
  by_cases he : e = 0
  · subst he
    rw [if_neg sP] at h
    by_cases h1 : xs.length < a + m
    · rw [if_pos h1] at h
      obtain ⟨rfl, rfl, rfl⟩ : [] = l ∧ a = a1 ∧ (5 : Int) = e1 := by simpa using h
      exact (r1t_more n q N cp a o m hm0 hm xs hx hat hN hbig oM).imp (fun w h => h) fun v out ⟨h1, h2⟩ => ⟨Sl.nil, [], o, ho, h1, Acc.none, h2⟩
    · rw [if_neg h1] at h
      obtain rfl : o = a := ho oM
      obtain ⟨rfl, rfl, rfl⟩ : (xs.drop o).take m = l ∧ o + m = a1 ∧ (0 : Int) = e1 := by simpa using h
      refine (r1t_ok n q N cp o m hm0 hm xs hx hat hN hbig oM).imp (fun w h => h) fun v out ⟨q1, c1, h1, h2, h3⟩ => ?_
      have hl : ((xs.drop o).take m).length = m := by simp; omega
      refine ⟨⟨some ⟨q1, 0, none⟩, m, c1⟩, [_], _, at1_move oM, h1, ?_, h3⟩
      rw [hl]
      exact Acc.some h2 (by simp [hl]; omega)
  · rw [if_pos he] at h
    obtain ⟨rfl, rfl, rfl⟩ : [] = l ∧ a = a1 ∧ e = e1 := by simpa using h
    exact (r1t_err n q N cp a o e m hm0 hm xs hx hat hN hbig he).imp (fun w h => h) fun v out ⟨h1, h2⟩ => ⟨Sl.nil, [], o, ho, h1, Acc.none, h2⟩
theorem upd_dig {l : List UInt8} (h : l = [] ∨ l.length = 32) : upd (Aa (List.replicate 32 0)) 0 (Aa l) = Aa (l ++ (List.replicate 32 0).drop l.length) := by
  rcases h with rfl | h
  · exact upd_nil _ _
  · rw [h]; simp [upd, Aa, h]
theorem dig_tak {xs : List UInt8} {a : Nat} {e : Int} {d : List UInt8} {a1 : Nat} {e1 : Int} (h : digR xs a e = (d, a1, e1)) : ∃ l, takR xs 32 a e = (l, a1, e1) ∧ d = l ++ (List.replicate 32 0).drop l.length := by
  unfold digR at h
  unfold takR
  by_cases he : e = 0
  · rw [if_neg (by simp [he])] at h ⊢
    by_cases h1 : xs.length < a + 32
    · rw [if_pos h1] at h ⊢
      obtain ⟨rfl, rfl, rfl⟩ : List.replicate 32 0 = d ∧ a = a1 ∧ (5 : Int) = e1 := by simpa using h
      exact ⟨[], rfl, rfl⟩
    · rw [if_neg h1] at h ⊢
      obtain ⟨rfl, rfl, rfl⟩ : (xs.drop a).take 32 = d ∧ a + 32 = a1 ∧ (0 : Int) = e1 := by simpa using h
      refine ⟨_, rfl, ?_⟩
      rw [show ((xs.drop a).take 32).length = 32 by simp; omega]; simp
  · rw [if_pos he] at h ⊢
    obtain ⟨rfl, rfl, rfl⟩ : List.replicate 32 0 = d ∧ a = a1 ∧ e = e1 := by simpa using h
    exact ⟨[], rfl, rfl⟩

theorem r1_DigestT (n q o N cp at' : Nat) (e : Int) (xs : List UInt8) (hx : xs.length = N) (hat : at' ≤ N) (hN : N ≤ cp) (hbig : N ≤ 90000) (ho : At1 cp at' o) (l : List UInt8) (a1 : Nat) (e1 : Int) (h : takR xs 32 at' e = (l, a1, e1)) : Meets Tryz.prog 78 [ptr n 0] [n] (fun W => BlkOk W (R1B n q (o) N cp (at') (e)) ∧ Cc W q 0 (Aa xs) ∧ q ≠ n) (fun v out => ∃ o1, At1 cp a1 o1 ∧ v = agg (Aa (l ++ (List.replicate 32 0).drop l.length)) ∧ out = [R1B n q o1 N cp a1 e1]) := by
 intro W hW
 have hd := takE_le h hx hat
 have hle : l.length ≤ 32 := by rcases hd.2 with h | h <;> simp [h]
 have hle32 : l.length + (32 - l.length) = 32 := by omega
 have hd32 : (l ++ (List.replicate 32 0).drop l.length).length = 32 := by rcases hd.2 with h | h <;> simp [h]
 refine Ba (hp0 := [R1B n q (o) N cp (at') (e)]) Tryz.func78 J 9 Tryz.ntmps78 J (HRep.one hW.1) (.sr (.alloc (cs := (Aa (List.replicate 32 0))) J Zr24 J ?_))
 intro n2 hn2 hf2
 refine .nsr (.alloc (cs := (Aa (List.replicate 32 0))) J Zr24 J ?_)
 intro n3 hn3 hf3
 refine .na (.seq (.draw [(0, 0), (0, 1), (4, 2), (4, 3)] Ar zK (.sliceArr J J J Y24 Sz5 (.m J J J (.callL (L := [R1B n q (o) N cp (at') (e)]) J J J J J Body79 (r1_TakeE n q o N cp at' e 32 dE dE xs hx hat hN hbig ho l a1 e1 h) (Ai rM Au) (Bp J) (fun w h => ⟨Av h Z2, Ci h (by simp; exact hW.2.2) hW.2.1, hW.2.2⟩) ?_)))))
 rintro v6 out6 ⟨s6, bl6, o1, ho1, rfl, hac6, rfl⟩
 simp only [List.append_assoc, List.cons_append, List.nil_append]
 refine .copyP (Aa l) l.length J J J J J Y39 Sz5 (fun w h => hac6.see (Lies.of h (by repeat (exact Bt)))) (fun e => hac6.nil e) (by simp [Aa, hac6.num]) (by rw [hac6.num]; omega) (List.take_of_length_le (by simp [Aa])) (Aw _) mR (by simp [Aa]; omega) (upd_dig hd.2) uU ?_
 refine .nsr (.lA J J J Y24 J Bm mR (by (simp [hle32]; done)) ?_)
 refine .sA J J J J zE Bm (by (simp [hle32]; done)) mR sP uU ?_
 refine .na (.ret (An (Be (out := (R1B n q o1 N cp a1 e1 :: [])) (Ao J J Y24 J Bm mR (by simp [hle32])) (Ai (by repeat (first | exact Az | apply rem_seg)) Au) ?_)))
 exact ⟨o1, ho1, rfl, rfl⟩

theorem r1_DigestE (n q o N cp a : Nat) (e : Int) (xs : List UInt8) (hx : xs.length = N) (hat : a ≤ N) (hN : N ≤ cp) (hbig : N ≤ 90000) (ho : At1 cp a o) (d : List UInt8) (a1 : Nat) (e1 : Int) (h : digR xs a e = (d, a1, e1)) : Meets Tryz.prog 78 [ptr n 0] [n] (fun W => BlkOk W (R1B n q o N cp a e) ∧ Cc W q 0 (Aa xs) ∧ q ≠ n)
    (fun v out => ∃ o1, At1 cp a1 o1 ∧ v = agg (Aa d) ∧ out = [R1B n q o1 N cp a1 e1]) := by
  obtain ⟨l, h1, rfl⟩ := dig_tak h
  exact r1_DigestT n q o N cp a e xs hx hat hN hbig ho l a1 e1 h1

theorem r1_End (n q o N cp at' : Nat) (e : Int) (hat : at' ≤ N) (hbig : N ≤ 90000) : Meets Tryz.prog 80 [ptr n 0] [] (fun W => BlkOk W (R1B n q (o) N cp (at') (e))) (fun v out => v = i64 (endR N at' e) ∧ out = []) := by
 intro W hW
 have hfn : (rd1 q o N cp at' e).fB.n = N - at' := rfl
 have hfc : (rd1 q o N cp at' e).fB.c = cp - at' := rfl
 have hfe : (rd1 q o N cp at' e).fE = e := rfl
 refine Ab Tryz.func80 J 18 Tryz.ntmps80 J (.sr (.a J J J (.na (.seq (.sr (.m J J J (.nC J J J (.fld J J J Db J Sz31 dE _ J (.loadE J J J Y31 J sP (BlkOk.cell0 (o := 1) hW J) (.nei J J J J J (.na (.condNP J (fun hc0 => ?_) (fun hc0 => ?_)))))))))))))
 ·
  have hq0 : ¬ e = 0 := by omega
  refine .sr (.m J J J (.nC J J J (.fld J J J Db J Sz31 dE _ J (.loadE J J J Y31 J sP (BlkOk.cell0 (o := 1) hW J) (.a J J J (.na (.ret (Bg (An ?_)))))))))
  refine ⟨_, [], Ag J J, sP, sP, ?_, rfl⟩
  (rw [hfe, endR, if_neg hq0]; done)
 ·
  have hq0 : e = 0 := by omega
  refine .skip (Ae (.seq (.sr (.m J J J (.nC J J J (.fld J J J Db J Co dE _ J (.loadE J J J Y39 J sP (BlkOk.cell0 (o := 0) hW J) (.lenSl (n := N - at') J J J Y39 (.gtr J J J J J (.na (.condP J (fun hc1 => ?_) (fun hc1 => ?_))))))))))))
  ·
   refine .sr (.a J J J (.na (.ret (Bg (An ?_)))))
   refine ⟨_, [], Ag J J, sP, sP, ?_, rfl⟩
   (rw [endR, if_pos hq0, if_pos (show (0 : Int) < (N : Int) - (at' : Int) by omega)]; done)
  ·
   refine .skip (Ae (.sr (.a J J J (.na (.ret (An ?_))))))
   refine ⟨_, [], Ag J J, sP, sP, ?_, rfl⟩
   (rw [endR, if_pos hq0, if_neg (show ¬ (0 : Int) < (N : Int) - (at' : Int) by omega)]; done)

def Rd1New (N : Nat) (xs : List UInt8) (v : Value) (out : List Blk) : Prop := ∃ n q cp, v = ptr n 0 ∧ N ≤ cp ∧ out = [R1B n q 0 N cp 0 0, ⟨q, Aa xs, 5, cp * 1⟩]

theorem r1_Read (p : Option Addr) (n c : Nat) (xs : List UInt8) (hl : xs.length = n) (hp : p = none → n = 0) (hn : n ≤ 90000) : Meets Tryz.prog 76 [.slice p n c] [] (fun W => SeesP W p (Aa xs)) (Rd1New n xs) := by
 intro W hW
 refine Ab Tryz.func76 J 8 Tryz.ntmps76 J (.sr (.a J J J (.nsr (.mkRow2 (z := u8 0) [] [] rfl J Y39 Sz5 Zr5 J J (by intro v hv; cases hv) dE J ?_))))
 intro q3
 refine .m J J J (.appendSl (z := u8 0) (by' := 1) (Aa xs) J J J J J Y39 Y39 Sz5 Zr5 (by unfold By; kernel_rfl) J (fun w h => Ax h J hW) hp (by simp [Aa, isCell, u8]) Az J J oM oM oM (by simp [Aa, hl]) ?_)
 intro q5 c5 hq5
 rw [Nat.zero_add n] at hq5 ⊢
 refine .build (cs := (⟨⟨some ⟨q5, 0, none⟩, n, c5⟩, 0⟩ : Rdr).cells) J J J (fun w => by kernel_rfl) ?_
 refine .boxA J J ?_
 intro n7 hn7 hf7
 refine .a J J J (.na (.ret (An ?_)))
 refine ⟨_, [R1B n7 q5 0 n c5 0 0, ⟨q5, Aa xs, 5, c5 * 1⟩], Ag J J, (by intro b hb; rcases List.mem_cons.1 hb with rfl | hb; exact Bo; rw [List.mem_singleton.1 hb]; exact mem1), (fun h => h.sublist (by simp [R1B, blk])), ⟨n7, q5, c5, rfl, hq5, rfl⟩⟩

end Go.Proofs.YtpacobmjjjillaaGreat
end

section
namespace Go.Proofs.YtpacobmjjjillaaGreat
open Go Hw

theorem drop_cons {xs l : List UInt8} {a : Nat} {f : UInt8} (h : xs.drop a = f :: l) : a < xs.length ∧ xs.getD a 0 = f ∧ xs.drop (a + 1) = l := by
  have hlt : a < xs.length := by
    rcases Nat.lt_or_ge a xs.length with h1 | h1
    · exact h1
    · rw [List.drop_eq_nil_of_le h1] at h; cases h
  rw [List.drop_eq_getElem_cons hlt] at h
  injection h with h1 h2
  exact ⟨hlt, by rw [List.getD_eq_getElem?_getD, List.getElem?_eq_getElem hlt]; exact h1, h2⟩
theorem drop_split {xs p t : List UInt8} {a : Nat} (h : xs.drop a = p ++ t) (hp : 0 < p.length) : a + p.length ≤ xs.length ∧ (xs.drop a).take p.length = p ∧ xs.drop (a + p.length) = t := by
  have h1 := congrArg List.length h
  rw [List.length_drop, List.length_append] at h1
  refine ⟨by omega, by rw [h]; simp, ?_⟩
  rw [← List.drop_drop, h]; simp
theorem dig_fwd {xs d t : List UInt8} {a : Nat} (h : xs.drop a = d ++ t) (hd : d.length = 32) : digR xs a 0 = (d, a + 32, 0) ∧ xs.drop (a + 32) = t := by
  obtain ⟨h1, h2, h3⟩ := drop_split h oM
  rw [hd] at h1 h2 h3
  unfold digR
  rw [if_neg sP, if_neg oM, h2]
  exact ⟨rfl, h3⟩
theorem num_fwd {xs t : List UInt8} {a : Nat} {x : UInt64} (h : xs.drop a = numB x ++ t) : Cb xs a 0 = (x, a + szN x.toNat, 0) ∧ xs.drop (a + szN x.toNat) = t := by
  have hp := Cp x.toNat
  have hl := Br x
  obtain ⟨h1, h2, h3⟩ := drop_split h oM
  rw [hl] at h1 h2 h3
  rw [numB, List.cons_append] at h
  obtain ⟨g1, g2, g3⟩ := drop_cons h
  obtain ⟨n1, n2⟩ := num_back x
  have hv : numV xs a = x := by
    rw [numV, g2, g3, n1, List.take_left' (tailB_length x _)]
    exact n2
  unfold Cb
  rw [if_neg sP, if_neg oM, hv, g2, n1, if_neg oM, if_pos rfl]
  exact ⟨rfl, h3⟩
theorem blk_fwd {xs ds t : List UInt8} {a : Nat} (hn : ds.length ≤ 1000000) (h : xs.drop a = numB (UInt64.ofNat ds.length) ++ ds ++ t) : blkR xs a 0 = (some ds, a + szN ds.length + ds.length, 0) ∧ xs.drop (a + szN ds.length + ds.length) = t := by
  rw [List.append_assoc] at h
  have hx : (UInt64.ofNat ds.length).toNat = ds.length := ofNat_nat hn
  obtain ⟨h1, h2⟩ := num_fwd h
  rw [hx] at h1 h2
  unfold blkR
  rw [h1]
  simp only [hx]
  rw [if_neg sP]
  have hl := congrArg List.length h2
  rw [List.length_drop, List.length_append] at hl
  have hz := Cp ds.length
  have hle : a + szN ds.length ≤ xs.length := by
    have := congrArg List.length h
    rw [List.length_drop, List.length_append, Br, hx] at this
    omega
  rw [if_neg oM, h2]
  refine ⟨by simp, ?_⟩
  rw [← List.drop_drop, h2]; simp
theorem tak_fwd {xs d t : List UInt8} {a m : Nat} (h : xs.drop a = d ++ t) (hd : d.length = m) (hm : 0 < m) : takR xs m a 0 = (d, a + m, 0) ∧ xs.drop (a + m) = t := by
  obtain ⟨h1, h2, h3⟩ := drop_split h oM
  rw [hd] at h1 h2 h3
  unfold takR
  rw [if_neg sP, if_neg oM, h2]
  exact ⟨rfl, h3⟩
theorem digs_fwd {xs t : List UInt8} {ls : List (List UInt8)} {a : Nat} (hls : ∀ l ∈ ls, l.length = 32) (h : xs.drop a = ls.flatten ++ t) : ∀ j, j ≤ ls.length → Ch xs j a 0 = (ls.take j, a + 32 * j, 0) ∧ xs.drop (a + 32 * j) = (ls.drop j).flatten ++ t
  | 0, _ => ⟨rfl, by simpa using h⟩
  | j + 1, hj => by
    obtain ⟨h1, h2⟩ := digs_fwd hls h j oM
    rw [List.drop_eq_getElem_cons (l := ls) (i := j) oM, List.flatten_cons, List.append_assoc] at h2
    obtain ⟨h3, h4⟩ := dig_fwd h2 (hls _ (List.getElem_mem oM))
    refine ⟨?_, by rw [show a + 32 * (j + 1) = a + 32 * j + 32 by omega]; exact h4⟩
    rw [Ch, h1]
    simp only [h3]
    rw [List.take_succ_eq_append_getElem oM]
    rfl
theorem readP_bytes {D : DB} (h : D.ok) (hc : D.check = 0) (t : List UInt8) : readP (D.bytes ++ t) = (D, D.bytes.length, 0) := by
  have hs := D.head_small hc
  have hl1 : (UInt64.ofNat D.ls.length).toNat = D.ls.length := ofNat_nat oM
  obtain ⟨xs, hxs⟩ : ∃ xs, D.bytes ++ t = xs := ⟨_, rfl⟩
  rw [hxs]
  have h0 : xs.drop 0 = D.w ++ (numB D.seq ++ (D.prev ++ (numB (UInt64.ofNat D.ls.length) ++ (D.ls.flatten ++ (numB (UInt64.ofNat D.ds.length) ++ D.ds ++ (D.sg ++ t)))))) := by
    rw [List.drop_zero, ← hxs]
    simp only [DB.bytes, DB.body, List.append_assoc]
  obtain ⟨r1, h1⟩ := dig_fwd h0 h.w
  obtain ⟨r2, h2⟩ := num_fwd h1
  obtain ⟨r3, h3⟩ := dig_fwd h2 h.prev
  obtain ⟨r4, h4⟩ := num_fwd h3
  rw [hl1] at r4 h4
  obtain ⟨r5, h5⟩ := digs_fwd h.ls h4 D.ls.length (Nat.le_refl _)
  rw [List.take_length] at r5
  rw [List.drop_length, List.flatten_nil, List.nil_append] at h5
  obtain ⟨r6, h6⟩ := blk_fwd oM h5
  obtain ⟨r7, h7⟩ := tak_fwd h6 h.sg dE
  have hk : min (UInt64.ofNat D.ls.length).toNat 17 = D.ls.length := by omega
  have hlen : D.bytes.length = 0 + 32 + szN D.seq.toNat + 32 + szN D.ls.length + 32 * D.ls.length + szN D.ds.length + D.ds.length + 64 := by
    have hfl := Cl h.ls (Nat.le_refl D.ls.length)
    rw [List.take_length] at hfl
    simp only [DB.bytes, DB.body, List.length_append, Br, h.w, h.prev, h.sg, hfl, hl1, ofNat_nat (n := D.ds.length) oM]
    omega
  simp only [readP, r1, r2, r3, r4, hk, r5, r6, r7, Option.getD_some]
  rw [h.sg, hlen, List.drop_of_length_le sP, List.append_nil]
theorem readD_bytes {D : DB} (h : D.ok) (hc : D.check = 0) : readD D.bytes = (D, 0) := by
  have hr := readP_bytes h hc []
  rw [List.append_nil] at hr
  rw [readD_ok (by rw [hr]; exact ⟨by simp [endR], hc⟩), hr]
theorem bytes_inj {D E : DB} (hD : D.ok) (hE : E.ok) (cD : D.check = 0) (cE : E.check = 0) : D.bytes = E.bytes ↔ D = E := by
  constructor
  · intro h
    have h1 := readD_bytes hD cD
    rw [h, readD_bytes hE cE] at h1
    exact (congrArg Prod.fst h1).symm
  · intro h; rw [h]
end Go.Proofs.YtpacobmjjjillaaGreat
end

section
namespace Go.Proofs.YtpacobmjjjillaaGreat
open Go Hw

open Ed

theorem seesP_tk {w : World} {p : Option Addr} {l : List UInt8} {n : Nat} (h : SeesP w p (Aa l)) : SeesP w p (Aa (l.take n)) := fun j v hj => by
  rw [Aa, List.map_take, List.getElem?_take] at hj
  split at hj
  · exact h j v hj
  · cases hj

theorem r2_StartShort (k s0 i0 : List UInt64) (G : List UInt8) (hk : Hid (kW = k)) (hk80 : k.length = 80) (hs0 : Hid (xorUp 8 = s0)) (hs8 : s0.length = 8) (hG : Hid (shaTag = G)) (hGl : G.length = 11) (hi0 : Hid (allW k s0 G = i0)) (hi8 : i0.length = 8)  : Meets Tryz.prog 142 [] [] (fun _ => True) (fun v out => v = agg (Af i0) ∧ out = []) := by
 intro W hW
 refine Ab Tryz.func142 J 18 Tryz.ntmps142 J (.sr (.alloc (cs := (Af (List.replicate 8 0))) J Zr135 J ?_))
 intro n0 hn0 hf0
 refine .nsr (.cV J J J J Body208 (r2_Start startW ⟨rfl⟩) tV (.alloc (cs := (Af (List.replicate 8 0))) J Zr135 J ?_))
 intro n1 hn1 hf1
 refine .sA J J J J zB Sz135 (by (simp [startW_length]; done)) Z0 sP zU ?_
 refine .na (.seq (.sr (.a J J J (.na (.block (.loop (ι := Nat) (fun j => ⟨[(0, ptr n0 0), (1, ptr n1 0), (2, i64 (j : Int))], [⟨n1, Af (xorUp j), 135, 8⟩, ⟨n0, Af (List.replicate 8 0), 135, 8⟩]⟩) (fun j => j ≤ 8) (fun j => 8 - j) (0) ?_ ?_ ?_))))))
 · omega
 · exact Bh (wk1 rfl (wk1 rfl (wk1 rfl wk0))) (Ai rM (Ai rM Au))
 ·
  rintro j hi
  have hlj := xorUp_length j
  refine .seq (.sr (.m J J J (.lss J J J J J (.na (.condP J (fun hc0 => ?_) (fun hc0 => ?_))))))
  ·
   refine .skip (Ae (.seq (.block (.region (.m J J J (.m J J J (.i1 J J J J Dc Ap _ J oM (.load1 J J J Y22 J Z0 (by exact A3 oM) ?_))))))))
   refine .xor_u64 J J J (show Ah _ _ = some (u64 11936128518282651045) from rfl) (.i1 J J J J Dc Ap _ J oM (.s1 J J J J J Ap Z0 (by (simp [xorUp_length]; omega)) (by exact A9 _ _ _) zU ?_))
   refine .nil (Bj (Ae (.region (.m J J J (.aI J J J J oM (.a J J J (.na ?_)))))))
   exact ⟨j + 1, by omega, by omega, Bh (wk1 rfl (wk1 rfl (wk1 rfl wk0))) (Ai rM (Ai rM Au))⟩
  ·
   obtain rfl : j = 8 := by omega
   rw [hs0.out]
   clear hlj
   refine .exit (A1 (A1 (B5 (Ae (.sr (.lA J J J Dc J Sz135 Z0 (by (simp [hs8]; done)) ?_))))))
   refine .mkRow (z := u8 0) [u8 83, u8 72, u8 65, u8 45, u8 53, u8 49, u8 50, u8 47, u8 50, u8 53, u8 54] (Aa shaTag) J J J Y39 Sz5 Zr5 J J (by intro v hv; simp only [List.mem_cons, List.not_mem_nil, or_false] at hv; rcases hv with rfl | rfl | rfl | rfl | rfl | rfl | rfl | rfl | rfl | rfl | rfl <;> rfl) dE J ?_
   intro q15
   rw [hG.out]
   refine .constB J J J J Y39 Y5 Z0 ?_
   refine .cV J J J J Body141 (r2_run s0 hs8 k hk hk80 ⟨some ⟨q15, 0, none⟩, 11, 11⟩ G (by simp [hGl]) (fun e => by cases e) oM) (fun w h => SeesP.of (Ak h Z0)) ?_
   rw [hi0.out]
   refine .sA J J J J zB Sz135 (by (simp [hi8]; done)) Z2 sP (by exact upd2) ?_
   refine .na (.ret (An ?_))
   refine ⟨_, [], Ao J J Dc J Sz135 Z2 (by simp [hi8]), sP, sP, ?_, rfl⟩
   rfl

theorem r2_Sum (k s0 i0 : List UInt64) (G : List UInt8) (hk : Hid (kW = k)) (hk80 : k.length = 80) (hs0 : Hid (xorUp 8 = s0)) (hs8 : s0.length = 8) (hG : Hid (shaTag = G)) (hGl : G.length = 11) (hi0 : Hid (allW k s0 G = i0)) (hi8 : i0.length = 8) (p : Option Addr) (n c : Nat) (ss : List Sl) (ls : List (List UInt8)) (hss : ss.length = n) (hls : ls.length = n) (hsl : ∀ j, j < n → (ss.getD j Sl.nil).n = (ls.getD j []).length ∧ ((ss.getD j Sl.nil).p = none → (ss.getD j Sl.nil).n = 0)) (F : List UInt8) (hF : ls.flatten = F) (htot : F.length ≤ 90000) (hn : n ≤ 1000000) (r : List UInt64) (hr : Hid (allW k i0 F = r)) (s : List UInt8) (hs : Hid (sumUp r 64 = s))  : Meets Tryz.prog 81 [.slice p n c] [] (fun W => SeesP W p (ss.map Sl.v) ∧ ∀ j, j < n → SeesP W (ss.getD j Sl.nil).p (Aa (ls.getD j []))) (fun v out => v = agg (Aa (s.take 32)) ∧ out = []) := by
 intro W hW
 have hr8 : r.length = 8 := by rw [← hr.out, allW_length]; exact hi8
 have hs64 : s.length = 64 := by rw [← hs.out]; exact Cz r 64
 have hs32 : (s.take 32).length = 32 := by rw [List.length_take, hs64]; rfl
 have hrun := fun (x : Sl) (h1 : x.n = F.length) (h2 : x.p = none → x.n = 0) => r2_run i0 hi8 k hk hk80 x F h1 h2 htot
 rw [hr.out] at hrun
 refine Ab Tryz.func81 J 14 Tryz.ntmps81 J (.sr (.alloc (cs := (Aa (List.replicate 32 0))) J Zr24 J ?_))
 intro n2 hn2 hf2
 refine .nsr (.cV J J J J Body142 (r2_StartShort k s0 i0 G hk hk80 hs0 hs8 hG hGl hi0 hi8) tV (.m J J J (.call4 J J J J J Body143 (r2_join p n c ss ls hss hls hsl F hF htot hn) (fun w h => ⟨Ax h J hW.1, fun j hj => Ax h J (hW.2 j hj)⟩) ?_)))
 rintro v7 out7 ⟨s7, rfl, hac7⟩
 refine .cV J J J J Body141 (hrun s7 hac7.num hac7.nil) (fun w h => hac7.see (Lies.of h (by repeat (exact Bt)))) ?_
 refine .cV J J J J Body140 (r2_bytes r hr8 s hs) tV (.alloc (cs := (Aa (List.replicate 64 0))) J Zr26 J ?_)
 intro n3 hn3 hf3
 refine .sA J J J J zE Sz26 (by (simp [hs64]; done)) Z0 sP zU ?_
 refine .nsr (.alloc (cs := (Aa (List.replicate 32 0))) J Zr24 J ?_)
 intro n4 hn4 hf4
 refine .na (.seq (.draw [(0, 0), (0, 1), (4, 2)] Ar zK (.sliceArr J J J Y24 Sz5 (.sliceArrHi 32 J J J J J dE dE Y26 Sz5 (.copyP (Aa (s.take 32)) 32 J J J J J Y39 Sz5 (fun w h => seesP_tk (SeesP.of (Ak h Z1))) (fun e => by cases e) (by simp [Aa, hs64]) J (List.take_of_length_le (by simp [Aa, hs64])) (Aw _) Z0 (by simp [Aa]) (show upd (Aa (List.replicate 32 0)) 0 (Aa (s.take 32)) = Aa (s.take 32) by simp [upd, Aa, hs64]) zU ?_)))))
 refine .nsr (.lA J J J Y24 J Bm Z0 (by (simp [hs64]; done)) ?_)
 refine .sA J J J J zE Bm (by (simp [hs64]; done)) mR sP uU ?_
 refine .na (.ret (An ?_))
 refine ⟨_, [], Ao J J Y24 J Bm mR (by simp [hs64]), sP, sP, ?_, rfl⟩
 rfl

end Go.Proofs.YtpacobmjjjillaaGreat
end

section
namespace Go.Proofs.YtpacobmjjjillaaGreat
open Go Hw

open Ed

theorem dcheck_2 {D : DB} (h : ¬ D.check = 0) : D.check = 2 := by
  unfold DB.check at h ⊢
  by_cases h1 : D.head = true
  · rw [if_pos h1]
  · rw [if_neg h1] at h ⊢
    by_cases h2 : linksBad D.prev D.ls = true
    · rw [if_pos h2]
    · rw [if_neg h2] at h; exact absurd rfl h

theorem r15_cmp (a b : List UInt8) (ha : a.length = 32) (hb : b.length = 32) : Meets Tryz.prog 57 [agg (Aa a), agg (Aa b)] [] (fun _ => True) (fun v out => v = i64 (cmpB a b) ∧ out = []) := by
 intro W hW
 refine Ab Tryz.func57 J 24 Tryz.ntmps57 J (.sr (.boxA J J ?_))
 intro n2 hn2 hf2
 refine .boxA J J ?_
 intro n3 hn3 hf3
 refine .a J J J (.na (.seq (.sr (.a J J J (.na (.block (.loop (ι := Nat) (fun k => ⟨[(2, ptr n2 0), (3, ptr n3 0), (5, i64 (k : Int))], [⟨n3, Aa b, 24, (Aa b).length⟩, ⟨n2, Aa a, 24, (Aa a).length⟩]⟩) (fun k => k ≤ 32 ∧ ∀ j, j < k → a.getD j 0 = b.getD j 0) (fun k => 32 - k) (0) ?_ ?_ ?_)))))))
 · exact ⟨Nat.zero_le _, fun j hj => absurd hj (Nat.not_lt_zero _)⟩
 · exact Ac (wk1 rfl (wk1 rfl (wk1 rfl wk0))) (wh1 Z0 (wh1 Z1 wh0)) nD
 ·
  rintro k ⟨hk, hsm⟩
  refine .seq (.sr (.m J J J (.lss J J J J J (.na (.condP J (fun hc0 => ?_) (fun hc0 => ?_))))))
  ·
   have hk2 : k < 32 := by omega
   refine .skip (Ae (.seq (.block (.seq (.seq (.draw [(0, 0), (0, 1), (1, 2), (0, 3), (0, 4), (1, 5), (0, 6)] Ar zK (.m J J J (.i1 J J J J Y24 Sz5 k J oM (.load1 J J J Y5 J Z1 zG ?_)))))))))
   refine .m J J J (.i1 J J J J Y24 Sz5 k J oM (.load1 J J J Y5 J Z0 zG ?_))
   refine .lss J J J J J (.na (.condP J (fun hc1 => ?_) (fun hc1 => ?_)))
   ·
    have hek : a.getD k 0 ≠ b.getD k 0 := fun e => by rw [e] at hc1; omega
    refine .sr (.a J J J (.na (.ret (Bg (bl_r (Bg (Bg (bl_r (Bg (An ?_))))))))))
    refine ⟨_, [], Ag J J, sP, sP, ?_, rfl⟩
    (rw [cmpB_at k a b oM hsm oM hek]; unfold cmpI; rw [if_pos oM]; done)
   ·
    refine .skip (Ae (.seq (.draw [(0, 0), (0, 1), (1, 2), (0, 3), (0, 4), (1, 5), (0, 6)] Ar zK (.m J J J (.i1 J J J J Y24 Sz5 k J oM (.load1 J J J Y5 J Z1 zG ?_))))))
    refine .m J J J (.i1 J J J J Y24 Sz5 k J oM (.load1 J J J Y5 J Z0 zG ?_))
    refine .gtr J J J J J (.na (.condP J (fun hc2 => ?_) (fun hc2 => ?_)))
    ·
     have hek : a.getD k 0 ≠ b.getD k 0 := fun e => by rw [e] at hc2; omega
     refine .sr (.a J J J (.na (.ret (bl_r (Bg (Bg (bl_r (Bg (An ?_)))))))))
     refine ⟨_, [], Ag J J, sP, sP, ?_, rfl⟩
     (rw [cmpB_at k a b oM hsm oM hek]; unfold cmpI; rw [if_neg oM, if_pos oM]; done)
    ·
     have hek : a.getD k 0 = b.getD k 0 := UInt8.toNat_inj.1 oM
     refine .skip (Bj (Ae (.region (.m J J J (.aI J J J J oM (.a J J J (.na ?_)))))))
     exact ⟨k + 1, ⟨by omega, fun j hj => by rcases Nat.lt_or_ge j k with h1 | h1; exact hsm j h1; exact (show j = k by omega) ▸ hek⟩, by omega, Ac (wk1 rfl (wk1 rfl (wk1 (by rw [Int.natCast_add]; rfl) wk0))) (wh1 Z0 (wh1 Z1 wh0)) nD⟩
  ·
   have hk2 : k = 32 := by omega
   refine .exit (A1 (A1 (B5 (Ae (.sr (.a J J J (.na (.ret (An ?_)))))))))
   refine ⟨_, [], Ag J J, sP, sP, ?_, rfl⟩
   (rw [cmpB_all ha hb (fun j hj => hsm j oM)]; done)

theorem r15_check (B : Block) (hB : B.ok) (ls : List (List UInt8)) : Meets Tryz.prog 51 [agg B.cells] [] (fun W => RowsAt W B.fLinks 32 ls) (fun v out => v = i64 (bcheck B ls) ∧ out = []) := by
 intro W hW
 have hcx : B.fLinks.n ≤ maxLen := hW.max
 simp only [maxLen] at hcx
 have hcn := hW.cap
 refine Ab Tryz.func51 J 74 Tryz.ntmps51 J (.sr (.boxA J J ?_))
 intro n1 hn1 hf1
 refine .a J J J (.nsr (.build (cs := Aa (List.replicate 32 0)) J J J (fun w => by kernel_rfl) ?_))
 refine .alloc (cs := (Aa (List.replicate 32 0))) J Zr24 J ?_
 intro n3 hn3 hf3
 refine .sA J J J J zE Bm sP Z0 sP zU ?_
 refine .na (.seq (.seq (.draw [(0, 0), (1, 1), (0, 2), (0, 3), (0, 4), (1, 5), (1, 6), (0, 7), (0, 8), (1, 9), (0, 10), (0, 11), (0, 12), (0, 13), (0, 14), (1, 15), (0, 16), (0, 17), (0, 18), (0, 19), (0, 20), (1, 21), (0, 22), (0, 23), (0, 24)] Ar zK (.fld J J J Y53 J Ap dE _ J (.load1 J J J Y22 J Z1 (by exact Block.get_fSeq zA) ?_)))))
 refine two (fun r hr k => Tr.gtr J J J J hr k) (fun hs2_20 => ?_) (fun hs2_20 => ?_)
 ·
  have hs2_2 := of_decide_eq_true hs2_20
  refine .m J J J (.skp J J (.skp J J (.skp J J (.skp J J (.skp J J (.skp J J (.skp J J (.skp J J (.pick J J J J J J (.m J J J (.skp J J (.skp J J (.skp J J (.skp J J (.pick J J J J J J (.m J J J (.skp J J (.skp J J (.skp J J (.skp J J (.pick J J J J J J (.na (.cond_t J J (.sr (.a J J J (.na (.ret (Bg (An ?_)))))))))))))))))))))))))))))
  refine ⟨_, [], Ag J J, sP, sP, ?_, rfl⟩
  exact congrArg i64 (bcheck_head (by unfold bhead bheadB; simp_all)).symm
 ·
  have hs2_2 := of_decide_eq_false hs2_20
  refine .m J J J (.fld J J J Y53 J Bm dE _ J (.lN (Aa _) J J J Y24 J Bm Z1 (Block.row_fPrev zA) (Block.rl_fPrev zA) ?_))
  refine .lA J J J Y24 J Bm Z0 sP ?_
  refine .eql_bytes J J J J Tryz.eqGuardType24 Y24 Y5 Sz5 (by (simp [hB.l_fPrev]; done)) sP J ?_
  refine .fld J J J Y53 J Ap dE _ J (.load1 J J J Y22 J Z1 (by exact Block.get_fSeq zA) ?_)
  refine .eqi J J J J J (two (fun r hr k => Tr.neb J J J J Tryz.underlying4 hr k) (fun hs2_110 => ?_) (fun hs2_110 => ?_))
  ·
   have hs2_11 := nd_t hs2_110
   refine .pick J J J J J J (.m J J J (.skp J J (.skp J J (.skp J J (.skp J J (.pick J J J J J J (.m J J J (.skp J J (.skp J J (.skp J J (.skp J J (.pick J J J J J J (.na (.cond_t J J (.sr (.a J J J (.na (.ret (Bg (An ?_))))))))))))))))))))
   refine ⟨_, [], Ag J J, sP, sP, ?_, rfl⟩
   exact congrArg i64 (bcheck_head (by unfold bhead bheadB; simp_all)).symm
  ·
   have hs2_11 := nd_f hs2_110
   refine .pick J J J J J J (.m J J J (.fld J J J Y53 J Sz51 dE _ J (.load1 J J J Y51 J Z1 (by exact Block.get_fLinks zA) ?_)))
   refine .lenSl J J J Y51 (two (fun r hr k => Tr.gtr J J J J hr k) (fun hs2_170 => ?_) (fun hs2_170 => ?_))
   ·
    have hs2_17 := of_decide_eq_true hs2_170
    refine .pick J J J J J J (.m J J J (.skp J J (.skp J J (.skp J J (.skp J J (.pick J J J J J J (.na (.cond_t J J (.sr (.a J J J (.na (.ret (Bg (An ?_))))))))))))))
    refine ⟨_, [], Ag J J, sP, sP, ?_, rfl⟩
    exact congrArg i64 (bcheck_head (by unfold bhead bheadB; simp_all)).symm
   ·
    have hs2_17 := of_decide_eq_false hs2_170
    refine .pick J J J J J J (.m J J J (.fld J J J Y53 J Co dE _ J (.load1 J J J Y39 J Z1 (by exact Block.get_fData zA) ?_)))
    refine .lenSl J J J Y39 (.gtr J J J J J (.pick J J J J J J (.na (.condP J (fun hc0 => ?_) (fun hc0 => ?_)))))
    ·
     refine .sr (.a J J J (.na (.ret (Bg (An ?_)))))
     refine ⟨_, [], Ag J J, sP, sP, ?_, rfl⟩
     exact congrArg i64 (bcheck_head (by unfold bhead bheadB; simp_all)).symm
    ·
     have hnb : ¬ bhead B := by unfold bhead bheadB; simp_all
     refine .skip (Ae (.seq (.sr (.a J J J (.na (.block (.loop (ι := Nat) (fun k => ⟨[(1, ptr n1 0), (3, ptr n3 0), (4, i64 (k : Int))], [⟨n3, Aa (List.replicate 32 0), 24, 32⟩, ⟨n1, B.cells, 53, B.cells.length⟩]⟩) (fun k => k ≤ B.fLinks.n ∧ ∀ j, j < k → badAt B.fPrev ls j = false) (fun k => B.fLinks.n - k) (0) ?_ ?_ ?_)))))))
     · exact ⟨by omega, fun j hj => by omega⟩
     · exact Ac (wk1 rfl (wk1 rfl (wk1 rfl wk0))) (wh1 Z0 (wh1 Z1 wh0)) nD
     ·
      rintro k ⟨hk, hg⟩
      refine .seq (.sr (.m J J J (.fld J J J Y53 J Sz51 dE _ J (.load1 J J J Y51 J Z1 (by exact Block.get_fLinks zA) ?_))))
      refine .lenSl J J J Y51 (.lss J J J J J (.na (.condP J (fun hc1 => ?_) (fun hc1 => ?_))))
      ·
       have hk2 : k < B.fLinks.n := by omega
       have hll := hW.len
       obtain ⟨b, o, hbp, hbs⟩ := hW.see.at (by rw [Bu hW.row]; omega)
       have hr0 : (ls.getD k []).length = 32 := C5 hW.row oM
       have hr1 : (ls.getD (k - 1) []).length = 32 := C5 hW.row oM
       refine .skip (Ae (.join (ι := Unit) (fun _u => ⟨[(1, ptr n1 0), (3, ptr n3 0), (4, i64 (k : Int))], [⟨n3, Aa (List.replicate 32 0), 24, 32⟩, ⟨n1, B.cells, 53, B.cells.length⟩]⟩) (fun _u => badAt B.fPrev ls k = false) ?_ ?_))
       ·
        refine .block (.seq (.draw [(0, 0), (1, 1), (0, 2), (0, 3), (1, 4), (1, 5), (0, 6), (0, 7), (0, 8), (1, 9), (0, 10), (0, 11), (1, 12), (0, 13), (1, 14), (0, 15), (0, 16), (0, 17), (0, 18), (0, 19), (0, 20), (0, 21), (1, 22), (0, 23), (0, 24), (0, 25), (1, 26), (0, 27), (1, 28), (0, 29), (0, 30), (1, 31), (3, 32), (0, 33), (0, 34), (0, 35)] Ar zK (.fld J J J Y53 J Sz51 dE _ J (.load1 J J J Y51 J Z1 (by exact Block.get_fLinks zA) ?_))))
        refine .m J J J (.idxSlP 32 J J J hbp J Y51 Bm k J oM (.loadEN (Aa (ls.getD (k) [])) J J J Y24 J Bm sP (by rw [Aa, List.length_map]; exact C5 hW.row (by rw [hW.len]; omega)) (sees_row hW.row hbs (by rw [hW.len]; omega)) ?_))
        refine .lA J J J Y24 J Bm Z0 sP ?_
        refine two (fun r hr k => Tr.eql_bytes J J J J Tryz.eqGuardType24 Y24 Y5 Sz5 zA sP hr k) (fun hs7_60 => ?_) (fun hs7_60 => ?_)
        ·
         have hs7_6 := of_decide_eq_true hs7_60
         refine .m J J J (.skp J J (.skp J J (.skp J J (.skp J J (.skp J J (.skp J J (.skp J J (.skp J J (.pick J J J J J J (.m J J J (.skp J J (.skp J J (.skp J J (.skp J J (.skp J J (.skp J J (.skp J J (.skp J J (.skp J J (.skp J J (.skp J J (.skp J J (.skp J J (.skp J J (.skp J J (.skp J J (.skp J J (.pick J J J J J J (.na (.cond_t J J (.sr (.a J J J (.na (.ret (bl_r (Bg (Bg (bl_r (Bg (An ?_))))))))))))))))))))))))))))))))))))))))
         refine ⟨_, [], Ag J J, sP, sP, ?_, rfl⟩
         exact congrArg i64 (bcheck_bad hnb (linksBad_at (k := k) oM (by unfold badAt; simp_all))).symm
        ·
         have hs7_6 := of_decide_eq_false hs7_60
         refine .m J J J (.fld J J J Y53 J Sz51 dE _ J (.load1 J J J Y51 J Z1 (by exact Block.get_fLinks zA) ?_))
         refine .m J J J (.idxSlP 32 J J J hbp J Y51 Bm k J oM (.loadEN (Aa (ls.getD (k) [])) J J J Y24 J Bm sP (by rw [Aa, List.length_map]; exact C5 hW.row (by rw [hW.len]; omega)) (sees_row hW.row hbs (by rw [hW.len]; omega)) ?_))
         refine .fld J J J Y53 J Bm dE _ J (.lN (Aa _) J J J Y24 J Bm Z1 (Block.row_fPrev zA) (Block.rl_fPrev zA) ?_)
         refine two (fun r hr k => Tr.eql_bytes J J J J Tryz.eqGuardType24 Y24 Y5 Sz5 zA (by (simp [hB.l_fPrev]; done)) hr k) (fun hs7_150 => ?_) (fun hs7_150 => ?_)
         ·
          have hs7_15 := of_decide_eq_true hs7_150
          refine .pick J J J J J J (.m J J J (.skp J J (.skp J J (.skp J J (.skp J J (.skp J J (.skp J J (.skp J J (.skp J J (.skp J J (.skp J J (.skp J J (.skp J J (.skp J J (.skp J J (.skp J J (.skp J J (.skp J J (.pick J J J J J J (.na (.cond_t J J (.sr (.a J J J (.na (.ret (bl_r (Bg (Bg (bl_r (Bg (An ?_)))))))))))))))))))))))))))))))
          refine ⟨_, [], Ag J J, sP, sP, ?_, rfl⟩
          exact congrArg i64 (bcheck_bad hnb (linksBad_at (k := k) oM (by unfold badAt; simp_all))).symm
         ·
          have hs7_15 := of_decide_eq_false hs7_150
          refine .pick J J J J J J (.m J J J (.m J J J (two (fun r hr k => Tr.gtr J J J J hr k) (fun hs7_190 => ?_) (fun hs7_190 => ?_))))
          ·
           have hs7_19 := of_decide_eq_true hs7_190
           refine .m J J J (.fld J J J Y53 J Sz51 dE _ J (.load1 J J J Y51 J Z1 (by exact Block.get_fLinks zA) ?_))
           refine .m J J J (.sub_i64 J J J J oM (.idxSlP 32 J J J hbp J Y51 Bm (k - 1) oM oM (.loadEN (Aa (ls.getD (k - 1) [])) J J J Y24 J Bm sP (by rw [Aa, List.length_map]; exact C5 hW.row (by rw [hW.len]; omega)) (sees_row hW.row hbs (by rw [hW.len]; omega)) ?_)))
           refine .fld J J J Y53 J Sz51 dE _ J (.load1 J J J Y51 J Z1 (by exact Block.get_fLinks zA) ?_)
           refine .m J J J (.idxSlP 32 J J J hbp J Y51 Bm k J oM (.loadEN (Aa (ls.getD (k) [])) J J J Y24 J Bm sP (by rw [Aa, List.length_map]; exact C5 hW.row (by rw [hW.len]; omega)) (sees_row hW.row hbs (by rw [hW.len]; omega)) ?_))
           refine .cV J J J J Body57 (r15_cmp _ _ hr1 hr0) tV (.geq J J J J J (.pick J J J J J J (.pick J J J J J J (.na (.condP J (fun hc2 => ?_) (fun hc2 => ?_))))))
           ·
            refine .sr (.a J J J (.na (.ret (bl_r (Bg (Bg (bl_r (Bg (An ?_)))))))))
            refine ⟨_, [], Ag J J, sP, sP, ?_, rfl⟩
            exact congrArg i64 (bcheck_bad hnb (linksBad_at (k := k) oM (by unfold badAt; simp_all))).symm
           ·
            refine .skip (Bj (Ae ?_))
            refine ⟨(), by unfold badAt; simp_all, Ac (wk1 J (wk1 J (wk1 J wk0))) (wh1 Z0 (wh1 Z1 wh0)) nD⟩
          ·
           have hs7_19 := of_decide_eq_false hs7_190
           refine .m J J J (.skp J J (.skp J J (.skp J J (.skp J J (.skp J J (.skp J J (.skp J J (.skp J J (.skp J J (.skp J J (.skp J J (.skp J J (.skp J J (.pick J J J J J J (.pick J J J J J J (.na (.cond_f J J (.skip (Bj (Ae ?_))))))))))))))))))))
           refine ⟨(), by unfold badAt; simp_all, Ac (wk1 J (wk1 J (wk1 J wk0))) (wh1 Z0 (wh1 Z1 wh0)) nD⟩
       ·
        intro _u hj
        have hgk := hj
        refine .region (.m J J J (.aI J J J J oM (.a J J J (.na ?_))))
        exact ⟨k + 1, ⟨by omega, fun j hj => by rcases Nat.lt_succ_iff_lt_or_eq.1 hj with h | rfl; exact hg j h; exact hgk⟩, by omega, Ac (wk1 rfl (wk1 rfl (wk1 (by rw [Int.natCast_add]; rfl) wk0))) (wh1 Z0 (wh1 Z1 wh0)) nD⟩
      ·
       obtain rfl : k = B.fLinks.n := by omega
       refine .exit (A1 (A1 (B5 (Ae (.sr (.a J J J (.na (.ret (An ?_)))))))))
       refine ⟨_, [], Ag J J, sP, sP, ?_, rfl⟩
       exact congrArg i64 (bcheck_ok hnb (linksBad_not (by rw [hW.len]; exact hg))).symm

theorem r15_Check (B : Block) (D : DB) : Meets Tryz.prog 51 [agg B.cells] [] (fun W => BlockIs W B D) (fun v out => v = i64 D.check ∧ out = []) :=
  fun W hW => by rw [← hW.check]; exact r15_check B hW.ok D.ls W hW.ls

theorem r1_Block (p r : Option Addr) (n c m d : Nat) (l ys : List UInt8) (hl : l.length = n) (hy : ys.length = m) (hp : p = none → n = 0) (hr : r = none → m = 0) (hn : n ≤ 40000) (hm : m ≤ 40000) : Meets Tryz.prog 102 [.slice p n c, .slice r m d] [] (fun W => SeesP W p (Aa l) ∧ SeesP W r (Aa ys)) (fun v out => FreshRow v out (Aa (l ++ numB (UInt64.ofNat m) ++ ys)) 5 (n + szN m + m) 1) := by
 intro W hW
 have hz := Cp m
 have hw : Bn (m : Int) = UInt64.ofNat m := by simp only [Bn]; congr 1; omega
 have hmn : (UInt64.ofNat m).toNat = m := by rw [UInt64.toNat_ofNat', Nat.mod_eq_of_lt oM]
 refine Ab Tryz.func102 J 12 Tryz.ntmps102 J (.sr (.a J J J (.nsr (.m J J J (.m J J J (.lenSl J J J Y39 (.conv J J J Y3 Y22 (A4 _) ?_)))))))
 rw [hw]
 refine .call4 J J J J J Body101 (r1_Number p n c l (UInt64.ofNat m) hl hp oM) (fun w h => Ax h J hW.1) ?_
 rintro v9 out9 ⟨q9, c9, rfl, hc9, rfl⟩
 rw [hmn] at hc9 ⊢
 refine .m J J J (.appendSl (z := u8 0) (by' := 1) (Aa ys) J J J J J Y39 Y39 Sz5 Zr5 (by unfold By; kernel_rfl) J (fun w h => Ax h J hW.2) hr (Aw _) rM J (by rw [Aa, List.length_map, List.length_append, Br, hl, hmn, Nat.mul_one]) oM oM oM (by rw [Aa, List.length_map, hy, Nat.mul_one]) ?_)
 intro q11 c11 hq11
 rw [← bytesV_app]
 refine .a J J J (.na (.ret (An (Be (out := (⟨q11, Aa (l ++ numB (UInt64.ofNat m) ++ ys), 5, c11 * 1⟩ :: [])) (Ag J J) (Ai rM Au) ?_))))
 exact ⟨q11, c11, rfl, hq11, rfl⟩

theorem btag_length : btag.length = 5 := rfl

theorem r15_Text (B : Block) (D : DB) (hB : B.ok) (h1 : D.ls.length ≤ 40) (h2 : D.ds.length ≤ 2000) : Meets Tryz.prog 52 [agg B.cells] [] (fun W => BlockIs W B D) (fun v out => FreshRow v out (Aa (btxt D)) 5 (btxt D).length 1) := by
 intro W hW
 have hbs0 := DB.body_small hW.dok h1 h2
 have e1 := hW.ls.len
 have e2 := hW.ds.len
 have hz1 := Cp B.fSeq.toNat
 have hz2 := Cp (UInt64.ofNat B.fLinks.n).toNat
 have hz3 := Cp B.fData.n
 have hw2 := word_nat (n := B.fLinks.n) oM
 have hrow := hW.ls.row
 refine Ab Tryz.func52 J 41 Tryz.ntmps52 J (.sr (.boxA J J ?_))
 intro n1 hn1 hf1
 refine .a J J J (.nsr (.mkRow (z := u8 0) [u8 98, u8 108, u8 111, u8 99, u8 107] (Aa btag) J J J Y39 Sz5 Zr5 J J (by intro v hv; simp only [List.mem_cons, List.not_mem_nil, or_false] at hv; rcases hv with rfl | rfl | rfl | rfl | rfl <;> rfl) dE J ?_))
 intro q5
 refine .constB J J J J Y39 Y5 Z0 ?_
 refine .fld J J J Y53 J Sz25 dE _ J (.sliceArr J J J Y25 Sz5 (.appendSl (z := u8 0) (by' := 1) (Aa B.fWriter) J J J J J Y39 Y39 Sz5 Zr5 (by unfold By; kernel_rfl) J (fun w h => SeesP.of (sees_part h Z1 (Block.see_fWriter hB))) (fun e => by cases e) (Aw _) rM J J dE dE dE (by simp [hB.l_fWriter]) ?_))
 intro q9 c9 hq9
 rw [← bytesV_app]
 refine .a J J J (.na (.seq (.draw [(0, 0), (0, 1), (1, 2), (0, 4), (0, 5), (4, 3), (4, 6), (0, 7)] Ar zK (.m J J J (.fld J J J Y53 J Ap dE _ J (.load1 J J J Y22 J Z1 (by exact Block.get_fSeq zA) ?_))))))
 refine .fld J J J Y53 J Bm dE _ J (.sliceArr J J J Y24 Sz5 (.call4 J J J J J Body101 (r1_Number (some ⟨q9, 0, none⟩) (5 + 32) c9 (btag ++ B.fWriter) (B.fSeq) (by simp only [List.length_append, Br, hB.l_fWriter, hB.l_fPrev, btag_length]) (fun e => by cases e) oM) (fun w h => SeesP.of (Ak (cs := Aa (btag ++ B.fWriter)) h Z0)) ?_))
 rintro v13 out13 ⟨q13, c13, rfl, hc13, rfl⟩
 refine .appendSl (z := u8 0) (by' := 1) (Aa B.fPrev) J J J J J Y39 Y39 Sz5 Zr5 (by unfold By; kernel_rfl) J (fun w h => SeesP.of (sees_part h Z2 (Block.see_fPrev hB))) (fun e => by cases e) (Aw _) rM J (by rw [Aa, List.length_map, Nat.mul_one]; simp only [List.length_append, Br, hB.l_fWriter, hB.l_fPrev, btag_length]) oM oM oM (by simp [hB.l_fPrev]) ?_
 intro q16 c16 hq16
 rw [← bytesV_app]
 refine .a J J J (.nsr (.m J J J (.fld J J J Y53 J Sz51 dE _ J (.load1 J J J Y51 J Z2 (by exact Block.get_fLinks zA) ?_))))
 refine .lenSl J J J Y51 (.conv J J J Y3 Y22 (A4 _) ?_)
 rw [hw2]
 refine .call4 J J J J J Body101 (r1_Number (some ⟨q16, 0, none⟩) (5 + 32 + szN B.fSeq.toNat + 32) c16 (btag ++ B.fWriter ++ numB B.fSeq ++ B.fPrev) (UInt64.ofNat B.fLinks.n) (by simp only [List.length_append, Br, hB.l_fWriter, hB.l_fPrev, btag_length]) (fun e => by cases e) oM) (fun w h => SeesP.of (Ak (cs := Aa (btag ++ B.fWriter ++ numB B.fSeq ++ B.fPrev)) h Z0)) ?_
 rintro v22 out22 ⟨q22, c22, rfl, hc22, rfl⟩
 refine .a J J J (.na (.seq (.sr (.a J J J (.na (.block (.loop (ι := Nat × Nat × Nat) (fun p => ⟨[(1, ptr n1 0), (3, .slice (some ⟨p.2.1, 0, none⟩) (5 + 32 + szN B.fSeq.toNat + 32 + szN (UInt64.ofNat B.fLinks.n).toNat + 32 * p.1) p.2.2), (4, i64 (p.1 : Int))], [⟨p.2.1, Aa (btag ++ B.fWriter ++ numB B.fSeq ++ B.fPrev ++ numB (UInt64.ofNat B.fLinks.n) ++ (D.ls.take p.1).flatten), 5, p.2.2 * 1⟩, ⟨n1, B.cells, 53, B.cells.length⟩]⟩) (fun p => p.1 ≤ B.fLinks.n ∧ 5 + 32 + szN B.fSeq.toNat + 32 + szN (UInt64.ofNat B.fLinks.n).toNat + 32 * p.1 ≤ p.2.2) (fun p => B.fLinks.n - p.1) ((0, q22, c22)) ?_ ?_ ?_)))))))
 · exact ⟨Nat.zero_le _, by simp only []; omega⟩
 · exact Bh (wk1 rfl (wk1 rfl (wk1 rfl wk0))) (pm_consE rM (by simp only [List.take_zero, List.flatten_nil, List.append_nil]) rfl (Ai rM Au))
 ·
  rintro p ⟨hp1, hp2⟩
  refine .seq (.sr (.m J J J (.fld J J J Y53 J Sz51 dE _ J (.load1 J J J Y51 J Z1 (by exact Block.get_fLinks zA) ?_))))
  refine .lenSl J J J Y51 (.lss J J J J J (.na (.condP J (fun hc0 => ?_) (fun hc0 => ?_))))
  ·
   have hp3 : p.1 < B.fLinks.n := by omega
   obtain ⟨b, o, hbp, hbs⟩ := hW.ls.see.at (by rw [Bu hrow]; omega)
   have hrk : (D.ls.getD p.1 []).length = 32 := C5 hrow oM
   refine .skip (Ae (.seq (.block (.region (.m J J J (.fld J J J Y53 J Sz51 dE _ J (.load1 J J J Y51 J Z1 (by exact Block.get_fLinks zA) ?_)))))))
   refine .m J J J (.idxSlP 32 J J J hbp J Y51 Bm p.1 J oM (.sliceArr J J J Y24 Sz5 (.appendSl (z := u8 0) (by' := 1) (Aa (D.ls.getD p.1 [])) J J J J J Y39 Y39 Sz5 Zr5 (by unfold By; kernel_rfl) J (fun w h => SeesP.of (Ci h sP (sees_row hrow hbs oM))) (fun e => by cases e) (Aw _) rM J (by simp only [Aa, List.length_map, List.length_append, Br, hB.l_fWriter, hB.l_fPrev, btag_length, Cl hrow (show p.1 ≤ D.ls.length by omega)]; omega) oM oM oM (by rw [Aa, List.length_map, hrk]) ?_)))
   intro q36 c36 hq36
   rw [← bytesV_app]
   refine .a J J J (.nil (Bj (Ae (.region (.m J J J (.aI J J J J oM (.a J J J (.na ?_))))))))
   exact ⟨(p.1 + 1, q36, c36), ⟨by simp only []; omega, by simp only []; omega⟩, by simp only []; omega, Bh (wk1 rfl (wk1 (by rw [show 5 + 32 + szN B.fSeq.toNat + 32 + szN (UInt64.ofNat B.fLinks.n).toNat + 32 * (p.1 + 1) = 5 + 32 + szN B.fSeq.toNat + 32 + szN (UInt64.ofNat B.fLinks.n).toNat + 32 * p.1 + 32 by omega]; rfl) (wk1 (by rw [Int.natCast_add]; rfl) wk0))) (pm_consE rM (by rw [flatten_take_step oM, ← List.append_assoc]) rfl (Ai rM Au))⟩
  ·
   have hp3 : p.1 = B.fLinks.n := by omega
   refine .exit (A1 (A1 (B5 (Ae (.sr (.m J J J (.fld J J J Y53 J Co dE _ J (.load1 J J J Y39 J Z1 (by exact Block.get_fData zA) ?_))))))))
   refine .call4 J J J J J Body102 (r1_Block (some ⟨p.2.1, 0, none⟩) B.fData.p (5 + 32 + szN B.fSeq.toNat + 32 + szN (UInt64.ofNat B.fLinks.n).toNat + 32 * p.1) p.2.2 B.fData.n B.fData.c (btag ++ B.fWriter ++ numB B.fSeq ++ B.fPrev ++ numB (UInt64.ofNat B.fLinks.n) ++ (D.ls.take p.1).flatten) D.ds (by simp only [List.length_append, Br, hB.l_fWriter, hB.l_fPrev, btag_length, Cl hrow (show p.1 ≤ D.ls.length by omega)]; omega) e2 (fun e => by cases e) (fun e => by have h3 := hW.ds.nil e; have h4 := hW.ds.cap; omega) oM oM) (fun w h => ⟨SeesP.of (Ak h Z0), Ax h J hW.ds.see⟩) ?_
   rintro v40 out40 ⟨q40, c40, rfl, hc40, rfl⟩
   refine .a J J J (.na (.ret (An (Be (out := (⟨q40, Aa (btag ++ B.fWriter ++ numB B.fSeq ++ B.fPrev ++ numB (UInt64.ofNat B.fLinks.n) ++ (D.ls.take p.1).flatten ++ numB (UInt64.ofNat B.fData.n) ++ D.ds), 5, c40 * 1⟩ :: [])) (Ag J J) (Ai rM Au) ?_))))
   have hfin : btag ++ B.fWriter ++ numB B.fSeq ++ B.fPrev ++ numB (UInt64.ofNat B.fLinks.n) ++ (D.ls.take p.1).flatten ++ numB (UInt64.ofNat B.fData.n) ++ D.ds = btxt D := by rw [btxt, DB.body, ← hW.w, ← hW.seq, ← hW.prev, e1, e2, List.take_of_length_le oM]; simp only [List.append_assoc]
   have hlen : 5 + 32 + szN B.fSeq.toNat + 32 + szN (UInt64.ofNat B.fLinks.n).toNat + 32 * p.1 + szN B.fData.n + B.fData.n = (btxt D).length := by rw [← hfin]; simp only [List.length_append, Br, hB.l_fWriter, hB.l_fPrev, btag_length, Cl hrow (show p.1 ≤ D.ls.length by omega), e2, ofNat_nat (show B.fData.n ≤ 1000000 by omega)]; omega
   rw [hfin]
   exact ⟨q40, c40, by rw [hlen], by omega, rfl⟩

theorem r15_Good (B : Block) (D : DB) (hB : B.ok) : Meets Tryz.prog 41 [agg B.cells] [] (fun W => BlockIs W B D) (fun v out => v = i64 (dgood D) ∧ out = []) := by
 intro W hW
 refine Ab Tryz.func41 J 14 Tryz.ntmps41 J (.sr (.boxA J J ?_))
 intro n1 hn1 hf1
 refine .a J J J (.na (.seq (.sr (.lA J J J Y53 J Bw Z0 (Block.length zA) ?_))))
 refine .cV J J J J Body51 (r15_Check B D) (fun w h => hW.ext h J) (.nei J J J J J (.na (.condNP J (fun hc0 => ?_) (fun hc0 => ?_))))
 ·
  have hq0 : ¬ D.check = 0 := by omega
  refine .sr (.a J J J (.na (.ret (Bg (An ?_)))))
  refine ⟨_, [], Ag J J, sP, sP, ?_, rfl⟩
  (unfold dgood; rw [if_neg hq0, dcheck_2 hq0]; done)
 ·
  have hq0 : D.check = 0 := by omega
  obtain ⟨h1, h2⟩ := D.head_small hq0
  have hvn : (btxt D).length ≤ 4005 := DB.body_small hW.dok oM oM
  refine .skip (Ae (.seq (.seq (.draw [(0, 0), (1, 1), (1, 2), (0, 4), (1, 5), (3, 3), (3, 6), (0, 7)] Ar zK (.fld J J J Y53 J Sz25 dE _ J (.lN (Aa _) J J J Y25 J Sz25 Z0 (Block.row_fWriter zA) (Block.rl_fWriter zA) ?_))))))
  refine .lA J J J Y53 J Bw Z0 (Block.length zA) ?_
  refine .fld J J J Y53 J Sz27 dE _ J (.lN (Aa _) J J J Y27 J Sz27 Z0 (Block.row_fSig zA) (Block.rl_fSig zA) ?_)
  refine .call J J J J Body52 (r15_Text B D hB oM oM) (FreshRow.loose _ _ _ _) (fun w h => hW.ext h J) ?_
  rintro v9 out9 ⟨q9, c9, rfl, hc9, rfl⟩
  refine .cV J J J J Body61 (r6_Good B.fWriter hB.l_fWriter ⟨some ⟨q9, 0, none⟩, _, c9⟩ (btxt D) oM B.fSig hB.l_fSig) (fun w h => own_btxt (SeesP.of (Ak h Z0)) hc9 hvn) ?_
  refine .not J J J (.na (.cond J (fun hc1 => ?_) (fun hc1 => ?_)))
  ·
   refine .sr (.a J J J (.na (.ret (Bg (An ?_)))))
   refine ⟨_, [], Ag J J, sP, sP, ?_, rfl⟩
   (unfold dgood; rw [if_pos hq0, ← hW.w, ← hW.sg, if_neg (by intro e; rw [e] at hc1; cases hc1)]; done)
  ·
   refine .skip (Ae (.sr (.a J J J (.na (.ret (An ?_))))))
   refine ⟨_, [], Ag J J, sP, sP, ?_, rfl⟩
   (unfold dgood; rw [if_pos hq0, ← hW.w, ← hW.sg, if_pos (by simpa using hc1)]; done)

end Go.Proofs.YtpacobmjjjillaaGreat
end

section
namespace Go.Proofs.YtpacobmjjjillaaGreat
open Go Hw

open Ed

theorem numR_stays {xs : List UInt8} {x : UInt64} {a a1 : Nat} {e e1 : Int} (h : Cb xs a e = (x, a1, e1)) (he : ¬ e1 = 0) : a1 = a := by
  unfold Cb at h
  split at h
  · exact (congrArg (fun z => z.2.1) h).symm
  split at h
  · exact (congrArg (fun z => z.2.1) h).symm
  split at h
  · exact (congrArg (fun z => z.2.1) h).symm
  split at h
  · exact absurd (congrArg (fun z => z.2.2) h).symm he
  · exact (congrArg (fun z => z.2.1) h).symm

theorem r1t_zero (n q N cp at' o : Nat) (xs : List UInt8) (hx : xs.length = N) (hat : at' ≤ N) (hN : N ≤ cp) (hbig : N ≤ 90000)  : Meets Tryz.prog 79 [ptr n 0, i64 ((0 : Nat) : Int)] [n] (fun W => BlkOk W (R1B n q (o) N cp (at') (0)) ∧ Cc W q 0 (Aa xs) ∧ q ≠ n) (fun v out => ∃ q1 c1, v = .slice (some ⟨q1, 0, none⟩) 0 c1 ∧ 0 ≤ c1 ∧ out = [⟨q1, Aa [], 5, c1 * 1⟩, R1B n q (if cp - at' = 0 then o else o + 0 * 1) N cp (at' + 0) (0)]) := by
 intro W hW
 have hfn : (rd1 q o N cp at' 0).fB.n = N - at' := rfl
 have hfc : (rd1 q o N cp at' 0).fB.c = cp - at' := rfl
 have hfe : (rd1 q o N cp at' 0).fE = 0 := rfl
 refine Ba (hp0 := [R1B n q (o) N cp (at') (0)]) Tryz.func79 J 48 Tryz.ntmps79 J (HRep.one hW.1) (.sr (.a J J J (.nsr (.m J J J (.max2 J J J J (show Value.int .i64 (if (0 : Int) > ((0 : Nat) : Int) then 0 else ((0 : Nat) : Int)) = i64 ((0 : Nat) : Int) by rw [if_neg oM]) ?_)))))
 refine .a J J J (.na (.seq (.sr (.m J J J (.nC J J J (.fld J J J Db J Sz31 dE _ J (.load1 J J J Y31 J Z0 (by exact Rdr.get_fE (by exact Bc _ _ _ _ _ _)) ?_)))))))
 refine .eqi J J J J (decide_eq_true (rfl)) (.m J J J (.m J J J (.nC J J J (.fld J J J Db J Co dE _ J (.load1 J J J Y39 J Z0 (by exact Rdr.get_fB (by exact Bc _ _ _ _ _ _)) ?_)))))
 refine .lenSl J J J Y39 (.m J J J (.lss J J J J (decide_eq_false oM) (.pick J J J J J J (.na (.cond_f J (rfl) (.skip (Ae (.seq (.sr (.m J J J (.nC J J J (.fld J J J Db J Sz31 dE _ J (.load1 J J J Y31 J Z0 (by exact Rdr.get_fE (by exact Bc _ _ _ _ _ _)) ?_)))))))))))))
 refine .nei J J J J (show (!decide _) = false from congrArg not (decide_eq_true (rfl))) (.na (.cond_f J (rfl) (.skip (Ae (.sr (.m J J J (.nC J J J (.fld J J J Db J Co dE _ J (.load1 J J J Y39 J Z0 (by exact Rdr.get_fB (by exact Bc _ _ _ _ _ _)) ?_)))))))))
 refine .m J J J (.sliceHi 0 J J J J J oM Y39 Sz5 (.a J J J (.nsr (.m J J J (.m J J J (.nC J J J (.fld J J J Db J Co dE _ J (.load1 J J J Y39 J Z0 (by exact Rdr.get_fB (by exact Bc _ _ _ _ _ _)) ?_))))))))
 refine .m J J J (.sliceLoN 0 J J J J J oM oM Y39 Sz5 (.nC J J J (.fld J J J Db J Co dE _ J (.s1 J J J J J Co Z0 (by rw [Rdr.length (by exact Bc _ _ _ _ _ _)]; decide) (by exact Rdr.setS_fB (by exact Bc _ _ _ _ _ _) _ _ _) zU ?_))))
 refine .nsr (.mkRow2 (z := u8 0) [] [] rfl J Y39 Sz5 Zr5 J J (by intro v hv; cases hv) dE J ?_)
 intro q45
 refine .m J J J (.appendSl (z := u8 0) (by' := 1) (Aa []) J J J J J Y39 Y39 Sz5 Zr5 (by unfold By; kernel_rfl) J (fun w h => SeesP.nil) (fun e => by cases e) (Aw _) Az J J oM oM oM J ?_)
 intro q47 c47 hq47
 refine .a J J J (.na (.ret (An ?_)))
 refine ⟨_, [⟨q47, [] ++ Aa [], 5, c47 * 1⟩, R1B n q (if cp - at' = 0 then o else o + 0 * 1) N cp (at' + 0) (0)], Ag J J, (by intro b hb; rcases List.mem_cons.1 hb with rfl | hb; exact Bo; rw [List.mem_singleton.1 hb, r1b_move]; exact mem1), (fun h => h.sublist (by simp [R1B])), ?_⟩
 exact ⟨q47, c47, rfl, Nat.zero_le _, rfl⟩

theorem r1_TakeA (n q o N cp a : Nat) (e : Int) (m : Nat) (hm : m ≤ 90000) (xs : List UInt8) (hx : xs.length = N) (hat : a ≤ N) (hN : N ≤ cp) (hbig : N ≤ 90000) (ho : At1 cp a o) (l : List UInt8) (a1 : Nat) (h : takR xs m a 0 = (l, a1, 0)) : Meets Tryz.prog 79 [ptr n 0, i64 (m : Int)] [n] (fun W => BlkOk W (R1B n q o N cp a 0) ∧ Cc W q 0 (Aa xs) ∧ q ≠ n)
    (fun v out => ∃ s bl o1, At1 cp a1 o1 ∧ v = s.v ∧ Acc s bl (Aa l) 5 l.length 1 ∧ out = bl ++ [R1B n q o1 N cp a1 0]) := by
  rcases Nat.eq_zero_or_pos m with rfl | hm0
  · have h0 := h
    unfold takR at h0
    rw [if_neg sP, if_neg oM] at h0
    obtain ⟨rfl, rfl⟩ : [] = l ∧ a + 0 = a1 := by simpa using h0
    refine (r1t_zero n q N cp a o xs hx hat hN hbig).imp (fun w h => h) fun v out ⟨q1, c1, h1, h2, h3⟩ => ⟨⟨some ⟨q1, 0, none⟩, 0, c1⟩, [_], _, fun hlt => ?_, h1, ?_, h3⟩
    · have := ho hlt
      simp only [Nat.zero_mul, Nat.add_zero, ite_self]
      omega
    · exact Acc.some h2 rfl
  · exact r1_TakeE n q o N cp a 0 m hm0 hm xs hx hat hN hbig ho l a1 0 h

theorem r1b_err (n q o N cp at' : Nat) (e : Int) (xs : List UInt8) (hx : xs.length = N) (hat : at' ≤ N) (hN : N ≤ cp) (hbig : N ≤ 90000) (ho : At1 cp at' o) (x : UInt64) (a1 : Nat) (e1 : Int) (h1 : Cb xs at' e = (x, a1, e1)) (he1 : ¬ e1 = 0) : Meets Tryz.prog 100 [ptr n 0] [n] (fun W => BlkOk W (R1B n q (o) N cp (at') (e)) ∧ Cc W q 0 (Aa xs) ∧ q ≠ n) (fun v out => ∃ o1, At1 cp a1 o1 ∧ v = .slice none 0 0 ∧ out = [R1B n q o1 N cp a1 e1]) := by
 intro W hW
 have hla := numE_le h1 hx hat
 refine Ba (hp0 := [R1B n q (o) N cp (at') (e)]) Tryz.func100 J 42 Tryz.ntmps100 J (HRep.one hW.1) (.sr (.a J J J (.nsr (.m J J J (.nC J J J (.fld J J J Db J Co dE _ J (.load1 J J J Y39 J Z0 (by exact Rdr.get_fB (by exact Bc _ _ _ _ _ _)) ?_)))))))
 refine .a J J J (.nsr (.m J J J (.callL (L := [R1B n q (o) N cp (at') (e)]) J J J J J Body77 (r1_NumberE n q o N cp at' e xs hx hat hN hbig ho x a1 e1 h1) (Ai rM Au) (Bp J) (fun w h => ⟨Av h Z0, Ci h (by simp; exact hW.2.2) hW.2.1, hW.2.2⟩) ?_)))
 rintro v10 out10 ⟨o1, ho1, rfl, rfl⟩
 refine .a J J J (.na (.seq (.sr ?_)))
 have hfn : (rd1 q o1 N cp a1 e1).fB.n = N - a1 := rfl
 have hfe : (rd1 q o1 N cp a1 e1).fE = e1 := rfl
 have hwn : (Bn ((N - a1 : Nat) : Int)).toNat = N - a1 := by simp only [Bn, UInt64.toNat_ofNat']; omega
 refine .m J J J (.nC J J J (.fld J J J Db J Sz31 dE _ J (.load1 J J J Y31 J Z0 (by exact Rdr.get_fE (by exact Bc _ _ _ _ _ _)) ?_)))
 refine .eqi J J J J (decide_eq_false (he1)) (.m J J J (.skp J J (.skp J J (.skp J J (.skp J J (.skp J J (.skp J J (.skp J J (.skp J J (.pick J J J J J J (.na (.cond_f J (rfl) (.skip (Ae (.seq (.sr (.m J J J (.nC J J J (.fld J J J Db J Sz31 dE _ J (.load1 J J J Y31 J Z0 (by exact Rdr.get_fE (by exact Bc _ _ _ _ _ _)) ?_))))))))))))))))))))
 refine .nei J J J J (show (!decide _) = true from congrArg not (decide_eq_false (he1))) (.na (.cond_t J (rfl) (.sr (.a J J J (.na (.ret (Bg (An (Be (out := (R1B n q o1 N cp a1 e1 :: [])) (Ag J J) (Ai rM Au) ?_)))))))))
 exact ⟨o1, ho1, rfl, rfl⟩

theorem r1b_more (n q o N cp at' : Nat) (e : Int) (xs : List UInt8) (hx : xs.length = N) (hat : at' ≤ N) (hN : N ≤ cp) (hbig : N ≤ 90000) (ho : At1 cp at' o) (x : UInt64) (a1 : Nat) (e1 : Int) (h1 : Cb xs at' e = (x, a1, e1)) (he1 : e1 = 0) (hk : N < a1 + x.toNat) : Meets Tryz.prog 100 [ptr n 0] [n] (fun W => BlkOk W (R1B n q (o) N cp (at') (e)) ∧ Cc W q 0 (Aa xs) ∧ q ≠ n) (fun v out => v = .slice none 0 0 ∧ out = [R1B n q o N cp at' 5]) := by
 intro W hW
 have hla := numE_le h1 hx hat
 refine Ba (hp0 := [R1B n q (o) N cp (at') (e)]) Tryz.func100 J 42 Tryz.ntmps100 J (HRep.one hW.1) (.sr (.a J J J (.nsr (.m J J J (.nC J J J (.fld J J J Db J Co dE _ J (.load1 J J J Y39 J Z0 (by exact Rdr.get_fB (by exact Bc _ _ _ _ _ _)) ?_)))))))
 refine .a J J J (.nsr (.m J J J (.callL (L := [R1B n q (o) N cp (at') (e)]) J J J J J Body77 (r1_NumberE n q o N cp at' e xs hx hat hN hbig ho x a1 e1 h1) (Ai rM Au) (Bp J) (fun w h => ⟨Av h Z0, Ci h (by simp; exact hW.2.2) hW.2.1, hW.2.2⟩) ?_)))
 rintro v10 out10 ⟨o1, ho1, rfl, rfl⟩
 subst he1
 refine .a J J J (.na (.seq (.sr ?_)))
 have hfn : (rd1 q o1 N cp a1 0).fB.n = N - a1 := rfl
 have hfe : (rd1 q o1 N cp a1 0).fE = 0 := rfl
 have hwn : (Bn ((N - a1 : Nat) : Int)).toNat = N - a1 := by simp only [Bn, UInt64.toNat_ofNat']; omega
 refine .m J J J (.nC J J J (.fld J J J Db J Sz31 dE _ J (.load1 J J J Y31 J Z0 (by exact Rdr.get_fE (by exact Bc _ _ _ _ _ _)) ?_)))
 refine .eqi J J J J (decide_eq_true (rfl)) (.m J J J (.m J J J (.m J J J (.nC J J J (.fld J J J Db J Co dE _ J (.load1 J J J Y39 J Z0 (by exact Rdr.get_fB (by exact Bc _ _ _ _ _ _)) ?_))))))
 refine .lenSl (n := N - a1) J J J Y39 (.conv J J J Y3 Y22 (A4 _) (.gtr J J J J (decide_eq_true (by rw [hwn]; omega)) ?_))
 refine .pick J J J J J J (.na (.cond_t J (rfl) (.region (.m J J J (.m J J J (.m J J J (.nC J J J (.fld J J J Db J Sz31 dE _ J (.s1 J J J J J Sz31 Z0 (by rw [Rdr.length (by exact Bc _ _ _ _ _ _)]; decide) (Rdr.set_fE (by exact Bc _ _ _ _ _ _) _) zU ?_)))))))))
 refine .nC J J J (.fld J J J Db J Co dE _ J (.s1 J J J J J Co Z0 (by rw [Rdr.length (by exact Bc _ _ _ _ _ _)]; decide) (by exact Rdr.set_fB (by exact Bc _ _ _ _ _ _) _) zU ?_))
 refine .na (.seq (.sr (.m J J J (.nC J J J (.fld J J J Db J Sz31 dE _ J (.load1 J J J Y31 J Z0 (by exact Rdr.get_fE (by exact Bc _ _ _ _ _ _)) ?_))))))
 refine .nei J J J J (show (!decide _) = true from congrArg not (decide_eq_false (by show ¬ ((5 : Int) = 0); decide))) ?_
 refine .na (.cond_t J (rfl) (.sr (.a J J J (.na (.ret (Bg (An (Be (out := (R1B n q o N cp at' 5 :: [])) (Ag J J) (Ai rM Au) ?_))))))))
 exact ⟨rfl, rfl⟩

theorem r1b_ok (n q o N cp at' : Nat) (e : Int) (xs : List UInt8) (hx : xs.length = N) (hat : at' ≤ N) (hN : N ≤ cp) (hbig : N ≤ 90000) (ho : At1 cp at' o) (x : UInt64) (a1 : Nat) (e1 : Int) (h1 : Cb xs at' e = (x, a1, e1)) (he1 : e1 = 0) (hk : a1 + x.toNat ≤ N) (l : List UInt8) (a2 : Nat) (h2 : takR xs x.toNat a1 0 = (l, a2, 0)) : Meets Tryz.prog 100 [ptr n 0] [n] (fun W => BlkOk W (R1B n q (o) N cp (at') (e)) ∧ Cc W q 0 (Aa xs) ∧ q ≠ n) (fun v out => ∃ s bl o2, At1 cp a2 o2 ∧ v = s.v ∧ Acc s bl (Aa l) 5 l.length 1 ∧ out = bl ++ [R1B n q o2 N cp a2 0]) := by
 intro W hW
 have hla := numE_le h1 hx hat
 refine Ba (hp0 := [R1B n q (o) N cp (at') (e)]) Tryz.func100 J 42 Tryz.ntmps100 J (HRep.one hW.1) (.sr (.a J J J (.nsr (.m J J J (.nC J J J (.fld J J J Db J Co dE _ J (.load1 J J J Y39 J Z0 (by exact Rdr.get_fB (by exact Bc _ _ _ _ _ _)) ?_)))))))
 refine .a J J J (.nsr (.m J J J (.callL (L := [R1B n q (o) N cp (at') (e)]) J J J J J Body77 (r1_NumberE n q o N cp at' e xs hx hat hN hbig ho x a1 e1 h1) (Ai rM Au) (Bp J) (fun w h => ⟨Av h Z0, Ci h (by simp; exact hW.2.2) hW.2.1, hW.2.2⟩) ?_)))
 rintro v10 out10 ⟨o1, ho1, rfl, rfl⟩
 subst he1
 refine .a J J J (.na (.seq (.sr ?_)))
 have hfn : (rd1 q o1 N cp a1 0).fB.n = N - a1 := rfl
 have hfe : (rd1 q o1 N cp a1 0).fE = 0 := rfl
 have hwn : (Bn ((N - a1 : Nat) : Int)).toNat = N - a1 := by simp only [Bn, UInt64.toNat_ofNat']; omega
 refine .m J J J (.nC J J J (.fld J J J Db J Sz31 dE _ J (.load1 J J J Y31 J Z0 (by exact Rdr.get_fE (by exact Bc _ _ _ _ _ _)) ?_)))
 refine .eqi J J J J (decide_eq_true (rfl)) (.m J J J (.m J J J (.m J J J (.nC J J J (.fld J J J Db J Co dE _ J (.load1 J J J Y39 J Z0 (by exact Rdr.get_fB (by exact Bc _ _ _ _ _ _)) ?_))))))
 refine .lenSl (n := N - a1) J J J Y39 (.conv J J J Y3 Y22 (A4 _) (.gtr J J J J (decide_eq_false (by rw [hwn]; omega)) ?_))
 refine .pick J J J J J J (.na (.cond_f J (rfl) (.skip (Ae (.seq (.sr (.m J J J (.nC J J J (.fld J J J Db J Sz31 dE _ J (.load1 J J J Y31 J Z0 (by exact Rdr.get_fE (by exact Bc _ _ _ _ _ _)) ?_))))))))))
 refine .nei J J J J (show (!decide _) = false from congrArg not (decide_eq_true (rfl))) (.na (.cond_f J (rfl) (.skip (Ae (.sr (.m J J J (.m J J J (.conv J J J Y22 Y3 (cv_u64_i64 oM) (.callL (L := [R1B n q (o1) N cp (a1) (0)]) J J J J J Body79 (r1_TakeA n q o1 N cp a1 0 x.toNat oM xs hx hla hN hbig ho1 l a2 h2) (Ai rM Au) (Bp J) (fun w h => ⟨Av h Z0, Ci h (by simp; exact hW.2.2) hW.2.1, hW.2.2⟩) ?_)))))))))
 rintro v41 out41 ⟨s41, bl41, o2, ho2, rfl, hac41, rfl⟩
 simp only [List.append_assoc, List.cons_append, List.nil_append]
 refine .a J J J (.na (.ret (An (Be (out := (bl41 ++ (R1B n q o2 N cp a2 0 :: []))) (Ag J J) (B6 sG (Ai rM Au)) ?_))))
 exact ⟨s41, bl41, o2, ho2, rfl, hac41, by simp⟩

theorem r1_BlockE (n q o0 N cp a : Nat) (e : Int) (xs : List UInt8) (hx : xs.length = N) (hat : a ≤ N) (hN : N ≤ cp) (hbig : N ≤ 90000) (ho : At1 cp a o0) (o : Option (List UInt8)) (a1 : Nat) (e1 : Int) (h : blkR xs a e = (o, a1, e1)) : Meets Tryz.prog 100 [ptr n 0] [n] (fun W => BlkOk W (R1B n q o0 N cp a e) ∧ Cc W q 0 (Aa xs) ∧ q ≠ n)
    (fun v out => ∃ s bl o2, At1 cp a1 o2 ∧ v = s.v ∧ Acc s bl (Aa (o.getD [])) 5 (o.getD []).length 1 ∧ out = bl ++ [R1B n q o2 N cp a1 e1]) := by
  obtain ⟨x, r, h1⟩ : ∃ l r, Cb xs a e = (l, r) := ⟨_, _, rfl⟩
  obtain ⟨a2, e2⟩ := r
  have hla := numE_le h1 hx hat
  unfold blkR at h
  rw [h1] at h
  simp only at h
  by_cases he : e2 = 0
  · subst he
    rw [if_neg sP] at h
    by_cases h2 : xs.length < a2 + x.toNat
    · rw [if_pos h2] at h
      obtain ⟨rfl, rfl, rfl⟩ : none = o ∧ a = a1 ∧ (5 : Int) = e1 := by simpa using h
      exact (r1b_more n q o0 N cp a e xs hx hat hN hbig ho x a2 0 h1 rfl oM).imp (fun w h => h) fun v out ⟨h1, h2⟩ => ⟨Sl.nil, [], o0, ho, h1, Acc.none, h2⟩
    · rw [if_neg h2] at h
      obtain ⟨rfl, rfl, rfl⟩ : some ((xs.drop a2).take x.toNat) = o ∧ a2 + x.toNat = a1 ∧ (0 : Int) = e1 := by simpa using h
      have ht : takR xs x.toNat a2 0 = ((xs.drop a2).take x.toNat, a2 + x.toNat, 0) := by
        unfold takR
        rw [if_neg sP, if_neg h2]
      exact (r1b_ok n q o0 N cp a e xs hx hat hN hbig ho x a2 0 h1 rfl oM _ _ ht).imp (fun w h => h) fun v out h => h
  · rw [if_pos he] at h
    obtain ⟨rfl, ha, rfl⟩ : none = o ∧ a = a1 ∧ e2 = e1 := by simpa using h
    have h3 : a2 = a := numR_stays h1 he
    subst h3
    subst ha
    exact (r1b_err n q o0 N cp a2 e xs hx hat hN hbig ho x a2 e2 h1 he).imp (fun w h => h) fun v out ⟨o1, h1, h2, h3⟩ => ⟨Sl.nil, [], o1, h1, h2, Acc.none, h3⟩
theorem digR_err {xs : List UInt8} {a : Nat} {e : Int} (he : ¬ e = 0) : (digR xs a e).2.2 = e := by unfold digR; rw [if_pos he]
theorem digsR_err {xs : List UInt8} {a : Nat} {e : Int} (he : ¬ e = 0) : ∀ j, (Ch xs j a e).2.2 = e
  | 0 => rfl
  | j + 1 => by
    have h := digsR_err (xs := xs) (a := a) he j
    simp only [Ch]
    rw [digR_err (by rw [h]; exact he), h]
theorem numR_err {xs : List UInt8} {a : Nat} {e : Int} (he : ¬ e = 0) : (Cb xs a e).2.2 = e := by unfold Cb; rw [if_pos he]
theorem blkR_err {xs : List UInt8} {a : Nat} {e : Int} (he : ¬ e = 0) : (blkR xs a e).2.2 = e := by
  have h := numR_err (xs := xs) (a := a) he
  unfold blkR
  rw [if_pos (by rw [h]; exact he), h]
theorem takR_err {xs : List UInt8} {m a : Nat} {e : Int} (he : ¬ e = 0) : (takR xs m a e).2.2 = e := by unfold takR; rw [if_pos he]

end Go.Proofs.YtpacobmjjjillaaGreat
end

section
namespace Hw
open Go Go.RowKit

structure RowE (s : Sl) (bl : List Blk) (cells : List Value) (n : Nat) : Prop where
  num : s.n = n
  cap : s.n ≤ s.c
  see : ∀ W, Lies bl W → SeesP W s.p cells
  nil : s.p = none → s.c = 0
section
variable {C : Cx} {ops : Array Oper} {rest : List (Nat × Oper)} {sl : List (Nat × Value)} {hp hp' : List Blk} {Q : St → Prop} {c d : Nat} {ty : TypeId} {pos : String} {af : Array Edge} {g : Option (Nat × Bool)}
theorem Tr.appendE {x y : Operand} {b m size by' c2 : Nat} {T tx E E2 : TypeId} {z : Value} {p : Option Addr} (news : List Value) (hg : Am ops sl g = true) (hk : okG c d C.N = true)
    (hx : Ah sl x = some (.slice (some ⟨b, 0, none⟩) 0 0)) (hy : Ah sl y = some (.slice p m c2)) (hu : C.P.underlying T = some (.slice E)) (hut : C.P.underlying tx = some (.slice E2)) (hs : Sz C.P E size) (hz : Zr C.P E z) (hb : By C.P E by') (hzc : z.cells.size = size)
    (hsee : ∀ w, HRep C hp w → SeesP w p news) (hpn : p = none → m = 0) (hcell : ∀ u ∈ news, isCell u = true) (hbig : m ≤ 1000000) (hfit : m * by' ≤ 140737488355328) (hnl : news.length = m * size)
    (k : ∀ s bl, RowE s bl news m → Tr C ops rest ⟨(d, s.v) :: sl, bl ++ hp⟩ Q) :
    Tr C ops ((c, ⟨some d, .call { callee := .builtin .append, args := #[x, y], argTypes := #[T, tx] }, ty, pos, af, g⟩) :: rest) ⟨sl, hp⟩ Q := by
  simp only [okG, Bool.and_eq_true, Bool.or_eq_true] at hk
  have hrow : ∀ q cap', m ≤ cap' → RowE ⟨some ⟨q, 0, none⟩, m, cap'⟩ [⟨q, news, E, cap' * size⟩] news m := fun q cap' h => ⟨rfl, h, fun W hw => (Acc.some (E := E) h hnl).see hw, fun e => by cases e⟩
  refine Tr.grow (ρ := Sl × List Blk) (fun r => RowE r.1 r.2 news m) (fun r => r.1.v) (fun r => r.2) (hk.1.imp nbeq' nbeq') (A8 hg) (C6 (nblt hk.2))
    ⟨by simpa [Known, Op.operands, Call.operands] using known2 hx hy, fun l hl => ?_, fun a w hf hh => ?_⟩ (fun r hr => k r.1 r.2 hr)
  · obtain ⟨q, _, hq⟩ := fresh_is 0 l
    refine ⟨(⟨some ⟨q, 0, none⟩, m, m⟩, [⟨q, news, E, m * size⟩]), hrow q m (Nat.le_refl _), ?_⟩
    simp only [List.singleton_append, List.map_cons, List.nodup_cons]
    exact ⟨fun h => by obtain ⟨b, hb, e⟩ := List.mem_map.1 h; exact hq b hb e, hl⟩
  · have h1 := hf x (by simp [Op.operands, Call.operands]); rw [hx] at h1
    have h2 := hf y (by simp [Op.operands, Call.operands]); rw [hy] at h2
    simp only [Option.some.injEq] at h1 h2
    unfold Sz at hs; unfold Zr at hz; unfold By at hb
    cases hi : C.P.info? E with
    | none => rw [hi] at hs; simp at hs
    | some i =>
      rw [hi] at hs hz hb
      simp only [Option.map_some, Option.some.injEq, Option.bind_some] at hs hz hb
      subst hs
      have hS : Src C.P i.size tx (.slice p m c2) m news w := Src.ofP hut (hsee w hh) hpn hnl hcell
      unfold Oper.wp
      rcases Nat.eq_zero_or_pos m with rfl | hm
      · obtain rfl : news = [] := List.eq_nil_of_length_eq_zero (by rw [hnl]; simp)
        have hrun : (Builtin.append_ #[T, tx] ty #[.slice (some ⟨b, 0, none⟩) 0 0, .slice p 0 c2]).run C.P w = .ok (.slice (some ⟨b, 0, none⟩) 0 0) w := by
          rcases hS.kind with ⟨e', hk⟩ | hk <;> simp [Builtin.append_, run_underlying hu, run_underlying hk, Go.sizeOf, typeInfo, hi, hS.len, hS.cells, storeCells]
        have hex : (execOp a.eval ⟨some d, .call { callee := .builtin .append, args := #[x, y], argTypes := #[T, tx] }, ty, pos, af, g⟩).run C.P w = .ok (.value (.slice (some ⟨b, 0, none⟩) 0 0)) w := by
          simp [execOp, resolve, invoke, builtin, ← h1, ← h2, hrun]
        rw [hex]
        exact ⟨(⟨some ⟨b, 0, none⟩, 0, 0⟩, []), ⟨rfl, Nat.le_refl _, fun W _ => SeesP.nil, fun e => by cases e⟩, rfl, ⟨Keeps.refl _ _, by simp, by simp, by simp⟩⟩
      · have hold : (Builtin.firstCells i.size 0 (.slice (some ⟨b, 0, none⟩) 0 0)).run C.P w.drew = .ok ([] : List Value).toArray w.drew :=
          run_firstCells_some w.drew i.size 0 ⟨b, 0, none⟩ 0 0 [] sP (fun j u hj => by simp at hj)
        have hrun := run_append_grow_src (P := C.P) w T tx ty E i z hu hi hz (some ⟨b, 0, none⟩) 0 0 [] hold _ m news hS oM oM (growslice_fits oM (by rw [hb]; simpa using hfit))
        simp only [Nat.zero_add, List.nil_append] at hrun
        have hge := grownCap_ge w m 0 E
        have hex : (execOp a.eval ⟨some d, .call { callee := .builtin .append, args := #[x, y], argTypes := #[T, tx] }, ty, pos, af, g⟩).run C.P w = .ok (.value (.slice (some ⟨w.heap.size, 0, none⟩) m (grownCap w m 0 E))) (w.drew.alloc (.cells (news.toArray ++ Builtin.zeroCells z.cells (grownCap w m 0 E - m)) E)) := by
          simp [execOp, resolve, invoke, builtin, ← h1, ← h2, hrun]
        rw [hex]
        refine ⟨(⟨some ⟨w.heap.size, 0, none⟩, m, grownCap w m 0 E⟩, [⟨w.heap.size, news, E, grownCap w m 0 E * i.size⟩]), hrow _ _ hge, rfl, Ret.pushD _ _ _ _ ?_ sP⟩
        have e : grownCap w m 0 E * i.size = m * i.size + (grownCap w m 0 E - m) * i.size := by rw [← Nat.add_mul]; congr 1; omega
        simp [Builtin.zeroCells, hnl, hzc, e]
end
end Hw
end

section
namespace Go.Proofs.YtpacobmjjjillaaGreat
open Go Hw

open Ed

theorem r15_Copy (B : Block) (D : DB) (hB : B.ok) (hn : D.ls.length ≤ 500000) (hd : D.ds.length ≤ 500000) : Meets Tryz.prog 99 [agg B.cells] [] (fun W => BlockIs W B D) (BlkV D) := by
 intro W hW
 have e1 := hW.ls.len
 have e2 := hW.ds.len
 refine Ab Tryz.func99 J 14 Tryz.ntmps99 J (.sr (.boxA J J ?_))
 intro n1 hn1 hf1
 refine .alloc (cs := Block.zero.cells) J Block.zr J ?_
 intro n2 hn2 hf2
 refine .na (.seq (.draw [(0, 1), (1, 2), (0, 5), (1, 6), (2, 0), (3, 3), (0, 8), (2, 4), (3, 7), (4, 9), (0, 10), (4, 11)] Ar zK (.fld J J J Y53 J Sz51 dE _ J (.load1 J J J Y51 J Z1 (by exact Block.get_fLinks zA) ?_))))
 refine .fld J J J Y53 J Co dE _ J (.load1 J J J Y39 J Z1 (by exact Block.get_fData zA) ?_)
 refine .mkRow2 (z := agg (Aa (List.replicate 32 0))) [] [] rfl J Y51 Bm Zr24 J J (by intro v hv; cases hv) dE J ?_
 intro q3
 refine .appendE (z := agg (Aa (List.replicate 32 0))) (by' := 32) (Bv D.ls) J J J J Y51 Y51 Bm Zr24 (by unfold By; kernel_rfl) J (fun w h => Ax h J hW.ls.see) (fun e => by have := hW.ls.nil e; have := hW.ls.cap; omega) (flatB_cell _) oM oM (by rw [Bu hW.ls.row, e1]) ?_
 intro s6 bl6 hr6
 refine .fld J J J Y53 J Sz51 dE _ J (.mkRow2 (z := u8 0) [] [] rfl J Y39 Sz5 Zr5 J J (by intro v hv; cases hv) dE J ?_)
 intro q7
 refine .appendE (z := u8 0) (by' := 1) (Aa D.ds) J J J J Y39 Y39 Sz5 Zr5 (by unfold By; kernel_rfl) J (fun w h => Ax h J hW.ds.see) (fun e => by have := hW.ds.nil e; have := hW.ds.cap; omega) (Aw _) oM oM (by rw [Aa, List.length_map, e2, Nat.mul_one]) ?_
 intro s10 bl10 hr10
 refine .s1 J J J J J Sz51 mR (by rw [Block.length zA]; decide) (by exact Block.set_fLinks zA _) uU ?_
 refine .fld J J J Y53 J Co dE _ J (.s1 J J J J J Co mR (by rw [Block.length (by exact ⟨hB.l_fWriter, hB.l_fPrev, hB.l_fSig⟩)]; decide) (by exact Block.set_fData (by exact ⟨hB.l_fWriter, hB.l_fPrev, hB.l_fSig⟩) _) uU ?_)
 refine .nsr (.lA J J J Y53 J Bw mR (Block.length (by exact ⟨hB.l_fWriter, hB.l_fPrev, hB.l_fSig⟩)) ?_)
 refine .sA J J J J (Block.isCell (by exact ⟨hB.l_fWriter, hB.l_fPrev, hB.l_fSig⟩)) Bw (Block.length (by exact ⟨hB.l_fWriter, hB.l_fPrev, hB.l_fSig⟩)) mR (Block.length (by exact Block.zero_ok)) uU ?_
 refine .na (.ret (An (Be (out := (bl10 ++ (bl6 ++ []))) (Ao J J Y53 J Bw mR (by exact Block.length (by exact ⟨hB.l_fWriter, hB.l_fPrev, hB.l_fSig⟩))) (B6 sG (B6 sG Au)) ?_)))
 have g6 := hr6.num
 have g10 := hr10.num
 exact ⟨({ B with fLinks := s6, fData := s10 } : Block), ⟨⟨hB.l_fWriter, hB.l_fPrev, hB.l_fSig⟩, hW.w, hW.seq, hW.prev, hW.sg, g6.trans e1.symm, g10.trans e2.symm⟩, rfl, fun W2 h2 => ⟨⟨hB.l_fWriter, hB.l_fPrev, hB.l_fSig⟩, hW.w, hW.seq, hW.prev, ⟨e1.trans g6.symm, hW.ls.row, hr6.cap, hr6.see W2 (h2.sub (in_seg Bt)), by show s6.n ≤ maxLen; rw [g6]; unfold maxLen; omega, hr6.nil⟩, ⟨e2.trans g10.symm, hr10.cap, hr10.see W2 (h2.sub Bt), by show s10.n ≤ maxLen; rw [g10]; unfold maxLen; omega, hr10.nil⟩, hW.sg⟩⟩

theorem with_w' {W : World} {B : Block} {D : DB} (h : BlockIs W B D) {K : List UInt8} (hK : K.length = 32) : BlockIs W { B with fWriter := K } { D with w := K } := ⟨⟨hK, h.ok.l_fPrev, h.ok.l_fSig⟩, rfl, h.seq, h.prev, h.ls, h.ds, h.sg⟩
theorem with_wg' {W : World} {B : Block} {D : DB} (h : BlockIs W B D) {K G : List UInt8} (hK : K.length = 32) (hG : G.length = 64) : BlockIs W { B with fWriter := K, fSig := G } { D with w := K, sg := G } := ⟨⟨hK, h.ok.l_fPrev, hG⟩, rfl, h.seq, h.prev, h.ls, h.ds, rfl⟩

theorem r15_Sign (B : Block) (D : DB) (hB : B.ok) (hn : D.ls.length ≤ 40) (hd : D.ds.length ≤ 2000) (seed : List UInt8) (h32 : seed.length = 32) (s s1 s2 : List UInt8) (hs : Hid (Cd seed = s)) (hs1 : Hid (Cd (s.drop 32 ++ btxt ({ D with w := sgK s } : DB)) = s1)) (hs2 : Hid (Cd (sgF s1 ++ (sgK s ++ btxt ({ D with w := sgK s } : DB))) = s2)) (hc : D.check = 0) : Meets Tryz.prog 48 [agg (Aa seed), agg B.cells] [] (fun W => BlockIs W B D) (BlkR 0 (bsg D (sgK s) (sgF s1 ++ sgS s s1 s2))) := by
 intro W hW
 have lG : (sgF s1 ++ sgS s s1 s2).length = 64 := by rw [List.length_append, sgF_length, sgS_length]
 have lK := sgK_length s
 have cK := r6_Key seed h32 s hs
 have e1 := hW.ls.len
 have e2 := hW.ds.len
 have hDk : ({ D with w := sgK s } : DB).ok := ⟨lK, hW.dok.prev, hW.dok.sg, hW.dok.ls⟩
 have hvn : (btxt { D with w := sgK s }).length ≤ 4005 := DB.body_small hDk oM oM
 have cS := fun (x : Sl) => r6_Sign seed h32 x (btxt { D with w := sgK s }) oM s s1 s2 hs hs1 hs2
 clear hs hs1 hs2
 revert lG lK cK hDk hvn cS
 generalize sgF s1 ++ sgS s s1 s2 = G
 generalize sgK s = K
 intro lG lK cK hDk hvn cS
 refine Ab Tryz.func48 J 21 Tryz.ntmps48 J (.sr (.boxA J J ?_))
 intro n2 hn2 hf2
 refine .boxA J J ?_
 intro n3 hn3 hf3
 refine .alloc (cs := Block.zero.cells) J Block.zr J ?_
 intro n4 hn4 hf4
 refine .a J J J (.nsr (.lA J J J Y53 J Bw Z1 (Block.length zA) ?_))
 refine .call4 J J J J J Body99 (r15_Copy B D hB oM oM) (fun w h => hW.ext h J) ?_
 rintro v7 out7 ⟨B7, h7, rfl, ho7⟩
 have okX : ({ B7 with fWriter := K } : Block).ok := ⟨lK, h7.ok.l_fPrev, h7.ok.l_fSig⟩
 have okG : ({ B7 with fWriter := K, fSig := G } : Block).ok := ⟨lK, h7.ok.l_fPrev, lG⟩
 have cC := r15_Check ({ B7 with fWriter := K } : Block) { D with w := K }
 rw [show ({ D with w := K } : DB).check = D.check from rfl] at cC
 have cT := r15_Text ({ B7 with fWriter := K } : Block) { D with w := K } okX hn hd
 try simp only [List.append_assoc, List.cons_append, List.nil_append]
 refine .sA J J J J (Block.isCell (by exact h7.ok)) Bw (Block.length (by exact h7.ok)) mR (Block.length zA) uU ?_
 refine .nsr (.lA J J J Y23 J Sz23 mR (by (simp [h32]; done)) ?_)
 refine .cV J J J J Body18 (cK) tV (.fld J J J Y53 J Sz25 dE _ J (.storeN (Aa _) J J J J J zE Sz25 (by simp [lK]) mR (by rw [Block.length (by exact h7.ok)]; simp [lK]) (Block.upd_fWriter (by exact h7.ok) _ (by simp [lK])) uU ?_))
 refine .na (.seq (.sr (.lA J J J Y53 J Bw mR (Block.length zA) ?_)))
 refine .cV J J J J Body51 (cC) (fun w h => with_w' (ho7 w (Lies.of h (by repeat (exact Bt)))) lK) ?_
 refine .nei J J J J J (.na (.cond_f J (by simpa using hc) ?_))
 refine .skip (Ae (.seq (.draw [(1, 0), (1, 1), (3, 2), (3, 3), (0, 4), (4, 5)] Ar zK (.lA J J J Y23 J Sz23 mR (by (simp [h32]; done)) ?_))))
 refine .lA J J J Y53 J Bw mR (Block.length zA) ?_
 refine .call J J J J Body52 (cT) (FreshRow.loose _ _ _ _) (fun w h => with_w' (ho7 w (Lies.of h (by repeat (exact Bt)))) lK) ?_
 rintro v17 out17 ⟨q17, c17, rfl, hc17, rfl⟩
 refine .cV J J J J Body74 (cS ⟨some ⟨q17, 0, none⟩, _, c17⟩) (fun w h => own_btxt (SeesP.of (Ak h Z0)) hc17 hvn) ?_
 refine .fld J J J Y53 J Sz27 dE _ J (.storeN (Aa _) J J J J J zE Sz27 (by simp [lG]) mR (by rw [Block.length zA]; simp [lG]) (Block.upd_fSig zA _ (by simp [lG])) uU ?_)
 refine .nsr (.lA J J J Y53 J Bw mR (Block.length zA) ?_)
 refine .sA J J J J (Block.isCell zA) Bw (Block.length zA) mR (Block.length (by exact Block.zero_ok)) uU ?_
 refine .a J J J (.na (.ret (An (Be (out := (out7 ++ [])) (A0 J J J Y53 J Bw mR (by exact Block.length zA)) (B6 sG Au) ?_))))
 rw [List.append_nil]
 exact ⟨({ B7 with fWriter := K, fSig := G } : Block), ⟨okG, rfl, h7.seq, h7.prev, rfl, h7.ln, h7.dn⟩, rfl, fun W2 h2 => with_wg' (ho7 W2 h2) lK lG⟩

theorem r15_Sign_bad (B : Block) (D : DB) (hB : B.ok) (hn : D.ls.length ≤ 40) (hd : D.ds.length ≤ 2000) (seed : List UInt8) (h32 : seed.length = 32) (s s1 s2 : List UInt8) (hs : Hid (Cd seed = s)) (hs1 : Hid (Cd (s.drop 32 ++ btxt ({ D with w := sgK s } : DB)) = s1)) (hs2 : Hid (Cd (sgF s1 ++ (sgK s ++ btxt ({ D with w := sgK s } : DB))) = s2)) (hc : ¬ D.check = 0) : Meets Tryz.prog 48 [agg (Aa seed), agg B.cells] [] (fun W => BlockIs W B D) (BlkR D.check DB.zero) := by
 intro W hW
 have lG : (sgF s1 ++ sgS s s1 s2).length = 64 := by rw [List.length_append, sgF_length, sgS_length]
 have lK := sgK_length s
 have cK := r6_Key seed h32 s hs
 have e1 := hW.ls.len
 have e2 := hW.ds.len
 have hDk : ({ D with w := sgK s } : DB).ok := ⟨lK, hW.dok.prev, hW.dok.sg, hW.dok.ls⟩
 have hvn : (btxt { D with w := sgK s }).length ≤ 4005 := DB.body_small hDk oM oM
 have cS := fun (x : Sl) => r6_Sign seed h32 x (btxt { D with w := sgK s }) oM s s1 s2 hs hs1 hs2
 clear hs hs1 hs2
 revert lG lK cK hDk hvn cS
 generalize sgF s1 ++ sgS s s1 s2 = G
 generalize sgK s = K
 intro lG lK cK hDk hvn cS
 refine Ab Tryz.func48 J 21 Tryz.ntmps48 J (.sr (.boxA J J ?_))
 intro n2 hn2 hf2
 refine .boxA J J ?_
 intro n3 hn3 hf3
 refine .alloc (cs := Block.zero.cells) J Block.zr J ?_
 intro n4 hn4 hf4
 refine .a J J J (.nsr (.lA J J J Y53 J Bw Z1 (Block.length zA) ?_))
 refine .call4 J J J J J Body99 (r15_Copy B D hB oM oM) (fun w h => hW.ext h J) ?_
 rintro v7 out7 ⟨B7, h7, rfl, ho7⟩
 have okX : ({ B7 with fWriter := K } : Block).ok := ⟨lK, h7.ok.l_fPrev, h7.ok.l_fSig⟩
 have okG : ({ B7 with fWriter := K, fSig := G } : Block).ok := ⟨lK, h7.ok.l_fPrev, lG⟩
 have cC := r15_Check ({ B7 with fWriter := K } : Block) { D with w := K }
 rw [show ({ D with w := K } : DB).check = D.check from rfl] at cC
 have cT := r15_Text ({ B7 with fWriter := K } : Block) { D with w := K } okX hn hd
 try simp only [List.append_assoc, List.cons_append, List.nil_append]
 refine .sA J J J J (Block.isCell (by exact h7.ok)) Bw (Block.length (by exact h7.ok)) mR (Block.length zA) uU ?_
 refine .nsr (.lA J J J Y23 J Sz23 mR (by (simp [h32]; done)) ?_)
 refine .cV J J J J Body18 (cK) tV (.fld J J J Y53 J Sz25 dE _ J (.storeN (Aa _) J J J J J zE Sz25 (by simp [lK]) mR (by rw [Block.length (by exact h7.ok)]; simp [lK]) (Block.upd_fWriter (by exact h7.ok) _ (by simp [lK])) uU ?_))
 refine .na (.seq (.sr (.lA J J J Y53 J Bw mR (Block.length zA) ?_)))
 refine .cV J J J J Body51 (cC) (fun w h => with_w' (ho7 w (Lies.of h (by repeat (exact Bt)))) lK) ?_
 refine .nei J J J J J (.na (.cond_t J (by simpa using hc) ?_))
 refine .sr (.build (cs := Block.zero.cells) J J J (fun w => by kernel_rfl) ?_)
 refine .sA J J J J (Block.isCell (by exact Block.zero_ok)) Bw (Block.length (by exact Block.zero_ok)) mR (Block.length (by exact Block.zero_ok)) (by (repeat (first | exact upd0 | apply Upd.seg))) ?_
 refine .a J J J (.na (.ret (Bg (An (Be (out := []) (A0 J J J Y53 J Bw mR (by exact Block.length (by exact Block.zero_ok))) Au ?_)))))
 rw [dcheck_2 hc]
 exact ⟨Block.zero, ⟨Block.zero_ok, rfl, rfl, rfl, rfl, rfl, rfl⟩, rfl, fun W2 _ => zero_is W2⟩

def ByR (e : Int) (l : List UInt8) (v : Value) (out : List Blk) : Prop := ∃ s : Sl, v = .tuple #[s.v, i64 e] ∧ s.n = l.length ∧ (s.p = none → s.n = 0) ∧ ∀ W2, Lies out W2 → SeesP W2 s.p (Aa l)
theorem body_pos (D : DB) : 0 < D.body.length := by
  have := Cp D.seq.toNat
  simp only [DB.body, List.length_append, Br]
  omega

theorem text_off {q c : Nat} {D : DB} {E : TypeId} (hc : (btxt D).length ≤ c) (hl : (btxt D).length = 5 + D.body.length) : AccO ⟨some ⟨q, if c = 5 then 0 else 0 + 5 * 1, none⟩, (btxt D).length - 5, c - 5⟩ [⟨q, Aa (btxt D), E, c * 1⟩] (Aa D.body) E ((btxt D).length - 5) := by
  refine .inr ⟨q, if c = 5 then 0 else 0 + 5 * 1, c - 5, c * 1, Aa (if c = 5 then [] else btag), Aa [], rfl, by omega, by rw [Aa, List.length_map]; omega, ?_, .inl rfl, ?_, ?_⟩
  · split <;> rfl
  · split <;> omega
  · by_cases h5 : c = 5
    · exfalso; have hb : 0 < D.body.length := body_pos D; omega
    · rw [if_neg h5, ← bytesV_app, ← bytesV_app, List.append_nil]; rfl

theorem r15_Bytes (B : Block) (D : DB) (hB : B.ok) : Meets Tryz.prog 49 [agg B.cells] [] (fun W => BlockIs W B D) (ByR D.check (bytesR D)) := by
 intro W hW
 have hsl := hB.l_fSig
 have hsg := hW.sg
 refine Ab Tryz.func49 J 13 Tryz.ntmps49 J (.sr (.boxA J J ?_))
 intro n1 hn1 hf1
 refine .a J J J (.a J J J (.na (.seq (.sr (.lA J J J Y53 J Bw Z0 (Block.length zA) ?_)))))
 refine .cV J J J J Body51 (r15_Check B D) (fun w h => hW.ext h J) (.nei J J J J J (.na (.condNP J (fun hc0 => ?_) (fun hc0 => ?_))))
 ·
  have hq0 : ¬ D.check = 0 := by omega
  refine .sr (.a J J J (.a J J J (.na (.ret (Bg (An (Be (out := []) (res_tmp2 J J J) Au ?_)))))))
  rw [dcheck_2 hq0]
  exact ⟨Sl.nil, rfl, by rw [show bytesR D = [] from if_neg hq0]; rfl, fun _ => rfl, fun W2 _ => by rw [show bytesR D = [] from if_neg hq0]; exact SeesP.nil⟩
 ·
  have hq0 : D.check = 0 := by omega
  obtain ⟨h1, h2⟩ := D.head_small hq0
  have hvn : (btxt D).length ≤ 4005 := DB.body_small hW.dok oM oM
  have hbl5 : (btxt D).length = 5 + D.body.length := by rw [btxt, List.length_append]; rfl
  refine .skip (Ae (.seq (.draw [(1, 0), (0, 3), (0, 4), (3, 1), (0, 2), (4, 5), (0, 6), (0, 7)] Ar zK (.lA J J J Y53 J Bw Z0 (Block.length zA) ?_))))
  refine .fld J J J Y53 J Sz27 dE _ J (.sliceArr J J J Y27 Sz5 (.call J J J J Body52 (r15_Text B D hB oM oM) (FreshRow.loose _ _ _ _) (fun w h => hW.ext h J) ?_))
  rintro v8 out8 ⟨q8, c8, rfl, hc8, rfl⟩
  refine .sliceLoN 5 J J J J J oM oM Y39 Sz5 (.appendO (z := u8 0) (by' := 1) (Aa B.fSig) J J J J J Y39 Y39 Sz5 Zr5 (by unfold By; kernel_rfl) J (text_off hc8 hbl5) sG (fun w h => SeesP.of (sees_part h Z1 (Block.see_fSig hB))) dE (fun e => by cases e) (Aw _) oM oM (by simp [hsl]) ?_)
  intro s12 bl12 hac12
  refine .a J J J (.a J J J (.na (.ret (An (Be (out := (bl12 ++ [])) (res_tmp2 J J J) (B6 sG Au) ?_)))))
  rw [hq0, show bytesR D = D.body ++ D.sg from if_pos hq0, ← hsg, List.append_nil]
  refine ⟨s12, rfl, by rw [hac12.num, List.length_append, hsl]; omega, fun e => by have := hac12.nilc e; have := hac12.cap; omega, fun W2 h2 => ?_⟩
  rw [bytesV_app]
  exact hac12.see h2

theorem r15_Name (B : Block) (D : DB) (hB : B.ok) : Meets Tryz.prog 53 [agg B.cells] [] (fun W => BlockIs W B D) (fun v out => v = agg (Aa (nameD D)) ∧ out = []) := by
 intro W hW
 have hvl : (bytesR D).length ≤ 5000 := by
  unfold bytesR
  split
  · rename_i h9; exact D.bytes_small h9 hW.dok
  · exact Nat.zero_le _
 obtain ⟨k, hk⟩ : ∃ k, Hid (kW = k) := ⟨_, ⟨rfl⟩⟩
 obtain ⟨s0, hs0⟩ : ∃ s0, Hid (xorUp 8 = s0) := ⟨_, ⟨rfl⟩⟩
 obtain ⟨G, hG⟩ : ∃ G, Hid (shaTag = G) := ⟨_, ⟨rfl⟩⟩
 obtain ⟨i0, hi0⟩ : ∃ i0, Hid (allW k s0 G = i0) := ⟨_, ⟨rfl⟩⟩
 have hk80 : k.length = 80 := by rw [← hk.out]; rfl
 have hs8 : s0.length = 8 := by rw [← hs0.out]; exact xorUp_length 8
 have hGl : G.length = 11 := by rw [← hG.out]; rfl
 have hi8 : i0.length = 8 := by rw [← hi0.out, allW_length]; exact hs8
 obtain ⟨r, hr⟩ : ∃ r, Hid (allW k i0 (bytesR D) = r) := ⟨_, ⟨rfl⟩⟩
 obtain ⟨s, hs⟩ : ∃ s, Hid (sumUp r 64 = s) := ⟨_, ⟨rfl⟩⟩
 have hsd : Hid (s.take 32 = sha256 (bytesR D)) := ⟨by rw [← hs.out, ← hr.out, ← hi0.out, ← hG.out, ← hs0.out, ← hk.out]; rfl⟩
 have hs64 : s.length = 64 := by rw [← hs.out]; exact Cz r 64
 have hs32 : (s.take 32).length = 32 := by rw [List.length_take, hs64]; rfl
 refine Ab Tryz.func53 J 16 Tryz.ntmps53 J (.sr (.boxA J J ?_))
 intro n1 hn1 hf1
 refine .alloc (cs := (Aa (List.replicate 32 0))) J Zr24 J ?_
 intro n2 hn2 hf2
 refine .nsr (.lA J J J Y53 J Bw Z1 (Block.length zA) ?_)
 refine .call4 J J J J J Body49 (r15_Bytes B D hB) (fun w h => hW.ext h J) ?_
 rintro v7 out7 ⟨s7, rfl, hn7, hp7, hs7⟩
 refine .m J J J (.eX J J J J (.eX J J J J (.a J J J (.a J J J (.na (.seq (.sr (.m J J J (.nei J J J J J (.na (.condNP J (fun hc0 => ?_) (fun hc0 => ?_))))))))))))
 ·
  have hq0 : ¬ D.check = 0 := by omega
  refine .sr (.build (cs := Aa (List.replicate 32 0)) J J J (fun w => by kernel_rfl) ?_)
  refine .sA J J J J zE Bm sP mR sP (by (repeat (first | exact upd0 | apply Upd.seg))) ?_
  refine .na (.ret (Bg (An ?_)))
  refine ⟨_, [], Ao J J Y24 J Bm mR sP, sP, sP, ?_, rfl⟩
  (rw [nameD, if_neg hq0]; done)
 ·
  have hq0 : D.check = 0 := by omega
  refine .skip (Ae (.sr (.m J J J (.mkRow (z := .slice none 0 0) [s7.v] [s7.v] rfl J J Y133 Co Zr39 J J (by intro v hv; rw [List.mem_singleton.1 hv]; rfl) dE J ?_))))
  intro q14
  refine .cV J J J J Body81 (r2_Sum k s0 i0 G hk hk80 hs0 hs8 hG hGl hi0 hi8 (some ⟨q14, 0, none⟩) 1 1 [s7] [bytesR D] rfl J (fun j hj => (by obtain rfl : j = 0 := oM; exact ⟨by simp [hn7], hp7⟩)) (bytesR D) sP oM dE r hr s hs) (fun w h => ⟨SeesP.of (Ak h Z0), fun j hj => (by obtain rfl : j = 0 := oM; exact hs7 w (Lies.of h (by repeat (first | exact Bt | refine in_there ?_))))⟩) ?_
  refine .sA J J J J zE Bm (by (simp [hs64]; done)) mR sP uU ?_
  refine .na (.ret (An ?_))
  refine ⟨_, [], Ao J J Y24 J Bm mR (by simp [hs64]), sP, sP, ?_, rfl⟩
  (rw [nameD, if_pos hq0, ← show bytesR D = D.bytes from if_pos hq0, hsd.out]; done)

end Go.Proofs.YtpacobmjjjillaaGreat
end

section
namespace Go.Proofs.YtpacobmjjjillaaGreat
open Go Hw

open Ed

theorem r15_parents_nil (B : Block) (hB : B.ok) (ls : List (List UInt8)) (hn : B.fLinks.n ≤ 500000) (hs : (B.fSeq.toNat : Int) = 0) (h0 : B.fLinks.n = 0) : Meets Tryz.prog 55 [agg B.cells] [] (fun W => RowsAt W B.fLinks 32 ls) (fun v out => v = .slice none 0 0 ∧ out = []) := by
 intro W hW
 have hl0 : ∃ p c, B.fLinks.v = .slice p 0 c := ⟨_, _, by rw [Sl.v, h0]⟩
 obtain ⟨p9, c9, hl9⟩ := hl0
 have hg9 := Block.get_fLinks hB
 rw [hl9] at hg9
 refine Ab Tryz.func55 J 16 Tryz.ntmps55 J (.sr (.boxA J J ?_))
 intro n1 hn1 hf1
 refine .a J J J (.nsr (.a J J J (.na (.seq (.sr (.fld J J J Y53 J Ap dE _ J (.load1 J J J Y22 J Z0 (by exact Block.get_fSeq zA) ?_)))))))
 refine .gtr J J J J (decide_eq_false oM) (.na (.cond_f J (rfl) (.skip (Ae (.sr (.m J J J (.fld J J J Y53 J Sz51 dE _ J (.load1 J J J Y51 J Z0 hg9 ?_))))))))
 refine .appendNilNil J J J J Y51 Y51 Bm (.a J J J (.na (.ret (An ?_))))
 refine ⟨_, [], Ag J J, sP, sP, ?_, rfl⟩
 rfl

theorem r15_parents_0 (B : Block) (hB : B.ok) (ls : List (List UInt8)) (hn : B.fLinks.n ≤ 500000) (hs : (B.fSeq.toNat : Int) = 0) (h0 : 0 < B.fLinks.n) : Meets Tryz.prog 55 [agg B.cells] [] (fun W => RowsAt W B.fLinks 32 ls) (fun v out => FreshRow v out (Bv ls) 24 B.fLinks.n 32) := by
 intro W hW
 refine Ab Tryz.func55 J 16 Tryz.ntmps55 J (.sr (.boxA J J ?_))
 intro n1 hn1 hf1
 refine .a J J J (.nsr (.a J J J (.na (.seq (.sr (.fld J J J Y53 J Ap dE _ J (.load1 J J J Y22 J Z0 (by exact Block.get_fSeq zA) ?_)))))))
 refine .gtr J J J J (decide_eq_false oM) (.na (.cond_f J (rfl) (.skip (Ae (.sr (.m J J J (.fld J J J Y53 J Sz51 dE _ J (.load1 J J J Y51 J Z0 (by exact Block.get_fLinks zA) ?_))))))))
 refine .appendToNil (z := agg (Aa (List.replicate 32 0))) (by' := 32) (Bv ls) J J J J Y51 Y51 Bm Zr24 (by unfold By; kernel_rfl) J (fun w h => Ax h J hW.see) h0 (fun e => by have := hW.nil e; have := hW.cap; omega) (flatB_cell ls) oM oM (by rw [Bu hW.row, hW.len]) ?_
 intro q1 c1 hq1
 refine .a J J J (.na (.ret (An ?_)))
 refine ⟨_, [⟨q1, Bv ls, 24, c1 * 32⟩], Ag J J, (by intro b hb; rw [List.mem_singleton.1 hb]; exact Bo), Ce, ⟨q1, c1, rfl, hq1, rfl⟩⟩

theorem r15_parents_s (B : Block) (hB : B.ok) (ls : List (List UInt8)) (hn : B.fLinks.n ≤ 500000) (hs : ¬ (B.fSeq.toNat : Int) = 0) : Meets Tryz.prog 55 [agg B.cells] [] (fun W => RowsAt W B.fLinks 32 ls) (fun v out => FreshRow v out (Bv (B.fPrev :: ls)) 24 (1 + B.fLinks.n) 32) := by
 intro W hW
 refine Ab Tryz.func55 J 16 Tryz.ntmps55 J (.sr (.boxA J J ?_))
 intro n1 hn1 hf1
 refine .a J J J (.nsr (.a J J J (.na (.seq (.sr (.fld J J J Y53 J Ap dE _ J (.load1 J J J Y22 J Z0 (by exact Block.get_fSeq zA) ?_)))))))
 refine .gtr J J J J (decide_eq_true oM) (.na (.cond_t J (rfl) (.region (.m J J J (.fld J J J Y53 J Bm dE _ J (.lN (Aa _) J J J Y24 J Bm Z0 (Block.row_fPrev zA) (Block.rl_fPrev zA) ?_))))))
 refine .mkRow (z := agg (Aa (List.replicate 32 0))) [agg (Aa B.fPrev)] (Aa B.fPrev) J J J Y51 Bm Zr24 J J (by intro v hv; rw [List.mem_singleton.1 hv]; simp [Value.cells, hB.l_fPrev]) dE (by simp [Value.cells]) ?_
 intro q0
 refine .appendToNil (z := agg (Aa (List.replicate 32 0))) (by' := 32) (Aa B.fPrev) J J J J Y51 Y51 Bm Zr24 (by unfold By; kernel_rfl) J (fun w h => SeesP.of (Ak h Bo)) dE (fun e => by cases e) (by simp [Aa, isCell, u8]) dE dE (by simp [hB.l_fPrev]) ?_
 intro q1 c1 hq1
 refine .a J J J (.nsr (.m J J J (.fld J J J Y53 J Sz51 dE _ J (.load1 J J J Y51 J Z2 (by exact Block.get_fLinks zA) ?_))))
 refine .appendSl (z := agg (Aa (List.replicate 32 0))) (by' := 32) (Bv ls) J J J J J Y51 Y51 Bm Zr24 (by unfold By; kernel_rfl) J (fun w h => Ax h J hW.see) (fun e => by have := hW.nil e; have := hW.cap; omega) (flatB_cell ls) Az J (by simp [hB.l_fPrev]) hq1 oM oM (by rw [Bu hW.row, hW.len]) ?_
 intro q2 c2 hq2
 refine .a J J J (.na (.ret (An ?_)))
 refine ⟨_, [⟨q2, Aa B.fPrev ++ Bv ls, 24, c2 * 32⟩], Ag J J, (by intro b hb; rw [List.mem_singleton.1 hb]; exact Bo), Ce, ⟨q2, c2, rfl, hq2, rfl⟩⟩

def RowsR (L : List (List UInt8)) (v : Value) (out : List Blk) : Prop := ∃ s : Sl, v = s.v ∧ s.n = L.length ∧ ∀ W2, Lies out W2 → SeesP W2 s.p (Bv L)
def parL (D : DB) : List (List UInt8) := if D.seq = 0 then D.ls else D.prev :: D.ls
theorem parL_row {D : DB} (h : D.ok) : ∀ l ∈ parL D, l.length = 32 := by
  intro l hl
  unfold parL at hl
  split at hl
  · exact h.ls l hl
  · rcases List.mem_cons.1 hl with rfl | hl
    · exact h.prev
    · exact h.ls l hl
theorem RowsR.loose {L : List (List UInt8)} (hr : ∀ l ∈ L, l.length = 32) : Loose (RowsR L) := fun l hl => by
  obtain ⟨v, out, ⟨q, c, h1, h2, h3⟩, h4⟩ := FreshRow.loose (Bv L) 24 L.length 32 l hl
  exact ⟨v, out, ⟨⟨some ⟨q, 0, none⟩, L.length, c⟩, h1, rfl, fun W2 h => by subst h3; exact (Acc.some (E := 24) h2 (Bu hr)).see h⟩, h4⟩
theorem fresh_rows {L : List (List UInt8)} {n : Nat} (hr : ∀ l ∈ L, l.length = 32) (hn : L.length = n) {v : Value} {out : List Blk} (h : FreshRow v out (Bv L) 24 n 32) : RowsR L v out := by
  obtain ⟨q, c, h1, h2, h3⟩ := h
  exact ⟨⟨some ⟨q, 0, none⟩, n, c⟩, h1, hn.symm, fun W2 h => by subst h3; exact (Acc.some (E := 24) h2 (by rw [Bu hr, hn])).see h⟩

theorem db_parents (B : Block) (D : DB) (hn : D.ls.length ≤ 500000) : Meets Tryz.prog 46 [agg B.cells] [] (fun W => BlockIs W B D) (RowsR (parL D)) := fun W hW => by
  have e1 := hW.ls.len
  have hsq := hW.seq
  have hL := parL_row hW.dok
  by_cases hs : (B.fSeq.toNat : Int) = 0
  · have hp : parL D = D.ls := if_pos (by rw [← hsq]; exact UInt64.toNat_inj.1 (by show B.fSeq.toNat = 0; omega))
    rw [hp] at hL ⊢
    by_cases h0 : B.fLinks.n = 0
    · have hl0 : D.ls = [] := List.eq_nil_of_length_eq_zero oM
      exact (parents_nil B hW.ok D.ls oM hs h0 W hW.ls).mono fun e W' ⟨v, out, h1, ⟨h2, h3⟩, h4⟩ => ⟨v, out, h1, ⟨Sl.nil, h2, by rw [hl0]; rfl, fun W2 _ => by rw [hl0]; exact SeesP.nil⟩, h4⟩
    · exact (parents_0 B hW.ok D.ls oM hs oM W hW.ls).mono fun e W' ⟨v, out, h1, h2, h4⟩ => ⟨v, out, h1, fresh_rows hL e1 h2, h4⟩
  · have hp : parL D = D.prev :: D.ls := if_neg (fun e => hs (by rw [hsq, e]; rfl))
    rw [hp] at hL ⊢
    rw [← hW.prev] at hL ⊢
    exact (parents_s B hW.ok D.ls oM hs W hW.ls).mono fun e W' ⟨v, out, h1, h2, h4⟩ => ⟨v, out, h1, fresh_rows hL (by rw [List.length_cons]; omega) h2, h4⟩

theorem r15_Parents (B : Block) (D : DB) (hn : D.ls.length ≤ 500000) : Meets Tryz.prog 55 [agg B.cells] [] (fun W => BlockIs W B D) (RowsR (parL D)) := fun W hW => by
  have e1 := hW.ls.len
  have hsq := hW.seq
  have hL := parL_row hW.dok
  by_cases hs : (B.fSeq.toNat : Int) = 0
  · have hp : parL D = D.ls := if_pos (by rw [← hsq]; exact UInt64.toNat_inj.1 (by show B.fSeq.toNat = 0; omega))
    rw [hp] at hL ⊢
    by_cases h0 : B.fLinks.n = 0
    · have hl0 : D.ls = [] := List.eq_nil_of_length_eq_zero oM
      exact (r15_parents_nil B hW.ok D.ls oM hs h0 W hW.ls).mono fun e W' ⟨v, out, h1, ⟨h2, h3⟩, h4⟩ => ⟨v, out, h1, ⟨Sl.nil, h2, by rw [hl0]; rfl, fun W2 _ => by rw [hl0]; exact SeesP.nil⟩, h4⟩
    · exact (r15_parents_0 B hW.ok D.ls oM hs oM W hW.ls).mono fun e W' ⟨v, out, h1, h2, h4⟩ => ⟨v, out, h1, fresh_rows hL e1 h2, h4⟩
  · have hp : parL D = D.prev :: D.ls := if_neg (fun e => hs (by rw [hsq, e]; rfl))
    rw [hp] at hL ⊢
    rw [← hW.prev] at hL ⊢
    exact (r15_parents_s B hW.ok D.ls oM hs W hW.ls).mono fun e W' ⟨v, out, h1, h2, h4⟩ => ⟨v, out, h1, fresh_rows hL (by rw [List.length_cons]; omega) h2, h4⟩

theorem check_many {D : DB} (h : 16 < D.ls.length) : ¬ D.check = 0 := fun e => by have := D.head_small e; omega
theorem endR_err {N a : Nat} {e : Int} (h : ¬ e = 0) : ¬ endR N a e = 0 := by unfold endR; rw [if_neg h]; exact h

theorem r15_Read_e (pa : Option Addr) (n c : Nat) (xs : List UInt8) (hl : xs.length = n) (hp : pa = none → n = 0) (hn : n ≤ 90000) (l1 : List UInt8) (a1 : Nat) (e1 : Int) (x2 : UInt64) (a2 : Nat) (e2 : Int) (l3 : List UInt8) (a3 : Nat) (e3 : Int) (x4 : UInt64) (a4 : Nat) (e4 : Int) (ls : List (List UInt8)) (a5 : Nat) (e5 : Int) (o : Option (List UInt8)) (a6 : Nat) (e6 : Int) (l7 : List UInt8) (a7 : Nat) (e7 : Int) (h1 : digR xs 0 0 = (l1, a1, e1)) (h2 : Cb xs a1 e1 = (x2, a2, e2)) (h3 : digR xs a2 e2 = (l3, a3, e3)) (h4 : Cb xs a3 e3 = (x4, a4, e4)) (h5 : Ch xs (min x4.toNat 17) a4 e4 = (ls, a5, e5)) (h6 : blkR xs a5 e5 = (o, a6, e6)) (h7 : takR xs 64 a6 e6 = (l7, a7, e7)) (he4 : ¬ e4 = 0) : Meets Tryz.prog 50 [.slice pa n c] [] (fun W => SeesP W pa (Aa xs)) (fun v out => ∃ B : Block, B.ok ∧ v = .tuple #[agg B.cells, i64 (readD xs).2] ∧ ∀ W2, Lies out W2 → BlockIs W2 B (readD xs).1) := by
 intro W hW
 have hrp : readP xs = ((⟨l1, x2, l3, ls, o.getD [], l7 ++ (List.replicate 64 0).drop l7.length⟩ : DB), a7, e7) := by simp only [readP, h1, h2, h3, h4, h5, h6, h7]
 have hd1 := digE_le h1 hl (Nat.zero_le _)
 have hd2 := numE_le h2 hl hd1.1
 have hd3 := digE_le h3 hl hd2
 have hd4 := numE_le h4 hl hd3.1
 have hd5 := digsR_at (e := e4) hl hd4 (min x4.toNat 17)
 rw [h5] at hd5
 have hd6 := blkE_le h6 hl hd5.1
 have hd7 := takE_le h7 hl hd6.1
 have hs64 : (l7 ++ Block.zero.fSig.drop l7.length).length = 64 := by rcases hd7.2 with h | h <;> simp [h, Block.zero]
 have hlen7 : l7.length ≤ 64 := by rcases hd7.2 with h | h <;> simp [h]
 have ok1 : ({ Block.zero with fWriter := l1 } : Block).ok := ⟨hd1.2, rfl, rfl⟩
 have ok2 : ({ Block.zero with fWriter := l1, fSeq := x2 } : Block).ok := ⟨hd1.2, rfl, rfl⟩
 have okL : ∀ s, ({ Block.zero with fWriter := l1, fSeq := x2, fPrev := l3, fLinks := s } : Block).ok := fun s => ⟨hd1.2, hd3.2, rfl⟩
 have okD : ∀ s d, ({ Block.zero with fWriter := l1, fSeq := x2, fPrev := l3, fLinks := s, fData := d } : Block).ok := fun s d => ⟨hd1.2, hd3.2, rfl⟩
 have okX : ∀ s2 s3, ({ Block.zero with fWriter := l1, fSeq := x2, fPrev := l3, fLinks := s2, fData := s3, fSig := l7 ++ Block.zero.fSig.drop l7.length } : Block).ok := fun s2 s3 => ⟨hd1.2, hd3.2, hs64⟩
 have hbad : ¬ (endR xs.length a7 e7 = 0 ∧ ((⟨l1, x2, l3, ls, o.getD [], l7 ++ (List.replicate 64 0).drop l7.length⟩ : DB)).check = 0) := by
  have g5 : e5 = e4 := by have := digsR_err (xs := xs) (a := a4) he4 (min x4.toNat 17); rwa [h5] at this
  have g6 : e6 = e5 := by have := blkR_err (xs := xs) (a := a5) (e := e5) (by rw [g5]; exact he4); rwa [h6] at this
  have g7 : e7 = e6 := by have := takR_err (xs := xs) (m := 64) (a := a6) (e := e6) (by rw [g6, g5]; exact he4); rwa [h7] at this
  exact fun h => endR_err (by rw [g7, g6, g5]; exact he4) h.1
 refine Ab Tryz.func50 J 62 Tryz.ntmps50 J (.sr (.alloc (cs := Block.zero.cells) J Block.zr J ?_))
 intro n2 hn2 hf2
 refine .a J J J (.nsr (.m J J J (.call4 J J J J J Body76 (r1_Read pa n c xs hl hp hn) (fun w h => Ax h J hW) ?_)))
 rintro v9 out9 ⟨n9, q9, cp9, rfl, hcp9, rfl⟩
 refine .nd (fun hnd => ?_)
 have hne : q9 ≠ n9 := by intro e; simp [R1B, e] at hnd
 clear hnd
 refine .a J J J (.nsr (.alloc (cs := Block.zero.cells) J Block.zr J ?_))
 intro n5 hn5 hf5
 refine .nsr (.m J J J (.callL (L := [R1B n9 q9 (0) n cp9 (0) (0)]) J J J J J Body78 (r1_DigestE n9 q9 0 n cp9 0 0 xs hl (Nat.zero_le _) hcp9 oM (fun _ => rfl) l1 a1 e1 h1) (Ai rM Au) (Bp J) (fun w h => ⟨Av h Z1, Ak h Z2, hne⟩) ?_))
 rintro v11 out11 ⟨o11, ho11, rfl, rfl⟩
 refine .fld J J J Y53 J Sz25 dE _ J (.storeN (Aa _) J J J J J zE Sz25 (by simp [hd1.2]) Z1 (by rw [Block.length (by exact Block.zero_ok)]; simp [hd1.2]) (Block.upd_fWriter (by exact Block.zero_ok) _ (by simp [hd1.2])) zV ?_)
 refine .nsr (.m J J J (.callL (L := [R1B n9 q9 (o11) n cp9 (a1) (e1)]) J J J J J Body77 (r1_NumberE n9 q9 o11 n cp9 a1 e1 xs hl hd1.1 hcp9 oM ho11 x2 a2 e2 h2) (Ai rM Au) (Bp J) (fun w h => ⟨Av h Z0, Ak h Z2, hne⟩) ?_))
 rintro v14 out14 ⟨o14, ho14, rfl, rfl⟩
 refine .fld J J J Y53 J Ap dE _ J (.s1 J J J J J Ap Z1 (by rw [Block.length zA]; decide) (Block.set_fSeq zA _) zV ?_)
 refine .nsr (.m J J J (.callL (L := [R1B n9 q9 (o14) n cp9 (a2) (e2)]) J J J J J Body78 (r1_DigestE n9 q9 o14 n cp9 a2 e2 xs hl hd2 hcp9 oM ho14 l3 a3 e3 h3) (Ai rM Au) (Bp J) (fun w h => ⟨Av h Z0, Ak h Z2, hne⟩) ?_))
 rintro v17 out17 ⟨o17, ho17, rfl, rfl⟩
 refine .fld J J J Y53 J Bm dE _ J (.storeN (Aa _) J J J J J zE Bm (by simp [hd3.2]) Z1 (by rw [Block.length zA]; simp [hd3.2]) (Block.upd_fPrev zA _ (by simp [hd3.2])) zV ?_)
 refine .nsr (.m J J J (.callL (L := [R1B n9 q9 (o17) n cp9 (a3) (e3)]) J J J J J Body77 (r1_NumberE n9 q9 o17 n cp9 a3 e3 xs hl hd3.1 hcp9 oM ho17 x4 a4 e4 h4) (Ai rM Au) (Bp J) (fun w h => ⟨Av h Z0, Ak h Z2, hne⟩) ?_))
 rintro v20 out20 ⟨o20, ho20, rfl, rfl⟩
 refine .a J J J (.na (.seq (.sr (.m J J J (.nC J J J (.fld J J J Db J Sz31 dE _ J (.load1 J J J Y31 J Z0 (by exact Rdr.get_fE (by exact Bc _ _ _ _ _ _)) ?_)))))))
 refine .nei J J J J (show (!decide _) = true from congrArg not (decide_eq_false (he4))) (.m J J J (.skp J J (.skp J J (.pick J J J J J J (.na (.cond_t J (rfl) (.sr (.build (cs := Block.zero.cells) J J J (fun w => by kernel_rfl) ?_))))))))
 refine .sA J J J J (Block.isCell (by exact Block.zero_ok)) Bw (Block.length (by exact Block.zero_ok)) Z3 (Block.length (by exact Block.zero_ok)) (by exact upd3) ?_
 refine .a J J J (.na (.ret (Bg (An (Be (out := []) (A0 J J J Y53 J Bw Z3 (by exact Block.length (by exact Block.zero_ok))) Au ?_)))))
 exact fin_bad (by rw [hrp]; exact hbad)

theorem r15_Read_m (pa : Option Addr) (n c : Nat) (xs : List UInt8) (hl : xs.length = n) (hp : pa = none → n = 0) (hn : n ≤ 90000) (l1 : List UInt8) (a1 : Nat) (e1 : Int) (x2 : UInt64) (a2 : Nat) (e2 : Int) (l3 : List UInt8) (a3 : Nat) (e3 : Int) (x4 : UInt64) (a4 : Nat) (e4 : Int) (ls : List (List UInt8)) (a5 : Nat) (e5 : Int) (o : Option (List UInt8)) (a6 : Nat) (e6 : Int) (l7 : List UInt8) (a7 : Nat) (e7 : Int) (h1 : digR xs 0 0 = (l1, a1, e1)) (h2 : Cb xs a1 e1 = (x2, a2, e2)) (h3 : digR xs a2 e2 = (l3, a3, e3)) (h4 : Cb xs a3 e3 = (x4, a4, e4)) (h5 : Ch xs (min x4.toNat 17) a4 e4 = (ls, a5, e5)) (h6 : blkR xs a5 e5 = (o, a6, e6)) (h7 : takR xs 64 a6 e6 = (l7, a7, e7)) (he4 : e4 = 0) (hm : 16 < x4.toNat) : Meets Tryz.prog 50 [.slice pa n c] [] (fun W => SeesP W pa (Aa xs)) (fun v out => ∃ B : Block, B.ok ∧ v = .tuple #[agg B.cells, i64 (readD xs).2] ∧ ∀ W2, Lies out W2 → BlockIs W2 B (readD xs).1) := by
 intro W hW
 subst he4
 have hrp : readP xs = ((⟨l1, x2, l3, ls, o.getD [], l7 ++ (List.replicate 64 0).drop l7.length⟩ : DB), a7, e7) := by simp only [readP, h1, h2, h3, h4, h5, h6, h7]
 have hd1 := digE_le h1 hl (Nat.zero_le _)
 have hd2 := numE_le h2 hl hd1.1
 have hd3 := digE_le h3 hl hd2
 have hd4 := numE_le h4 hl hd3.1
 have hd5 := digsR_at (e := 0) hl hd4 (min x4.toNat 17)
 rw [h5] at hd5
 have hd6 := blkE_le h6 hl hd5.1
 have hd7 := takE_le h7 hl hd6.1
 have hs64 : (l7 ++ Block.zero.fSig.drop l7.length).length = 64 := by rcases hd7.2 with h | h <;> simp [h, Block.zero]
 have hlen7 : l7.length ≤ 64 := by rcases hd7.2 with h | h <;> simp [h]
 have ok1 : ({ Block.zero with fWriter := l1 } : Block).ok := ⟨hd1.2, rfl, rfl⟩
 have ok2 : ({ Block.zero with fWriter := l1, fSeq := x2 } : Block).ok := ⟨hd1.2, rfl, rfl⟩
 have okL : ∀ s, ({ Block.zero with fWriter := l1, fSeq := x2, fPrev := l3, fLinks := s } : Block).ok := fun s => ⟨hd1.2, hd3.2, rfl⟩
 have okD : ∀ s d, ({ Block.zero with fWriter := l1, fSeq := x2, fPrev := l3, fLinks := s, fData := d } : Block).ok := fun s d => ⟨hd1.2, hd3.2, rfl⟩
 have okX : ∀ s2 s3, ({ Block.zero with fWriter := l1, fSeq := x2, fPrev := l3, fLinks := s2, fData := s3, fSig := l7 ++ Block.zero.fSig.drop l7.length } : Block).ok := fun s2 s3 => ⟨hd1.2, hd3.2, hs64⟩
 have hbad : ¬ (endR xs.length a7 e7 = 0 ∧ ((⟨l1, x2, l3, ls, o.getD [], l7 ++ (List.replicate 64 0).drop l7.length⟩ : DB)).check = 0) := fun h => check_many (by show 16 < ls.length; rw [hd5.2.2]; omega) h.2
 refine Ab Tryz.func50 J 62 Tryz.ntmps50 J (.sr (.alloc (cs := Block.zero.cells) J Block.zr J ?_))
 intro n2 hn2 hf2
 refine .a J J J (.nsr (.m J J J (.call4 J J J J J Body76 (r1_Read pa n c xs hl hp hn) (fun w h => Ax h J hW) ?_)))
 rintro v9 out9 ⟨n9, q9, cp9, rfl, hcp9, rfl⟩
 refine .nd (fun hnd => ?_)
 have hne : q9 ≠ n9 := by intro e; simp [R1B, e] at hnd
 clear hnd
 refine .a J J J (.nsr (.alloc (cs := Block.zero.cells) J Block.zr J ?_))
 intro n5 hn5 hf5
 refine .nsr (.m J J J (.callL (L := [R1B n9 q9 (0) n cp9 (0) (0)]) J J J J J Body78 (r1_DigestE n9 q9 0 n cp9 0 0 xs hl (Nat.zero_le _) hcp9 oM (fun _ => rfl) l1 a1 e1 h1) (Ai rM Au) (Bp J) (fun w h => ⟨Av h Z1, Ak h Z2, hne⟩) ?_))
 rintro v11 out11 ⟨o11, ho11, rfl, rfl⟩
 refine .fld J J J Y53 J Sz25 dE _ J (.storeN (Aa _) J J J J J zE Sz25 (by simp [hd1.2]) Z1 (by rw [Block.length (by exact Block.zero_ok)]; simp [hd1.2]) (Block.upd_fWriter (by exact Block.zero_ok) _ (by simp [hd1.2])) zV ?_)
 refine .nsr (.m J J J (.callL (L := [R1B n9 q9 (o11) n cp9 (a1) (e1)]) J J J J J Body77 (r1_NumberE n9 q9 o11 n cp9 a1 e1 xs hl hd1.1 hcp9 oM ho11 x2 a2 e2 h2) (Ai rM Au) (Bp J) (fun w h => ⟨Av h Z0, Ak h Z2, hne⟩) ?_))
 rintro v14 out14 ⟨o14, ho14, rfl, rfl⟩
 refine .fld J J J Y53 J Ap dE _ J (.s1 J J J J J Ap Z1 (by rw [Block.length zA]; decide) (Block.set_fSeq zA _) zV ?_)
 refine .nsr (.m J J J (.callL (L := [R1B n9 q9 (o14) n cp9 (a2) (e2)]) J J J J J Body78 (r1_DigestE n9 q9 o14 n cp9 a2 e2 xs hl hd2 hcp9 oM ho14 l3 a3 e3 h3) (Ai rM Au) (Bp J) (fun w h => ⟨Av h Z0, Ak h Z2, hne⟩) ?_))
 rintro v17 out17 ⟨o17, ho17, rfl, rfl⟩
 refine .fld J J J Y53 J Bm dE _ J (.storeN (Aa _) J J J J J zE Bm (by simp [hd3.2]) Z1 (by rw [Block.length zA]; simp [hd3.2]) (Block.upd_fPrev zA _ (by simp [hd3.2])) zV ?_)
 refine .nsr (.m J J J (.callL (L := [R1B n9 q9 (o17) n cp9 (a3) (e3)]) J J J J J Body77 (r1_NumberE n9 q9 o17 n cp9 a3 e3 xs hl hd3.1 hcp9 oM ho17 x4 a4 0 h4) (Ai rM Au) (Bp J) (fun w h => ⟨Av h Z0, Ak h Z2, hne⟩) ?_))
 rintro v20 out20 ⟨o20, ho20, rfl, rfl⟩
 refine .a J J J (.na (.seq (.sr (.m J J J (.nC J J J (.fld J J J Db J Sz31 dE _ J (.load1 J J J Y31 J Z0 (by exact Rdr.get_fE (by exact Bc _ _ _ _ _ _)) ?_)))))))
 refine .nei J J J J (show (!decide _) = false from congrArg not (decide_eq_true (rfl))) (.m J J J (.m J J J (.gtr J J J J (decide_eq_true oM) (.pick J J J J J J (.na (.cond_t J (rfl) (.sr (.build (cs := Block.zero.cells) J J J (fun w => by kernel_rfl) ?_))))))))
 refine .sA J J J J (Block.isCell (by exact Block.zero_ok)) Bw (Block.length (by exact Block.zero_ok)) Z3 (Block.length (by exact Block.zero_ok)) (by exact upd3) ?_
 refine .a J J J (.na (.ret (Bg (An (Be (out := []) (A0 J J J Y53 J Bw Z3 (by exact Block.length (by exact Block.zero_ok))) Au ?_)))))
 exact fin_bad (by rw [hrp]; exact hbad)

theorem r15_Read_k (pa : Option Addr) (n c : Nat) (xs : List UInt8) (hl : xs.length = n) (hp : pa = none → n = 0) (hn : n ≤ 90000) (l1 : List UInt8) (a1 : Nat) (e1 : Int) (x2 : UInt64) (a2 : Nat) (e2 : Int) (l3 : List UInt8) (a3 : Nat) (e3 : Int) (x4 : UInt64) (a4 : Nat) (e4 : Int) (ls : List (List UInt8)) (a5 : Nat) (e5 : Int) (o : Option (List UInt8)) (a6 : Nat) (e6 : Int) (l7 : List UInt8) (a7 : Nat) (e7 : Int) (h1 : digR xs 0 0 = (l1, a1, e1)) (h2 : Cb xs a1 e1 = (x2, a2, e2)) (h3 : digR xs a2 e2 = (l3, a3, e3)) (h4 : Cb xs a3 e3 = (x4, a4, e4)) (h5 : Ch xs (min x4.toNat 17) a4 e4 = (ls, a5, e5)) (h6 : blkR xs a5 e5 = (o, a6, e6)) (h7 : takR xs 64 a6 e6 = (l7, a7, e7)) (he4 : e4 = 0) (hm : x4.toNat ≤ 16) : Meets Tryz.prog 50 [.slice pa n c] [] (fun W => SeesP W pa (Aa xs)) (fun v out => ∃ B : Block, B.ok ∧ v = .tuple #[agg B.cells, i64 (readD xs).2] ∧ ∀ W2, Lies out W2 → BlockIs W2 B (readD xs).1) := by
 intro W hW
 subst he4
 have hrp : readP xs = ((⟨l1, x2, l3, ls, o.getD [], l7 ++ (List.replicate 64 0).drop l7.length⟩ : DB), a7, e7) := by simp only [readP, h1, h2, h3, h4, h5, h6, h7]
 have hd1 := digE_le h1 hl (Nat.zero_le _)
 have hd2 := numE_le h2 hl hd1.1
 have hd3 := digE_le h3 hl hd2
 have hd4 := numE_le h4 hl hd3.1
 have hd5 := digsR_at (e := 0) hl hd4 (min x4.toNat 17)
 rw [h5] at hd5
 have hd6 := blkE_le h6 hl hd5.1
 have hd7 := takE_le h7 hl hd6.1
 have hs64 : (l7 ++ Block.zero.fSig.drop l7.length).length = 64 := by rcases hd7.2 with h | h <;> simp [h, Block.zero]
 have hlen7 : l7.length ≤ 64 := by rcases hd7.2 with h | h <;> simp [h]
 have ok1 : ({ Block.zero with fWriter := l1 } : Block).ok := ⟨hd1.2, rfl, rfl⟩
 have ok2 : ({ Block.zero with fWriter := l1, fSeq := x2 } : Block).ok := ⟨hd1.2, rfl, rfl⟩
 have okL : ∀ s, ({ Block.zero with fWriter := l1, fSeq := x2, fPrev := l3, fLinks := s } : Block).ok := fun s => ⟨hd1.2, hd3.2, rfl⟩
 have okD : ∀ s d, ({ Block.zero with fWriter := l1, fSeq := x2, fPrev := l3, fLinks := s, fData := d } : Block).ok := fun s d => ⟨hd1.2, hd3.2, rfl⟩
 have okX : ∀ s2 s3, ({ Block.zero with fWriter := l1, fSeq := x2, fPrev := l3, fLinks := s2, fData := s3, fSig := l7 ++ Block.zero.fSig.drop l7.length } : Block).ok := fun s2 s3 => ⟨hd1.2, hd3.2, hs64⟩
 refine Ab Tryz.func50 J 62 Tryz.ntmps50 J (.sr (.alloc (cs := Block.zero.cells) J Block.zr J ?_))
 intro n2 hn2 hf2
 refine .a J J J (.nsr (.m J J J (.call4 J J J J J Body76 (r1_Read pa n c xs hl hp hn) (fun w h => Ax h J hW) ?_)))
 rintro v9 out9 ⟨n9, q9, cp9, rfl, hcp9, rfl⟩
 refine .nd (fun hnd => ?_)
 have hne : q9 ≠ n9 := by intro e; simp [R1B, e] at hnd
 clear hnd
 refine .a J J J (.nsr (.alloc (cs := Block.zero.cells) J Block.zr J ?_))
 intro n5 hn5 hf5
 refine .nsr (.m J J J (.callL (L := [R1B n9 q9 (0) n cp9 (0) (0)]) J J J J J Body78 (r1_DigestE n9 q9 0 n cp9 0 0 xs hl (Nat.zero_le _) hcp9 oM (fun _ => rfl) l1 a1 e1 h1) (Ai rM Au) (Bp J) (fun w h => ⟨Av h Z1, Ak h Z2, hne⟩) ?_))
 rintro v11 out11 ⟨o11, ho11, rfl, rfl⟩
 refine .fld J J J Y53 J Sz25 dE _ J (.storeN (Aa _) J J J J J zE Sz25 (by simp [hd1.2]) Z1 (by rw [Block.length (by exact Block.zero_ok)]; simp [hd1.2]) (Block.upd_fWriter (by exact Block.zero_ok) _ (by simp [hd1.2])) zV ?_)
 refine .nsr (.m J J J (.callL (L := [R1B n9 q9 (o11) n cp9 (a1) (e1)]) J J J J J Body77 (r1_NumberE n9 q9 o11 n cp9 a1 e1 xs hl hd1.1 hcp9 oM ho11 x2 a2 e2 h2) (Ai rM Au) (Bp J) (fun w h => ⟨Av h Z0, Ak h Z2, hne⟩) ?_))
 rintro v14 out14 ⟨o14, ho14, rfl, rfl⟩
 refine .fld J J J Y53 J Ap dE _ J (.s1 J J J J J Ap Z1 (by rw [Block.length zA]; decide) (Block.set_fSeq zA _) zV ?_)
 refine .nsr (.m J J J (.callL (L := [R1B n9 q9 (o14) n cp9 (a2) (e2)]) J J J J J Body78 (r1_DigestE n9 q9 o14 n cp9 a2 e2 xs hl hd2 hcp9 oM ho14 l3 a3 e3 h3) (Ai rM Au) (Bp J) (fun w h => ⟨Av h Z0, Ak h Z2, hne⟩) ?_))
 rintro v17 out17 ⟨o17, ho17, rfl, rfl⟩
 refine .fld J J J Y53 J Bm dE _ J (.storeN (Aa _) J J J J J zE Bm (by simp [hd3.2]) Z1 (by rw [Block.length zA]; simp [hd3.2]) (Block.upd_fPrev zA _ (by simp [hd3.2])) zV ?_)
 refine .nsr (.m J J J (.callL (L := [R1B n9 q9 (o17) n cp9 (a3) (e3)]) J J J J J Body77 (r1_NumberE n9 q9 o17 n cp9 a3 e3 xs hl hd3.1 hcp9 oM ho17 x4 a4 0 h4) (Ai rM Au) (Bp J) (fun w h => ⟨Av h Z0, Ak h Z2, hne⟩) ?_))
 rintro v20 out20 ⟨o20, ho20, rfl, rfl⟩
 refine .a J J J (.na (.seq (.sr (.m J J J (.nC J J J (.fld J J J Db J Sz31 dE _ J (.load1 J J J Y31 J Z0 (by exact Rdr.get_fE (by exact Bc _ _ _ _ _ _)) ?_)))))))
 refine .nei J J J J (show (!decide _) = false from congrArg not (decide_eq_true (rfl))) (.m J J J (.m J J J (.gtr J J J J (decide_eq_false oM) (.pick J J J J J J (.na (.cond_f J (rfl) (.skip (Ae (.seq (.sr (.a J J J (.na (.block (.loop (ι := Nat × Nat × Sl × List Blk) (fun p => ⟨[(2, ptr n2 0), (4, ptr n9 0), (5, ptr n5 0), (6, u64 x4), (7, i64 (p.1 : Int))], (R1B n9 q9 p.2.1 n cp9 (Ch xs p.1 a4 0).2.1 (Ch xs p.1 a4 0).2.2 :: (⟨q9, Aa xs, 5, cp9 * 1⟩ :: (⟨n5, ({ Block.zero with fWriter := l1, fSeq := x2, fPrev := l3, fLinks := p.2.2.1 } : Block).cells, 53, 131⟩ :: (⟨n2, Block.zero.cells, 53, 131⟩ :: (p.2.2.2 ++ [])))))⟩) (fun p => p.1 ≤ x4.toNat ∧ At1 cp9 (Ch xs p.1 a4 0).2.1 p.2.1 ∧ Acc p.2.2.1 p.2.2.2 (Bv (Ch xs p.1 a4 0).1) 24 p.1 32) (fun p => x4.toNat - p.1) ((0, o20, Sl.nil, [])) ?_ ?_ ?_))))))))))))))
 · exact ⟨Nat.zero_le _, ho20, Acc.none⟩
 · exact Bh (wk1 rfl (wk1 rfl (wk1 rfl (wk1 rfl (wk1 rfl wk0))))) (Ai rM (Ai rM (Ai rM (Ai rM (pm_none Au)))))
 ·
  rintro p ⟨hp1, hop, hac⟩
  have hD := digsR_at (e := 0) hl hd4 p.1
  obtain ⟨l8, r8, hd8⟩ : ∃ l r, digR xs (Ch xs p.1 a4 0).2.1 (Ch xs p.1 a4 0).2.2 = (l, r) := ⟨_, _, rfl⟩
  obtain ⟨a8, e8⟩ := r8
  have hdl := digE_le hd8 hl hD.1
  have hs8 := digsR_succ hd8
  refine .seq (.sr (.m J J J (.m J J J (.conv J J J Y22 Y3 (cv_u64_i64 oM) (.lss J J J J J (.na (.condP J (fun hc1 => ?_) (fun hc1 => ?_))))))))
  ·
   have hp3 : p.1 < x4.toNat := by omega
   refine .skip (Ae (.seq (.block (.drawK (sp_v (sp_v (sp_k (sp_v (sp_x sp_n))))) J [(0, 0), (0, 1), (0, 2), (4, 3), (2, 4), (4, 5), (0, 6)] [(4, 7)] Ar zK zK (.fld J J J Y53 J Sz51 dE _ J (.kload1 J J J Y51 J Z0 (by exact Block.get_fLinks (by exact okL _)) ?_))))))
   refine .m J J J (.callL (L := [R1B n9 q9 p.2.1 n cp9 (Ch xs p.1 a4 0).2.1 (Ch xs p.1 a4 0).2.2]) J J J J J Body78 (r1_DigestE n9 q9 p.2.1 n cp9 (Ch xs p.1 a4 0).2.1 (Ch xs p.1 a4 0).2.2 xs hl hD.1 hcp9 oM hop l8 a8 e8 hd8) (Ai rM Au) (Bp J) (fun w h => ⟨Av h Z0, Ak h Z1, hne⟩) ?_)
   rintro v40 out40 ⟨o40, ho40, rfl, rfl⟩
   refine .mkRow2 (z := agg (Aa (List.replicate 32 0))) [agg (Aa l8)] (Aa l8) J J Y51 Bm Zr24 J J (by intro v hv; rw [List.mem_singleton.1 hv]; simp [Value.cells, hdl.2]) dE (by simp [Value.cells]) ?_
   intro q41
   refine .appendAcc (z := agg (Aa (List.replicate 32 0))) (by' := 32) (Aa l8) J J J J J Y51 Y51 Bm Zr24 (by unfold By; kernel_rfl) J hac sG (fun w h => SeesP.of (Ak h Z0)) (fun e => by cases e) (Aw _) oM oM (by simp [Aa, hdl.2]) ?_
   intro s42 bl42 hac42
   refine .fld J J J Y53 J Sz51 dE _ J (.nil (.s1 J J J J J Sz51 Z0 (by rw [Block.length (by exact okL _)]; decide) (by exact Block.set_fLinks (by exact okL _) _) zU ?_))
   refine .nil (Bj (Ae (.region (.m J J J (.aI J J J J oM (.a J J J (.na ?_)))))))
   refine ⟨(p.1 + 1, o40, s42, bl42), ⟨by simp only []; omega, by simp only [hs8]; exact ho40, ?_⟩, by simp only []; omega, Bh (wk1 J (wk1 J (wk1 J (wk1 J (wk1 (by rw [Int.natCast_add]; rfl) wk0))))) (pm_consE rM (by simp only [hs8]) J (Ai rM (Ai rM (Ai rM (B6 sG Au)))))⟩
   simp only [hs8]
   rw [flatB_append]
   simpa [Bv] using hac42
  ·
   have hp3 : p.1 = min x4.toNat 17 := by omega
   rw [hp3, h5] at hac hop
   rw [hp3, h5]
   have hlp : ls.length = min x4.toNat 17 := hd5.2.2
   refine .exit (A1 (A1 (B5 (Ae (.sr (.m J J J (.callL (L := [R1B n9 q9 p.2.1 n cp9 a5 e5]) J J J J J Body100 (r1_BlockE n9 q9 p.2.1 n cp9 a5 e5 xs hl hd5.1 hcp9 oM hop o a6 e6 h6) (Ai rM Au) (Bp J) (fun w h => ⟨Av h Z0, Ak h Z1, hne⟩) ?_)))))))
   rintro v45 out45 ⟨s45, bl45, o45, ho45, rfl, hac45, rfl⟩
   simp only [List.append_assoc, List.cons_append, List.nil_append]
   refine .fld J J J Y53 J Co dE _ J (.s1 J J J J J Co mR (by rw [Block.length (by exact okL _)]; decide) (by exact Block.set_fData (by exact okL _) _) uU ?_)
   refine .na (.seq (.draw [(0, 0), (0, 1), (0, 2), (4, 3), (4, 4)] Ar zK (.fld J J J Y53 J Sz27 dE _ J (.sliceArr J J J Y27 Sz5 (.m J J J (.callL (L := [R1B n9 q9 o45 n cp9 a6 e6]) J J J J J Body79 (r1_TakeE n9 q9 o45 n cp9 a6 e6 64 dE dE xs hl hd6.1 hcp9 oM ho45 l7 a7 e7 h7) (Ai (by repeat (first | exact Az | apply rem_seg)) Au) (Bp J) (fun w h => ⟨Av h mR, Ak h mR, hne⟩) ?_))))))
   rintro v50 out50 ⟨s50, bl50, o50, ho50, rfl, hac50, rfl⟩
   simp only [List.append_assoc, List.cons_append, List.nil_append]
   refine .copyP (Aa l7) l7.length J J J J J Y39 Sz5 (fun w h => hac50.see (Lies.of h (by repeat (exact Bt)))) (fun e => hac50.nil e) (by simp [Aa, hac50.num]) (by rw [hac50.num]; omega) (List.take_of_length_le (by simp [Aa])) (Aw _) mR (by rw [Block.length (okD _ _)]; show 67 + l7.length ≤ 131; omega) (upd_sig (okD _ _) hd7.2) uU ?_
   refine .na (.seq (.sr (.m J J J (.cV J J J J Body80 (r1_End n9 q9 o50 n cp9 a7 e7 hd7.1 oM) (fun w h => Av h mR) ?_))))
   refine two (fun r hr k => Tr.nei J J J J hr k) (fun hs15_20 => ?_) (fun hs15_20 => ?_)
   ·
    have hs15_2 := nd_t hs15_20
    refine .m J J J (.skp J J (.skp J J (.skp J J (.pick J J J J J J (.na (.cond_t J J (.sr (.build (cs := Block.zero.cells) J J J (fun w => by kernel_rfl) ?_))))))))
    refine .sA J J J J (Block.isCell (by exact Block.zero_ok)) Bw (Block.length (by exact Block.zero_ok)) mR (Block.length (by exact Block.zero_ok)) uU ?_
    refine .a J J J (.na (.ret (Bg (An (Be (out := (p.2.2.2 ++ (bl45 ++ []))) (A0 J J J Y53 J Bw mR (by exact Block.length (by exact Block.zero_ok))) (B6 sG (B6 sG Au)) ?_)))))
    first
     | exact fin_bad (by rw [hrp, hl]; exact fun h => hs15_2 h.1)
     | exact fin_bad (by rw [hrp, ← bcheck_D (B := ({ Block.zero with fWriter := l1, fSeq := x2, fPrev := l3, fLinks := p.2.2.1, fData := s45, fSig := l7 ++ Block.zero.fSig.drop l7.length } : Block)) rfl rfl (by rw [hac.num]; exact hlp.symm) hac45.num]; exact fun h => hc2 h.2)
     | exact fin_ok (by rw [hrp, hl, ← bcheck_D (B := ({ Block.zero with fWriter := l1, fSeq := x2, fPrev := l3, fLinks := p.2.2.1, fData := s45, fSig := l7 ++ Block.zero.fSig.drop l7.length } : Block)) rfl rfl (by rw [hac.num]; exact hlp.symm) hac45.num]; exact ⟨hs15_2, hc2⟩) (okX _ _) (fun W2 h2 => by
       rw [hrp]
       exact ⟨okX _ _, rfl, rfl, rfl, acc_rows hac (h2.sub Bt) hd5.2.1 hlp oM, acc_bytes hac45 (h2.sub (in_seg Bt)) rfl (by have := hd6.2; omega), rfl⟩)
   ·
    have hs15_2 := nd_f hs15_20
    refine .m J J J (.lA J J J Y53 J Bw mR (Block.length (by exact okX _ _)) ?_)
    refine .cV J J J J Body51 (r15_check ({ Block.zero with fWriter := l1, fSeq := x2, fPrev := l3, fLinks := p.2.2.1, fData := s45, fSig := l7 ++ Block.zero.fSig.drop l7.length } : Block) (okX _ _) ls) (fun w h => acc_rows hac (Lies.of h (by repeat (first | exact Bt | refine in_there ?_ | refine in_seg ?_))) hd5.2.1 hlp oM) ?_
    refine .nei J J J J J (.pick J J J J J J (.na (.condNP J (fun hc2 => ?_) (fun hc2 => ?_))))
    ·
     refine .sr (.build (cs := Block.zero.cells) J J J (fun w => by kernel_rfl) ?_)
     refine .sA J J J J (Block.isCell (by exact Block.zero_ok)) Bw (Block.length (by exact Block.zero_ok)) mR (Block.length (by exact Block.zero_ok)) uU ?_
     refine .a J J J (.na (.ret (Bg (An (Be (out := (p.2.2.2 ++ (bl45 ++ []))) (A0 J J J Y53 J Bw mR (by exact Block.length (by exact Block.zero_ok))) (B6 sG (B6 sG Au)) ?_)))))
     first
      | exact fin_bad (by rw [hrp, hl]; exact fun h => hs15_2 h.1)
      | exact fin_bad (by rw [hrp, ← bcheck_D (B := ({ Block.zero with fWriter := l1, fSeq := x2, fPrev := l3, fLinks := p.2.2.1, fData := s45, fSig := l7 ++ Block.zero.fSig.drop l7.length } : Block)) rfl rfl (by rw [hac.num]; exact hlp.symm) hac45.num]; exact fun h => hc2 h.2)
      | exact fin_ok (by rw [hrp, hl, ← bcheck_D (B := ({ Block.zero with fWriter := l1, fSeq := x2, fPrev := l3, fLinks := p.2.2.1, fData := s45, fSig := l7 ++ Block.zero.fSig.drop l7.length } : Block)) rfl rfl (by rw [hac.num]; exact hlp.symm) hac45.num]; exact ⟨hs15_2, hc2⟩) (okX _ _) (fun W2 h2 => by
        rw [hrp]
        exact ⟨okX _ _, rfl, rfl, rfl, acc_rows hac (h2.sub Bt) hd5.2.1 hlp oM, acc_bytes hac45 (h2.sub (in_seg Bt)) rfl (by have := hd6.2; omega), rfl⟩)
    ·
     refine .skip (Ae (.sr (.lA J J J Y53 J Bw mR (Block.length (by exact okX _ _)) ?_)))
     refine .sA J J J J (Block.isCell (by exact okX _ _)) Bw (Block.length (by exact okX _ _)) mR (Block.length (by exact Block.zero_ok)) uU ?_
     refine .a J J J (.na (.ret (An (Be (out := (p.2.2.2 ++ (bl45 ++ []))) (A0 J J J Y53 J Bw mR (by exact Block.length (by exact okX _ _))) (B6 sG (B6 sG Au)) ?_))))
     first
      | exact fin_bad (by rw [hrp, hl]; exact fun h => hs15_2 h.1)
      | exact fin_bad (by rw [hrp, ← bcheck_D (B := ({ Block.zero with fWriter := l1, fSeq := x2, fPrev := l3, fLinks := p.2.2.1, fData := s45, fSig := l7 ++ Block.zero.fSig.drop l7.length } : Block)) rfl rfl (by rw [hac.num]; exact hlp.symm) hac45.num]; exact fun h => hc2 h.2)
      | exact fin_ok (by rw [hrp, hl, ← bcheck_D (B := ({ Block.zero with fWriter := l1, fSeq := x2, fPrev := l3, fLinks := p.2.2.1, fData := s45, fSig := l7 ++ Block.zero.fSig.drop l7.length } : Block)) rfl rfl (by rw [hac.num]; exact hlp.symm) hac45.num]; exact ⟨hs15_2, hc2⟩) (okX _ _) (fun W2 h2 => by
        rw [hrp]
        exact ⟨okX _ _, rfl, rfl, rfl, acc_rows hac (h2.sub Bt) hd5.2.1 hlp oM, acc_bytes hac45 (h2.sub (in_seg Bt)) rfl (by have := hd6.2; omega), rfl⟩)

theorem r15_Read (p : Option Addr) (n c : Nat) (xs : List UInt8) (hl : xs.length = n) (hp : p = none → n = 0) (hn : n ≤ 90000) : Meets Tryz.prog 50 [.slice p n c] [] (fun W => SeesP W p (Aa xs)) (fun v out => ∃ B : Block, B.ok ∧ v = .tuple #[agg B.cells, i64 (readD xs).2] ∧ ∀ W2, Lies out W2 → BlockIs W2 B (readD xs).1) := by
  obtain ⟨l1, r1, h1⟩ : ∃ l r, digR xs 0 0 = (l, r) := ⟨_, _, rfl⟩
  obtain ⟨a1, e1⟩ := r1
  obtain ⟨x2, r2, h2⟩ : ∃ l r, Cb xs a1 e1 = (l, r) := ⟨_, _, rfl⟩
  obtain ⟨a2, e2⟩ := r2
  obtain ⟨l3, r3, h3⟩ : ∃ l r, digR xs a2 e2 = (l, r) := ⟨_, _, rfl⟩
  obtain ⟨a3, e3⟩ := r3
  obtain ⟨x4, r4, h4⟩ : ∃ l r, Cb xs a3 e3 = (l, r) := ⟨_, _, rfl⟩
  obtain ⟨a4, e4⟩ := r4
  obtain ⟨ls, r5, h5⟩ : ∃ l r, Ch xs (min x4.toNat 17) a4 e4 = (l, r) := ⟨_, _, rfl⟩
  obtain ⟨a5, e5⟩ := r5
  obtain ⟨o, r6, h6⟩ : ∃ l r, blkR xs a5 e5 = (l, r) := ⟨_, _, rfl⟩
  obtain ⟨a6, e6⟩ := r6
  obtain ⟨l7, r7, h7⟩ : ∃ l r, takR xs 64 a6 e6 = (l, r) := ⟨_, _, rfl⟩
  obtain ⟨a7, e7⟩ := r7
  by_cases he : e4 = 0
  · rcases Nat.lt_or_ge 16 x4.toNat with h | h
    · exact r15_Read_m p n c xs hl hp hn l1 a1 e1 x2 a2 e2 l3 a3 e3 x4 a4 e4 ls a5 e5 o a6 e6 l7 a7 e7 h1 h2 h3 h4 h5 h6 h7 he h
    · exact r15_Read_k p n c xs hl hp hn l1 a1 e1 x2 a2 e2 l3 a3 e3 x4 a4 e4 ls a5 e5 o a6 e6 l7 a7 e7 h1 h2 h3 h4 h5 h6 h7 he h
  · exact r15_Read_e p n c xs hl hp hn l1 a1 e1 x2 a2 e2 l3 a3 e3 x4 a4 e4 ls a5 e5 o a6 e6 l7 a7 e7 h1 h2 h3 h4 h5 h6 h7 he

end Go.Proofs.YtpacobmjjjillaaGreat
end

section
namespace Go.Proofs.YtpacobmjjjillaaGreat
open Go Hw

theorem light2 {A B : Block} (h : lightB [A, B] 2 = true) : A.fLinks.n ≤ 40 ∧ A.fData.n ≤ 2000 ∧ B.fLinks.n ≤ 40 ∧ B.fData.n ≤ 2000 := by
  unfold lightB at h
  simp at h
  omega
theorem own_rows {C : Cx} {hp : List Blk} {w : World} {q c n m : Nat} {T : TypeId} {k : Nat} {ls : List (List UInt8)} (h : HRep C hp w) (hb : (⟨q, Bv ls, T, k⟩ : Blk) ∈ hp) (hl : ls.length = n) (hr : ∀ l ∈ ls, l.length = m) (hc : n ≤ c) (hn : n ≤ 1000000) : RowsAt w ⟨some ⟨q, 0, none⟩, n, c⟩ m ls :=
  ⟨hl, hr, hc, SeesP.of (Ak h hb), by simp only [maxLen]; omega, fun e => by cases e⟩

theorem law15_lives  : Meets Tryz.prog 34 [] [] (fun _ => True) (fun v out => v = .bool true ∧ out = []) := by
 intro W hW
 refine Ab Tryz.func34 J 36 Tryz.ntmps34 J (.sr (.a J J J (.nsr (.build (cs := Aa (1 :: List.replicate 31 0)) J J J (fun w => by kernel_rfl) ?_))))
 refine .build (cs := Aa (2 :: List.replicate 31 0)) J J J (fun w => by kernel_rfl) ?_
 refine .alloc (cs := (Aa (List.replicate 32 0))) J Zr24 J ?_
 intro n1 hn1 hf1
 refine .alloc (cs := (Aa (List.replicate 32 0))) J Zr24 J ?_
 intro n2 hn2 hf2
 refine .sA J J J J zE Bm sP Z1 sP zV ?_
 refine .sA J J J J zE Bm sP Z0 sP zU ?_
 refine .nsr (.build (cs := (⟨List.replicate 32 0, 0, List.replicate 32 0, Sl.nil, Sl.nil, List.replicate 64 0⟩ : Block).cells) J J J (fun w => by kernel_rfl) ?_)
 refine .cV J J J J Body38 (block_check (⟨List.replicate 32 0, 0, List.replicate 32 0, Sl.nil, Sl.nil, List.replicate 64 0⟩ : Block) ⟨rfl, rfl, rfl⟩ []) (fun w h => ⟨rfl, by simp, Nat.le_refl _, SeesP.nil, by decide, fun _ => rfl⟩) ?_
 refine .eqi J J J J (decide_eq_true (by rfl)) ?_
 refine .m J J J (.build (cs := (⟨List.replicate 32 0, 1, List.replicate 32 0, Sl.nil, Sl.nil, List.replicate 64 0⟩ : Block).cells) J J J (fun w => by kernel_rfl) ?_)
 refine .cV J J J J Body38 (block_check (⟨List.replicate 32 0, 1, List.replicate 32 0, Sl.nil, Sl.nil, List.replicate 64 0⟩ : Block) ⟨rfl, rfl, rfl⟩ []) (fun w h => ⟨rfl, by simp, Nat.le_refl _, SeesP.nil, by decide, fun _ => rfl⟩) ?_
 refine .eqi J J J J (decide_eq_true (by rfl)) ?_
 refine .pick J J J J J J (.m J J J (.build (cs := Aa (List.replicate 32 0)) J J J (fun w => by kernel_rfl) ?_))
 refine .mkRow (z := agg (Aa (List.replicate 32 0))) [agg (Aa (List.replicate 32 0))] (Bv [(List.replicate 32 0)]) J J J Y51 Bm Zr24 J J (by intro v hv; simp at hv; rcases hv with rfl | rfl <;> rfl) dE (by rfl) ?_
 intro q15
 refine .build (cs := (⟨List.replicate 32 0, 0, List.replicate 32 0, ⟨some ⟨q15, 0, none⟩, 1, 1⟩, Sl.nil, List.replicate 64 0⟩ : Block).cells) J J J (fun w => by kernel_rfl) ?_
 refine .cV J J J J Body38 (block_check (⟨List.replicate 32 0, 0, List.replicate 32 0, ⟨some ⟨q15, 0, none⟩, 1, 1⟩, Sl.nil, List.replicate 64 0⟩ : Block) ⟨rfl, rfl, rfl⟩ [(List.replicate 32 0)]) (fun w h => own_rows h Bo J (by intro l hl; simp at hl; rcases hl with rfl | rfl <;> rfl) dE dE) ?_
 refine .eqi J J J J (decide_eq_true (by rfl)) ?_
 refine .pick J J J J J J (.m J J J (.lA J J J Y24 J Bm Z1 sP ?_))
 refine .lA J J J Y24 J Bm Z2 sP ?_
 refine .mkRow (z := agg (Aa (List.replicate 32 0))) [agg (Aa (2 :: List.replicate 31 0)), agg (Aa (1 :: List.replicate 31 0))] (Bv [(2 :: List.replicate 31 0), (1 :: List.replicate 31 0)]) J J J Y51 Bm Zr24 J J (by intro v hv; simp at hv; rcases hv with rfl | rfl <;> rfl) dE (by rfl) ?_
 intro q23
 refine .build (cs := (⟨List.replicate 32 0, 0, List.replicate 32 0, ⟨some ⟨q23, 0, none⟩, 2, 2⟩, Sl.nil, List.replicate 64 0⟩ : Block).cells) J J J (fun w => by kernel_rfl) ?_
 refine .cV J J J J Body38 (block_check (⟨List.replicate 32 0, 0, List.replicate 32 0, ⟨some ⟨q23, 0, none⟩, 2, 2⟩, Sl.nil, List.replicate 64 0⟩ : Block) ⟨rfl, rfl, rfl⟩ [(2 :: List.replicate 31 0), (1 :: List.replicate 31 0)]) (fun w h => own_rows h Bo J (by intro l hl; simp at hl; rcases hl with rfl | rfl <;> rfl) dE dE) ?_
 refine .eqi J J J J (decide_eq_true (by rfl)) ?_
 refine .pick J J J J J J (.m J J J (.lA J J J Y24 J Bm Z3 sP ?_))
 refine .lA J J J Y24 J Bm Z2 sP ?_
 refine .mkRow (z := agg (Aa (List.replicate 32 0))) [agg (Aa (1 :: List.replicate 31 0)), agg (Aa (2 :: List.replicate 31 0))] (Bv [(1 :: List.replicate 31 0), (2 :: List.replicate 31 0)]) J J J Y51 Bm Zr24 J J (by intro v hv; simp at hv; rcases hv with rfl | rfl <;> rfl) dE (by rfl) ?_
 intro q31
 refine .build (cs := (⟨List.replicate 32 0, 0, List.replicate 32 0, ⟨some ⟨q31, 0, none⟩, 2, 2⟩, Sl.nil, List.replicate 64 0⟩ : Block).cells) J J J (fun w => by kernel_rfl) ?_
 refine .cV J J J J Body38 (block_check (⟨List.replicate 32 0, 0, List.replicate 32 0, ⟨some ⟨q31, 0, none⟩, 2, 2⟩, Sl.nil, List.replicate 64 0⟩ : Block) ⟨rfl, rfl, rfl⟩ [(1 :: List.replicate 31 0), (2 :: List.replicate 31 0)]) (fun w h => own_rows h Bo J (by intro l hl; simp at hl; rcases hl with rfl | rfl <;> rfl) dE dE) ?_
 refine .eqi J J J J (decide_eq_true (by rfl)) ?_
 refine .pick J J J J J J (.a J J J (.na (.ret (An ?_))))
 refine ⟨_, [], Ag J J, sP, sP, ?_, rfl⟩
 rfl

end Go.Proofs.YtpacobmjjjillaaGreat
end

section
namespace Go.Proofs.YtpacobmjjjillaaGreat
open Go Hw

open Ed

theorem bsign_two (D : DB) (hD : D.ok) (h1 : D.ls.length ≤ 40) (h2 : D.ds.length ≤ 2000) (seed : List UInt8) (h32 : seed.length = 32) : ∃ (X : DB) (e : Int), X.ok ∧ X.ls.length ≤ 40
    ∧ (∀ B : Block, B.ok → Meets Tryz.prog 36 [agg (Aa seed), agg B.cells] [] (fun W => BlockIs W B D) (BlkR e X))
    ∧ (∀ B : Block, B.ok → Meets Tryz.prog 48 [agg (Aa seed), agg B.cells] [] (fun W => BlockIs W B D) (BlkR e X)) := by
  obtain ⟨s, hs⟩ : ∃ s, Hid (Cd seed = s) := ⟨_, ⟨rfl⟩⟩
  obtain ⟨s1, hs1⟩ : ∃ s1, Hid (Cd (s.drop 32 ++ btxt { D with w := sgK s }) = s1) := ⟨_, ⟨rfl⟩⟩
  obtain ⟨s2, hs2⟩ : ∃ s2, Hid (Cd (sgF s1 ++ (sgK s ++ btxt { D with w := sgK s })) = s2) := ⟨_, ⟨rfl⟩⟩
  by_cases hc : D.check = 0
  · have lG : (sgF s1 ++ sgS s s1 s2).length = 64 := by rw [List.length_append, sgF_length, sgS_length]
    exact ⟨bsg D (sgK s) (sgF s1 ++ sgS s s1 s2), 0, ⟨sgK_length s, hD.prev, lG, hD.ls⟩, h1, fun B hB => db_sign B D hB seed h32 s s1 s2 hs hs1 hs2 hc, fun B hB => r15_Sign B D hB h1 h2 seed h32 s s1 s2 hs hs1 hs2 hc⟩
  · refine ⟨DB.zero, D.check, ⟨rfl, rfl, rfl, fun l hl => by cases hl⟩, Nat.zero_le _, fun B hB => ?_, fun B hB => r15_Sign_bad B D hB h1 h2 seed h32 s s1 s2 hs hs1 hs2 hc⟩
    exact (db_sign_bad B D hB seed h32 hc).imp (fun w h => h) fun v out ⟨h3, h4⟩ => ⟨Block.zero, ⟨Block.zero_ok, rfl, rfl, rfl, rfl, rfl, rfl⟩, h3, fun W2 _ => zero_is W2⟩
theorem readD_small (xs : List UInt8) : (readD xs).1.ls.length ≤ 40 := by
  by_cases h : endR xs.length (readP xs).2.1 (readP xs).2.2 = 0 ∧ (readP xs).1.check = 0
  · rw [readD_ok h]
    have := (readP xs).1.head_small h.2
    show (readP xs).1.ls.length ≤ 40
    omega
  · rw [readD_bad h]; exact Nat.zero_le _
theorem digs_same (s t : Sl) (L : List (List UInt8)) (h1 : s.n = L.length) (h2 : t.n = L.length) (hr : ∀ l ∈ L, l.length = 32) (hn : L.length ≤ 1000000) : Meets Tryz.prog 54 [s.v, t.v] [] (fun W => SeesP W s.p (Bv L) ∧ SeesP W t.p (Bv L)) (fun v out => v = .bool true ∧ out = []) := by
  obtain ⟨p, n, c⟩ := s
  obtain ⟨q, m, d⟩ := t
  obtain rfl : n = L.length := h1
  obtain rfl : m = L.length := h2
  exact (digests_eq p q L.length c d L L hr hr rfl rfl hn).imp (fun w h => h) (fun v out h => by rwa [decide_eq_true rfl] at h)

theorem law_bcalls_a (B O : Block) (D E : DB) (hB : B.ok) (hO : O.ok) (seed : List UInt8) (h32 : seed.length = 32) (sb : Sl) (xs : List UInt8) (x y : List UInt8) (hx : x.length = 32) (hy : y.length = 32) (hL : lightB [B, O] 2 = false) : Meets Tryz.prog 9 [agg B.cells, agg O.cells, agg (Aa seed), sb.v, agg (Aa x), agg (Aa y)] [] (fun W => BlockIs W B D ∧ BlockIs W O E ∧ BytesAt W sb xs) (fun v out => v = .bool true ∧ out = []) := by
 intro W hW
 refine Ab Tryz.func9 J 157 Tryz.ntmps9 J (.sr (.boxA J J ?_))
 intro n6 hn6 hf6
 refine .boxA J J ?_
 intro n7 hn7 hf7
 refine .boxA J J ?_
 intro n8 hn8 hf8
 refine .boxA J J ?_
 intro n10 hn10 hf10
 refine .boxA J J ?_
 intro n11 hn11 hf11
 refine .a J J J (.na (.seq (.sr (.cV J J J J Body34 (law15_lives) tV (.not J J J (.na (.cond_f J (rfl) (.skip (Ae (.seq (.sr (.lA J J J Y53 J Bw Z4 (Block.length zA) ?_))))))))))))
 refine .lA J J J Y53 J Bw Z3 (Block.length zA) ?_
 refine .mkRow (z := agg Block.zero.cells) [agg B.cells, agg O.cells] ([B, O].map Block.cells).flatten J J J Y55 Bw Block.zr J J (by intro v hv; simp only [List.mem_cons, List.not_mem_nil, or_false] at hv; rcases hv with rfl | rfl; exact Block.length hB; exact Block.length hO) dE (by simp [Value.cells]) ?_
 intro q29
 have cL := light_blocks q29 0 2 2 [B, O] (by intro b hb; simp at hb; rcases hb with rfl | rfl; exact hB; exact hO) rfl dE 2
 rw [hL] at cL
 refine .cV J J J J Body35 (cL) (fun w h => Ak h Z0) ?_
 refine .not J J J (.m J J J (.skp J J (.skp J J (.skp J J (.pick J J J J J J (.na (.cond_t J J (.sr (.a J J J (.na (.ret (Bg (An ?_)))))))))))))
 refine ⟨_, [], Ag J J, sP, sP, ?_, rfl⟩
 rfl

theorem law_bcalls_b (B O : Block) (D E : DB) (hB : B.ok) (hO : O.ok) (seed : List UInt8) (h32 : seed.length = 32) (sb : Sl) (xs : List UInt8) (x y : List UInt8) (hx : x.length = 32) (hy : y.length = 32) (hL : lightB [B, O] 2 = true) (hn : 3000 < sb.n) : Meets Tryz.prog 9 [agg B.cells, agg O.cells, agg (Aa seed), sb.v, agg (Aa x), agg (Aa y)] [] (fun W => BlockIs W B D ∧ BlockIs W O E ∧ BytesAt W sb xs) (fun v out => v = .bool true ∧ out = []) := by
 intro W hW
 refine Ab Tryz.func9 J 157 Tryz.ntmps9 J (.sr (.boxA J J ?_))
 intro n6 hn6 hf6
 refine .boxA J J ?_
 intro n7 hn7 hf7
 refine .boxA J J ?_
 intro n8 hn8 hf8
 refine .boxA J J ?_
 intro n10 hn10 hf10
 refine .boxA J J ?_
 intro n11 hn11 hf11
 refine .a J J J (.na (.seq (.sr (.cV J J J J Body34 (law15_lives) tV (.not J J J (.na (.cond_f J (rfl) (.skip (Ae (.seq (.sr (.lA J J J Y53 J Bw Z4 (Block.length zA) ?_))))))))))))
 refine .lA J J J Y53 J Bw Z3 (Block.length zA) ?_
 refine .mkRow (z := agg Block.zero.cells) [agg B.cells, agg O.cells] ([B, O].map Block.cells).flatten J J J Y55 Bw Block.zr J J (by intro v hv; simp only [List.mem_cons, List.not_mem_nil, or_false] at hv; rcases hv with rfl | rfl; exact Block.length hB; exact Block.length hO) dE (by simp [Value.cells]) ?_
 intro q29
 have cL := light_blocks q29 0 2 2 [B, O] (by intro b hb; simp at hb; rcases hb with rfl | rfl; exact hB; exact hO) rfl dE 2
 rw [hL] at cL
 refine .cV J J J J Body35 (cL) (fun w h => Ak h Z0) ?_
 refine .not J J J (.m J J J (.m J J J (.lenSl J J J Y39 (.gtr J J J J (decide_eq_true oM) (.pick J J J J J J (.na (.cond_t J J (.sr (.a J J J (.na (.ret (Bg (An ?_)))))))))))))
 refine ⟨_, [], Ag J J, sP, sP, ?_, rfl⟩
 rfl

theorem law_bcalls (B O : Block) (D E : DB) (hB : B.ok) (hO : O.ok) (seed : List UInt8) (h32 : seed.length = 32) (sb : Sl) (xs : List UInt8) (x y : List UInt8) (hx : x.length = 32) (hy : y.length = 32) (hL : lightB [B, O] 2 = true) (hn : sb.n ≤ 3000) : Meets Tryz.prog 9 [agg B.cells, agg O.cells, agg (Aa seed), sb.v, agg (Aa x), agg (Aa y)] [] (fun W => BlockIs W B D ∧ BlockIs W O E ∧ BytesAt W sb xs) (fun v out => v = .bool true ∧ out = []) := by
 intro W hW
 have hl2 := light2 hL
 have hD := hW.1.dok
 have e1 := hW.1.ls.len
 have e2 := hW.1.ds.len
 have g1 := hW.2.1.ls.len
 have hb1 : D.ls.length ≤ 40 := by omega
 have hb2 : D.ds.length ≤ 2000 := by omega
 obtain ⟨X, ex, hX, hXl, cS, cS2⟩ := bsign_two D hD hb1 hb2 seed h32
 have hrs := readD_small xs
 have cR := fun a c hp => block_read a sb.n c xs hW.2.2.len hp oM
 have cR2 := fun a c hp => r15_Read a sb.n c xs hW.2.2.len hp oM
 obtain ⟨⟨U, fu⟩, hre⟩ : ∃ r, readD xs = r := ⟨_, rfl⟩
 rw [hre] at cR cR2 hrs
 simp only at cR cR2 hrs
 have lN := nameD_length D
 have cN := db_name B D
 have cN2 := r15_Name B D hB
 have cG := db_good B D hB
 have cG2 := r15_Good B D hB
 have cK := db_check B D
 have cK2 := r15_Check B D
 have cB := fun (B2 : Block) => db_bytes B2 D
 have cB2 := r15_Bytes B D hB
 have cT := db_text B D hB hb1 hb2
 have cT2 := r15_Text B D hB hb1 hb2
 have hP := parL_row hD
 have cP := db_parents B D oM
 have cP2 := r15_Parents B D oM
 have hPl : (parL D).length ≤ 1000 := by unfold parL; split; omega; rw [List.length_cons]; omega
 revert lN cN cN2 cG cG2 cK cK2 cB cB2 cT cT2 hP cP cP2 hPl
 generalize nameD D = nA
 generalize dgood D = gA
 generalize D.check = kA
 generalize bytesR D = bA
 generalize btxt D = tA
 generalize parL D = pA
 intro lN cN cN2 cG cG2 cK cK2 cB cB2 cT cT2 hP cP cP2 hPl
 refine Ab Tryz.func9 J 157 Tryz.ntmps9 J (.sr (.boxA J J ?_))
 intro n6 hn6 hf6
 refine .boxA J J ?_
 intro n7 hn7 hf7
 refine .boxA J J ?_
 intro n8 hn8 hf8
 refine .boxA J J ?_
 intro n10 hn10 hf10
 refine .boxA J J ?_
 intro n11 hn11 hf11
 refine .a J J J (.na (.seq (.sr (.cV J J J J Body34 (law15_lives) tV (.not J J J (.na (.cond_f J (rfl) (.skip (Ae (.seq (.sr (.lA J J J Y53 J Bw Z4 (Block.length zA) ?_))))))))))))
 refine .lA J J J Y53 J Bw Z3 (Block.length zA) ?_
 refine .mkRow (z := agg Block.zero.cells) [agg B.cells, agg O.cells] ([B, O].map Block.cells).flatten J J J Y55 Bw Block.zr J J (by intro v hv; simp only [List.mem_cons, List.not_mem_nil, or_false] at hv; rcases hv with rfl | rfl; exact Block.length hB; exact Block.length hO) dE (by simp [Value.cells]) ?_
 intro q29
 have cL := light_blocks q29 0 2 2 [B, O] (by intro b hb; simp at hb; rcases hb with rfl | rfl; exact hB; exact hO) rfl dE 2
 rw [hL] at cL
 refine .cV J J J J Body35 (cL) (fun w h => Ak h Z0) ?_
 refine .not J J J (.m J J J (.m J J J (.lenSl J J J Y39 (.gtr J J J J (decide_eq_false oM) (.pick J J J J J J (.na (.cond_f J J (.skip (Ae (.seq (.draw [(1, 0), (1, 1), (3, 2), (3, 3), (0, 4), (0, 5), (0, 6), (2, 7), (4, 8), (0, 9)] Ar zK (.lA J J J Y23 J Sz23 Z3 (by (simp [h32]; done)) ?_))))))))))))
 refine .lA J J J Y53 J Bw (by exact mem5) (Block.length zA) ?_
 refine .call J J J J Body37 (db_own B D oM oM) (BlkV.loose _ hD) (fun w h => hW.1.ext h J) ?_
 rintro v40 out40 ⟨B40, h40, rfl, ho40⟩
 try simp only [List.append_assoc, List.cons_append, List.nil_append]
 refine .call J J J J Body36 (cS B40 h40.ok) (BlkR.loose ex X hX) (fun w h => ho40 w (Lies.of h (by repeat (exact Bt)))) ?_
 rintro v41 out41 ⟨B41, h41, rfl, ho41⟩
 try simp only [List.append_assoc, List.cons_append, List.nil_append]
 refine .m J J J (.eX J J J J (.eX J J J J (.alloc (cs := Block.zero.cells) J Block.zr J ?_)))
 intro n13 hn13 hf13
 refine .sA J J J J (Block.isCell (by exact h41.ok)) Bw (Block.length (by exact h41.ok)) Z0 (Block.length (by exact Block.zero_ok)) zU ?_
 refine .a J J J (.nsr (.lA J J J Y23 J Sz23 mR (by (simp [h32]; done)) ?_))
 refine .lA J J J Y53 J Bw mR (Block.length zA) ?_
 refine .call4 J J J J J Body48 (cS2 B hB) (fun w h => hW.1.ext h J) ?_
 rintro v47 out47 ⟨B47, h47, rfl, ho47⟩
 try simp only [List.append_assoc, List.cons_append, List.nil_append]
 refine .m J J J (.eX J J J J (.eX J J J J (.alloc (cs := Block.zero.cells) J Block.zr J ?_)))
 intro n15 hn15 hf15
 refine .sA J J J J (Block.isCell (by exact h47.ok)) Bw (Block.length (by exact h47.ok)) Z0 (Block.length (by exact Block.zero_ok)) zU ?_
 refine .a J J J (.nsr (.lA J J J Y53 J Bw mR (Block.length zA) ?_))
 refine .call4 J J J J J Body37 (db_own B D oM oM) (fun w h => hW.1.ext h J) ?_
 rintro v52 out52 ⟨B52, h52, rfl, ho52⟩
 try simp only [List.append_assoc, List.cons_append, List.nil_append]
 refine .call4 J J J J J Body42 (cB B52) (fun w h => ho52 w (Lies.of h (by repeat (exact Bt)))) ?_
 rintro v53 out53 ⟨s53, rfl, hac53⟩
 try simp only [List.append_assoc, List.cons_append, List.nil_append]
 refine .m J J J (.eX J J J J (.eX J J J J (.a J J J (.a J J J (.nsr (.lA J J J Y53 J Bw mR (Block.length zA) ?_))))))
 refine .call4 J J J J J Body49 (cB2) (fun w h => hW.1.ext h J) ?_
 rintro v58 out58 ⟨s58, rfl, hn58, hp58, hs58⟩
 try simp only [List.append_assoc, List.cons_append, List.nil_append]
 refine .m J J J (.eX J J J J (.eX J J J J (.a J J J (.a J J J (.nsr (.m J J J (.call4 J J J J J Body24 (kit_own sb xs oM) (fun w h => bytes_ext h J hW.2.2) ?_)))))))
 rintro v63 out63 ⟨q63, c63, rfl, hc63, rfl⟩
 try simp only [List.append_assoc, List.cons_append, List.nil_append]
 refine .call4 J J J J J Body43 (cR (some ⟨q63, 0, none⟩) c63 (fun e => by cases e)) (fun w h => SeesP.of (Ak h Z0)) ?_
 rintro v64 out64 ⟨B64, hB64, rfl, ho64⟩
 try simp only [List.append_assoc, List.cons_append, List.nil_append]
 refine .m J J J (.eX J J J J (.eX J J J J (.alloc (cs := Block.zero.cells) J Block.zr J ?_)))
 intro n21 hn21 hf21
 refine .sA J J J J (Block.isCell zA) Bw (Block.length zA) Z0 (Block.length (by exact Block.zero_ok)) zU ?_
 refine .a J J J (.nsr (.m J J J (.call4 J J J J J Body50 (cR2 sb.p sb.c (fun e => by have h1 := hW.2.2.nil e; have h2 := hW.2.2.cap; omega)) (fun w h => Ax h J hW.2.2.see) ?_)))
 rintro v69 out69 ⟨B69, hB69, rfl, ho69⟩
 try simp only [List.append_assoc, List.cons_append, List.nil_append]
 refine .m J J J (.eX J J J J (.eX J J J J (.alloc (cs := Block.zero.cells) J Block.zr J ?_)))
 intro n23 hn23 hf23
 refine .sA J J J J (Block.isCell zA) Bw (Block.length zA) Z0 (Block.length (by exact Block.zero_ok)) zU ?_
 refine .a J J J (.na (.seq (.draw [(1, 0), (1, 1), (3, 2), (0, 3), (0, 4), (0, 5), (0, 6), (0, 7), (0, 8), (0, 9), (1, 10), (0, 11), (1, 12), (0, 13), (0, 14), (0, 15), (0, 16), (0, 17), (0, 18), (0, 19), (0, 20), (1, 21), (1, 22), (3, 23), (0, 24), (0, 25), (0, 26), (0, 27), (0, 28), (0, 29), (0, 30), (1, 31), (1, 33), (3, 32), (3, 34), (0, 35), (0, 36), (0, 37), (1, 38), (1, 41), (3, 39), (1, 40), (3, 42), (1, 43), (0, 44), (0, 45), (0, 46), (1, 47), (1, 49), (3, 48), (3, 50), (0, 51), (0, 52), (0, 53), (1, 54), (1, 56), (3, 55), (3, 57), (0, 58), (0, 59), (0, 60), (1, 61), (1, 63), (3, 62), (3, 64), (3, 65), (0, 66), (0, 67), (1, 68), (1, 69), (1, 71), (1, 72), (3, 70), (3, 73), (0, 74), (0, 75), (0, 76), (1, 77), (1, 78), (1, 80), (1, 81), (3, 79), (3, 82), (0, 83), (0, 84), (0, 85)] Ar zK (.lA J J J Y53 J Bw mR (Block.length (by exact h41.ok)) ?_))))
 refine .lA J J J Y53 J Bw mR (Block.length (by exact h47.ok)) ?_
 refine .cV J J J J Body39 ((db_kit B41 B47 X X oM).imp (fun w h => h) (fun v out h => by rwa [decide_eq_true J] at h)) (fun w h => ⟨ho41 w (Lies.of h (by repeat (first | exact Bt | refine in_there ?_ | refine in_seg ?_))), ho47 w (Lies.of h (by repeat (first | exact Bt | refine in_there ?_ | refine in_seg ?_)))⟩) ?_
 refine .m J J J (.m J J J (.m J J J (.eqi J J J J (decide_eq_true (rfl)) (.pick J J J J J J (.m J J J (.m J J J (.toStr J J J Y39 Y5 Y9 (fun w h => hac53.see (Lies.of h (by repeat (first | exact Bt | refine in_there ?_ | refine in_seg ?_)))) (by rw [hac53.num]) ?_)))))))
 refine .m J J J (.toStr J J J Y39 Y5 Y9 (fun w h => hs58 w (Lies.of h (by repeat (first | exact Bt | refine in_there ?_ | refine in_seg ?_)))) hn58.symm ?_)
 refine .eql_str J J J J (decide_eq_true (rfl)) (.pick J J J J J J (.m J J J (.m J J J (.m J J J (.eqi J J J J (decide_eq_true (rfl)) (.pick J J J J J J (.m J J J (.lA J J J Y53 J Bw mR (Block.length zA) ?_))))))))
 refine .lA J J J Y53 J Bw Z0 (Block.length zA) ?_
 refine .cV J J J J Body39 ((db_kit B64 B69 U U oM).imp (fun w h => h) (fun v out h => by rwa [decide_eq_true J] at h)) (fun w h => ⟨ho64 w (Lies.of h (by repeat (first | exact Bt | refine in_there ?_ | refine in_seg ?_))), ho69 w (Lies.of h (by repeat (first | exact Bt | refine in_there ?_)))⟩) ?_
 refine .pick J J J J J J (.m J J J (.m J J J (.m J J J (.eqi J J J J (decide_eq_true (rfl)) (.pick J J J J J J (.m J J J (.lA J J J Y53 J Bw mR (Block.length zA) ?_)))))))
 refine .lA J J J Y53 J Bw mR (Block.length zA) ?_
 refine .cV J J J J Body38 (cK) (fun w h => hW.1.ext h J) (.cV J J J J Body51 (cK2) (fun w h => hW.1.ext h J) (.eqi J J J J (decide_eq_true (rfl)) (.pick J J J J J J (.m J J J (.lA J J J Y53 J Bw mR (Block.length zA) ?_)))))
 refine .lA J J J Y53 J Bw mR (Block.length zA) ?_
 refine .call J J J J Body47 (cT) (FreshRow.loose _ _ _ _) (fun w h => hW.1.ext h J) ?_
 rintro v111 out111 ⟨q111, c111, rfl, hc111, rfl⟩
 refine .toStr J J J Y39 Y5 Y9 (fun w h => SeesP.of (Ak h Z0)) sP ?_
 refine .call J J J J Body52 (cT2) (FreshRow.loose _ _ _ _) (fun w h => hW.1.ext h J) ?_
 rintro v114 out114 ⟨q114, c114, rfl, hc114, rfl⟩
 refine .toStr J J J Y39 Y5 Y9 (fun w h => SeesP.of (Ak h Z0)) sP ?_
 refine .eql_str J J J J (decide_eq_true (rfl)) (.pick J J J J J J (.m J J J (.lA J J J Y53 J Bw mR (Block.length zA) ?_)))
 refine .lA J J J Y53 J Bw mR (Block.length zA) ?_
 refine .cV J J J J Body40 (cG) (fun w h => hW.1.ext h J) (.cV J J J J Body41 (cG2) (fun w h => hW.1.ext h J) (.eqi J J J J (decide_eq_true (rfl)) (.pick J J J J J J (.m J J J (.lA J J J Y53 J Bw mR (Block.length zA) ?_)))))
 refine .lA J J J Y53 J Bw mR (Block.length zA) ?_
 refine .cV J J J J Body45 (cN) (fun w h => hW.1.ext h J) (.cV J J J J Body53 (cN2) (fun w h => hW.1.ext h J) (.eql_bytes J J J J Tryz.eqGuardType24 Y24 Y5 Sz5 (by (simp [lN]; done)) (by (simp [lN]; done)) (decide_eq_true (rfl)) ?_))
 refine .pick J J J J J J (.m J J J (.lA J J J Y53 J Bw mR (Block.length zA) ?_))
 refine .lA J J J Y53 J Bw mR (Block.length zA) ?_
 refine .call J J J J Body46 (cP) (RowsR.loose hP) (fun w h => hW.1.ext h J) ?_
 rintro v134 out134 ⟨s134, rfl, hn134, hs134⟩
 try simp only [List.append_assoc, List.cons_append, List.nil_append]
 refine .call J J J J Body55 (cP2) (RowsR.loose hP) (fun w h => hW.1.ext h J) ?_
 rintro v136 out136 ⟨s136, rfl, hn136, hs136⟩
 have cD := digs_same s134 s136 pA hn134 hn136 hP oM
 try simp only [List.append_assoc, List.cons_append, List.nil_append]
 refine .cV J J J J Body54 (cD) (fun w h => ⟨hs134 w (Lies.of h (by repeat (first | exact Bt | refine in_seg ?_))), hs136 w (Lies.of h (by repeat (exact Bt)))⟩) ?_
 refine .pick J J J J J J (.m J J J (.lA J J J Y24 J Bm mR (by (simp [hx]; done)) ?_))
 refine .lA J J J Y24 J Bm mR (by (simp [hy]; done)) ?_
 refine .lA J J J Y24 J Bm mR (by (simp [hx]; done)) ?_
 refine .lA J J J Y24 J Bm mR (by (simp [hy]; done)) ?_
 refine .cV J J J J Body56 (block_cmp x y hx hy) tV (.cV J J J J Body57 (r15_cmp x y hx hy) tV (.eqi J J J J (decide_eq_true (rfl)) (.pick J J J J J J (.m J J J (.lA J J J Y53 J Bw mR (Block.length zA) ?_)))))
 refine .lA J J J Y53 J Bw mR (Block.length zA) ?_
 refine .lA J J J Y53 J Bw mR (Block.length zA) ?_
 refine .lA J J J Y53 J Bw mR (Block.length zA) ?_
 refine .cV J J J J Body44 (db_same B O D E oM) (fun w h => ⟨hW.1.ext h J, hW.2.1.ext h J⟩) (.cV J J J J Body39 (db_kit B O D E oM) (fun w h => ⟨hW.1.ext h J, hW.2.1.ext h J⟩) (.eqb (r := true) J J J J Tryz.underlying4 sP (.pick J J J J J J (.a J J J (.na (.ret (An ?_)))))))
 refine ⟨_, [], Ag J J, sP, sP, ?_, rfl⟩
 rfl

theorem law_blockcalls_all (B O : Block) (D E : DB) (seed : List UInt8) (h32 : seed.length = 32) (sb : Sl) (xs : List UInt8) (x : List UInt8) (hx : x.length = 32) (y : List UInt8) (hy : y.length = 32) : Meets Tryz.prog 9 [agg B.cells, agg O.cells, agg (Aa seed), sb.v, agg (Aa x), agg (Aa y)] [] (fun W => BlockIs W B D ∧ BlockIs W O E ∧ BytesAt W sb xs) (fun v out => v = .bool true ∧ out = []) := by
  intro W hW
  have hB := hW.1.ok
  have hO := hW.2.1.ok
  cases hL : lightB [B, O] 2 with
  | false => exact law_bcalls_a B O D E hB hO seed h32 sb xs x y hx hy hL W hW
  | true =>
    rcases Nat.lt_or_ge 3000 sb.n with h | h
    · exact law_bcalls_b B O D E hB hO seed h32 sb xs x y hx hy hL h W hW
    · exact law_bcalls B O D E hB hO seed h32 sb xs x y hx hy hL h W hW

end Go.Proofs.YtpacobmjjjillaaGreat
end

section
namespace Go.Proofs.YtpacobmjjjillaaGreat
open Go Go.ChangeShapes Go.WideShapes Go.ChangeAt Go.RowKit

theorem ownBCalls : ownKnob Tryz.prog.godebug = none := by kernel_rfl
theorem laidOutBCalls : laidOutB Tryz.prog = true := by kernel_rfl

theorem openSlBCalls {H : Type} {enc : TypeId × Value → H} {P : Program} {W : World} {base : Nat} {sp : Nat → Bool} {held : Bool} {k e : TypeId} (hu : P.underlying k = some (.slice e)) (he : P.underlying e = some (.int .u8)) (hc : P.cellsOf e = 1) {r : Reach} {b0 : Nat} {v : Value} {d : DataW H} {ps : List MemPlace}
    (hval : Value.okWide P W r b0 k v) (hd : DataW.Trod enc P W base sp held k v d ps) : ∃ s l, v = Hw.Sl.v s ∧ Hw.BytesAt W s l := by
  simp only [Value.okWide, hu, Cell.okWide] at hval
  obtain ⟨a1, len, cap, rfl⟩ : ∃ a1 len cap, v = .slice a1 len cap := by
    unfold Cell.ok at hval
    rw [hu] at hval
    split at hval <;> first | exact hval.elim | exact ⟨_, _, _, rfl⟩ | simp_all
  obtain ⟨fuel, hf⟩ := hd
  obtain ⟨s, l, h1, h2⟩ := Hw.open_bytesS hu he hc hf
  refine ⟨s, l, ?_, h2⟩
  simp [Value.cells] at h1
  exact h1

theorem walkBCalls (w : World) (x0 : Block) (ok0 : x0.ok) (ls0 : List (List UInt8)) (hls0 : Hw.RowsAt w x0.fLinks 32 ls0) (ld0 : List UInt8) (hld0 : Hw.BytesAt w x0.fData ld0) (x1 : Block) (ok1 : x1.ok) (ls1 : List (List UInt8)) (hls1 : Hw.RowsAt w x1.fLinks 32 ls1) (ld1 : List UInt8) (hld1 : Hw.BytesAt w x1.fData ld1) (l2 : List UInt8) (hl2 : l2.length = 32) (s3 : Hw.Sl) (l3 : List UInt8) (hs3 : Hw.BytesAt w s3 l3) (l4 : List UInt8) (hl4 : l4.length = 32) (l5 : List UInt8) (hl5 : l5.length = 32) : Calls Tryz.prog 9 #[Hw.agg x0.cells, Hw.agg x1.cells, Hw.agg (Hw.Aa l2), Hw.Sl.v s3, Hw.agg (Hw.Aa l4), Hw.agg (Hw.Aa l5)] w fun e w' => e = .returned (.bool true) ∧ Below w.heap.size w w' :=
  by
  have fin : ∀ {us : Array Value}, Calls Tryz.prog 9 us w (fun e W' => ∃ v out, e = .returned v ∧ (v = .bool true ∧ out = []) ∧ Hw.Ret [] out w W') → Calls Tryz.prog 9 us w (fun e w' => e = .returned (.bool true) ∧ Below w.heap.size w w') :=
    fun h => h.mono fun e w' ⟨v, out, he, ⟨hv, ho⟩, hr⟩ => ⟨by rw [he, hv], Hw.Keeps.below hr.keeps⟩
  exact fin (law_blockcalls_all x0 x1 ⟨x0.fWriter, x0.fSeq, x0.fPrev, ls0, ld0, x0.fSig⟩ ⟨x1.fWriter, x1.fSeq, x1.fPrev, ls1, ld1, x1.fSig⟩ l2 hl2 s3 l3 l4 hl4 l5 hl5 w ⟨⟨ok0, rfl, rfl, rfl, hls0, hld0, rfl⟩, ⟨ok1, rfl, rfl, rfl, hls1, hld1, rfl⟩, hs3⟩)

theorem liftedBCalls (os : Os) (started : os.Started) (H : Type) (enc : TypeId × Value → H) :
    ReturnsInHanded {} Tryz.checked os 9 .any (Rows.blockCallsSpec.pre6 enc Tryz.prog Tryz.f9 Rows.blockCallsRow.domain false) (Rows.blockCallsSpec.post enc Tryz.prog Tryz.f9 false true false false) := by
  refine returnsInHanded_of_change (C := Tryz.checked) ownBCalls started (by kernel_rfl) Tryz.func9
    (ChangeSpec.witness6 (enc := enc) (C := Tryz.checked) false ⟨#[], #[.agg (Array.replicate 32 (.int .u8 0) ++ #[.int .u64 0] ++ Array.replicate 32 (.int .u8 0) ++ #[.slice none 0 0, .slice none 0 0] ++ Array.replicate 64 (.int .u8 0)), .agg (Array.replicate 32 (.int .u8 0) ++ #[.int .u64 0] ++ Array.replicate 32 (.int .u8 0) ++ #[.slice none 0 0, .slice none 0 0] ++ Array.replicate 64 (.int .u8 0)), .agg (Array.replicate 32 (.int .u8 0)), .slice none 0 0, .agg (Array.replicate 32 (.int .u8 0)), .agg (Array.replicate 32 (.int .u8 0))], []⟩ 8 (by kernel_rfl) (by kernel_rfl) (by kernel_rfl) (by kernel_rfl)) ?_
  intro W base args ds gs before hval0 hW hcnd _
  have hval : ∀ (j : Nat) t v, Tryz.f9.params[j]? = some t → args[j]? = some v → Value.okWide Tryz.prog W .any base t v := hval0
  have hW' := hW
  obtain ⟨p, q, hA0, hV, rfl, hfz, hnd⟩ := hW
  have hA : DataW.TrodAll enc Tryz.prog W 0 (fun _ => true) true Tryz.f9.params.toList args.toList ds p := hA0
  rw [Tryz.params9] at hA hval
  obtain ⟨v0, vs0, d0, ds0, p0, q0, hargs, rfl, rfl, h0, r0⟩ := trodAll_cons hA
  obtain ⟨v1, vs1, d1, ds1, p1, q1, rfl, rfl, rfl, h1, r1⟩ := trodAll_cons r0
  obtain ⟨v2, vs2, d2, ds2, p2, q2, rfl, rfl, rfl, h2, r2⟩ := trodAll_cons r1
  obtain ⟨v3, vs3, d3, ds3, p3, q3, rfl, rfl, rfl, h3, r3⟩ := trodAll_cons r2
  obtain ⟨v4, vs4, d4, ds4, p4, q4, rfl, rfl, rfl, h4, r4⟩ := trodAll_cons r3
  obtain ⟨v5, vs5, d5, ds5, p5, q5, rfl, rfl, rfl, h5, r5⟩ := trodAll_cons r4
  obtain ⟨rfl, rfl, rfl⟩ := trodAll_nil r5
  obtain rfl : args = #[v0, v1, v2, v3, v4, v5] := by cases args; simp_all
  obtain ⟨rfl, rfl⟩ := trodVars_none hV
  have k0 := h0
  have lt0 : ∀ x ∈ p0, x.block < W.heap.size := by obtain ⟨m, hm⟩ := k0; exact DataW.trod_lt m _ _ _ hm
  have k1 := h1
  have lt1 : ∀ x ∈ p1, x.block < W.heap.size := by obtain ⟨m, hm⟩ := k1; exact DataW.trod_lt m _ _ _ hm
  have k2 := h2
  have lt2 : ∀ x ∈ p2, x.block < W.heap.size := by obtain ⟨m, hm⟩ := k2; exact DataW.trod_lt m _ _ _ hm
  have k3 := h3
  have lt3 : ∀ x ∈ p3, x.block < W.heap.size := by obtain ⟨m, hm⟩ := k3; exact DataW.trod_lt m _ _ _ hm
  have k4 := h4
  have lt4 : ∀ x ∈ p4, x.block < W.heap.size := by obtain ⟨m, hm⟩ := k4; exact DataW.trod_lt m _ _ _ hm
  have k5 := h5
  have lt5 : ∀ x ∈ p5, x.block < W.heap.size := by obtain ⟨m, hm⟩ := k5; exact DataW.trod_lt m _ _ _ hm
  obtain ⟨x0, ok0, rfl, xx0⟩ := Block.openV (hval 0 53 v0 rfl rfl) h0
  obtain ⟨⟨ls0, hls0⟩, ⟨ld0, hld0⟩⟩ := xx0
  obtain ⟨x1, ok1, rfl, xx1⟩ := Block.openV (hval 1 53 v1 rfl rfl) h1
  obtain ⟨⟨ls1, hls1⟩, ⟨ld1, hld1⟩⟩ := xx1
  obtain ⟨l2, rfl, hl2⟩ := Hw.open_bytes Tryz.underlying23 Tryz.underlying5 (by kernel_rfl) (by kernel_rfl) (hval 2 23 v2 rfl rfl) h2
  obtain ⟨s3, l3, rfl, hs3⟩ := openSlBCalls Tryz.underlying39 Tryz.underlying5 (by kernel_rfl) (hval 3 39 v3 rfl rfl) h3
  obtain ⟨l4, rfl, hl4⟩ := Hw.open_bytes Tryz.underlying24 Tryz.underlying5 (by kernel_rfl) (by kernel_rfl) (hval 4 24 v4 rfl rfl) h4
  obtain ⟨l5, rfl, hl5⟩ := Hw.open_bytes Tryz.underlying24 Tryz.underlying5 (by kernel_rfl) (by kernel_rfl) (hval 5 24 v5 rfl rfl) h5
  clear hA0 hval0
  refine (walkBCalls W x0 ok0 ls0 hls0 ld0 hld0 x1 ok1 ls1 hls1 ld1 hld1 l2 hl2 s3 l3 hs3 l4 hl4 l5 hl5).mono fun e W' ⟨he, bel⟩ => ?_
  subst he
  exact ⟨_, rfl, _, _, _, [], _, [], hW', trodAll_mk1 (shut_bool Tryz.underlying4 _), (trodAll_cons_mk (Below.trod laidOutBCalls (by kernel_rfl) (of_decide_eq_true (by kernel_rfl)) k0 bel lt0) (trodAll_cons_mk (Below.trod laidOutBCalls (by kernel_rfl) (of_decide_eq_true (by kernel_rfl)) k1 bel lt1) (trodAll_cons_mk (Below.trod laidOutBCalls (by kernel_rfl) (of_decide_eq_true (by kernel_rfl)) k2 bel lt2) (trodAll_cons_mk (Below.trod laidOutBCalls (by kernel_rfl) (of_decide_eq_true (by kernel_rfl)) k3 bel lt3) (trodAll_cons_mk (Below.trod laidOutBCalls (by kernel_rfl) (of_decide_eq_true (by kernel_rfl)) k4 bel lt4) (trodAll_cons_mk (Below.trod laidOutBCalls (by kernel_rfl) (of_decide_eq_true (by kernel_rfl)) k5 bel lt5) trodAll_mk0)))))), rfl, bel.frame _, fun h => by cases h⟩

theorem blockCalls_holds : Rows.BlockCallsSaid :=
  OpenClaim.holds_of_wide 9 Tryz.f9 rfl rfl rfl rfl rfl rfl rfl ⟨rfl, rfl, rfl, rfl, rfl⟩ rfl rfl rfl rfl rfl (by kernel_rfl) Tryz.func9 (by kernel_rfl)
    (of_decide_eq_true (by kernel_rfl)) (by unfold Func.isWrapper; first | (rw [if_pos (by decide +kernel)]; kernel_rfl) | (rw [if_neg (by decide +kernel)]; exact ⟨rfl, rfl⟩))
    (fun os started H enc _ => liftedBCalls os started H enc)

end Go.Proofs.YtpacobmjjjillaaGreat
end
