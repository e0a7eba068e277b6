/- headwaterlaw20.VoteCalls returns true at every input, and all that it reads reads behind the call as before. Conditions: none beyond the given statement's own. -/
import Derived.WalkKit
import Derived.Orders
import Derived.Deep.LoopGhost
import Derived.IntWalk
import Derived.Laws.StructEq
import Derived.ArgAppend
import Derived.Deep.AppendSrc
import Derived.Lib.Bytealg
import Derived.Lib.BytesEntry
import Derived.Laws.IdiomStrings
import Derived.WideKeyArr2
import Derived.ProofKit
import Derived.OpenShut
import Derived.Deep.Slices
import Derived.Laws.Pointers
import Derived.Laws.Cover3
import Derived.LaidEqlPtr
import Derived.LoopN
import Derived.RangeFuncLeaves
import Derived.RangeFuncSeq
import Derived.OrdersIn
import Derived.Test.YtpacobmjjjillaaGreatRows
import Derived.KernelRfl
import Derived.Laws.Externs
import Derived.Defers
import Derived.Laws.MathBits
import Derived.ChangeOld
import Derived.Below
import Derived.Test.YtpacobmjjjillaaGreatVCallsC5
set_option maxRecDepth 100000
set_option maxHeartbeats 8000000
section
namespace Go.Proofs.YtpacobmjjjillaaGreat
open Go Hw
set_option linter.unusedVariables false
set_option linter.unusedSimpArgs false

theorem Tr.rem_u64 {C : Cx} {ops : Array Oper} {rest : List (Nat × Oper)} {sl : List (Nat × Value)} {hp : List Blk} {Q : St → Prop} {c d : Nat} {ty : TypeId} {pos : String} {af : Array Edge} {g : Option (Nat × Bool)} {xT yT : TypeId} {x y : Operand} {b : Int} {p : UInt64} (hg : guardOk ops sl g = true) (hk : okD c d C.N = true) (hx : evIn sl x = some (u64 p)) (hy : evIn sl y = some (.int .u64 b)) (n : Nat) (hn : b = n) (h0 : 0 < n)
    (k : Tr C ops rest ⟨(d, u64 (UInt64.ofNat (p.toNat % n))) :: sl, hp⟩ Q) : Tr C ops ((c, ⟨some d, .binOp .rem xT x y yT, ty, pos, af, g⟩) :: rest) ⟨sl, hp⟩ Q :=
  .bin hg hk hx hy (fun w => by
    subst hn
    simp [binOp, Op.intDiv, show ¬ n = 0 by omega]
    have := p.toNat_lt
    have h2 : p.toNat % n ≤ p.toNat := Nat.mod_le _ _
    rw [Int.tmod_eq_emod_of_nonneg (Int.natCast_nonneg _), ← Int.natCast_emod]
    omega) k
theorem one_all : ∀ n, n < 256 → ∀ k, k < 9 → 1 ≤ k → k ≤ cntB (UInt8.ofNat n) → (((UInt8.ofNat ((shr8 (UInt8.ofNat n) (8 - k)).toNat % 2)).toNat : Int) = 1 ↔ k < cntB (UInt8.ofNat n)) := by decide +kernel
theorem one_iff (f : UInt8) (k : Nat) (h1 : 1 ≤ k) (h9 : k < 9) (hc : k ≤ cntB f) : ((UInt8.ofNat ((shr8 f (8 - k)).toNat % 2)).toNat : Int) = 1 ↔ k < cntB f := by
  have h := one_all f.toNat f.toNat_lt k h9 h1
  rw [UInt8.ofNat_toNat] at h
  exact h hc
theorem hrem_all : ∀ n, n < 256 → cntB (UInt8.ofNat n) < 9 → UInt64.ofNat ((UInt8.ofNat n).toUInt64.toNat % (shl64 1 (8 - cntB (UInt8.ofNat n))).toNat) = headV (UInt8.ofNat n) := by decide +kernel
theorem head_rem (f : UInt8) (h : cntB f < 9) : UInt64.ofNat (f.toUInt64.toNat % (shl64 1 (8 - cntB f)).toNat) = headV f := by
  have h2 := hrem_all f.toNat f.toNat_lt
  rw [UInt8.ofNat_toNat] at h2
  exact h2 h
theorem head_nine (f : UInt8) (h : cntB f = 9) : (0 : UInt64) = headV f := UInt64.toNat_inj.1 ((head_of f).2.2.2.1 h).symm
theorem shl_pos {k : Nat} (h : k < 64) : 0 < (shl64 1 k).toNat := by
  have h2 : 2 ^ k < 2 ^ 64 := Nat.pow_lt_pow_right dE h
  rw [shl64, UInt64.toNat_ofNat', Nat.mod_eq_of_lt (by simpa using h2)]
  simpa using Nat.pow_pos dE
theorem fold_or (v : UInt64) (b : UInt8) : v * 256 + b.toUInt64 = shl64 v 8 ||| b.toUInt64 := by
  apply UInt64.toNat_inj.1
  have hb := b.toNat_lt
  have hv := v.toNat_lt
  have e1 : (shl64 v 8).toNat = 256 * (v.toNat % 2 ^ 56) := by
    rw [shl64, UInt64.toNat_ofNat']; omega
  rw [UInt64.toNat_or, UInt64.toNat_add, UInt64.toNat_mul, e1]
  show (v.toNat * 256 % 2 ^ 64 + b.toNat) % 2 ^ 64 = 2 ^ 8 * (v.toNat % 2 ^ 56) ||| b.toNat
  rw [← Nat.two_pow_add_eq_or_of_lt (i := 8) hb]
  omega
/-- a reader: its row, where it begins, how much there is, where it stands, its error -/
def rd1 (q o N cp at' : Nat) (e : Int) : Rdr := ⟨⟨some ⟨q, o, none⟩, N - at', cp - at'⟩, e⟩
theorem rd1_ok (q o N cp at' : Nat) (e : Int) : (rd1 q o N cp at' e).ok := ⟨trivial⟩
def R1B (n q o N cp at' : Nat) (e : Int) : Blk := ⟨n, (rd1 q o N cp at' e).cells, 108, 2⟩
theorem r1b_move (n q o N cp a k : Nat) (e : Int) : R1B n q o N cp (a + k) e = ⟨n, ({ fB := ⟨some ⟨q, o, none⟩, N - a - k, cp - a - k⟩, fE := e } : Rdr).cells, 108, 2⟩ := by rw [R1B, rd1, Nat.sub_sub, Nat.sub_sub]

theorem r1n_err (n q N cp at' : Nat) (o : Nat) (e : Int) (xs : List UInt8) (hx : xs.length = N) (hat : at' ≤ N) (hN : N ≤ cp) (hbig : N ≤ 90000) (he : ¬ e = 0) : Meets Tryz.prog 77 [ptr n 0] [n] (fun W => BlkOk W (R1B n q (o) N cp (at') (e)) ∧ Sees W q 0 (bytesV xs) ∧ q ≠ n) (fun v out => v = u64 0 ∧ out = [R1B n q (o) N cp (at') (e)]) := by
 intro W hW
 have hfn : (rd1 q o N cp at' e).fB.n = N - at' := rfl
 have hfc : (rd1 q o N cp at' e).fB.c = cp - at' := rfl
 have hfe : (rd1 q o N cp at' e).fE = e := rfl
 refine calls_of (hp0 := [R1B n q (o) N cp (at') (e)]) Tryz.func77 J 95 Tryz.ntmps77 J (HRep.one hW.1) (Sat.seq (Sat.region (Tr.assign J J (show evIn _ _ = some (u64 0) from rfl) (Tr.nil (at_n (Sat.seq (Sat.seq (Sat.region (Tr.move J J J (Tr.nilChk J J J (Tr.fld J J J Y108 J Sz31 dE _ J (Tr.load1 J J J Y31 J Z0 (by exact Rdr.get_fE (by exact rd1_ok _ _ _ _ _ _)) ?_))))))))))))
 refine Tr.nei J J J J (show (!decide _) = true from congrArg not (decide_eq_false (he))) (Tr.nil (at_n (Sat.cond_t J (rfl) (Sat.seq (Sat.region (Tr.assign J J (show evIn _ _ = some (u64 0) from rfl) (Tr.nil (at_n (Sat.ret (at_r (en_r ?_)))))))))))
 refine ⟨_, [R1B n q (o) N cp (at') (e)], res_tmp J J, (by intro b hb; rw [List.mem_singleton.1 hb]; exact mem0), nodup1, ?_⟩
 exact ⟨rfl, rfl⟩

theorem r1n_end (n q N cp at' : Nat) (o : Nat) (xs : List UInt8) (hx : xs.length = N) (hat : at' ≤ N) (hN : N ≤ cp) (hbig : N ≤ 90000) (hk : N ≤ at') : Meets Tryz.prog 77 [ptr n 0] [n] (fun W => BlkOk W (R1B n q (o) N cp (at') (0)) ∧ Sees W q 0 (bytesV xs) ∧ q ≠ n) (fun v out => v = u64 0 ∧ out = [R1B n q (o) N cp (at') (5)]) := by
 intro W hW
 have hfn : (rd1 q o N cp at' 0).fB.n = N - at' := rfl
 have hfc : (rd1 q o N cp at' 0).fB.c = cp - at' := rfl
 have hfe : (rd1 q o N cp at' 0).fE = 0 := rfl
 refine calls_of (hp0 := [R1B n q (o) N cp (at') (0)]) Tryz.func77 J 95 Tryz.ntmps77 J (HRep.one hW.1) (Sat.seq (Sat.region (Tr.assign J J (show evIn _ _ = some (u64 0) from rfl) (Tr.nil (at_n (Sat.seq (Sat.seq (Sat.region (Tr.move J J J (Tr.nilChk J J J (Tr.fld J J J Y108 J Sz31 dE _ J (Tr.load1 J J J Y31 J Z0 (by exact Rdr.get_fE (by exact rd1_ok _ _ _ _ _ _)) ?_))))))))))))
 refine Tr.nei J J J J (show (!decide _) = false from congrArg not (decide_eq_true (rfl))) (Tr.nil (at_n (Sat.cond_f J (rfl) (Sat.skip (at_n (Sat.seq (Sat.seq (Sat.region (Tr.move J J J (Tr.nilChk J J J (Tr.fld J J J Y108 J Sz39 dE _ J (Tr.load1 J J J Y39 J Z0 (by exact Rdr.get_fB (by exact rd1_ok _ _ _ _ _ _)) ?_))))))))))))
 refine Tr.lenSl J J J Y39 (Tr.eqi J J J J (decide_eq_true oM) (Tr.nil (at_n (Sat.cond_t J (rfl) (Sat.seq (Sat.region (Tr.move J J J (Tr.nilChk J J J (Tr.fld J J J Y108 J Sz31 dE _ J (Tr.store1 J J J J J Sz31 Z0 (by rw [Rdr.length (by exact rd1_ok _ _ _ _ _ _)]; decide) (Rdr.set_fE (by exact rd1_ok _ _ _ _ _ _) _) zU ?_))))))))))
 refine Tr.nil (at_n (Sat.seq (Sat.region (Tr.assign J J (show evIn _ _ = some (u64 0) from rfl) (Tr.nil (at_n (Sat.ret (at_r (en_r ?_)))))))))
 refine ⟨_, [R1B n q (o) N cp (at') (5)], res_tmp J J, (by intro b hb; rw [List.mem_singleton.1 hb]; exact mem0), nodup1, ?_⟩
 exact ⟨rfl, rfl⟩

theorem r1n_short (n q N cp at' : Nat) (xs : List UInt8) (hx : xs.length = N) (hat : at' ≤ N) (hN : N ≤ cp) (hbig : N ≤ 90000) (hk : at' < N) (hk2 : N < at' + (cntB (xs.getD at' 0))) : Meets Tryz.prog 77 [ptr n 0] [n] (fun W => BlkOk W (R1B n q (at') N cp (at') (0)) ∧ Sees W q 0 (bytesV xs) ∧ q ≠ n) (fun v out => v = u64 0 ∧ out = [R1B n q (at') N cp (at') (5)]) := by
 intro W hW
 have hfn : (rd1 q at' N cp at' 0).fB.n = N - at' := rfl
 have hfc : (rd1 q at' N cp at' 0).fB.c = cp - at' := rfl
 have hfe : (rd1 q at' N cp at' 0).fE = 0 := rfl
 have hcp := head_of (xs.getD at' 0)
 have hc1 : 1 ≤ (cntB (xs.getD at' 0)) := hcp.1
 have hc9 : (cntB (xs.getD at' 0)) ≤ 9 := hcp.2.1
 clear hcp
 refine calls_of (hp0 := [R1B n q (at') N cp (at') (0)]) Tryz.func77 J 95 Tryz.ntmps77 J (HRep.one hW.1) (Sat.seq (Sat.region (Tr.assign J J (show evIn _ _ = some (u64 0) from rfl) (Tr.nil (at_n (Sat.seq (Sat.seq (Sat.region (Tr.move J J J (Tr.nilChk J J J (Tr.fld J J J Y108 J Sz31 dE _ J (Tr.load1 J J J Y31 J Z0 (by exact Rdr.get_fE (by exact rd1_ok _ _ _ _ _ _)) ?_))))))))))))
 refine Tr.nei J J J J (show (!decide _) = false from congrArg not (decide_eq_true (rfl))) (Tr.nil (at_n (Sat.cond_f J (rfl) (Sat.skip (at_n (Sat.seq (Sat.seq (Sat.region (Tr.move J J J (Tr.nilChk J J J (Tr.fld J J J Y108 J Sz39 dE _ J (Tr.load1 J J J Y39 J Z0 (by exact Rdr.get_fB (by exact rd1_ok _ _ _ _ _ _)) ?_))))))))))))
 refine Tr.lenSl J J J Y39 (Tr.eqi J J J J (decide_eq_false oM) (Tr.nil (at_n (Sat.cond_f J (rfl) (Sat.skip (at_n (Sat.seq (Sat.region (Tr.assign J J J (Tr.nil (at_n (Sat.join (ι := Unit) (fun _u => ⟨[(0, ptr n 0), (3, i64 (((cntB (xs.getD at' 0)) : Nat) : Int))], [⟨n, (rd1 q at' N cp at' 0).cells, 108, 2⟩]⟩) (fun _u => True) ?_ ?_))))))))))))
 ·
  refine Sat.block (Sat.loop (ι := Nat) (fun k => ⟨[(0, ptr n 0), (3, i64 (k : Int))], [⟨n, (rd1 q at' N cp at' 0).cells, 108, 2⟩]⟩) (fun k => 1 ≤ k ∧ k ≤ (cntB (xs.getD at' 0))) (fun k => 9 - k) (1) ?_ ?_ ?_)
  · exact ⟨Nat.le_refl _, hc1⟩
  · exact weak_of (wk1 rfl (wk1 rfl wk0)) (wh1 Z0 wh0) nD
  ·
   rintro k ⟨hk3, hk4⟩
   refine Sat.seq (Sat.seq (Sat.region (Tr.move J J J (two (fun r hr k => Tr.lss J J J J hr k) (fun hs7_10 => ?_) (fun hs7_10 => ?_)))))
   ·
    have hs7_1 := of_decide_eq_true hs7_10
    refine Tr.move J J J (Tr.move J J J (Tr.nilChk J J J (Tr.fld J J J Y108 J Sz39 dE _ J (Tr.load1 J J J Y39 J Z0 (by exact Rdr.get_fB (by exact rd1_ok _ _ _ _ _ _)) ?_))))
    refine Tr.idxSlO J J J J Y39 Sz5 0 J oM (Tr.loadE J J J Y5 J (by (simp; exact hW.2.2)) ((by have := hW.2.1 at' _ (get_bytes oM); rwa [Nat.zero_add] at this)) ?_)
    refine Tr.move J J J (Tr.sub_i64 J J J J oM (Tr.conv J J J Y3 Y35 (cv_i64_u64 _) (Tr.shr_u8 J J J J (8 - k) (by rw [show (8 : Int) - (k : Int) = ((8 - k : Nat) : Int) by omega, wordOf_id _ oM]) oM ?_)))
    refine Tr.rem_u8 J J J J 2 J dE (Tr.eqi J J J J J (Tr.pick J J J J J J (Tr.nil (at_n (Sat.condP J (fun hc2 => ?_) (fun hc2 => ?_))))))
    ·
     refine Sat.skip (at_n (Sat.block (Sat.region (Tr.move J J J (Tr.add_i64 J J J J oM (Tr.assign J J J (Tr.nil (bl_n (at_n ?_)))))))))
     exact ⟨k + 1, ⟨by omega, (one_iff _ k hk3 oM hk4).1 zA⟩, by omega, weak_of (wk1 rfl (wk1 (by rw [Int.natCast_add]; rfl) wk0)) (wh1 Z0 wh0) nD⟩
    ·
     refine Sat.exit (at_x (at_x (bl_h (at_n ?_))))
     exact ⟨(), trivial, weak_of (wk1 rfl (wk1 (congrArg (fun z => some (i64 z)) (by (have h5 := one_iff (xs.getD at' 0) k hk3 oM hk4; have h6 : ¬ k < (cntB (xs.getD at' 0)) := fun h => hc2 (h5.2 h); omega))) wk0)) (wh1 Z0 wh0) nD⟩
   ·
    have hs7_1 := of_decide_eq_false hs7_10
    refine Tr.move J J J (Tr.skp J J (Tr.skp J J (Tr.skp J J (Tr.skp J J (Tr.skp J J (Tr.skp J J (Tr.skp J J (Tr.skp J J (Tr.skp J J (Tr.skp J J (Tr.skp J J (Tr.skp J J (Tr.pick J J J J J J (Tr.nil (at_n (Sat.cond_f J J (Sat.exit (at_x (at_x (bl_h (at_n ?_)))))))))))))))))))))
    exact ⟨(), trivial, weak_of (wk1 rfl (wk1 (congrArg (fun z => some (i64 z)) oM) wk0)) (wh1 Z0 wh0) nD⟩
 ·
  intro _u hj
  skip
  refine Sat.seq (Sat.seq (Sat.region (Tr.move J J J (Tr.nilChk J J J (Tr.fld J J J Y108 J Sz39 dE _ J (Tr.load1 J J J Y39 J Z0 (by exact Rdr.get_fB (by exact rd1_ok _ _ _ _ _ _)) ?_))))))
  refine Tr.lenSl J J J Y39 (Tr.move J J J (Tr.lss J J J J (decide_eq_true oM) (Tr.nil (at_n (Sat.cond_t J (rfl) (Sat.seq (Sat.region (Tr.move J J J (Tr.nilChk J J J (Tr.fld J J J Y108 J Sz31 dE _ J (Tr.store1 J J J J J Sz31 Z0 (by rw [Rdr.length (by exact rd1_ok _ _ _ _ _ _)]; decide) (Rdr.set_fE (by exact rd1_ok _ _ _ _ _ _) _) zU ?_)))))))))))
  refine Tr.nil (at_n (Sat.seq (Sat.region (Tr.assign J J (show evIn _ _ = some (u64 0) from rfl) (Tr.nil (at_n (Sat.ret (at_r (en_r ?_)))))))))
  refine ⟨_, [R1B n q (at') N cp (at') (5)], res_tmp J J, (by intro b hb; rw [List.mem_singleton.1 hb]; exact mem0), nodup1, ?_⟩
  exact ⟨rfl, rfl⟩

theorem r1n_bad (n q N cp at' : Nat) (xs : List UInt8) (hx : xs.length = N) (hat : at' ≤ N) (hN : N ≤ cp) (hbig : N ≤ 90000) (hk : at' < N) (hk2 : at' + (cntB (xs.getD at' 0)) ≤ N) (hz : ¬ szN (numV xs at').toNat = (cntB (xs.getD at' 0))) : Meets Tryz.prog 77 [ptr n 0] [n] (fun W => BlkOk W (R1B n q (at') N cp (at') (0)) ∧ Sees W q 0 (bytesV xs) ∧ q ≠ n) (fun v out => v = u64 0 ∧ out = [R1B n q (at') N cp (at') (4)]) := by
 intro W hW
 have hfn : (rd1 q at' N cp at' 0).fB.n = N - at' := rfl
 have hfc : (rd1 q at' N cp at' 0).fB.c = cp - at' := rfl
 have hfe : (rd1 q at' N cp at' 0).fE = 0 := rfl
 have hcp := head_of (xs.getD at' 0)
 have hc1 : 1 ≤ (cntB (xs.getD at' 0)) := hcp.1
 have hc9 : (cntB (xs.getD at' 0)) ≤ 9 := hcp.2.1
 clear hcp
 refine calls_of (hp0 := [R1B n q (at') N cp (at') (0)]) Tryz.func77 J 95 Tryz.ntmps77 J (HRep.one hW.1) (Sat.seq (Sat.region (Tr.assign J J (show evIn _ _ = some (u64 0) from rfl) (Tr.nil (at_n (Sat.seq (Sat.seq (Sat.region (Tr.move J J J (Tr.nilChk J J J (Tr.fld J J J Y108 J Sz31 dE _ J (Tr.load1 J J J Y31 J Z0 (by exact Rdr.get_fE (by exact rd1_ok _ _ _ _ _ _)) ?_))))))))))))
 refine Tr.nei J J J J (show (!decide _) = false from congrArg not (decide_eq_true (rfl))) (Tr.nil (at_n (Sat.cond_f J (rfl) (Sat.skip (at_n (Sat.seq (Sat.seq (Sat.region (Tr.move J J J (Tr.nilChk J J J (Tr.fld J J J Y108 J Sz39 dE _ J (Tr.load1 J J J Y39 J Z0 (by exact Rdr.get_fB (by exact rd1_ok _ _ _ _ _ _)) ?_))))))))))))
 refine Tr.lenSl J J J Y39 (Tr.eqi J J J J (decide_eq_false oM) (Tr.nil (at_n (Sat.cond_f J (rfl) (Sat.skip (at_n (Sat.seq (Sat.region (Tr.assign J J J (Tr.nil (at_n (Sat.join (ι := Unit) (fun _u => ⟨[(0, ptr n 0), (3, i64 (((cntB (xs.getD at' 0)) : Nat) : Int))], [⟨n, (rd1 q at' N cp at' 0).cells, 108, 2⟩]⟩) (fun _u => True) ?_ ?_))))))))))))
 ·
  refine Sat.block (Sat.loop (ι := Nat) (fun k => ⟨[(0, ptr n 0), (3, i64 (k : Int))], [⟨n, (rd1 q at' N cp at' 0).cells, 108, 2⟩]⟩) (fun k => 1 ≤ k ∧ k ≤ (cntB (xs.getD at' 0))) (fun k => 9 - k) (1) ?_ ?_ ?_)
  · exact ⟨Nat.le_refl _, hc1⟩
  · exact weak_of (wk1 rfl (wk1 rfl wk0)) (wh1 Z0 wh0) nD
  ·
   rintro k ⟨hk3, hk4⟩
   refine Sat.seq (Sat.seq (Sat.region (Tr.move J J J (two (fun r hr k => Tr.lss J J J J hr k) (fun hs7_10 => ?_) (fun hs7_10 => ?_)))))
   ·
    have hs7_1 := of_decide_eq_true hs7_10
    refine Tr.move J J J (Tr.move J J J (Tr.nilChk J J J (Tr.fld J J J Y108 J Sz39 dE _ J (Tr.load1 J J J Y39 J Z0 (by exact Rdr.get_fB (by exact rd1_ok _ _ _ _ _ _)) ?_))))
    refine Tr.idxSlO J J J J Y39 Sz5 0 J oM (Tr.loadE J J J Y5 J (by (simp; exact hW.2.2)) ((by have := hW.2.1 at' _ (get_bytes oM); rwa [Nat.zero_add] at this)) ?_)
    refine Tr.move J J J (Tr.sub_i64 J J J J oM (Tr.conv J J J Y3 Y35 (cv_i64_u64 _) (Tr.shr_u8 J J J J (8 - k) (by rw [show (8 : Int) - (k : Int) = ((8 - k : Nat) : Int) by omega, wordOf_id _ oM]) oM ?_)))
    refine Tr.rem_u8 J J J J 2 J dE (Tr.eqi J J J J J (Tr.pick J J J J J J (Tr.nil (at_n (Sat.condP J (fun hc2 => ?_) (fun hc2 => ?_))))))
    ·
     refine Sat.skip (at_n (Sat.block (Sat.region (Tr.move J J J (Tr.add_i64 J J J J oM (Tr.assign J J J (Tr.nil (bl_n (at_n ?_)))))))))
     exact ⟨k + 1, ⟨by omega, (one_iff _ k hk3 oM hk4).1 zA⟩, by omega, weak_of (wk1 rfl (wk1 (by rw [Int.natCast_add]; rfl) wk0)) (wh1 Z0 wh0) nD⟩
    ·
     refine Sat.exit (at_x (at_x (bl_h (at_n ?_))))
     exact ⟨(), trivial, weak_of (wk1 rfl (wk1 (congrArg (fun z => some (i64 z)) (by (have h5 := one_iff (xs.getD at' 0) k hk3 oM hk4; have h6 : ¬ k < (cntB (xs.getD at' 0)) := fun h => hc2 (h5.2 h); omega))) wk0)) (wh1 Z0 wh0) nD⟩
   ·
    have hs7_1 := of_decide_eq_false hs7_10
    refine Tr.move J J J (Tr.skp J J (Tr.skp J J (Tr.skp J J (Tr.skp J J (Tr.skp J J (Tr.skp J J (Tr.skp J J (Tr.skp J J (Tr.skp J J (Tr.skp J J (Tr.skp J J (Tr.skp J J (Tr.pick J J J J J J (Tr.nil (at_n (Sat.cond_f J J (Sat.exit (at_x (at_x (bl_h (at_n ?_)))))))))))))))))))))
    exact ⟨(), trivial, weak_of (wk1 rfl (wk1 (congrArg (fun z => some (i64 z)) oM) wk0)) (wh1 Z0 wh0) nD⟩
 ·
  intro _u hj
  skip
  refine Sat.seq (Sat.seq (Sat.region (Tr.move J J J (Tr.nilChk J J J (Tr.fld J J J Y108 J Sz39 dE _ J (Tr.load1 J J J Y39 J Z0 (by exact Rdr.get_fB (by exact rd1_ok _ _ _ _ _ _)) ?_))))))
  refine Tr.lenSl J J J Y39 (Tr.move J J J (Tr.lss J J J J (decide_eq_false oM) (Tr.nil (at_n (Sat.cond_f J (rfl) (Sat.skip (at_n (Sat.seq (Sat.region (Tr.assign J J (show evIn _ _ = some (u64 0) from rfl) (Tr.nil (at_n (Sat.join (ι := Unit) (fun _u => ⟨[(0, ptr n 0), (3, i64 (((cntB (xs.getD at' 0)) : Nat) : Int)), (4, u64 (headV (xs.getD at' 0)))], [⟨n, (rd1 q at' N cp at' 0).cells, 108, 2⟩]⟩) (fun _u => True) ?_ ?_)))))))))))))
  ·
   refine Sat.seq (Sat.region (Tr.move J J J (Tr.lss J J J J J (Tr.nil (at_n (Sat.condP J (fun hc4 => ?_) (fun hc4 => ?_)))))))
   ·
    refine Sat.region (Tr.move J J J (Tr.nilChk J J J (Tr.fld J J J Y108 J Sz39 dE _ J (Tr.load1 J J J Y39 J Z0 (by exact Rdr.get_fB (by exact rd1_ok _ _ _ _ _ _)) ?_))))
    refine Tr.idxSlO J J J J Y39 Sz5 0 J oM (Tr.loadE J J J Y5 J (by (simp; exact hW.2.2)) ((by have := hW.2.1 at' _ (get_bytes oM); rwa [Nat.zero_add] at this)) ?_)
    refine Tr.conv J J J Y5 Y22 (cv_u8_u64 _) (Tr.move J J J (Tr.sub_i64 J J J J oM (Tr.conv J J J Y3 Y35 (cv_i64_u64 _) (Tr.shl_u64 J J (show evIn _ _ = some (u64 1) from rfl) J (8 - (cntB (xs.getD at' 0))) (by rw [show (8 : Int) - (((cntB (xs.getD at' 0)) : Nat) : Int) = ((8 - (cntB (xs.getD at' 0)) : Nat) : Int) by omega, wordOf_id _ oM]) oM ?_))))
    refine Tr.rem_u64 J J J J (shl64 1 (8 - (cntB (xs.getD at' 0)))).toNat J (shl_pos oM) (Tr.assign J J J (Tr.nil (at_n ?_)))
    exact ⟨(), trivial, weak_of (wk1 rfl (wk1 rfl (wk1 (congrArg (fun z => some (u64 z)) (by exact head_rem _ oM)) wk0))) (wh1 Z0 wh0) nD⟩
   ·
    refine Sat.skip (at_n ?_)
    exact ⟨(), trivial, weak_of (wk1 rfl (wk1 rfl (wk1 (congrArg (fun z => some (u64 z)) (by exact head_nine _ oM)) wk0))) (wh1 Z0 wh0) nD⟩
  ·
   intro _u hj
   skip
   refine Sat.seq (Sat.seq (Sat.region (Tr.assign J J J (Tr.nil (at_n (Sat.block (Sat.loop (ι := Nat) (fun j => ⟨[(0, ptr n 0), (3, i64 (((cntB (xs.getD at' 0)) : Nat) : Int)), (4, u64 (foldB (headV (xs.getD at' 0)) ((xs.drop (at' + 1)).take j))), (5, i64 ((j : Int) + 1))], [⟨n, (rd1 q at' N cp at' 0).cells, 108, 2⟩]⟩) (fun j => j ≤ (cntB (xs.getD at' 0)) - 1) (fun j => (cntB (xs.getD at' 0)) - 1 - j) (0) ?_ ?_ ?_)))))))
   · exact Nat.zero_le _
   · exact weak_of (wk1 rfl (wk1 rfl (wk1 rfl (wk1 rfl wk0)))) (wh1 Z0 wh0) nD
   ·
    rintro j hj
    refine Sat.seq (Sat.seq (Sat.region (Tr.move J J J (Tr.move J J J (Tr.lss J J J J J (Tr.nil (at_n (Sat.condP J (fun hc5 => ?_) (fun hc5 => ?_)))))))))
    ·
     have hj2 : j < (cntB (xs.getD at' 0)) - 1 := by omega
     refine Sat.skip (at_n (Sat.seq (Sat.block (Sat.region (Tr.move J J J (Tr.mul_u64 J J J (show evIn _ _ = some (u64 256) from rfl) (Tr.move J J J (Tr.nilChk J J J (Tr.fld J J J Y108 J Sz39 dE _ J (Tr.load1 J J J Y39 J Z0 (by exact Rdr.get_fB (by exact rd1_ok _ _ _ _ _ _)) ?_))))))))))
     refine Tr.move J J J (Tr.idxSlO J J J J Y39 Sz5 (j + 1) oM oM (Tr.loadE J J J Y5 J (by (simp; exact hW.2.2)) ((by have h9 := hW.2.1 (at' + (j + 1)) _ (get_bytes oM); rwa [Nat.zero_add] at h9)) ?_))
     refine Tr.conv J J J Y5 Y22 (cv_u8_u64 _) (Tr.add_u64 J J J J (Tr.assign J J J (Tr.nil (bl_n (at_n (Sat.region (Tr.move J J J (Tr.add_i64 J J J J oM (Tr.assign J J J (Tr.nil (at_n ?_)))))))))))
     exact ⟨j + 1, by omega, by omega, weak_of (wk1 rfl (wk1 rfl (wk1 (congrArg (fun z => some (u64 z)) (by rw [foldB_step xs (at' + 1) j _ oM, show at' + 1 + j = at' + (j + 1) by omega, fold_or])) (wk1 (congrArg (fun z => some (i64 z)) oM) wk0)))) (wh1 Z0 wh0) nD⟩
    ·
     have hj2 : j = (cntB (xs.getD at' 0)) - 1 := by omega
     refine Sat.exit (at_x (at_x (bl_h (at_n (Sat.seq (Sat.seq (Sat.region ?_)))))))
     have hnv : numV xs at' = foldB (headV (xs.getD at' 0)) ((xs.drop (at' + 1)).take j) := by rw [numV, hj2]
     refine Tr.move J J J (Tr.callV J J J J Body139 (r1_room _) (fun _ _ => trivial) (Tr.move J J J (Tr.nei J J J J (show (!decide _) = true from congrArg not (decide_eq_false (by rw [← hnv]; omega))) ?_)))
     refine Tr.nil (at_n (Sat.cond_t J (rfl) (Sat.seq (Sat.region (Tr.move J J J (Tr.nilChk J J J (Tr.fld J J J Y108 J Sz31 dE _ J (Tr.store1 J J J J J Sz31 Z0 (by rw [Rdr.length (by exact rd1_ok _ _ _ _ _ _)]; decide) (Rdr.set_fE (by exact rd1_ok _ _ _ _ _ _) _) zU ?_))))))))
     refine Tr.nil (at_n (Sat.seq (Sat.region (Tr.assign J J (show evIn _ _ = some (u64 0) from rfl) (Tr.nil (at_n (Sat.ret (at_r (en_r ?_)))))))))
     refine ⟨_, [R1B n q (at') N cp (at') (4)], res_tmp J J, (by intro b hb; rw [List.mem_singleton.1 hb]; exact mem0), nodup1, ?_⟩
     exact ⟨rfl, rfl⟩

theorem r1n_ok (n q N cp at' : Nat) (xs : List UInt8) (hx : xs.length = N) (hat : at' ≤ N) (hN : N ≤ cp) (hbig : N ≤ 90000) (hk : at' < N) (hk2 : at' + (cntB (xs.getD at' 0)) ≤ N) (hz : szN (numV xs at').toNat = (cntB (xs.getD at' 0))) : Meets Tryz.prog 77 [ptr n 0] [n] (fun W => BlkOk W (R1B n q (at') N cp (at') (0)) ∧ Sees W q 0 (bytesV xs) ∧ q ≠ n) (fun v out => v = u64 (numV xs at') ∧ out = [R1B n q (if cp - at' = (cntB (xs.getD at' 0)) then at' else at' + (cntB (xs.getD at' 0)) * 1) N cp (at' + (cntB (xs.getD at' 0))) (0)]) := by
 intro W hW
 have hfn : (rd1 q at' N cp at' 0).fB.n = N - at' := rfl
 have hfc : (rd1 q at' N cp at' 0).fB.c = cp - at' := rfl
 have hfe : (rd1 q at' N cp at' 0).fE = 0 := rfl
 have hcp := head_of (xs.getD at' 0)
 have hc1 : 1 ≤ (cntB (xs.getD at' 0)) := hcp.1
 have hc9 : (cntB (xs.getD at' 0)) ≤ 9 := hcp.2.1
 clear hcp
 refine calls_of (hp0 := [R1B n q (at') N cp (at') (0)]) Tryz.func77 J 95 Tryz.ntmps77 J (HRep.one hW.1) (Sat.seq (Sat.region (Tr.assign J J (show evIn _ _ = some (u64 0) from rfl) (Tr.nil (at_n (Sat.seq (Sat.seq (Sat.region (Tr.move J J J (Tr.nilChk J J J (Tr.fld J J J Y108 J Sz31 dE _ J (Tr.load1 J J J Y31 J Z0 (by exact Rdr.get_fE (by exact rd1_ok _ _ _ _ _ _)) ?_))))))))))))
 refine Tr.nei J J J J (show (!decide _) = false from congrArg not (decide_eq_true (rfl))) (Tr.nil (at_n (Sat.cond_f J (rfl) (Sat.skip (at_n (Sat.seq (Sat.seq (Sat.region (Tr.move J J J (Tr.nilChk J J J (Tr.fld J J J Y108 J Sz39 dE _ J (Tr.load1 J J J Y39 J Z0 (by exact Rdr.get_fB (by exact rd1_ok _ _ _ _ _ _)) ?_))))))))))))
 refine Tr.lenSl J J J Y39 (Tr.eqi J J J J (decide_eq_false oM) (Tr.nil (at_n (Sat.cond_f J (rfl) (Sat.skip (at_n (Sat.seq (Sat.region (Tr.assign J J J (Tr.nil (at_n (Sat.join (ι := Unit) (fun _u => ⟨[(0, ptr n 0), (3, i64 (((cntB (xs.getD at' 0)) : Nat) : Int))], [⟨n, (rd1 q at' N cp at' 0).cells, 108, 2⟩]⟩) (fun _u => True) ?_ ?_))))))))))))
 ·
  refine Sat.block (Sat.loop (ι := Nat) (fun k => ⟨[(0, ptr n 0), (3, i64 (k : Int))], [⟨n, (rd1 q at' N cp at' 0).cells, 108, 2⟩]⟩) (fun k => 1 ≤ k ∧ k ≤ (cntB (xs.getD at' 0))) (fun k => 9 - k) (1) ?_ ?_ ?_)
  · exact ⟨Nat.le_refl _, hc1⟩
  · exact weak_of (wk1 rfl (wk1 rfl wk0)) (wh1 Z0 wh0) nD
  ·
   rintro k ⟨hk3, hk4⟩
   refine Sat.seq (Sat.seq (Sat.region (Tr.move J J J (two (fun r hr k => Tr.lss J J J J hr k) (fun hs7_10 => ?_) (fun hs7_10 => ?_)))))
   ·
    have hs7_1 := of_decide_eq_true hs7_10
    refine Tr.move J J J (Tr.move J J J (Tr.nilChk J J J (Tr.fld J J J Y108 J Sz39 dE _ J (Tr.load1 J J J Y39 J Z0 (by exact Rdr.get_fB (by exact rd1_ok _ _ _ _ _ _)) ?_))))
    refine Tr.idxSlO J J J J Y39 Sz5 0 J oM (Tr.loadE J J J Y5 J (by (simp; exact hW.2.2)) ((by have := hW.2.1 at' _ (get_bytes oM); rwa [Nat.zero_add] at this)) ?_)
    refine Tr.move J J J (Tr.sub_i64 J J J J oM (Tr.conv J J J Y3 Y35 (cv_i64_u64 _) (Tr.shr_u8 J J J J (8 - k) (by rw [show (8 : Int) - (k : Int) = ((8 - k : Nat) : Int) by omega, wordOf_id _ oM]) oM ?_)))
    refine Tr.rem_u8 J J J J 2 J dE (Tr.eqi J J J J J (Tr.pick J J J J J J (Tr.nil (at_n (Sat.condP J (fun hc2 => ?_) (fun hc2 => ?_))))))
    ·
     refine Sat.skip (at_n (Sat.block (Sat.region (Tr.move J J J (Tr.add_i64 J J J J oM (Tr.assign J J J (Tr.nil (bl_n (at_n ?_)))))))))
     exact ⟨k + 1, ⟨by omega, (one_iff _ k hk3 oM hk4).1 zA⟩, by omega, weak_of (wk1 rfl (wk1 (by rw [Int.natCast_add]; rfl) wk0)) (wh1 Z0 wh0) nD⟩
    ·
     refine Sat.exit (at_x (at_x (bl_h (at_n ?_))))
     exact ⟨(), trivial, weak_of (wk1 rfl (wk1 (congrArg (fun z => some (i64 z)) (by (have h5 := one_iff (xs.getD at' 0) k hk3 oM hk4; have h6 : ¬ k < (cntB (xs.getD at' 0)) := fun h => hc2 (h5.2 h); omega))) wk0)) (wh1 Z0 wh0) nD⟩
   ·
    have hs7_1 := of_decide_eq_false hs7_10
    refine Tr.move J J J (Tr.skp J J (Tr.skp J J (Tr.skp J J (Tr.skp J J (Tr.skp J J (Tr.skp J J (Tr.skp J J (Tr.skp J J (Tr.skp J J (Tr.skp J J (Tr.skp J J (Tr.skp J J (Tr.pick J J J J J J (Tr.nil (at_n (Sat.cond_f J J (Sat.exit (at_x (at_x (bl_h (at_n ?_)))))))))))))))))))))
    exact ⟨(), trivial, weak_of (wk1 rfl (wk1 (congrArg (fun z => some (i64 z)) oM) wk0)) (wh1 Z0 wh0) nD⟩
 ·
  intro _u hj
  skip
  refine Sat.seq (Sat.seq (Sat.region (Tr.move J J J (Tr.nilChk J J J (Tr.fld J J J Y108 J Sz39 dE _ J (Tr.load1 J J J Y39 J Z0 (by exact Rdr.get_fB (by exact rd1_ok _ _ _ _ _ _)) ?_))))))
  refine Tr.lenSl J J J Y39 (Tr.move J J J (Tr.lss J J J J (decide_eq_false oM) (Tr.nil (at_n (Sat.cond_f J (rfl) (Sat.skip (at_n (Sat.seq (Sat.region (Tr.assign J J (show evIn _ _ = some (u64 0) from rfl) (Tr.nil (at_n (Sat.join (ι := Unit) (fun _u => ⟨[(0, ptr n 0), (3, i64 (((cntB (xs.getD at' 0)) : Nat) : Int)), (4, u64 (headV (xs.getD at' 0)))], [⟨n, (rd1 q at' N cp at' 0).cells, 108, 2⟩]⟩) (fun _u => True) ?_ ?_)))))))))))))
  ·
   refine Sat.seq (Sat.region (Tr.move J J J (Tr.lss J J J J J (Tr.nil (at_n (Sat.condP J (fun hc4 => ?_) (fun hc4 => ?_)))))))
   ·
    refine Sat.region (Tr.move J J J (Tr.nilChk J J J (Tr.fld J J J Y108 J Sz39 dE _ J (Tr.load1 J J J Y39 J Z0 (by exact Rdr.get_fB (by exact rd1_ok _ _ _ _ _ _)) ?_))))
    refine Tr.idxSlO J J J J Y39 Sz5 0 J oM (Tr.loadE J J J Y5 J (by (simp; exact hW.2.2)) ((by have := hW.2.1 at' _ (get_bytes oM); rwa [Nat.zero_add] at this)) ?_)
    refine Tr.conv J J J Y5 Y22 (cv_u8_u64 _) (Tr.move J J J (Tr.sub_i64 J J J J oM (Tr.conv J J J Y3 Y35 (cv_i64_u64 _) (Tr.shl_u64 J J (show evIn _ _ = some (u64 1) from rfl) J (8 - (cntB (xs.getD at' 0))) (by rw [show (8 : Int) - (((cntB (xs.getD at' 0)) : Nat) : Int) = ((8 - (cntB (xs.getD at' 0)) : Nat) : Int) by omega, wordOf_id _ oM]) oM ?_))))
    refine Tr.rem_u64 J J J J (shl64 1 (8 - (cntB (xs.getD at' 0)))).toNat J (shl_pos oM) (Tr.assign J J J (Tr.nil (at_n ?_)))
    exact ⟨(), trivial, weak_of (wk1 rfl (wk1 rfl (wk1 (congrArg (fun z => some (u64 z)) (by exact head_rem _ oM)) wk0))) (wh1 Z0 wh0) nD⟩
   ·
    refine Sat.skip (at_n ?_)
    exact ⟨(), trivial, weak_of (wk1 rfl (wk1 rfl (wk1 (congrArg (fun z => some (u64 z)) (by exact head_nine _ oM)) wk0))) (wh1 Z0 wh0) nD⟩
  ·
   intro _u hj
   skip
   refine Sat.seq (Sat.seq (Sat.region (Tr.assign J J J (Tr.nil (at_n (Sat.block (Sat.loop (ι := Nat) (fun j => ⟨[(0, ptr n 0), (3, i64 (((cntB (xs.getD at' 0)) : Nat) : Int)), (4, u64 (foldB (headV (xs.getD at' 0)) ((xs.drop (at' + 1)).take j))), (5, i64 ((j : Int) + 1))], [⟨n, (rd1 q at' N cp at' 0).cells, 108, 2⟩]⟩) (fun j => j ≤ (cntB (xs.getD at' 0)) - 1) (fun j => (cntB (xs.getD at' 0)) - 1 - j) (0) ?_ ?_ ?_)))))))
   · exact Nat.zero_le _
   · exact weak_of (wk1 rfl (wk1 rfl (wk1 rfl (wk1 rfl wk0)))) (wh1 Z0 wh0) nD
   ·
    rintro j hj
    refine Sat.seq (Sat.seq (Sat.region (Tr.move J J J (Tr.move J J J (Tr.lss J J J J J (Tr.nil (at_n (Sat.condP J (fun hc5 => ?_) (fun hc5 => ?_)))))))))
    ·
     have hj2 : j < (cntB (xs.getD at' 0)) - 1 := by omega
     refine Sat.skip (at_n (Sat.seq (Sat.block (Sat.region (Tr.move J J J (Tr.mul_u64 J J J (show evIn _ _ = some (u64 256) from rfl) (Tr.move J J J (Tr.nilChk J J J (Tr.fld J J J Y108 J Sz39 dE _ J (Tr.load1 J J J Y39 J Z0 (by exact Rdr.get_fB (by exact rd1_ok _ _ _ _ _ _)) ?_))))))))))
     refine Tr.move J J J (Tr.idxSlO J J J J Y39 Sz5 (j + 1) oM oM (Tr.loadE J J J Y5 J (by (simp; exact hW.2.2)) ((by have h9 := hW.2.1 (at' + (j + 1)) _ (get_bytes oM); rwa [Nat.zero_add] at h9)) ?_))
     refine Tr.conv J J J Y5 Y22 (cv_u8_u64 _) (Tr.add_u64 J J J J (Tr.assign J J J (Tr.nil (bl_n (at_n (Sat.region (Tr.move J J J (Tr.add_i64 J J J J oM (Tr.assign J J J (Tr.nil (at_n ?_)))))))))))
     exact ⟨j + 1, by omega, by omega, weak_of (wk1 rfl (wk1 rfl (wk1 (congrArg (fun z => some (u64 z)) (by rw [foldB_step xs (at' + 1) j _ oM, show at' + 1 + j = at' + (j + 1) by omega, fold_or])) (wk1 (congrArg (fun z => some (i64 z)) oM) wk0)))) (wh1 Z0 wh0) nD⟩
    ·
     have hj2 : j = (cntB (xs.getD at' 0)) - 1 := by omega
     refine Sat.exit (at_x (at_x (bl_h (at_n (Sat.seq (Sat.seq (Sat.region ?_)))))))
     have hnv : numV xs at' = foldB (headV (xs.getD at' 0)) ((xs.drop (at' + 1)).take j) := by rw [numV, hj2]
     refine Tr.move J J J (Tr.callV J J J J Body139 (r1_room _) (fun _ _ => trivial) (Tr.move J J J (Tr.nei J J J J (show (!decide _) = false from congrArg not (decide_eq_true (by rw [← hnv, hz]))) ?_)))
     refine Tr.nil (at_n (Sat.cond_f J (rfl) (Sat.skip (at_n (Sat.seq (Sat.region (Tr.move J J J (Tr.move J J J (Tr.nilChk J J J (Tr.fld J J J Y108 J Sz39 dE _ J (Tr.load1 J J J Y39 J Z0 (by exact Rdr.get_fB (by exact rd1_ok _ _ _ _ _ _)) ?_)))))))))))
     refine Tr.move J J J (Tr.sliceLoN (cntB (xs.getD at' 0)) J J J J J oM oM Y39 Sz5 (Tr.nilChk J J J (Tr.fld J J J Y108 J Sz39 dE _ J (Tr.store1 J J J J J Sz39 Z0 (by rw [Rdr.length (by exact rd1_ok _ _ _ _ _ _)]; decide) (by exact Rdr.setS_fB (by exact rd1_ok _ _ _ _ _ _) _ _ _) zU ?_))))
     refine Tr.nil (at_n (Sat.seq (Sat.region (Tr.move J J J (Tr.assign J J J (Tr.nil (at_n (Sat.ret (en_r ?_)))))))))
     refine ⟨_, [R1B n q (if cp - at' = (cntB (xs.getD at' 0)) then at' else at' + (cntB (xs.getD at' 0)) * 1) N cp (at' + (cntB (xs.getD at' 0))) (0)], res_tmp J J, (by intro b hb; rw [List.mem_singleton.1 hb, r1b_move]; exact mem0), nodup1, ?_⟩
     exact ⟨by rw [hnv], rfl⟩

/-- where a reader stands after it moved -/
def At1 (cp a o : Nat) : Prop := a < cp → o = a
theorem at1_move {cp a k : Nat} (h : a < cp) : At1 cp (a + k) (if cp - a = k then a else a + k * 1) := fun h2 => by rw [if_neg oM]; omega
theorem r1_NumberE (n q o N cp at' : Nat) (e : Int) (xs : List UInt8) (hx : xs.length = N) (hat : at' ≤ N) (hN : N ≤ cp) (hbig : N ≤ 90000) (ho : At1 cp at' o) (x : UInt64) (a1 : Nat) (e1 : Int) (h : numR xs at' e = (x, a1, e1)) : Meets Tryz.prog 77 [ptr n 0] [n] (fun W => BlkOk W (R1B n q o N cp at' e) ∧ Sees W q 0 (bytesV xs) ∧ q ≠ n)
    (fun v out => ∃ o1, At1 cp a1 o1 ∧ v = u64 x ∧ out = [R1B n q o1 N cp a1 e1]) := by
  unfold numR at h
  by_cases he : e = 0
  · subst he
    rw [if_neg sP] at h
    by_cases h1 : xs.length ≤ at'
    · rw [if_pos h1] at h
      obtain ⟨rfl, rfl, rfl⟩ : (0 : UInt64) = x ∧ at' = a1 ∧ (5 : Int) = e1 := by simpa using h
      exact (r1n_end n q N cp at' o xs hx hat hN hbig oM).imp (fun w h => h) fun v out ⟨h1, h2⟩ => ⟨o, ho, h1, h2⟩
    · rw [if_neg h1] at h
      obtain rfl : o = at' := ho oM
      by_cases h2 : xs.length < o + cntB (xs.getD o 0)
      · rw [if_pos h2] at h
        obtain ⟨rfl, rfl, rfl⟩ : (0 : UInt64) = x ∧ o = a1 ∧ (5 : Int) = e1 := by simpa using h
        exact (r1n_short n q N cp o xs hx hat hN hbig oM oM).imp (fun w h => h) fun v out ⟨h1, h2⟩ => ⟨o, ho, h1, h2⟩
      · rw [if_neg h2] at h
        by_cases h3 : szN (numV xs o).toNat = cntB (xs.getD o 0)
        · rw [if_pos h3] at h
          obtain ⟨rfl, rfl, rfl⟩ : numV xs o = x ∧ o + cntB (xs.getD o 0) = a1 ∧ (0 : Int) = e1 := by simpa using h
          exact (r1n_ok n q N cp o xs hx hat hN hbig oM oM h3).imp (fun w h => h) fun v out ⟨h1, h2⟩ => ⟨_, at1_move oM, h1, h2⟩
        · rw [if_neg h3] at h
          obtain ⟨rfl, rfl, rfl⟩ : (0 : UInt64) = x ∧ o = a1 ∧ (4 : Int) = e1 := by simpa using h
          exact (r1n_bad n q N cp o xs hx hat hN hbig oM oM h3).imp (fun w h => h) fun v out ⟨h1, h2⟩ => ⟨o, ho, h1, h2⟩
  · rw [if_pos he] at h
    obtain ⟨rfl, rfl, rfl⟩ : (0 : UInt64) = x ∧ at' = a1 ∧ e = e1 := by simpa using h
    exact (r1n_err n q N cp at' o e xs hx hat hN hbig he).imp (fun w h => h) fun v out ⟨h1, h2⟩ => ⟨o, ho, h1, h2⟩

theorem r1t_err (n q N cp at' : Nat) (o : Nat) (e : Int) (m : Nat) (hm0 : 0 < m) (hm : m ≤ 90000) (xs : List UInt8) (hx : xs.length = N) (hat : at' ≤ N) (hN : N ≤ cp) (hbig : N ≤ 90000) (he : ¬ e = 0) : Meets Tryz.prog 79 [ptr n 0, i64 (m : Int)] [n] (fun W => BlkOk W (R1B n q (o) N cp (at') (e)) ∧ Sees W q 0 (bytesV xs) ∧ q ≠ n) (fun v out => v = .slice none 0 0 ∧ out = [R1B n q (o) N cp (at') (e)]) := by
 intro W hW
 have hfn : (rd1 q o N cp at' e).fB.n = N - at' := rfl
 have hfc : (rd1 q o N cp at' e).fB.c = cp - at' := rfl
 have hfe : (rd1 q o N cp at' e).fE = e := rfl
 refine calls_of (hp0 := [R1B n q (o) N cp (at') (e)]) Tryz.func79 J 48 Tryz.ntmps79 J (HRep.one hW.1) (Sat.seq (Sat.region (Tr.assign J J J (Tr.nil (at_n (Sat.seq (Sat.region (Tr.move J J J (Tr.max2 J J J J (show Value.int .i64 (if (0 : Int) > (m : Int) then 0 else (m : Int)) = i64 (m : Int) by rw [if_neg oM]) ?_)))))))))
 refine Tr.assign J J J (Tr.nil (at_n (Sat.seq (Sat.seq (Sat.region (Tr.move J J J (Tr.nilChk J J J (Tr.fld J J J Y108 J Sz31 dE _ J (Tr.load1 J J J Y31 J Z0 (by exact Rdr.get_fE (by exact rd1_ok _ _ _ _ _ _)) ?_)))))))))
 refine Tr.eqi J J J J (decide_eq_false (he)) (Tr.move J J J (Tr.skp J J (Tr.skp J J (Tr.skp J J (Tr.skp J J (Tr.skp J J (Tr.skp J J (Tr.skp J J (Tr.pick J J J J J J (Tr.nil (at_n (Sat.cond_f J (rfl) (Sat.skip (at_n (Sat.seq (Sat.seq (Sat.region (Tr.move J J J (Tr.nilChk J J J (Tr.fld J J J Y108 J Sz31 dE _ J (Tr.load1 J J J Y31 J Z0 (by exact Rdr.get_fE (by exact rd1_ok _ _ _ _ _ _)) ?_)))))))))))))))))))))
 refine Tr.nei J J J J (show (!decide _) = true from congrArg not (decide_eq_false (he))) (Tr.nil (at_n (Sat.cond_t J (rfl) (Sat.seq (Sat.region (Tr.assign J J J (Tr.nil (at_n (Sat.ret (at_r (en_r ?_)))))))))))
 refine ⟨_, [R1B n q (o) N cp (at') (e)], res_tmp J J, (by intro b hb; rw [List.mem_singleton.1 hb]; exact mem0), nodup1, ?_⟩
 exact ⟨rfl, rfl⟩

theorem r1t_more (n q N cp at' : Nat) (o : Nat) (m : Nat) (hm0 : 0 < m) (hm : m ≤ 90000) (xs : List UInt8) (hx : xs.length = N) (hat : at' ≤ N) (hN : N ≤ cp) (hbig : N ≤ 90000) (hk : N < at' + m) : Meets Tryz.prog 79 [ptr n 0, i64 (m : Int)] [n] (fun W => BlkOk W (R1B n q (o) N cp (at') (0)) ∧ Sees W q 0 (bytesV xs) ∧ q ≠ n) (fun v out => v = .slice none 0 0 ∧ out = [R1B n q (o) N cp (at') (5)]) := by
 intro W hW
 have hfn : (rd1 q o N cp at' 0).fB.n = N - at' := rfl
 have hfc : (rd1 q o N cp at' 0).fB.c = cp - at' := rfl
 have hfe : (rd1 q o N cp at' 0).fE = 0 := rfl
 refine calls_of (hp0 := [R1B n q (o) N cp (at') (0)]) Tryz.func79 J 48 Tryz.ntmps79 J (HRep.one hW.1) (Sat.seq (Sat.region (Tr.assign J J J (Tr.nil (at_n (Sat.seq (Sat.region (Tr.move J J J (Tr.max2 J J J J (show Value.int .i64 (if (0 : Int) > (m : Int) then 0 else (m : Int)) = i64 (m : Int) by rw [if_neg oM]) ?_)))))))))
 refine Tr.assign J J J (Tr.nil (at_n (Sat.seq (Sat.seq (Sat.region (Tr.move J J J (Tr.nilChk J J J (Tr.fld J J J Y108 J Sz31 dE _ J (Tr.load1 J J J Y31 J Z0 (by exact Rdr.get_fE (by exact rd1_ok _ _ _ _ _ _)) ?_)))))))))
 refine Tr.eqi J J J J (decide_eq_true (rfl)) (Tr.move J J J (Tr.move J J J (Tr.nilChk J J J (Tr.fld J J J Y108 J Sz39 dE _ J (Tr.load1 J J J Y39 J Z0 (by exact Rdr.get_fB (by exact rd1_ok _ _ _ _ _ _)) ?_)))))
 refine Tr.lenSl J J J Y39 (Tr.move J J J (Tr.lss J J J J (decide_eq_true oM) (Tr.pick J J J J J J (Tr.nil (at_n (Sat.cond_t J (rfl) (Sat.region (Tr.move J J J (Tr.nilChk J J J (Tr.fld J J J Y108 J Sz31 dE _ J (Tr.store1 J J J J J Sz31 Z0 (by rw [Rdr.length (by exact rd1_ok _ _ _ _ _ _)]; decide) (Rdr.set_fE (by exact rd1_ok _ _ _ _ _ _) _) zU ?_)))))))))))
 refine Tr.nil (at_n (Sat.seq (Sat.seq (Sat.region (Tr.move J J J (Tr.nilChk J J J (Tr.fld J J J Y108 J Sz31 dE _ J (Tr.load1 J J J Y31 J Z0 (by exact Rdr.get_fE (by exact rd1_ok _ _ _ _ _ _)) ?_))))))))
 refine Tr.nei J J J J (show (!decide _) = true from congrArg not (decide_eq_false (by show ¬ ((5 : Int) = 0); decide))) ?_
 refine Tr.nil (at_n (Sat.cond_t J (rfl) (Sat.seq (Sat.region (Tr.assign J J J (Tr.nil (at_n (Sat.ret (at_r (en_r ?_))))))))))
 refine ⟨_, [R1B n q (o) N cp (at') (5)], res_tmp J J, (by intro b hb; rw [List.mem_singleton.1 hb]; exact mem0), nodup1, ?_⟩
 exact ⟨rfl, rfl⟩

theorem r1t_ok (n q N cp at' : Nat) (m : Nat) (hm0 : 0 < m) (hm : m ≤ 90000) (xs : List UInt8) (hx : xs.length = N) (hat : at' ≤ N) (hN : N ≤ cp) (hbig : N ≤ 90000) (hk : at' + m ≤ N) : Meets Tryz.prog 79 [ptr n 0, i64 (m : Int)] [n] (fun W => BlkOk W (R1B n q (at') N cp (at') (0)) ∧ Sees W q 0 (bytesV xs) ∧ q ≠ n) (fun v out => ∃ q1 c1, v = .slice (some ⟨q1, 0, none⟩) m c1 ∧ m ≤ c1 ∧ out = [⟨q1, bytesV ((xs.drop at').take m), 5, c1 * 1⟩, R1B n q (if cp - at' = m then at' else at' + m * 1) N cp (at' + m) (0)]) := by
 intro W hW
 have hfn : (rd1 q at' N cp at' 0).fB.n = N - at' := rfl
 have hfc : (rd1 q at' N cp at' 0).fB.c = cp - at' := rfl
 have hfe : (rd1 q at' N cp at' 0).fE = 0 := rfl
 refine calls_of (hp0 := [R1B n q (at') N cp (at') (0)]) Tryz.func79 J 48 Tryz.ntmps79 J (HRep.one hW.1) (Sat.seq (Sat.region (Tr.assign J J J (Tr.nil (at_n (Sat.seq (Sat.region (Tr.move J J J (Tr.max2 J J J J (show Value.int .i64 (if (0 : Int) > (m : Int) then 0 else (m : Int)) = i64 (m : Int) by rw [if_neg oM]) ?_)))))))))
 refine Tr.assign J J J (Tr.nil (at_n (Sat.seq (Sat.seq (Sat.region (Tr.move J J J (Tr.nilChk J J J (Tr.fld J J J Y108 J Sz31 dE _ J (Tr.load1 J J J Y31 J Z0 (by exact Rdr.get_fE (by exact rd1_ok _ _ _ _ _ _)) ?_)))))))))
 refine Tr.eqi J J J J (decide_eq_true (rfl)) (Tr.move J J J (Tr.move J J J (Tr.nilChk J J J (Tr.fld J J J Y108 J Sz39 dE _ J (Tr.load1 J J J Y39 J Z0 (by exact Rdr.get_fB (by exact rd1_ok _ _ _ _ _ _)) ?_)))))
 refine Tr.lenSl J J J Y39 (Tr.move J J J (Tr.lss J J J J (decide_eq_false oM) (Tr.pick J J J J J J (Tr.nil (at_n (Sat.cond_f J (rfl) (Sat.skip (at_n (Sat.seq (Sat.seq (Sat.region (Tr.move J J J (Tr.nilChk J J J (Tr.fld J J J Y108 J Sz31 dE _ J (Tr.load1 J J J Y31 J Z0 (by exact Rdr.get_fE (by exact rd1_ok _ _ _ _ _ _)) ?_)))))))))))))))
 refine Tr.nei J J J J (show (!decide _) = false from congrArg not (decide_eq_true (rfl))) (Tr.nil (at_n (Sat.cond_f J (rfl) (Sat.skip (at_n (Sat.seq (Sat.region (Tr.move J J J (Tr.nilChk J J J (Tr.fld J J J Y108 J Sz39 dE _ J (Tr.load1 J J J Y39 J Z0 (by exact Rdr.get_fB (by exact rd1_ok _ _ _ _ _ _)) ?_)))))))))))
 refine Tr.move J J J (Tr.sliceHi m J J J J J oM Y39 Sz5 (Tr.assign J J J (Tr.nil (at_n (Sat.seq (Sat.region (Tr.move J J J (Tr.move J J J (Tr.nilChk J J J (Tr.fld J J J Y108 J Sz39 dE _ J (Tr.load1 J J J Y39 J Z0 (by exact Rdr.get_fB (by exact rd1_ok _ _ _ _ _ _)) ?_)))))))))))
 refine Tr.move J J J (Tr.sliceLoN m J J J J J oM oM Y39 Sz5 (Tr.nilChk J J J (Tr.fld J J J Y108 J Sz39 dE _ J (Tr.store1 J J J J J Sz39 Z0 (by rw [Rdr.length (by exact rd1_ok _ _ _ _ _ _)]; decide) (by exact Rdr.setS_fB (by exact rd1_ok _ _ _ _ _ _) _ _ _) zU ?_))))
 refine Tr.nil (at_n (Sat.seq (Sat.region (Tr.mkRow2 (z := u8 0) [] [] rfl J Y39 Sz5 Zr5 J J (by intro v hv; cases hv) dE J ?_))))
 intro q45
 refine Tr.move J J J (Tr.appendSl (z := u8 0) (by' := 1) (bytesV ((xs.drop at').take m)) J J J J J Y39 Y39 Sz5 Zr5 (by unfold By; kernel_rfl) J (fun w h => SeesP.of (sees_ext h (by simp; exact hW.2.2) (sees_cut hW.2.1 at' m))) (fun e => by cases e) (bytesV_cell _) rem_here J J oM oM oM (by simp [bytesV]; omega) ?_)
 intro q47 c47 hq47
 rw [Nat.zero_add m] at hq47 ⊢
 refine Tr.assign J J J (Tr.nil (at_n (Sat.ret (en_r ?_))))
 refine ⟨_, [⟨q47, [] ++ bytesV ((xs.drop at').take m), 5, c47 * 1⟩, R1B n q (if cp - at' = m then at' else at' + m * 1) N cp (at' + m) (0)], res_tmp J J, (by intro b hb; rcases List.mem_cons.1 hb with rfl | hb; exact mem0; rw [List.mem_singleton.1 hb, r1b_move]; exact mem1), (fun h => h.sublist (by simp [R1B])), ?_⟩
 exact ⟨q47, c47, rfl, hq47, rfl⟩

theorem r1_TakeE (n q o N cp a : Nat) (e : Int) (m : Nat) (hm0 : 0 < m) (hm : m ≤ 90000) (xs : List UInt8) (hx : xs.length = N) (hat : a ≤ N) (hN : N ≤ cp) (hbig : N ≤ 90000) (ho : At1 cp a o) (l : List UInt8) (a1 : Nat) (e1 : Int) (h : takR xs m a e = (l, a1, e1)) : Meets Tryz.prog 79 [ptr n 0, i64 (m : Int)] [n] (fun W => BlkOk W (R1B n q o N cp a e) ∧ Sees W q 0 (bytesV xs) ∧ q ≠ n)
    (fun v out => ∃ s bl o1, At1 cp a1 o1 ∧ v = s.v ∧ Acc s bl (bytesV l) 5 l.length 1 ∧ out = bl ++ [R1B n q o1 N cp a1 e1]) := by
  unfold takR at h
  by_cases he : e = 0
  · subst he
    rw [if_neg sP] at h
    by_cases h1 : xs.length < a + m
    · rw [if_pos h1] at h
      obtain ⟨rfl, rfl, rfl⟩ : [] = l ∧ a = a1 ∧ (5 : Int) = e1 := by simpa using h
      exact (r1t_more n q N cp a o m hm0 hm xs hx hat hN hbig oM).imp (fun w h => h) fun v out ⟨h1, h2⟩ => ⟨Sl.nil, [], o, ho, h1, Acc.none, h2⟩
    · rw [if_neg h1] at h
      obtain rfl : o = a := ho oM
      obtain ⟨rfl, rfl, rfl⟩ : (xs.drop o).take m = l ∧ o + m = a1 ∧ (0 : Int) = e1 := by simpa using h
      refine (r1t_ok n q N cp o m hm0 hm xs hx hat hN hbig oM).imp (fun w h => h) fun v out ⟨q1, c1, h1, h2, h3⟩ => ?_
      have hl : ((xs.drop o).take m).length = m := by simp; omega
      refine ⟨⟨some ⟨q1, 0, none⟩, m, c1⟩, [_], _, at1_move oM, h1, ?_, h3⟩
      rw [hl]
      exact Acc.some h2 (by simp [hl]; omega)
  · rw [if_pos he] at h
    obtain ⟨rfl, rfl, rfl⟩ : [] = l ∧ a = a1 ∧ e = e1 := by simpa using h
    exact (r1t_err n q N cp a o e m hm0 hm xs hx hat hN hbig he).imp (fun w h => h) fun v out ⟨h1, h2⟩ => ⟨Sl.nil, [], o, ho, h1, Acc.none, h2⟩
theorem upd_dig {l : List UInt8} (h : l = [] ∨ l.length = 32) : upd (bytesV (List.replicate 32 0)) 0 (bytesV l) = bytesV (l ++ (List.replicate 32 0).drop l.length) := by
  rcases h with rfl | h
  · exact upd_nil _ _
  · rw [h]; simp [upd, bytesV, h]
theorem dig_tak {xs : List UInt8} {a : Nat} {e : Int} {d : List UInt8} {a1 : Nat} {e1 : Int} (h : digR xs a e = (d, a1, e1)) : ∃ l, takR xs 32 a e = (l, a1, e1) ∧ d = l ++ (List.replicate 32 0).drop l.length := by
  unfold digR at h
  unfold takR
  by_cases he : e = 0
  · rw [if_neg (by simp [he])] at h ⊢
    by_cases h1 : xs.length < a + 32
    · rw [if_pos h1] at h ⊢
      obtain ⟨rfl, rfl, rfl⟩ : List.replicate 32 0 = d ∧ a = a1 ∧ (5 : Int) = e1 := by simpa using h
      exact ⟨[], rfl, rfl⟩
    · rw [if_neg h1] at h ⊢
      obtain ⟨rfl, rfl, rfl⟩ : (xs.drop a).take 32 = d ∧ a + 32 = a1 ∧ (0 : Int) = e1 := by simpa using h
      refine ⟨_, rfl, ?_⟩
      rw [show ((xs.drop a).take 32).length = 32 by simp; omega]; simp
  · rw [if_pos he] at h ⊢
    obtain ⟨rfl, rfl, rfl⟩ : List.replicate 32 0 = d ∧ a = a1 ∧ e = e1 := by simpa using h
    exact ⟨[], rfl, rfl⟩

theorem r1_DigestT (n q o N cp at' : Nat) (e : Int) (xs : List UInt8) (hx : xs.length = N) (hat : at' ≤ N) (hN : N ≤ cp) (hbig : N ≤ 90000) (ho : At1 cp at' o) (l : List UInt8) (a1 : Nat) (e1 : Int) (h : takR xs 32 at' e = (l, a1, e1)) : Meets Tryz.prog 78 [ptr n 0] [n] (fun W => BlkOk W (R1B n q (o) N cp (at') (e)) ∧ Sees W q 0 (bytesV xs) ∧ q ≠ n) (fun v out => ∃ o1, At1 cp a1 o1 ∧ v = agg (bytesV (l ++ (List.replicate 32 0).drop l.length)) ∧ out = [R1B n q o1 N cp a1 e1]) := by
 intro W hW
 have hd := takE_le h hx hat
 have hle : l.length ≤ 32 := by rcases hd.2 with h | h <;> simp [h]
 have hle32 : l.length + (32 - l.length) = 32 := by omega
 have hd32 : (l ++ (List.replicate 32 0).drop l.length).length = 32 := by rcases hd.2 with h | h <;> simp [h]
 refine calls_of (hp0 := [R1B n q (o) N cp (at') (e)]) Tryz.func78 J 9 Tryz.ntmps78 J (HRep.one hW.1) (Sat.seq (Sat.region (Tr.alloc (cs := (bytesV (List.replicate 32 0))) J Zr24 J ?_)))
 intro n2 hn2 hf2
 refine Tr.nil (at_n (Sat.seq (Sat.region (Tr.alloc (cs := (bytesV (List.replicate 32 0))) J Zr24 J ?_))))
 intro n3 hn3 hf3
 refine Tr.nil (at_n (Sat.seq (Sat.draw [(0, 0), (0, 1), (4, 2), (4, 3)] Mixed zK (Tr.sliceArr J J J Y24 Sz5 (Tr.move J J J (Tr.callL (L := [R1B n q (o) N cp (at') (e)]) J J J J J Body79 (r1_TakeE n q o N cp at' e 32 dE dE xs hx hat hN hbig ho l a1 e1 h) (pm_cons rM pm_nil) (lent_ok J) (fun w h => ⟨own_blk h Z2, sees_ext h (by simp; exact hW.2.2) hW.2.1, hW.2.2⟩) ?_))))))
 rintro v6 out6 ⟨s6, bl6, o1, ho1, rfl, hac6, rfl⟩
 simp only [List.append_assoc, List.cons_append, List.nil_append]
 refine Tr.copyP (bytesV l) l.length J J J J J Y39 Sz5 (fun w h => hac6.see (Lies.of h (by repeat (exact in_here)))) (fun e => hac6.nil e) (by simp [bytesV, hac6.num]) (by rw [hac6.num]; omega) (List.take_of_length_le (by simp [bytesV])) (bytesV_cell _) (by (repeat (first | exact List.mem_cons_self | refine List.mem_cons_of_mem _ ?_ | refine mem_seg ?_))) (by simp [bytesV]; omega) (upd_dig hd.2) (by (repeat (first | exact upd0 | apply Upd.tail | apply Upd.seg))) ?_
 refine Tr.nil (at_n (Sat.seq (Sat.region (Tr.loadAll J J J Y24 J Sz24 (by (repeat (first | exact List.mem_cons_self | refine List.mem_cons_of_mem _ ?_ | refine mem_seg ?_))) (by (simp [hle32]; done)) ?_))))
 refine Tr.storeAll J J J J zE Sz24 (by (simp [hle32]; done)) (by (repeat (first | exact List.mem_cons_self | refine List.mem_cons_of_mem _ ?_ | refine mem_seg ?_))) sP (by (repeat (first | exact upd0 | apply Upd.tail | apply Upd.seg))) ?_
 refine Tr.nil (at_n (Sat.ret (en_r (end_perm (out := (R1B n q o1 N cp a1 e1 :: [])) (res_cell J J Y24 J Sz24 (by (repeat (first | exact List.mem_cons_self | refine List.mem_cons_of_mem _ ?_ | refine mem_seg ?_))) (by simp [hle32])) (pm_cons (by repeat (first | exact rem_here | apply rem_seg)) pm_nil) ?_))))
 exact ⟨o1, ho1, rfl, rfl⟩

theorem r1_DigestE (n q o N cp a : Nat) (e : Int) (xs : List UInt8) (hx : xs.length = N) (hat : a ≤ N) (hN : N ≤ cp) (hbig : N ≤ 90000) (ho : At1 cp a o) (d : List UInt8) (a1 : Nat) (e1 : Int) (h : digR xs a e = (d, a1, e1)) : Meets Tryz.prog 78 [ptr n 0] [n] (fun W => BlkOk W (R1B n q o N cp a e) ∧ Sees W q 0 (bytesV xs) ∧ q ≠ n)
    (fun v out => ∃ o1, At1 cp a1 o1 ∧ v = agg (bytesV d) ∧ out = [R1B n q o1 N cp a1 e1]) := by
  obtain ⟨l, h1, rfl⟩ := dig_tak h
  exact r1_DigestT n q o N cp a e xs hx hat hN hbig ho l a1 e1 h1

theorem r1_End (n q o N cp at' : Nat) (e : Int) (hat : at' ≤ N) (hbig : N ≤ 90000) : Meets Tryz.prog 80 [ptr n 0] [] (fun W => BlkOk W (R1B n q (o) N cp (at') (e))) (fun v out => v = i64 (endR N at' e) ∧ out = []) := by
 intro W hW
 have hfn : (rd1 q o N cp at' e).fB.n = N - at' := rfl
 have hfc : (rd1 q o N cp at' e).fB.c = cp - at' := rfl
 have hfe : (rd1 q o N cp at' e).fE = e := rfl
 refine calls_of (hp0 := []) Tryz.func80 J 18 Tryz.ntmps80 J (HRep.nil _) (Sat.seq (Sat.region (Tr.assign J J J (Tr.nil (at_n (Sat.seq (Sat.seq (Sat.region (Tr.move J J J (Tr.nilChk J J J (Tr.fld J J J Y108 J Sz31 dE _ J (Tr.loadE J J J Y31 J sP (BlkOk.cell0 (o := 1) hW J) (Tr.nei J J J J J (Tr.nil (at_n (Sat.condNP J (fun hc0 => ?_) (fun hc0 => ?_)))))))))))))))))
 ·
  have hq0 : ¬ e = 0 := by omega
  refine Sat.seq (Sat.region (Tr.move J J J (Tr.nilChk J J J (Tr.fld J J J Y108 J Sz31 dE _ J (Tr.loadE J J J Y31 J sP (BlkOk.cell0 (o := 1) hW J) (Tr.assign J J J (Tr.nil (at_n (Sat.ret (at_r (en_r ?_)))))))))))
  refine ⟨_, [], res_tmp J J, sP, sP, ?_, rfl⟩
  (rw [hfe, endR, if_neg hq0]; done)
 ·
  have hq0 : e = 0 := by omega
  refine Sat.skip (at_n (Sat.seq (Sat.seq (Sat.region (Tr.move J J J (Tr.nilChk J J J (Tr.fld J J J Y108 J Sz39 dE _ J (Tr.loadE J J J Y39 J sP (BlkOk.cell0 (o := 0) hW J) (Tr.lenSl (n := N - at') J J J Y39 (Tr.gtr J J J J J (Tr.nil (at_n (Sat.condP J (fun hc1 => ?_) (fun hc1 => ?_))))))))))))))
  ·
   refine Sat.seq (Sat.region (Tr.assign J J J (Tr.nil (at_n (Sat.ret (at_r (en_r ?_)))))))
   refine ⟨_, [], res_tmp J J, sP, sP, ?_, rfl⟩
   (rw [endR, if_pos hq0, if_pos (show (0 : Int) < (N : Int) - (at' : Int) by omega)]; done)
  ·
   refine Sat.skip (at_n (Sat.seq (Sat.region (Tr.assign J J J (Tr.nil (at_n (Sat.ret (en_r ?_))))))))
   refine ⟨_, [], res_tmp J J, sP, sP, ?_, rfl⟩
   (rw [endR, if_pos hq0, if_neg (show ¬ (0 : Int) < (N : Int) - (at' : Int) by omega)]; done)

/-- a new reader -/
def Rd1New (N : Nat) (xs : List UInt8) (v : Value) (out : List Blk) : Prop := ∃ n q cp, v = ptr n 0 ∧ N ≤ cp ∧ out = [R1B n q 0 N cp 0 0, ⟨q, bytesV xs, 5, cp * 1⟩]

theorem r1_Read (p : Option Addr) (n c : Nat) (xs : List UInt8) (hl : xs.length = n) (hp : p = none → n = 0) (hn : n ≤ 90000) : Meets Tryz.prog 76 [.slice p n c] [] (fun W => SeesP W p (bytesV xs)) (Rd1New n xs) := by
 intro W hW
 refine calls_of (hp0 := []) Tryz.func76 J 8 Tryz.ntmps76 J (HRep.nil _) (Sat.seq (Sat.region (Tr.assign J J J (Tr.nil (at_n (Sat.seq (Sat.region (Tr.mkRow2 (z := u8 0) [] [] rfl J Y39 Sz5 Zr5 J J (by intro v hv; cases hv) dE J ?_))))))))
 intro q3
 refine Tr.move J J J (Tr.appendSl (z := u8 0) (by' := 1) (bytesV xs) J J J J J Y39 Y39 Sz5 Zr5 (by unfold By; kernel_rfl) J (fun w h => seesP_ext h J hW) hp (by simp [bytesV, isCell, u8]) rem_here J J oM oM oM (by simp [bytesV, hl]) ?_)
 intro q5 c5 hq5
 rw [Nat.zero_add n] at hq5 ⊢
 refine Tr.build (cs := (⟨⟨some ⟨q5, 0, none⟩, n, c5⟩, 0⟩ : Rdr).cells) J J J (fun w => by kernel_rfl) ?_
 refine Tr.boxA J J ?_
 intro n7 hn7 hf7
 refine Tr.assign J J J (Tr.nil (at_n (Sat.ret (en_r ?_))))
 refine ⟨_, [R1B n7 q5 0 n c5 0 0, ⟨q5, bytesV xs, 5, c5 * 1⟩], res_tmp J J, (by intro b hb; rcases List.mem_cons.1 hb with rfl | hb; exact mem0; rw [List.mem_singleton.1 hb]; exact mem1), (fun h => h.sublist (by simp [R1B, blk])), ⟨n7, q5, c5, rfl, hq5, rfl⟩⟩

end Go.Proofs.YtpacobmjjjillaaGreat
end

section
namespace Go.Proofs.YtpacobmjjjillaaGreat
open Go Hw
set_option linter.unusedVariables false
set_option linter.unusedSimpArgs false

theorem drop_cons {xs l : List UInt8} {a : Nat} {f : UInt8} (h : xs.drop a = f :: l) : a < xs.length ∧ xs.getD a 0 = f ∧ xs.drop (a + 1) = l := by
  have hlt : a < xs.length := by
    rcases Nat.lt_or_ge a xs.length with h1 | h1
    · exact h1
    · rw [List.drop_eq_nil_of_le h1] at h; cases h
  rw [List.drop_eq_getElem_cons hlt] at h
  injection h with h1 h2
  exact ⟨hlt, by rw [List.getD_eq_getElem?_getD, List.getElem?_eq_getElem hlt]; exact h1, h2⟩
theorem drop_split {xs p t : List UInt8} {a : Nat} (h : xs.drop a = p ++ t) (hp : 0 < p.length) : a + p.length ≤ xs.length ∧ (xs.drop a).take p.length = p ∧ xs.drop (a + p.length) = t := by
  have h1 := congrArg List.length h
  rw [List.length_drop, List.length_append] at h1
  refine ⟨by omega, by rw [h]; simp, ?_⟩
  rw [← List.drop_drop, h]; simp
theorem dig_fwd {xs d t : List UInt8} {a : Nat} (h : xs.drop a = d ++ t) (hd : d.length = 32) : digR xs a 0 = (d, a + 32, 0) ∧ xs.drop (a + 32) = t := by
  obtain ⟨h1, h2, h3⟩ := drop_split h oM
  rw [hd] at h1 h2 h3
  unfold digR
  rw [if_neg sP, if_neg oM, h2]
  exact ⟨rfl, h3⟩
theorem num_fwd {xs t : List UInt8} {a : Nat} {x : UInt64} (h : xs.drop a = numB x ++ t) : numR xs a 0 = (x, a + szN x.toNat, 0) ∧ xs.drop (a + szN x.toNat) = t := by
  have hp := szN_pos x.toNat
  have hl := numB_length x
  obtain ⟨h1, h2, h3⟩ := drop_split h oM
  rw [hl] at h1 h2 h3
  rw [numB, List.cons_append] at h
  obtain ⟨g1, g2, g3⟩ := drop_cons h
  obtain ⟨n1, n2⟩ := num_back x
  have hv : numV xs a = x := by
    rw [numV, g2, g3, n1, List.take_left' (tailB_length x _)]
    exact n2
  unfold numR
  rw [if_neg sP, if_neg oM, hv, g2, n1, if_neg oM, if_pos rfl]
  exact ⟨rfl, h3⟩
theorem blk_fwd {xs ds t : List UInt8} {a : Nat} (hn : ds.length ≤ 1000000) (h : xs.drop a = numB (UInt64.ofNat ds.length) ++ ds ++ t) : blkR xs a 0 = (some ds, a + szN ds.length + ds.length, 0) ∧ xs.drop (a + szN ds.length + ds.length) = t := by
  rw [List.append_assoc] at h
  have hx : (UInt64.ofNat ds.length).toNat = ds.length := ofNat_nat hn
  obtain ⟨h1, h2⟩ := num_fwd h
  rw [hx] at h1 h2
  unfold blkR
  rw [h1]
  simp only [hx]
  rw [if_neg sP]
  have hl := congrArg List.length h2
  rw [List.length_drop, List.length_append] at hl
  have hz := szN_pos ds.length
  have hle : a + szN ds.length ≤ xs.length := by
    have := congrArg List.length h
    rw [List.length_drop, List.length_append, numB_length, hx] at this
    omega
  rw [if_neg oM, h2]
  refine ⟨by simp, ?_⟩
  rw [← List.drop_drop, h2]; simp
theorem tak_fwd {xs d t : List UInt8} {a m : Nat} (h : xs.drop a = d ++ t) (hd : d.length = m) (hm : 0 < m) : takR xs m a 0 = (d, a + m, 0) ∧ xs.drop (a + m) = t := by
  obtain ⟨h1, h2, h3⟩ := drop_split h oM
  rw [hd] at h1 h2 h3
  unfold takR
  rw [if_neg sP, if_neg oM, h2]
  exact ⟨rfl, h3⟩
theorem digs_fwd {xs t : List UInt8} {ls : List (List UInt8)} {a : Nat} (hls : ∀ l ∈ ls, l.length = 32) (h : xs.drop a = ls.flatten ++ t) : ∀ j, j ≤ ls.length → digsR xs j a 0 = (ls.take j, a + 32 * j, 0) ∧ xs.drop (a + 32 * j) = (ls.drop j).flatten ++ t
  | 0, _ => ⟨rfl, by simpa using h⟩
  | j + 1, hj => by
    obtain ⟨h1, h2⟩ := digs_fwd hls h j oM
    rw [List.drop_eq_getElem_cons (l := ls) (i := j) oM, List.flatten_cons, List.append_assoc] at h2
    obtain ⟨h3, h4⟩ := dig_fwd h2 (hls _ (List.getElem_mem oM))
    refine ⟨?_, by rw [show a + 32 * (j + 1) = a + 32 * j + 32 by omega]; exact h4⟩
    rw [digsR, h1]
    simp only [h3]
    rw [List.take_succ_eq_append_getElem oM]
    rfl
theorem dig_bwd {xs d : List UInt8} {a a1 : Nat} {e : Int} (h : digR xs a e = (d, a1, 0)) : e = 0 ∧ a1 = a + 32 ∧ a + 32 ≤ xs.length ∧ xs.drop a = d ++ xs.drop a1 := by
  unfold digR at h
  by_cases he : e = 0
  · rw [if_neg (by simp [he])] at h
    by_cases h1 : xs.length < a + 32
    · rw [if_pos h1] at h; simp at h
    · rw [if_neg h1] at h
      obtain ⟨rfl, rfl⟩ : (xs.drop a).take 32 = d ∧ a + 32 = a1 := by simpa using h
      exact ⟨he, rfl, by omega, by rw [← List.drop_drop, List.take_append_drop]⟩
  · rw [if_pos he] at h
    simp at h; exact absurd h.2.2 he
theorem num_bwd {xs : List UInt8} {x : UInt64} {a a1 : Nat} {e : Int} (h : numR xs a e = (x, a1, 0)) : e = 0 ∧ a1 = a + szN x.toNat ∧ a1 ≤ xs.length ∧ xs.drop a = numB x ++ xs.drop a1 := by
  unfold numR at h
  by_cases he : e = 0
  · rw [if_neg (by simp [he])] at h
    by_cases h1 : xs.length ≤ a
    · rw [if_pos h1] at h; simp at h
    rw [if_neg h1] at h
    by_cases h2 : xs.length < a + cntB (xs.getD a 0)
    · rw [if_pos h2] at h; simp at h
    rw [if_neg h2] at h
    by_cases h3 : szN (numV xs a).toNat = cntB (xs.getD a 0)
    · rw [if_pos h3] at h
      obtain ⟨h4, h5⟩ : numV xs a = x ∧ a + cntB (xs.getD a 0) = a1 := by simpa using h
      have hc := (head_of (xs.getD a 0)).1
      have hl : ((xs.drop (a + 1)).take (cntB (xs.getD a 0) - 1)).length = cntB (xs.getD a 0) - 1 := by rw [List.length_take, List.length_drop]; omega
      have hb := num_only hl h3
      rw [show foldB (headV (xs.getD a 0)) ((xs.drop (a + 1)).take (cntB (xs.getD a 0) - 1)) = x from h4] at hb
      rw [h4] at h3
      refine ⟨he, by omega, by omega, ?_⟩
      have e3 : xs.drop a1 = (xs.drop (a + 1)).drop (cntB (xs.getD a 0) - 1) := by rw [List.drop_drop]; congr 1; omega
      rw [hb, e3, List.cons_append, List.take_append_drop, List.drop_eq_getElem_cons (l := xs) (i := a) oM]
      congr 1
      rw [List.getD_eq_getElem?_getD, List.getElem?_eq_getElem oM]; rfl
    · rw [if_neg h3] at h; simp at h
  · rw [if_pos he] at h
    simp at h; exact absurd h.2.2 he
theorem tak_bwd {xs d : List UInt8} {a a1 m : Nat} {e : Int} (h : takR xs m a e = (d, a1, 0)) : e = 0 ∧ a1 = a + m ∧ a1 ≤ xs.length ∧ d.length = m ∧ xs.drop a = d ++ xs.drop a1 := by
  unfold takR at h
  by_cases he : e = 0
  · rw [if_neg (by simp [he])] at h
    by_cases h1 : xs.length < a + m
    · rw [if_pos h1] at h; simp at h
    · rw [if_neg h1] at h
      obtain ⟨rfl, rfl⟩ : (xs.drop a).take m = d ∧ a + m = a1 := by simpa using h
      exact ⟨he, rfl, by omega, by simp; omega, by rw [← List.drop_drop, List.take_append_drop]⟩
  · rw [if_pos he] at h
    simp at h; exact absurd h.2.2 he
theorem readP_bytes {D : DB} (h : D.ok) (hc : D.check = 0) (t : List UInt8) : readP (D.bytes ++ t) = (D, D.bytes.length, 0) := by
  have hs := D.head_small hc
  have hl1 : (UInt64.ofNat D.ls.length).toNat = D.ls.length := ofNat_nat oM
  obtain ⟨xs, hxs⟩ : ∃ xs, D.bytes ++ t = xs := ⟨_, rfl⟩
  rw [hxs]
  have h0 : xs.drop 0 = D.w ++ (numB D.seq ++ (D.prev ++ (numB (UInt64.ofNat D.ls.length) ++ (D.ls.flatten ++ (numB (UInt64.ofNat D.ds.length) ++ D.ds ++ (D.sg ++ t)))))) := by
    rw [List.drop_zero, ← hxs]
    simp only [DB.bytes, DB.body, List.append_assoc]
  obtain ⟨r1, h1⟩ := dig_fwd h0 h.w
  obtain ⟨r2, h2⟩ := num_fwd h1
  obtain ⟨r3, h3⟩ := dig_fwd h2 h.prev
  obtain ⟨r4, h4⟩ := num_fwd h3
  rw [hl1] at r4 h4
  obtain ⟨r5, h5⟩ := digs_fwd h.ls h4 D.ls.length (Nat.le_refl _)
  rw [List.take_length] at r5
  rw [List.drop_length, List.flatten_nil, List.nil_append] at h5
  obtain ⟨r6, h6⟩ := blk_fwd oM h5
  obtain ⟨r7, h7⟩ := tak_fwd h6 h.sg dE
  have hk : min (UInt64.ofNat D.ls.length).toNat 17 = D.ls.length := by omega
  have hlen : D.bytes.length = 0 + 32 + szN D.seq.toNat + 32 + szN D.ls.length + 32 * D.ls.length + szN D.ds.length + D.ds.length + 64 := by
    have hfl := flatten_take_len h.ls (Nat.le_refl D.ls.length)
    rw [List.take_length] at hfl
    simp only [DB.bytes, DB.body, List.length_append, numB_length, h.w, h.prev, h.sg, hfl, hl1, ofNat_nat (n := D.ds.length) oM]
    omega
  simp only [readP, r1, r2, r3, r4, hk, r5, r6, r7, Option.getD_some]
  rw [h.sg, hlen, List.drop_of_length_le sP, List.append_nil]
theorem readD_bytes {D : DB} (h : D.ok) (hc : D.check = 0) : readD D.bytes = (D, 0) := by
  have hr := readP_bytes h hc []
  rw [List.append_nil] at hr
  rw [readD_ok (by rw [hr]; exact ⟨by simp [endR], hc⟩), hr]
theorem bytes_inj {D E : DB} (hD : D.ok) (hE : E.ok) (cD : D.check = 0) (cE : E.check = 0) : D.bytes = E.bytes ↔ D = E := by
  constructor
  · intro h
    have h1 := readD_bytes hD cD
    rw [h, readD_bytes hE cE] at h1
    exact (congrArg Prod.fst h1).symm
  · intro h; rw [h]
end Go.Proofs.YtpacobmjjjillaaGreat
end

section
namespace Go.Proofs.YtpacobmjjjillaaGreat
open Go Hw
set_option linter.unusedVariables false
set_option linter.unusedSimpArgs false

theorem byteOf_small {x : Int} (h0 : 0 ≤ x) (h4 : x < 256) : (Hw.byteOf x).toUInt64.toNat = x.toNat := by
  simp only [Hw.byteOf]
  rw [UInt8.toNat_toUInt64, UInt8.toNat_ofNat']
  omega
theorem vcheck_phase {V : Vote} (h : vcheck V = 0) : 1 ≤ V.fPhase ∧ V.fPhase ≤ 3 := by
  have h2 : vokB V = true := by
    cases e : vokB V
    · unfold vcheck at h
      rw [e] at h
      split at h <;> cases h
    · rfl
  unfold vokB at h2
  by_cases h3 : V.fPhase = 1
  · omega
  · rw [if_neg h3] at h2
    by_cases h4 : V.fPhase = 2 ∨ V.fPhase = 3
    · omega
    · rw [if_neg h4] at h2; cases h2
theorem voteRd_two (xs : List UInt8) : (voteRd xs).2 = 0 ∨ voteRd xs = (Vote.zero, 4) := by
  by_cases hg : endR xs.length (voteP xs).2.1 (voteP xs).2.2 = 0 ∧ vcheck (voteP xs).1 = 0
  · left; rw [voteRd_ok hg]
  · right; exact voteRd_bad hg
theorem voteRd_only {xs : List UInt8} (h : (voteRd xs).2 = 0) : vcheck (voteRd xs).1 = 0 ∧ voteBy (voteRd xs).1 = xs ∧ (voteRd xs).1.ok := by
  by_cases hg : endR xs.length (voteP xs).2.1 (voteP xs).2.2 = 0 ∧ vcheck (voteP xs).1 = 0
  case neg => rw [voteRd_bad hg] at h; cases h
  rw [voteRd_ok hg]
  refine ⟨hg.2, ?_⟩
  obtain ⟨he, hc⟩ := hg
  have e0 : (voteP xs).2.2 = 0 ∧ ¬ (0 : Int) < (xs.length : Int) - ((voteP xs).2.1 : Int) := by
    unfold endR at he
    split at he
    · rename_i h1
      exact ⟨h1, fun h2 => by rw [if_pos h2] at he; cases he⟩
    · rename_i h1; exact absurd he h1
  obtain ⟨e1, e2⟩ := e0
  rw [show voteBy (voteP xs).1 = voteT (voteP xs).1 ++ (voteP xs).1.fSig from if_pos hc]
  simp only [voteP] at e1 e2 hc ⊢
  obtain ⟨x1, p1, h1⟩ : ∃ l r, numR xs 0 0 = (l, r) := ⟨_, _, rfl⟩
  obtain ⟨a1, d1⟩ := p1
  rw [h1] at e1 e2 hc ⊢
  simp only at e1 e2 hc ⊢
  obtain ⟨x2, p2, h2⟩ : ∃ l r, numR xs a1 d1 = (l, r) := ⟨_, _, rfl⟩
  obtain ⟨a2, d2⟩ := p2
  rw [h2] at e1 e2 hc ⊢
  simp only at e1 e2 hc ⊢
  obtain ⟨x3, p3, h3⟩ : ∃ l r, numR xs a2 d2 = (l, r) := ⟨_, _, rfl⟩
  obtain ⟨a3, d3⟩ := p3
  rw [h3] at e1 e2 hc ⊢
  simp only at e1 e2 hc ⊢
  obtain ⟨l4, p4, h4⟩ : ∃ l r, digR xs a3 d3 = (l, r) := ⟨_, _, rfl⟩
  obtain ⟨a4, d4⟩ := p4
  rw [h4] at e1 e2 hc ⊢
  simp only at e1 e2 hc ⊢
  obtain ⟨x5, p5, h5⟩ : ∃ l r, numR xs a4 d4 = (l, r) := ⟨_, _, rfl⟩
  obtain ⟨a5, d5⟩ := p5
  rw [h5] at e1 e2 hc ⊢
  simp only at e1 e2 hc ⊢
  obtain ⟨l6, p6, h6⟩ : ∃ l r, digR xs a5 d5 = (l, r) := ⟨_, _, rfl⟩
  obtain ⟨a6, d6⟩ := p6
  rw [h6] at e1 e2 hc ⊢
  simp only at e1 e2 hc ⊢
  obtain ⟨l7, p7, h7⟩ : ∃ l r, takR xs 64 a6 d6 = (l, r) := ⟨_, _, rfl⟩
  obtain ⟨a7, d7⟩ := p7
  rw [h7] at e1 e2 hc ⊢
  simp only at e1 e2 hc ⊢
  subst e1
  obtain ⟨z6, ea7, ha7, hl7, hx7⟩ := tak_bwd h7
  subst z6
  obtain ⟨z5, ea6, ha6, hx6⟩ := dig_bwd h6
  subst z5
  obtain ⟨z4, ea5, ha5, hx5⟩ := num_bwd h5
  subst z4
  obtain ⟨z3, ea4, ha4, hx4⟩ := dig_bwd h4
  subst z3
  obtain ⟨z2, ea3, ha3, hx3⟩ := num_bwd h3
  subst z2
  obtain ⟨z1, ea2, ha2, hx2⟩ := num_bwd h2
  subst z1
  obtain ⟨_, ea1, ha1, hx1⟩ := num_bwd h1
  have d4 := (digR_at xs a3 0 oM).2
  have d6 := (digR_at xs a5 0 oM).2
  rw [h4] at d4
  rw [h6] at d6
  have e7 : l7 ++ (List.replicate 64 (0 : UInt8)).drop l7.length = l7 := by rw [hl7]; simp
  have hend : xs.drop a7 = [] := List.drop_of_length_le oM
  rw [e7] at hc ⊢
  have hph := vcheck_phase hc
  simp only at hph
  have hx : (Hw.byteOf ((min x3.toNat 4 : Nat) : Int)).toUInt64 = x3 := by
    apply UInt64.toNat_inj.1
    rw [byteOf_small oM oM]
    omega
  refine ⟨?_, ⟨d4, d6, hl7⟩⟩
  simp only [voteT]
  rw [hx]
  rw [List.drop_zero] at hx1
  rw [hx1, hx2, hx3, hx4, hx5, hx6, hx7, hend]
  simp [List.append_assoc]
end Go.Proofs.YtpacobmjjjillaaGreat
end

section
namespace Go.Proofs.YtpacobmjjjillaaGreat
open Go Hw
set_option linter.unusedVariables false
set_option linter.unusedSimpArgs false

open Ed

theorem seesP_tk {w : World} {p : Option Addr} {l : List UInt8} {n : Nat} (h : SeesP w p (bytesV l)) : SeesP w p (bytesV (l.take n)) := fun j v hj => by
  rw [bytesV, List.map_take, List.getElem?_take] at hj
  split at hj
  · exact h j v hj
  · cases hj

theorem r2_StartShort (k s0 i0 : List UInt64) (G : List UInt8) (hk : Hid (kW = k)) (hk80 : k.length = 80) (hs0 : Hid (xorUp 8 = s0)) (hs8 : s0.length = 8) (hG : Hid (shaTag = G)) (hGl : G.length = 11) (hi0 : Hid (allW k s0 G = i0)) (hi8 : i0.length = 8)  : Meets Tryz.prog 142 [] [] (fun _ => True) (fun v out => v = agg (wordsV i0) ∧ out = []) := by
 intro W hW
 refine calls_of (hp0 := []) Tryz.func142 J 18 Tryz.ntmps142 J (HRep.nil _) (Sat.seq (Sat.region (Tr.alloc (cs := (wordsV (List.replicate 8 0))) J Zr135 J ?_)))
 intro n0 hn0 hf0
 refine Tr.nil (at_n (Sat.seq (Sat.region (Tr.callV J J J J Body208 (r2_Start startW ⟨rfl⟩) (fun _ _ => trivial) (Tr.alloc (cs := (wordsV (List.replicate 8 0))) J Zr135 J ?_)))))
 intro n1 hn1 hf1
 refine Tr.storeAll J J J J zB Sz135 (by (simp [startW_length]; done)) Z0 sP zU ?_
 refine Tr.nil (at_n (Sat.seq (Sat.seq (Sat.region (Tr.assign J J J (Tr.nil (at_n (Sat.block (Sat.loop (ι := Nat) (fun j => ⟨[(0, ptr n0 0), (1, ptr n1 0), (2, i64 (j : Int))], [⟨n1, wordsV (xorUp j), 135, 8⟩, ⟨n0, wordsV (List.replicate 8 0), 135, 8⟩]⟩) (fun j => j ≤ 8) (fun j => 8 - j) (0) ?_ ?_ ?_)))))))))
 · omega
 · exact weak_perm (wk1 rfl (wk1 rfl (wk1 rfl wk0))) (pm_cons rM (pm_cons rM pm_nil))
 ·
  rintro j hi
  have hlj := xorUp_length j
  refine Sat.seq (Sat.seq (Sat.region (Tr.move J J J (Tr.lss J J J J J (Tr.nil (at_n (Sat.condP J (fun hc0 => ?_) (fun hc0 => ?_))))))))
  ·
   refine Sat.skip (at_n (Sat.seq (Sat.block (Sat.region (Tr.move J J J (Tr.move J J J (Tr.idxArr1 J J J J Y135 Sz22 _ J oM (Tr.load1 J J J Y22 J Z0 (by exact get_words oM) ?_))))))))
   refine Tr.xor_u64 J J J (show evIn _ _ = some (u64 11936128518282651045) from rfl) (Tr.idxArr1 J J J J Y135 Sz22 _ J oM (Tr.store1 J J J J J Sz22 Z0 (by (simp [xorUp_length]; omega)) (by exact set_words _ _ _) zU ?_))
   refine Tr.nil (bl_n (at_n (Sat.region (Tr.move J J J (Tr.add_i64 J J J J oM (Tr.assign J J J (Tr.nil (at_n ?_))))))))
   exact ⟨j + 1, by omega, by omega, weak_perm (wk1 rfl (wk1 rfl (wk1 rfl wk0))) (pm_cons rM (pm_cons rM pm_nil))⟩
  ·
   obtain rfl : j = 8 := by omega
   rw [hs0.out]
   clear hlj
   refine Sat.exit (at_x (at_x (bl_h (at_n (Sat.seq (Sat.region (Tr.loadAll J J J Y135 J Sz135 Z0 (by (simp [hs8]; done)) ?_)))))))
   refine Tr.mkRow (z := u8 0) [u8 83, u8 72, u8 65, u8 45, u8 53, u8 49, u8 50, u8 47, u8 50, u8 53, u8 54] (bytesV shaTag) J J J Y39 Sz5 Zr5 J J (by intro v hv; simp only [List.mem_cons, List.not_mem_nil, or_false] at hv; rcases hv with rfl | rfl | rfl | rfl | rfl | rfl | rfl | rfl | rfl | rfl | rfl <;> rfl) dE J ?_
   intro q15
   rw [hG.out]
   refine Tr.constB J J J J Y39 Y5 Z0 ?_
   refine Tr.callV J J J J Body141 (r2_run s0 hs8 k hk hk80 ⟨some ⟨q15, 0, none⟩, 11, 11⟩ G (by simp [hGl]) (fun e => by cases e) oM) (fun w h => SeesP.of (sees_own h Z0)) ?_
   rw [hi0.out]
   refine Tr.storeAll J J J J zB Sz135 (by (simp [hi8]; done)) Z2 sP (by exact upd2) ?_
   refine Tr.nil (at_n (Sat.ret (en_r ?_)))
   refine ⟨_, [], res_cell J J Y135 J Sz135 Z2 (by simp [hi8]), sP, sP, ?_, rfl⟩
   rfl

theorem r2_Sum (k s0 i0 : List UInt64) (G : List UInt8) (hk : Hid (kW = k)) (hk80 : k.length = 80) (hs0 : Hid (xorUp 8 = s0)) (hs8 : s0.length = 8) (hG : Hid (shaTag = G)) (hGl : G.length = 11) (hi0 : Hid (allW k s0 G = i0)) (hi8 : i0.length = 8) (p : Option Addr) (n c : Nat) (ss : List Sl) (ls : List (List UInt8)) (hss : ss.length = n) (hls : ls.length = n) (hsl : ∀ j, j < n → (ss.getD j Sl.nil).n = (ls.getD j []).length ∧ ((ss.getD j Sl.nil).p = none → (ss.getD j Sl.nil).n = 0)) (F : List UInt8) (hF : ls.flatten = F) (htot : F.length ≤ 90000) (hn : n ≤ 1000000) (r : List UInt64) (hr : Hid (allW k i0 F = r)) (s : List UInt8) (hs : Hid (sumUp r 64 = s))  : Meets Tryz.prog 81 [.slice p n c] [] (fun W => SeesP W p (ss.map Sl.v) ∧ ∀ j, j < n → SeesP W (ss.getD j Sl.nil).p (bytesV (ls.getD j []))) (fun v out => v = agg (bytesV (s.take 32)) ∧ out = []) := by
 intro W hW
 have hr8 : r.length = 8 := by rw [← hr.out, allW_length]; exact hi8
 have hs64 : s.length = 64 := by rw [← hs.out]; exact sumUp_length r 64
 have hs32 : (s.take 32).length = 32 := by rw [List.length_take, hs64]; rfl
 have hrun := fun (x : Sl) (h1 : x.n = F.length) (h2 : x.p = none → x.n = 0) => r2_run i0 hi8 k hk hk80 x F h1 h2 htot
 rw [hr.out] at hrun
 refine calls_of (hp0 := []) Tryz.func81 J 14 Tryz.ntmps81 J (HRep.nil _) (Sat.seq (Sat.region (Tr.alloc (cs := (bytesV (List.replicate 32 0))) J Zr24 J ?_)))
 intro n2 hn2 hf2
 refine Tr.nil (at_n (Sat.seq (Sat.region (Tr.callV J J J J Body142 (r2_StartShort k s0 i0 G hk hk80 hs0 hs8 hG hGl hi0 hi8) (fun _ _ => trivial) (Tr.move J J J (Tr.call4 J J J J J Body143 (r2_join p n c ss ls hss hls hsl F hF htot hn) (fun w h => ⟨seesP_ext h J hW.1, fun j hj => seesP_ext h J (hW.2 j hj)⟩) ?_))))))
 rintro v7 out7 ⟨s7, rfl, hac7⟩
 refine Tr.callV J J J J Body141 (hrun s7 hac7.num hac7.nil) (fun w h => hac7.see (Lies.of h (by repeat (exact in_here)))) ?_
 refine Tr.callV J J J J Body140 (r2_bytes r hr8 s hs) (fun _ _ => trivial) (Tr.alloc (cs := (bytesV (List.replicate 64 0))) J Zr26 J ?_)
 intro n3 hn3 hf3
 refine Tr.storeAll J J J J zE Sz26 (by (simp [hs64]; done)) Z0 sP zU ?_
 refine Tr.nil (at_n (Sat.seq (Sat.region (Tr.alloc (cs := (bytesV (List.replicate 32 0))) J Zr24 J ?_))))
 intro n4 hn4 hf4
 refine Tr.nil (at_n (Sat.seq (Sat.draw [(0, 0), (0, 1), (4, 2)] Mixed zK (Tr.sliceArr J J J Y24 Sz5 (Tr.sliceArrHi 32 J J J J J dE dE Y26 Sz5 (Tr.copyP (bytesV (s.take 32)) 32 J J J J J Y39 Sz5 (fun w h => seesP_tk (SeesP.of (sees_own h Z1))) (fun e => by cases e) (by simp [bytesV, hs64]) J (List.take_of_length_le (by simp [bytesV, hs64])) (bytesV_cell _) Z0 (by simp [bytesV]) (show upd (bytesV (List.replicate 32 0)) 0 (bytesV (s.take 32)) = bytesV (s.take 32) by simp [upd, bytesV, hs64]) zU ?_))))))
 refine Tr.nil (at_n (Sat.seq (Sat.region (Tr.loadAll J J J Y24 J Sz24 Z0 (by (simp [hs64]; done)) ?_))))
 refine Tr.storeAll J J J J zE Sz24 (by (simp [hs64]; done)) (by (repeat (first | exact List.mem_cons_self | refine List.mem_cons_of_mem _ ?_ | refine mem_seg ?_))) sP (by (repeat (first | exact upd0 | apply Upd.tail | apply Upd.seg))) ?_
 refine Tr.nil (at_n (Sat.ret (en_r ?_)))
 refine ⟨_, [], res_cell J J Y24 J Sz24 (by (repeat (first | exact List.mem_cons_self | refine List.mem_cons_of_mem _ ?_ | refine mem_seg ?_))) (by simp [hs64]), sP, sP, ?_, rfl⟩
 rfl

/-- the name of a vote -/
def nameV (V : Vote) : List UInt8 := if vcheck V = 0 then sha256 (voteBy V) else List.replicate 32 0
theorem nameV_length (V : Vote) : (nameV V).length = 32 := by
  unfold nameV
  split
  · exact sha256_length _
  · rfl
theorem voteBy_le {V : Vote} (hV : V.ok) : (voteBy V).length ≤ 200 := by
  have := voteN_le V
  unfold voteBy
  split
  · rw [List.length_append, voteT_length hV, hV.l_fSig]; omega
  · exact Nat.zero_le _
theorem vcheck_min (V : Vote) (m : Nat) : (vcheck { V with fPhase := ((min m 255 : Nat) : Int) } = 0 ↔ vcheck { V with fPhase := ((min m 4 : Nat) : Int) } = 0) ∧ (vcheck { V with fPhase := ((min m 255 : Nat) : Int) } = 0 → ({ V with fPhase := ((min m 4 : Nat) : Int) } : Vote) = { V with fPhase := ((min m 255 : Nat) : Int) }) := by
  by_cases h : m ≤ 3
  · rw [show min m 255 = m by omega, show min m 4 = m by omega]
    exact ⟨Iff.rfl, fun _ => rfl⟩
  · have h1 : ¬ vcheck { V with fPhase := ((min m 255 : Nat) : Int) } = 0 := fun e => by
      have := vcheck_phase e
      simp only at this
      omega
    have h2 : ¬ vcheck { V with fPhase := ((min m 4 : Nat) : Int) } = 0 := fun e => by
      have := vcheck_phase e
      simp only at this
      omega
    exact ⟨⟨fun e => absurd e h1, fun e => absurd e h2⟩, fun e => absurd e h1⟩

theorem vote_name (V : Vote) (hV : V.ok) : Meets Tryz.prog 21 [agg V.cells] [] (fun _ => True) (fun v out => v = agg (bytesV (nameV V)) ∧ out = []) := by
 intro W hW
 have hvl := voteBy_le hV
 obtain ⟨k, hk⟩ : ∃ k, Hid (kW = k) := ⟨_, ⟨rfl⟩⟩
 obtain ⟨s0, hs0⟩ : ∃ s0, Hid (xorUp 8 = s0) := ⟨_, ⟨rfl⟩⟩
 obtain ⟨G, hG⟩ : ∃ G, Hid (shaTag = G) := ⟨_, ⟨rfl⟩⟩
 obtain ⟨i0, hi0⟩ : ∃ i0, Hid (allW k s0 G = i0) := ⟨_, ⟨rfl⟩⟩
 have hk80 : k.length = 80 := by rw [← hk.out]; rfl
 have hs8 : s0.length = 8 := by rw [← hs0.out]; exact xorUp_length 8
 have hGl : G.length = 11 := by rw [← hG.out]; rfl
 have hi8 : i0.length = 8 := by rw [← hi0.out, allW_length]; exact hs8
 obtain ⟨r, hr⟩ : ∃ r, Hid (allW k i0 (voteBy V) = r) := ⟨_, ⟨rfl⟩⟩
 obtain ⟨s, hs⟩ : ∃ s, Hid (sumUp r 64 = s) := ⟨_, ⟨rfl⟩⟩
 have hsd : Hid (s.take 32 = sha256 (voteBy V)) := ⟨by rw [← hs.out, ← hr.out, ← hi0.out, ← hG.out, ← hs0.out, ← hk.out]; rfl⟩
 have hs64 : s.length = 64 := by rw [← hs.out]; exact sumUp_length r 64
 have hs32 : (s.take 32).length = 32 := by rw [List.length_take, hs64]; rfl
 refine calls_of (hp0 := []) Tryz.func21 J 16 Tryz.ntmps21 J (HRep.nil _) (Sat.seq (Sat.region (Tr.boxA J J ?_)))
 intro n1 hn1 hf1
 refine Tr.alloc (cs := (bytesV (List.replicate 32 0))) J Zr24 J ?_
 intro n2 hn2 hf2
 refine Tr.nil (at_n (Sat.seq (Sat.region (Tr.loadAll J J J Y29 J Sz29 Z1 (Vote.length zA) ?_))))
 refine Tr.call4 J J J J J Body17 (vote_bytes V hV) (fun _ _ => trivial) ?_
 rintro v7 out7 ⟨s7, rfl, hac7⟩
 refine Tr.move J J J (Tr.extract J J J J (Tr.extract J J J J (Tr.assign J J J (Tr.assign J J J (Tr.nil (at_n (Sat.seq (Sat.seq (Sat.region (Tr.move J J J (Tr.nei J J J J J (Tr.nil (at_n (Sat.condNP J (fun hc0 => ?_) (fun hc0 => ?_)))))))))))))))
 ·
  have hq0 : ¬ vcheck V = 0 := by omega
  refine Sat.seq (Sat.region (Tr.build (cs := bytesV (List.replicate 32 0)) J J J (fun w => by kernel_rfl) ?_))
  refine Tr.storeAll J J J J zE Sz24 sP (by (repeat (first | exact List.mem_cons_self | refine mem_seg ?_))) sP (by (repeat (first | exact upd0 | apply Upd.seg))) ?_
  refine Tr.nil (at_n (Sat.ret (at_r (en_r ?_))))
  refine ⟨_, [], res_cell J J Y24 J Sz24 (by (repeat (first | exact List.mem_cons_self | refine mem_seg ?_))) sP, sP, sP, ?_, rfl⟩
  (rw [nameV, if_neg hq0]; done)
 ·
  have hq0 : vcheck V = 0 := by omega
  refine Sat.skip (at_n (Sat.seq (Sat.region (Tr.move J J J (Tr.mkRow (z := .slice none 0 0) [s7.v] [s7.v] rfl J J Y133 Sz39 Zr39 J J (by intro v hv; rw [List.mem_singleton.1 hv]; rfl) dE J ?_)))))
  intro q14
  refine Tr.callV J J J J Body68 (sha_Sum k s0 i0 G hk hk80 hs0 hs8 hG hGl hi0 hi8 (some ⟨q14, 0, none⟩) 1 1 [s7] [voteBy V] rfl J (fun j hj => (by obtain rfl : j = 0 := oM; exact ⟨by simp [hac7.num], fun e => hac7.nil e⟩)) (voteBy V) sP oM dE r hr s hs) (fun w h => ⟨SeesP.of (sees_own h Z0), fun j hj => (by obtain rfl : j = 0 := oM; exact hac7.see (Lies.of h (by repeat (first | exact in_here | refine in_there ?_))))⟩) ?_
  refine Tr.storeAll J J J J zE Sz24 (by (simp [hs64]; done)) (by (repeat (first | exact List.mem_cons_self | refine List.mem_cons_of_mem _ ?_ | refine mem_seg ?_))) sP (by (repeat (first | exact upd0 | apply Upd.tail | apply Upd.seg))) ?_
  refine Tr.nil (at_n (Sat.ret (en_r ?_)))
  refine ⟨_, [], res_cell J J Y24 J Sz24 (by (repeat (first | exact List.mem_cons_self | refine List.mem_cons_of_mem _ ?_ | refine mem_seg ?_))) (by simp [hs64]), sP, sP, ?_, rfl⟩
  (rw [nameV, if_pos hq0, hsd.out]; done)

theorem r20_Name (V : Vote) (hV : V.ok) : Meets Tryz.prog 30 [agg V.cells] [] (fun _ => True) (fun v out => v = agg (bytesV (nameV V)) ∧ out = []) := by
 intro W hW
 have hvl := voteBy_le hV
 obtain ⟨k, hk⟩ : ∃ k, Hid (kW = k) := ⟨_, ⟨rfl⟩⟩
 obtain ⟨s0, hs0⟩ : ∃ s0, Hid (xorUp 8 = s0) := ⟨_, ⟨rfl⟩⟩
 obtain ⟨G, hG⟩ : ∃ G, Hid (shaTag = G) := ⟨_, ⟨rfl⟩⟩
 obtain ⟨i0, hi0⟩ : ∃ i0, Hid (allW k s0 G = i0) := ⟨_, ⟨rfl⟩⟩
 have hk80 : k.length = 80 := by rw [← hk.out]; rfl
 have hs8 : s0.length = 8 := by rw [← hs0.out]; exact xorUp_length 8
 have hGl : G.length = 11 := by rw [← hG.out]; rfl
 have hi8 : i0.length = 8 := by rw [← hi0.out, allW_length]; exact hs8
 obtain ⟨r, hr⟩ : ∃ r, Hid (allW k i0 (voteBy V) = r) := ⟨_, ⟨rfl⟩⟩
 obtain ⟨s, hs⟩ : ∃ s, Hid (sumUp r 64 = s) := ⟨_, ⟨rfl⟩⟩
 have hsd : Hid (s.take 32 = sha256 (voteBy V)) := ⟨by rw [← hs.out, ← hr.out, ← hi0.out, ← hG.out, ← hs0.out, ← hk.out]; rfl⟩
 have hs64 : s.length = 64 := by rw [← hs.out]; exact sumUp_length r 64
 have hs32 : (s.take 32).length = 32 := by rw [List.length_take, hs64]; rfl
 refine calls_of (hp0 := []) Tryz.func30 J 16 Tryz.ntmps30 J (HRep.nil _) (Sat.seq (Sat.region (Tr.boxA J J ?_)))
 intro n1 hn1 hf1
 refine Tr.alloc (cs := (bytesV (List.replicate 32 0))) J Zr24 J ?_
 intro n2 hn2 hf2
 refine Tr.nil (at_n (Sat.seq (Sat.region (Tr.loadAll J J J Y29 J Sz29 Z1 (Vote.length zA) ?_))))
 refine Tr.call4 J J J J J Body26 (r20_Bytes V hV) (fun _ _ => trivial) ?_
 rintro v7 out7 ⟨s7, rfl, hac7⟩
 refine Tr.move J J J (Tr.extract J J J J (Tr.extract J J J J (Tr.assign J J J (Tr.assign J J J (Tr.nil (at_n (Sat.seq (Sat.seq (Sat.region (Tr.move J J J (Tr.nei J J J J J (Tr.nil (at_n (Sat.condNP J (fun hc0 => ?_) (fun hc0 => ?_)))))))))))))))
 ·
  have hq0 : ¬ vcheck V = 0 := by omega
  refine Sat.seq (Sat.region (Tr.build (cs := bytesV (List.replicate 32 0)) J J J (fun w => by kernel_rfl) ?_))
  refine Tr.storeAll J J J J zE Sz24 sP (by (repeat (first | exact List.mem_cons_self | refine mem_seg ?_))) sP (by (repeat (first | exact upd0 | apply Upd.seg))) ?_
  refine Tr.nil (at_n (Sat.ret (at_r (en_r ?_))))
  refine ⟨_, [], res_cell J J Y24 J Sz24 (by (repeat (first | exact List.mem_cons_self | refine mem_seg ?_))) sP, sP, sP, ?_, rfl⟩
  (rw [nameV, if_neg hq0]; done)
 ·
  have hq0 : vcheck V = 0 := by omega
  refine Sat.skip (at_n (Sat.seq (Sat.region (Tr.move J J J (Tr.mkRow (z := .slice none 0 0) [s7.v] [s7.v] rfl J J Y133 Sz39 Zr39 J J (by intro v hv; rw [List.mem_singleton.1 hv]; rfl) dE J ?_)))))
  intro q14
  refine Tr.callV J J J J Body81 (r2_Sum k s0 i0 G hk hk80 hs0 hs8 hG hGl hi0 hi8 (some ⟨q14, 0, none⟩) 1 1 [s7] [voteBy V] rfl J (fun j hj => (by obtain rfl : j = 0 := oM; exact ⟨by simp [hac7.num], fun e => hac7.nil e⟩)) (voteBy V) sP oM dE r hr s hs) (fun w h => ⟨SeesP.of (sees_own h Z0), fun j hj => (by obtain rfl : j = 0 := oM; exact hac7.see (Lies.of h (by repeat (first | exact in_here | refine in_there ?_))))⟩) ?_
  refine Tr.storeAll J J J J zE Sz24 (by (simp [hs64]; done)) (by (repeat (first | exact List.mem_cons_self | refine List.mem_cons_of_mem _ ?_ | refine mem_seg ?_))) sP (by (repeat (first | exact upd0 | apply Upd.tail | apply Upd.seg))) ?_
  refine Tr.nil (at_n (Sat.ret (en_r ?_)))
  refine ⟨_, [], res_cell J J Y24 J Sz24 (by (repeat (first | exact List.mem_cons_self | refine List.mem_cons_of_mem _ ?_ | refine mem_seg ?_))) (by simp [hs64]), sP, sP, ?_, rfl⟩
  (rw [nameV, if_pos hq0, hsd.out]; done)

theorem vote_same (a b : Vote) (ha : a.ok) (hb : b.ok) : Meets Tryz.prog 22 [agg a.cells, agg b.cells] [] (fun _ => True) (fun v out => v = .bool (@decide (a = b) (Classical.propDecidable _)) ∧ out = []) := by
 intro W hW
 refine calls_of (hp0 := []) Tryz.func22 J 8 Tryz.ntmps22 J (HRep.nil _) (Sat.seq (Sat.region (Tr.boxA J J ?_)))
 intro n2 hn2 hf2
 refine Tr.boxA J J ?_
 intro n3 hn3 hf3
 refine Tr.assign J J J (Tr.nil (at_n (Sat.seq (Sat.region (Tr.loadAll J J J Y29 J Sz29 Z1 (Vote.length zA) ?_)))))
 refine Tr.loadAll J J J Y29 J Sz29 Z0 (Vote.length zA) ?_
 refine Tr.eql_rec J J J J Vote.eg (fun w => Vote.eq_runC zA zA w) J ?_
 refine Tr.assign J J J (Tr.nil (at_n (Sat.ret (en_r ?_))))
 refine ⟨_, [], res_tmp J J, sP, sP, ?_, rfl⟩
 rfl

theorem r20_Read (a : Option Addr) (n c : Nat) (xs : List UInt8) (hl : xs.length = n) (hp : a = none → n = 0) (hn : n ≤ 90000) : Meets Tryz.prog 27 [.slice a n c] [] (fun W => SeesP W a (bytesV xs)) (fun v out => v = .tuple #[agg (voteRd xs).1.cells, i64 (voteRd xs).2] ∧ out = []) := by
  intro W hW
  obtain ⟨x1, r1, h1⟩ : ∃ l r, numR xs 0 0 = (l, r) := ⟨_, _, rfl⟩
  obtain ⟨a1, e1⟩ := r1
  obtain ⟨x2, r2, h2⟩ : ∃ l r, numR xs a1 e1 = (l, r) := ⟨_, _, rfl⟩
  obtain ⟨a2, e2⟩ := r2
  obtain ⟨x3, r3, h3⟩ : ∃ l r, numR xs a2 e2 = (l, r) := ⟨_, _, rfl⟩
  obtain ⟨a3, e3⟩ := r3
  obtain ⟨l4, r4, h4⟩ : ∃ l r, digR xs a3 e3 = (l, r) := ⟨_, _, rfl⟩
  obtain ⟨a4, e4⟩ := r4
  obtain ⟨x5, r5, h5⟩ : ∃ l r, numR xs a4 e4 = (l, r) := ⟨_, _, rfl⟩
  obtain ⟨a5, e5⟩ := r5
  obtain ⟨l6, r6, h6⟩ : ∃ l r, digR xs a5 e5 = (l, r) := ⟨_, _, rfl⟩
  obtain ⟨a6, e6⟩ := r6
  obtain ⟨l7, r7, h7⟩ : ∃ l r, takR xs 64 a6 e6 = (l, r) := ⟨_, _, rfl⟩
  obtain ⟨a7, e7⟩ := r7
  have hvp : voteP xs = (({ Vote.zero with fHeight := x1, fRound := x2, fPhase := ((min x3.toNat 4 : Nat) : Int), fValue := l4, fProof := x5, fVoter := l6, fSig := l7 ++ Vote.zero.fSig.drop l7.length } : Vote), a7, e7) := by simp only [voteP, h1, h2, h3, h4, h5, h6, h7]; rfl
  have hq := vcheck_min ({ Vote.zero with fHeight := x1, fRound := x2, fPhase := ((min x3.toNat 4 : Nat) : Int), fValue := l4, fProof := x5, fVoter := l6, fSig := l7 ++ Vote.zero.fSig.drop l7.length } : Vote) x3.toNat
  have hd1 := numE_le h1 hl (Nat.zero_le _)
  have hd2 := numE_le h2 hl hd1
  have hd3 := numE_le h3 hl hd2
  have hd4 := digE_le h4 hl hd3
  have hd5 := numE_le h5 hl hd4.1
  have hd6 := digE_le h6 hl hd5
  have hd7 := takE_le h7 hl hd6.1
  have hlen7 : l7.length ≤ 64 := by rcases hd7.2 with h | h <;> simp [h]
  have hs64 : (l7 ++ Vote.zero.fSig.drop l7.length).length = 64 := by rcases hd7.2 with h | h <;> simp [h, Vote.zero]
  have ok2 : ({ Vote.zero with fHeight := x1, fRound := x2 } : Vote).ok := ⟨rfl, rfl, rfl⟩
  have ok3 : ({ Vote.zero with fHeight := x1, fRound := x2, fPhase := ((min x3.toNat 255 : Nat) : Int) } : Vote).ok := ⟨rfl, rfl, rfl⟩
  have ok4 : ({ Vote.zero with fHeight := x1, fRound := x2, fPhase := ((min x3.toNat 255 : Nat) : Int), fValue := l4 } : Vote).ok := ⟨hd4.2, rfl, rfl⟩
  have ok5 : ({ Vote.zero with fHeight := x1, fRound := x2, fPhase := ((min x3.toNat 255 : Nat) : Int), fValue := l4, fProof := x5 } : Vote).ok := ⟨hd4.2, rfl, rfl⟩
  have ok6 : ({ Vote.zero with fHeight := x1, fRound := x2, fPhase := ((min x3.toNat 255 : Nat) : Int), fValue := l4, fProof := x5, fVoter := l6 } : Vote).ok := ⟨hd4.2, hd6.2, rfl⟩
  have okX : ({ Vote.zero with fHeight := x1, fRound := x2, fPhase := ((min x3.toNat 255 : Nat) : Int), fValue := l4, fProof := x5, fVoter := l6, fSig := l7 ++ Vote.zero.fSig.drop l7.length } : Vote).ok := ⟨hd4.2, hd6.2, hs64⟩
  refine calls_of (hp0 := []) Tryz.func27 J 48 Tryz.ntmps27 J (HRep.nil _) (Sat.seq (Sat.region (Tr.alloc (cs := Vote.zero.cells) J Vote.zr J ?_)))
  intro n2 hn2 hf2
  refine Tr.assign J J J (Tr.nil (at_n (Sat.seq (Sat.region (Tr.move J J J (Tr.call4 J J J J J Body76 (r1_Read a n c xs hl hp hn) (fun w h => seesP_ext h J hW) ?_))))))
  rintro v10 out10 ⟨n10, q10, cp10, rfl, hcp10, rfl⟩
  refine Tr.nd (fun hnd => ?_)
  have hne : q10 ≠ n10 := by intro e; simp [R1B, e] at hnd
  clear hnd
  refine Tr.assign J J J (Tr.nil (at_n (Sat.seq (Sat.region (Tr.move J J J (Tr.callL (L := [R1B n10 q10 0 n cp10 0 0]) J J J J J Body77 (r1_NumberE n10 q10 0 n cp10 0 0 xs hl (Nat.zero_le _) hcp10 oM (fun _ => rfl) x1 a1 e1 h1) (pm_cons rM pm_nil) (lent_ok J) (fun w h => ⟨own_blk h Z0, sees_own h Z1, hne⟩) ?_))))))
  rintro v12 out12 ⟨o12, ho12, rfl, rfl⟩
  refine Tr.move J J J (Tr.callL (L := [R1B n10 q10 o12 n cp10 a1 e1]) J J J J J Body77 (r1_NumberE n10 q10 o12 n cp10 a1 e1 xs hl hd1 hcp10 oM ho12 x2 a2 e2 h2) (pm_cons rM pm_nil) (lent_ok J) (fun w h => ⟨own_blk h Z0, sees_own h Z1, hne⟩) ?_)
  rintro v14 out14 ⟨o14, ho14, rfl, rfl⟩
  refine Tr.build (cs := ({ Vote.zero with fHeight := x1, fRound := x2 } : Vote).cells) J J J (fun w => by kernel_rfl) ?_
  refine Tr.alloc (cs := Vote.zero.cells) J Vote.zr J ?_
  intro n5 hn5 hf5
  refine Tr.storeAll J J J J (Vote.isCell zA) Sz29 (Vote.length zA) Z0 (Vote.length zT) zU ?_
  refine Tr.nil (at_n (Sat.seq (Sat.region (Tr.move J J J (Tr.callL (L := [R1B n10 q10 o14 n cp10 a2 e2]) J J J J J Body77 (r1_NumberE n10 q10 o14 n cp10 a2 e2 xs hl hd2 hcp10 oM ho14 x3 a3 e3 h3) (pm_cons rM pm_nil) (lent_ok J) (fun w h => ⟨own_blk h Z1, sees_own h Z2, hne⟩) ?_)))))
  rintro v17 out17 ⟨o17, ho17, rfl, rfl⟩
  refine Tr.assign J J J (Tr.nil (at_n (Sat.seq (Sat.region (Tr.move J J J (Tr.min2 J J J J (show Value.int .u64 (if (255 : Int) < (x3.toNat : Int) then 255 else (x3.toNat : Int)) = .int .u64 ((min x3.toNat 255 : Nat) : Int) from by congr 1; split <;> omega) ?_))))))
  refine Tr.conv J J J Y22 Y3 (show Value.int .i64 (IntKind.i64.wrap ((min x3.toNat 255 : Nat) : Int)) = i64 ((min x3.toNat 255 : Nat) : Int) by rw [i64_wrap oM]) ?_
  refine Tr.fld J J J Y29 J Sz3 dE _ J (Tr.store1 J J J J J Sz3 Z1 (by rw [Vote.length zA]; decide) (Vote.set_fPhase zA _) zV ?_)
  refine Tr.nil (at_n (Sat.seq (Sat.region (Tr.move J J J (Tr.callL (L := [R1B n10 q10 o17 n cp10 a3 e3]) J J J J J Body78 (r1_DigestE n10 q10 o17 n cp10 a3 e3 xs hl hd3 hcp10 oM ho17 l4 a4 e4 h4) (pm_cons rM pm_nil) (lent_ok J) (fun w h => ⟨own_blk h Z0, sees_own h Z2, hne⟩) ?_)))))
  rintro v23 out23 ⟨o23, ho23, rfl, rfl⟩
  refine Tr.fld J J J Y29 J Sz24 dE _ J (Tr.storeN (bytesV _) J J J J J zE Sz24 (by simp [hd4.2]) Z1 (by rw [Vote.length zA]; simp [hd4.2]) (Vote.upd_fValue zA _ (by simp [hd4.2])) zV ?_)
  refine Tr.nil (at_n (Sat.seq (Sat.region (Tr.move J J J (Tr.callL (L := [R1B n10 q10 o23 n cp10 a4 e4]) J J J J J Body77 (r1_NumberE n10 q10 o23 n cp10 a4 e4 xs hl hd4.1 hcp10 oM ho23 x5 a5 e5 h5) (pm_cons rM pm_nil) (lent_ok J) (fun w h => ⟨own_blk h Z0, sees_own h Z2, hne⟩) ?_)))))
  rintro v26 out26 ⟨o26, ho26, rfl, rfl⟩
  refine Tr.fld J J J Y29 J Sz22 dE _ J (Tr.store1 J J J J J Sz22 Z1 (by rw [Vote.length zA]; decide) (Vote.set_fProof zA _) zV ?_)
  refine Tr.nil (at_n (Sat.seq (Sat.region (Tr.move J J J (Tr.callL (L := [R1B n10 q10 o26 n cp10 a5 e5]) J J J J J Body78 (r1_DigestE n10 q10 o26 n cp10 a5 e5 xs hl hd5 hcp10 oM ho26 l6 a6 e6 h6) (pm_cons rM pm_nil) (lent_ok J) (fun w h => ⟨own_blk h Z0, sees_own h Z2, hne⟩) ?_)))))
  rintro v29 out29 ⟨o29, ho29, rfl, rfl⟩
  refine Tr.alloc (cs := (bytesV (List.replicate 32 0))) J Zr24 J ?_
  intro n7 hn7 hf7
  refine Tr.storeAll J J J J zE Sz24 (by (simp [hd6.2]; done)) Z0 sP zU ?_
  refine Tr.nil (at_n (Sat.seq (Sat.region (Tr.loadAll J J J Y24 J Sz24 Z0 (by (simp [hd6.2]; done)) ?_))))
  refine Tr.fld J J J Y29 J Sz25 dE _ J (Tr.storeN (bytesV _) J J J J J zE Sz25 (by simp [hd6.2]) Z2 (by rw [Vote.length zA]; simp [hd6.2]) (Vote.upd_fVoter zA _ (by simp [hd6.2])) (by exact upd2) ?_)
  refine Tr.nil (at_n (Sat.seq (Sat.region (Tr.move J J J (Tr.callL (L := [R1B n10 q10 o29 n cp10 a6 e6]) J J J J J Body79 (r1_TakeE n10 q10 o29 n cp10 a6 e6 64 dE dE xs hl hd6.1 hcp10 oM ho29 l7 a7 e7 h7) (pm_cons rM pm_nil) (lent_ok J) (fun w h => ⟨own_blk h Z1, sees_own h Z3, hne⟩) ?_)))))
  rintro v33 out33 ⟨s33, bl33, o33, ho33, rfl, hac33, rfl⟩
  simp only [List.append_assoc, List.cons_append, List.nil_append]
  refine Tr.assign J J J (Tr.nil (at_n (Sat.seq (Sat.region (Tr.fld J J J Y29 J Sz27 dE _ J (Tr.sliceArr J J J Y27 Sz5 (Tr.move J J J (Tr.copyP (bytesV l7) l7.length J J J J J Y39 Sz5 (fun w h => hac33.see (Lies.of h (by repeat (exact in_here)))) (fun e => hac33.nil e) (by simp [bytesV, hac33.num]) (by rw [hac33.num]; omega) (List.take_of_length_le (by simp [bytesV])) (bytesV_cell _) (by (repeat (first | exact List.mem_cons_self | refine List.mem_cons_of_mem _ ?_ | refine mem_seg ?_))) (by rw [Vote.length ok6]; show 68 + l7.length ≤ 132; omega) (upd_vsig ok6 hd7.2) (by (repeat (first | exact upd0 | apply Upd.tail | apply Upd.seg))) ?_))))))))
  refine Tr.nil (at_n (Sat.seq (Sat.seq (Sat.region (Tr.move J J J (Tr.callV J J J J Body80 (r1_End n10 q10 o33 n cp10 a7 e7 hd7.1 oM) (fun w h => own_blk h (by (repeat (first | exact List.mem_cons_self | refine mem_seg ?_)))) ?_))))))
  refine two (fun r hr k => Tr.nei J J J J hr k) (fun hs11_20 => ?_) (fun hs11_20 => ?_)
  ·
    have hs11_2 := nd_t hs11_20
    refine Tr.move J J J (Tr.skp J J (Tr.skp J J (Tr.skp J J (Tr.pick J J J J J J (Tr.nil (at_n (Sat.cond_t J J (Sat.seq (Sat.region (Tr.build (cs := Vote.zero.cells) J J J (fun w => by kernel_rfl) ?_))))))))))
    refine Tr.storeAll J J J J (Vote.isCell zT) Sz29 (Vote.length zT) (by (repeat (first | exact List.mem_cons_self | refine List.mem_cons_of_mem _ ?_ | refine mem_seg ?_))) (Vote.length zT) (by (repeat (first | exact upd0 | apply Upd.tail | apply Upd.seg))) ?_
    refine Tr.assign J J J (Tr.nil (at_n (Sat.ret (at_r (en_r (end_perm (out := []) (res_cell_tmp J J J Y29 J Sz29 (by (repeat (first | exact List.mem_cons_self | refine List.mem_cons_of_mem _ ?_ | refine mem_seg ?_))) (by exact Vote.length zT)) pm_nil ?_))))))
    first
      | exact ⟨by rw [voteRd_bad (by rw [hvp, hl]; exact fun h => hs11_2 h.1)], rfl⟩
      | exact ⟨by rw [voteRd_bad (by rw [hvp, hl]; exact fun h => hc0 (hq.1.2 h.2))], rfl⟩
      | (have e9 := hq.2 hc0
         exact ⟨by rw [voteRd_ok (by rw [hvp, hl]; exact ⟨hs11_2, hq.1.1 hc0⟩), hvp]; exact congrArg (fun z : Vote => Value.tuple #[agg z.cells, i64 0]) e9.symm, rfl⟩)
  ·
    have hs11_2 := nd_f hs11_20
    refine Tr.move J J J (Tr.loadAll J J J Y29 J Sz29 (by (repeat (first | exact List.mem_cons_self | refine List.mem_cons_of_mem _ ?_ | refine mem_seg ?_))) (Vote.length zA) ?_)
    refine Tr.callV J J J J Body28 (r20_Check ({ Vote.zero with fHeight := x1, fRound := x2, fPhase := ((min x3.toNat 255 : Nat) : Int), fValue := l4, fProof := x5, fVoter := l6, fSig := l7 ++ Vote.zero.fSig.drop l7.length } : Vote) okX) (fun _ _ => trivial) (Tr.nei J J J J J (Tr.pick J J J J J J (Tr.nil (at_n (Sat.condNP J (fun hc0 => ?_) (fun hc0 => ?_))))))
    ·
      refine Sat.seq (Sat.region (Tr.build (cs := Vote.zero.cells) J J J (fun w => by kernel_rfl) ?_))
      refine Tr.storeAll J J J J (Vote.isCell zT) Sz29 (Vote.length zT) (by (repeat (first | exact List.mem_cons_self | refine List.mem_cons_of_mem _ ?_ | refine mem_seg ?_))) (Vote.length zT) (by (repeat (first | exact upd0 | apply Upd.tail | apply Upd.seg))) ?_
      refine Tr.assign J J J (Tr.nil (at_n (Sat.ret (at_r (en_r (end_perm (out := []) (res_cell_tmp J J J Y29 J Sz29 (by (repeat (first | exact List.mem_cons_self | refine List.mem_cons_of_mem _ ?_ | refine mem_seg ?_))) (by exact Vote.length zT)) pm_nil ?_))))))
      first
        | exact ⟨by rw [voteRd_bad (by rw [hvp, hl]; exact fun h => hs11_2 h.1)], rfl⟩
        | exact ⟨by rw [voteRd_bad (by rw [hvp, hl]; exact fun h => hc0 (hq.1.2 h.2))], rfl⟩
        | (have e9 := hq.2 hc0
           exact ⟨by rw [voteRd_ok (by rw [hvp, hl]; exact ⟨hs11_2, hq.1.1 hc0⟩), hvp]; exact congrArg (fun z : Vote => Value.tuple #[agg z.cells, i64 0]) e9.symm, rfl⟩)
    ·
      refine Sat.skip (at_n (Sat.seq (Sat.region (Tr.loadAll J J J Y29 J Sz29 (by (repeat (first | exact List.mem_cons_self | refine List.mem_cons_of_mem _ ?_ | refine mem_seg ?_))) (Vote.length zA) ?_))))
      refine Tr.storeAll J J J J (Vote.isCell zA) Sz29 (Vote.length zA) (by (repeat (first | exact List.mem_cons_self | refine List.mem_cons_of_mem _ ?_ | refine mem_seg ?_))) (Vote.length zT) (by (repeat (first | exact upd0 | apply Upd.tail | apply Upd.seg))) ?_
      refine Tr.assign J J J (Tr.nil (at_n (Sat.ret (en_r (end_perm (out := []) (res_cell_tmp J J J Y29 J Sz29 (by (repeat (first | exact List.mem_cons_self | refine List.mem_cons_of_mem _ ?_ | refine mem_seg ?_))) (by exact Vote.length zA)) pm_nil ?_)))))
      first
        | exact ⟨by rw [voteRd_bad (by rw [hvp, hl]; exact fun h => hs11_2 h.1)], rfl⟩
        | exact ⟨by rw [voteRd_bad (by rw [hvp, hl]; exact fun h => hc0 (hq.1.2 h.2))], rfl⟩
        | (have e9 := hq.2 hc0
           exact ⟨by rw [voteRd_ok (by rw [hvp, hl]; exact ⟨hs11_2, hq.1.1 hc0⟩), hvp]; exact congrArg (fun z : Vote => Value.tuple #[agg z.cells, i64 0]) e9.symm, rfl⟩)

end Go.Proofs.YtpacobmjjjillaaGreat
end

section
namespace Go.Proofs.YtpacobmjjjillaaGreat
open Go Hw
set_option linter.unusedVariables false
set_option linter.unusedSimpArgs false

open Ed

theorem voteRd_vok' (xs : List UInt8) : (voteRd xs).1.ok := by
  rcases voteRd_two xs with h | h
  · exact (voteRd_only h).2.2
  · rw [h]; exact Vote.zero_ok
end Go.Proofs.YtpacobmjjjillaaGreat
end

section
namespace Go.Proofs.YtpacobmjjjillaaGreat
open Go Hw
set_option linter.unusedVariables false
set_option linter.unusedSimpArgs false

open Ed

/-- both ways to sign a vote give the same -/
theorem sign_two (seed : List UInt8) (h32 : seed.length = 32) (V : Vote) (hV : V.ok) : ∃ (X : Vote) (E : Int), X.ok ∧ Meets Tryz.prog 11 [agg (bytesV seed), agg V.cells] [] (fun _ => True) (fun v out => v = .tuple #[agg X.cells, i64 E] ∧ out = []) ∧ Meets Tryz.prog 25 [agg (bytesV seed), agg V.cells] [] (fun _ => True) (fun v out => v = .tuple #[agg X.cells, i64 E] ∧ out = []) := by
  obtain ⟨s, hs⟩ : ∃ s, Hid (sha512 seed = s) := ⟨_, ⟨rfl⟩⟩
  obtain ⟨s1, hs1⟩ : ∃ s1, Hid (sha512 (s.drop 32 ++ vtxt (vsg V (sgK s) V.fSig)) = s1) := ⟨_, ⟨rfl⟩⟩
  obtain ⟨s2, hs2⟩ : ∃ s2, Hid (sha512 (sgF s1 ++ (sgK s ++ vtxt (vsg V (sgK s) V.fSig))) = s2) := ⟨_, ⟨rfl⟩⟩
  by_cases hc : vcheck V = 0
  · have lG : (sgF s1 ++ sgS s s1 s2).length = 64 := by rw [List.length_append, sgF_length, sgS_length]
    exact ⟨_, 0, vsg_ok hV (sgK_length s) lG, vote_sign seed h32 V hV s s1 s2 hs hs1 hs2 hc, r20_Sign seed h32 V hV s s1 s2 hs hs1 hs2 hc⟩
  · exact ⟨_, _, Vote.zero_ok, vote_sign_bad seed h32 V hV hc, r20_Sign_bad seed h32 V hV s s1 s2 hs hs1 hs2 hc⟩

theorem law_votecalls_long (A B : Vote) (hA : A.ok) (hB : B.ok) (seed : List UInt8) (h32 : seed.length = 32) (sb : Sl) (xs : List UInt8) (hn : 500 < sb.n) : Meets Tryz.prog 6 [agg A.cells, agg B.cells, agg (bytesV seed), sb.v] [] (fun W => BytesAt W sb xs) (fun v out => v = .bool true ∧ out = []) := by
 intro W hW
 refine calls_of (hp0 := []) Tryz.func6 J 146 Tryz.ntmps6 J (HRep.nil _) (Sat.seq (Sat.region (Tr.boxA J J ?_)))
 intro n4 hn4 hf4
 refine Tr.boxA J J ?_
 intro n5 hn5 hf5
 refine Tr.boxA J J ?_
 intro n6 hn6 hf6
 refine Tr.assign J J J (Tr.nil (at_n (Sat.seq (Sat.seq (Sat.region (Tr.callV J J J J Body10 (law20_lives) (fun _ _ => trivial) (Tr.not J J J (Tr.nil (at_n (Sat.cond_f J (rfl) (Sat.skip (at_n (Sat.seq (Sat.seq (Sat.region (Tr.move J J J (Tr.lenSl J J J Y39 (Tr.gtr J J J J J (Tr.nil (at_n (Sat.cond_t J (decide_eq_true oM) (Sat.seq (Sat.region (Tr.assign J J J (Tr.nil (at_n (Sat.ret (at_r (en_r ?_)))))))))))))))))))))))))))))
 refine ⟨_, [], res_tmp J J, sP, sP, ?_, rfl⟩
 rfl

theorem law_votecalls (A B : Vote) (hA : A.ok) (hB : B.ok) (seed : List UInt8) (h32 : seed.length = 32) (sb : Sl) (xs : List UInt8) (hn : sb.n ≤ 500) (hbl : xs.length = sb.n) : Meets Tryz.prog 6 [agg A.cells, agg B.cells, agg (bytesV seed), sb.v] [] (fun W => BytesAt W sb xs) (fun v out => v = .bool true ∧ out = []) := by
 intro W hW
 obtain ⟨X, E, hX, cSa, cSb⟩ := sign_two seed h32 A hA
 have cR := fun a c hp => vote_read a sb.n c xs hbl hp oM
 have cR2 := fun a c hp => r20_Read a sb.n c xs hbl hp oM
 have hU := voteRd_vok' xs
 obtain ⟨⟨U, f1⟩, hre⟩ : ∃ r, voteRd xs = r := ⟨_, rfl⟩
 rw [hre] at cR cR2 hU
 simp only at cR cR2 hU
 have cN := vote_name A hA
 have cN2 := r20_Name A hA
 have lN := nameV_length A
 have cB := vote_bytes A hA
 have cB2 := r20_Bytes A hA
 have cT := vote_text A hA
 have cT2 := r20_Text A hA
 have cG := vote_good B hB
 have cG2 := r20_Good B hB
 have cK := vote_check A hA
 have cK2 := r20_Check A hA
 revert lN cN cN2 cB cB2 cT cT2 cG cG2 cK cK2
 generalize nameV A = nA
 generalize voteBy A = bA
 generalize vtxt A = tA
 generalize vgood B = gB
 generalize vcheck A = kA
 intro cN cN2 lN cB cB2 cT cT2 cG cG2 cK cK2
 refine calls_of (hp0 := []) Tryz.func6 J 146 Tryz.ntmps6 J (HRep.nil _) (Sat.seq (Sat.region (Tr.boxA J J ?_)))
 intro n4 hn4 hf4
 refine Tr.boxA J J ?_
 intro n5 hn5 hf5
 refine Tr.boxA J J ?_
 intro n6 hn6 hf6
 refine Tr.assign J J J (Tr.nil (at_n (Sat.seq (Sat.seq (Sat.region (Tr.callV J J J J Body10 (law20_lives) (fun _ _ => trivial) (Tr.not J J J (Tr.nil (at_n (Sat.cond_f J (rfl) (Sat.skip (at_n (Sat.seq (Sat.seq (Sat.region (Tr.move J J J (Tr.lenSl J J J Y39 (Tr.gtr J J J J (decide_eq_false oM) (Tr.nil (at_n (Sat.cond_f J J (Sat.skip (at_n (Sat.seq (Sat.region (Tr.loadAll J J J Y23 J Sz23 Z0 (by (simp [h32]; done)) ?_))))))))))))))))))))))))))
 refine Tr.loadAll J J J Y29 J Sz29 Z2 (Vote.length zA) ?_
 refine Tr.callV J J J J Body11 (cSa) (fun _ _ => trivial) (Tr.move J J J (Tr.extract J J J J (Tr.extract J J J J (Tr.alloc (cs := Vote.zero.cells) J Vote.zr J ?_))))
 intro n9 hn9 hf9
 refine Tr.storeAll J J J J (Vote.isCell zA) Sz29 (Vote.length zA) Z0 (Vote.length zT) zU ?_
 refine Tr.assign J J J (Tr.nil (at_n (Sat.seq (Sat.region (Tr.loadAll J J J Y23 J Sz23 Z1 (by (simp [h32]; done)) ?_)))))
 refine Tr.loadAll J J J Y29 J Sz29 Z3 (Vote.length zA) ?_
 refine Tr.callV J J J J Body25 (cSb) (fun _ _ => trivial) (Tr.move J J J (Tr.extract J J J J (Tr.extract J J J J (Tr.alloc (cs := Vote.zero.cells) J Vote.zr J ?_))))
 intro n11 hn11 hf11
 refine Tr.storeAll J J J J (Vote.isCell zA) Sz29 (Vote.length zA) Z0 (Vote.length zT) zU ?_
 refine Tr.assign J J J (Tr.nil (at_n (Sat.seq (Sat.region (Tr.loadAll J J J Y29 J Sz29 Z4 (Vote.length zA) ?_)))))
 refine Tr.call4 J J J J J Body17 (cB) (fun _ _ => trivial) ?_
 rintro v40 out40 ⟨s40, rfl, hac40⟩
 refine Tr.move J J J (Tr.extract J J J J (Tr.extract J J J J (Tr.assign J J J (Tr.assign J J J (Tr.nil (at_n (Sat.seq (Sat.region (Tr.loadAll J J J Y29 J Sz29 (by (repeat (first | exact List.mem_cons_self | refine List.mem_cons_of_mem _ ?_ | refine mem_seg ?_))) (Vote.length zA) ?_)))))))))
 refine Tr.call4 J J J J J Body26 (cB2) (fun _ _ => trivial) ?_
 rintro v45 out45 ⟨s45, rfl, hac45⟩
 refine Tr.move J J J (Tr.extract J J J J (Tr.extract J J J J (Tr.assign J J J (Tr.assign J J J (Tr.nil (at_n (Sat.seq (Sat.region (Tr.move J J J (Tr.call4 J J J J J Body24 (kit_own sb xs oM) (fun w h => bytes_ext h J hW) ?_))))))))))
 rintro v50 out50 ⟨q50, c50, rfl, hc50, rfl⟩
 refine Tr.callV J J J J Body23 (cR (some ⟨q50, 0, none⟩) c50 (fun e => by cases e)) (fun w h => SeesP.of (sees_own h Z0)) ?_
 refine Tr.move J J J (Tr.extract J J J J (Tr.extract J J J J (Tr.alloc (cs := Vote.zero.cells) J Vote.zr J ?_)))
 intro n17 hn17 hf17
 refine Tr.storeAll J J J J (Vote.isCell zA) Sz29 (Vote.length zA) Z0 (Vote.length zT) zU ?_
 refine Tr.assign J J J (Tr.nil (at_n (Sat.seq (Sat.region (Tr.move J J J (Tr.callV J J J J Body27 (cR2 sb.p sb.c (fun e => by have h1 := hW.nil e; have h2 := hW.cap; omega)) (fun w h => seesP_ext h J hW.see) ?_))))))
 refine Tr.move J J J (Tr.extract J J J J (Tr.extract J J J J (Tr.alloc (cs := Vote.zero.cells) J Vote.zr J ?_)))
 intro n19 hn19 hf19
 refine Tr.storeAll J J J J (Vote.isCell zA) Sz29 (Vote.length zA) Z0 (Vote.length zT) zU ?_
 refine Tr.assign J J J (Tr.nil (at_n (Sat.seq (Sat.draw [(1, 0), (1, 1), (0, 2), (0, 3), (0, 4), (0, 5), (0, 6), (0, 7), (0, 8), (0, 9), (1, 10), (0, 11), (1, 12), (0, 13), (0, 14), (0, 15), (0, 16), (0, 17), (0, 18), (0, 19), (0, 20), (1, 21), (1, 22), (0, 23), (0, 24), (0, 25), (0, 26), (0, 27), (0, 28), (0, 29), (0, 30), (1, 31), (1, 33), (3, 32), (3, 34), (0, 35), (0, 36), (0, 37), (1, 38), (1, 41), (3, 39), (1, 40), (3, 42), (1, 43), (0, 44), (0, 45), (0, 46), (1, 47), (1, 49), (3, 48), (3, 50), (0, 51), (0, 52), (0, 53), (1, 54), (1, 56), (3, 55), (3, 57), (0, 58), (0, 59), (0, 60), (1, 61), (1, 62), (1, 64), (1, 65), (3, 63), (3, 66), (0, 67), (0, 68), (0, 69), (1, 70), (1, 71), (1, 73), (1, 74), (3, 72), (3, 75), (0, 76), (0, 77), (0, 78), (1, 79), (1, 80), (1, 82), (1, 83), (0, 84), (3, 81), (0, 85), (0, 86), (0, 87)] Mixed zK (Tr.loadAll J J J Y29 J Sz29 (by (repeat (first | exact List.mem_cons_self | refine List.mem_cons_of_mem _ ?_ | refine mem_seg ?_))) (Vote.length zA) ?_)))))
 refine Tr.loadAll J J J Y29 J Sz29 (by (repeat (first | exact List.mem_cons_self | refine List.mem_cons_of_mem _ ?_ | refine mem_seg ?_))) (Vote.length zA) ?_
 refine Tr.eql_rec J J J J Vote.eg (fun w => Vote.eq_runC (x := X) (y := X) hX hX w) (@decide_eq_true _ (Classical.propDecidable _) J) (Tr.move J J J (Tr.move J J J (Tr.move J J J (Tr.eqi J J J J (decide_eq_true (rfl)) (Tr.pick J J J J J J (Tr.move J J J (Tr.move J J J (Tr.toStr J J J Y39 Y5 Y9 (fun w h => hac40.see (Lies.of h (by repeat (first | exact in_here | refine in_there ?_ | refine in_seg ?_)))) (by rw [hac40.num]) ?_))))))))
 refine Tr.move J J J (Tr.toStr J J J Y39 Y5 Y9 (fun w h => hac45.see (Lies.of h (by repeat (first | exact in_here | refine in_there ?_)))) (by rw [hac45.num]) ?_)
 refine Tr.eql_str J J J J (decide_eq_true (rfl)) (Tr.pick J J J J J J (Tr.move J J J (Tr.move J J J (Tr.move J J J (Tr.eqi J J J J (decide_eq_true (rfl)) (Tr.pick J J J J J J (Tr.move J J J (Tr.loadAll J J J Y29 J Sz29 Z1 (Vote.length zA) ?_))))))))
 refine Tr.loadAll J J J Y29 J Sz29 Z0 (Vote.length zA) ?_
 refine Tr.eql_rec J J J J Vote.eg (fun w => Vote.eq_runC (x := U) (y := U) hU hU w) (@decide_eq_true _ (Classical.propDecidable _) J) (Tr.pick J J J J J J (Tr.move J J J (Tr.move J J J (Tr.move J J J (Tr.eqi J J J J (decide_eq_true (rfl)) (Tr.pick J J J J J J (Tr.move J J J (Tr.loadAll J J J Y29 J Sz29 (by (repeat (first | exact List.mem_cons_self | refine List.mem_cons_of_mem _ ?_ | refine mem_seg ?_))) (Vote.length zA) ?_))))))))
 refine Tr.loadAll J J J Y29 J Sz29 (by (repeat (first | exact List.mem_cons_self | refine List.mem_cons_of_mem _ ?_ | refine mem_seg ?_))) (Vote.length zA) ?_
 refine Tr.callV J J J J Body13 (cK) (fun _ _ => trivial) (Tr.callV J J J J Body28 (cK2) (fun _ _ => trivial) (Tr.eqi J J J J (decide_eq_true (rfl)) (Tr.pick J J J J J J (Tr.move J J J (Tr.loadAll J J J Y29 J Sz29 (by (repeat (first | exact List.mem_cons_self | refine List.mem_cons_of_mem _ ?_ | refine mem_seg ?_))) (Vote.length zA) ?_)))))
 refine Tr.loadAll J J J Y29 J Sz29 (by (repeat (first | exact List.mem_cons_self | refine List.mem_cons_of_mem _ ?_ | refine mem_seg ?_))) (Vote.length zA) ?_
 refine Tr.call J J J J Body20 (cT) (FreshRow.loose _ _ _ _) (fun _ _ => trivial) ?_
 rintro v98 out98 ⟨q98, c98, rfl, hc98, rfl⟩
 refine Tr.toStr J J J Y39 Y5 Y9 (fun w h => SeesP.of (sees_own h Z0)) sP ?_
 refine Tr.call J J J J Body29 (cT2) (FreshRow.loose _ _ _ _) (fun _ _ => trivial) ?_
 rintro v101 out101 ⟨q101, c101, rfl, hc101, rfl⟩
 refine Tr.toStr J J J Y39 Y5 Y9 (fun w h => SeesP.of (sees_own h Z0)) sP ?_
 refine Tr.eql_str J J J J (decide_eq_true (rfl)) (Tr.pick J J J J J J (Tr.move J J J (Tr.loadAll J J J Y29 J Sz29 (by (repeat (first | exact List.mem_cons_self | refine List.mem_cons_of_mem _ ?_ | refine mem_seg ?_))) (Vote.length zA) ?_)))
 refine Tr.loadAll J J J Y29 J Sz29 (by (repeat (first | exact List.mem_cons_self | refine List.mem_cons_of_mem _ ?_ | refine mem_seg ?_))) (Vote.length zA) ?_
 refine Tr.callV J J J J Body14 (cG) (fun _ _ => trivial) (Tr.callV J J J J Body15 (cG2) (fun _ _ => trivial) (Tr.eqi J J J J (decide_eq_true (rfl)) (Tr.pick J J J J J J (Tr.move J J J (Tr.loadAll J J J Y29 J Sz29 (by (repeat (first | exact List.mem_cons_self | refine List.mem_cons_of_mem _ ?_ | refine mem_seg ?_))) (Vote.length zA) ?_)))))
 refine Tr.loadAll J J J Y29 J Sz29 (by (repeat (first | exact List.mem_cons_self | refine List.mem_cons_of_mem _ ?_ | refine mem_seg ?_))) (Vote.length zA) ?_
 refine Tr.callV J J J J Body21 (cN) (fun _ _ => trivial) (Tr.callV J J J J Body30 (cN2) (fun _ _ => trivial) (Tr.eql_bytes J J J J Tryz.eqGuardType24 Y24 Y5 Sz5 (by (simp [lN]; done)) (by (simp [lN]; done)) (decide_eq_true (rfl)) ?_))
 refine Tr.pick J J J J J J (Tr.move J J J (Tr.loadAll J J J Y29 J Sz29 (by (repeat (first | exact List.mem_cons_self | refine List.mem_cons_of_mem _ ?_ | refine mem_seg ?_))) (Vote.length zA) ?_))
 refine Tr.loadAll J J J Y29 J Sz29 (by (repeat (first | exact List.mem_cons_self | refine List.mem_cons_of_mem _ ?_ | refine mem_seg ?_))) (Vote.length zA) ?_
 refine Tr.loadAll J J J Y29 J Sz29 (by (repeat (first | exact List.mem_cons_self | refine List.mem_cons_of_mem _ ?_ | refine mem_seg ?_))) (Vote.length zA) ?_
 refine Tr.loadAll J J J Y29 J Sz29 (by (repeat (first | exact List.mem_cons_self | refine List.mem_cons_of_mem _ ?_ | refine mem_seg ?_))) (Vote.length zA) ?_
 refine Tr.callV J J J J Body19 (vote_against A B hA hB) (fun _ _ => trivial) (Tr.callV J J J J Body31 (r20_Against A B hA hB) (fun _ _ => trivial) (Tr.eqb (r := true) J J J J Tryz.underlying4 sP (Tr.pick J J J J J J (Tr.move J J J (Tr.loadAll J J J Y29 J Sz29 (by (repeat (first | exact List.mem_cons_self | refine List.mem_cons_of_mem _ ?_ | refine mem_seg ?_))) (Vote.length zA) ?_)))))
 refine Tr.loadAll J J J Y29 J Sz29 (by (repeat (first | exact List.mem_cons_self | refine List.mem_cons_of_mem _ ?_ | refine mem_seg ?_))) (Vote.length zA) ?_
 refine Tr.loadAll J J J Y29 J Sz29 (by (repeat (first | exact List.mem_cons_self | refine List.mem_cons_of_mem _ ?_ | refine mem_seg ?_))) (Vote.length zA) ?_
 refine Tr.loadAll J J J Y29 J Sz29 (by (repeat (first | exact List.mem_cons_self | refine List.mem_cons_of_mem _ ?_ | refine mem_seg ?_))) (Vote.length zA) ?_
 refine Tr.callV J J J J Body32 (vote_cmp A B hA hB) (fun _ _ => trivial) (Tr.callV J J J J Body33 (r20_Compare A B hA hB) (fun _ _ => trivial) (Tr.eqi J J J J (decide_eq_true (rfl)) (Tr.pick J J J J J J (Tr.move J J J (Tr.loadAll J J J Y29 J Sz29 (by (repeat (first | exact List.mem_cons_self | refine List.mem_cons_of_mem _ ?_ | refine mem_seg ?_))) (Vote.length zA) ?_)))))
 refine Tr.loadAll J J J Y29 J Sz29 (by (repeat (first | exact List.mem_cons_self | refine List.mem_cons_of_mem _ ?_ | refine mem_seg ?_))) (Vote.length zA) ?_
 refine Tr.loadAll J J J Y29 J Sz29 (by (repeat (first | exact List.mem_cons_self | refine List.mem_cons_of_mem _ ?_ | refine mem_seg ?_))) (Vote.length zA) ?_
 refine Tr.loadAll J J J Y29 J Sz29 (by (repeat (first | exact List.mem_cons_self | refine List.mem_cons_of_mem _ ?_ | refine mem_seg ?_))) (Vote.length zA) ?_
 refine Tr.eql_rec (r := @decide (A = B) (Classical.propDecidable _)) J J J J Vote.eg (fun w => Vote.eq_runC hA hB w) J (Tr.callV J J J J Body22 (vote_same A B hA hB) (fun _ _ => trivial) (Tr.eqb (r := true) J J J J Tryz.underlying4 sP (Tr.pick J J J J J J (Tr.assign J J J (Tr.nil (at_n (Sat.ret (en_r ?_))))))))
 refine ⟨_, [], res_tmp J J, sP, sP, ?_, rfl⟩
 rfl

theorem law_votecalls_all (A B : Vote) (hA : A.ok) (hB : B.ok) (seed : List UInt8) (h32 : seed.length = 32) (sb : Sl) (xs : List UInt8) : Meets Tryz.prog 6 [agg A.cells, agg B.cells, agg (bytesV seed), sb.v] [] (fun W => BytesAt W sb xs) (fun v out => v = .bool true ∧ out = []) := by
  intro W hW
  rcases Nat.lt_or_ge 500 sb.n with h | h
  · exact law_votecalls_long A B hA hB seed h32 sb xs h W hW
  · exact law_votecalls A B hA hB seed h32 sb xs h hW.len W hW

end Go.Proofs.YtpacobmjjjillaaGreat
end

section
namespace Go.Proofs.YtpacobmjjjillaaGreat
open Go Go.ChangeShapes Go.WideShapes Go.ChangeAt Go.RowKit
set_option linter.unusedVariables false

theorem ownVCalls : ownKnob Tryz.prog.godebug = none := by kernel_rfl
theorem laidOutVCalls : laidOutB Tryz.prog = true := by kernel_rfl

theorem openSlVCalls {H : Type} {enc : TypeId × Value → H} {P : Program} {W : World} {base : Nat} {sp : Nat → Bool} {held : Bool} {k e : TypeId} (hu : P.underlying k = some (.slice e)) (he : P.underlying e = some (.int .u8)) (hc : P.cellsOf e = 1) {r : Reach} {b0 : Nat} {v : Value} {d : DataW H} {ps : List MemPlace}
    (hval : Value.okWide P W r b0 k v) (hd : DataW.Trod enc P W base sp held k v d ps) : ∃ s l, v = Hw.Sl.v s ∧ Hw.BytesAt W s l := by
  simp only [Value.okWide, hu, Cell.okWide] at hval
  obtain ⟨a1, len, cap, rfl⟩ : ∃ a1 len cap, v = .slice a1 len cap := by
    unfold Cell.ok at hval
    rw [hu] at hval
    split at hval <;> first | exact hval.elim | exact ⟨_, _, _, rfl⟩ | simp_all
  obtain ⟨fuel, hf⟩ := hd
  obtain ⟨s, l, h1, h2⟩ := Hw.open_bytesS hu he hc hf
  refine ⟨s, l, ?_, h2⟩
  simp [Value.cells] at h1
  exact h1

theorem walkVCalls (w : World) (x0 : Vote) (ok0 : x0.ok) (x1 : Vote) (ok1 : x1.ok) (l2 : List UInt8) (hl2 : l2.length = 32) (s3 : Hw.Sl) (l3 : List UInt8) (hs3 : Hw.BytesAt w s3 l3) : Calls Tryz.prog 6 #[Hw.agg x0.cells, Hw.agg x1.cells, Hw.agg (Hw.bytesV l2), Hw.Sl.v s3] w fun e w' => e = .returned (.bool true) ∧ Below w.heap.size w w' :=
  by
  have fin : ∀ {us : Array Value}, Calls Tryz.prog 6 us w (fun e W' => ∃ v out, e = .returned v ∧ (v = .bool true ∧ out = []) ∧ Hw.Ret [] out w W') → Calls Tryz.prog 6 us w (fun e w' => e = .returned (.bool true) ∧ Below w.heap.size w w') :=
    fun h => h.mono fun e w' ⟨v, out, he, ⟨hv, ho⟩, hr⟩ => ⟨by rw [he, hv], Hw.Keeps.below hr.keeps⟩
  exact fin (law_votecalls_all x0 x1 ok0 ok1 l2 hl2 s3 l3 w hs3)

theorem liftedVCalls (os : Os) (started : os.Started) (H : Type) (enc : TypeId × Value → H) :
    ReturnsInHanded {} Tryz.checked os 6 .any (Rows.voteCallsSpec.pre6 enc Tryz.prog Tryz.f6 Rows.voteCallsRow.domain false) (Rows.voteCallsSpec.post enc Tryz.prog Tryz.f6 false true false false) := by
  refine returnsInHanded_of_change (C := Tryz.checked) ownVCalls started (by kernel_rfl) Tryz.func6
    (ChangeSpec.witness6 (enc := enc) (C := Tryz.checked) false ⟨#[], #[.agg (#[.int .u64 0, .int .u64 0, .int .i64 0] ++ Array.replicate 32 (.int .u8 0) ++ #[.int .u64 0] ++ Array.replicate 96 (.int .u8 0)), .agg (#[.int .u64 0, .int .u64 0, .int .i64 0] ++ Array.replicate 32 (.int .u8 0) ++ #[.int .u64 0] ++ Array.replicate 96 (.int .u8 0)), .agg (Array.replicate 32 (.int .u8 0)), .slice none 0 0], []⟩ 8 (by kernel_rfl) (by kernel_rfl) (by kernel_rfl) (by kernel_rfl)) ?_
  intro W base args ds gs before hval0 hW hcnd _
  have hval : ∀ (j : Nat) t v, Tryz.f6.params[j]? = some t → args[j]? = some v → Value.okWide Tryz.prog W .any base t v := hval0
  have hW' := hW
  obtain ⟨p, q, hA0, hV, rfl, hfz, hnd⟩ := hW
  have hA : DataW.TrodAll enc Tryz.prog W 0 (fun _ => true) true Tryz.f6.params.toList args.toList ds p := hA0
  rw [Tryz.params6] at hA hval
  obtain ⟨v0, vs0, d0, ds0, p0, q0, hargs, rfl, rfl, h0, r0⟩ := trodAll_cons hA
  obtain ⟨v1, vs1, d1, ds1, p1, q1, rfl, rfl, rfl, h1, r1⟩ := trodAll_cons r0
  obtain ⟨v2, vs2, d2, ds2, p2, q2, rfl, rfl, rfl, h2, r2⟩ := trodAll_cons r1
  obtain ⟨v3, vs3, d3, ds3, p3, q3, rfl, rfl, rfl, h3, r3⟩ := trodAll_cons r2
  obtain ⟨rfl, rfl, rfl⟩ := trodAll_nil r3
  obtain rfl : args = #[v0, v1, v2, v3] := by cases args; simp_all
  obtain ⟨rfl, rfl⟩ := trodVars_none hV
  have k0 := h0
  have lt0 : ∀ x ∈ p0, x.block < W.heap.size := by obtain ⟨m, hm⟩ := k0; exact DataW.trod_lt m _ _ _ hm
  have k1 := h1
  have lt1 : ∀ x ∈ p1, x.block < W.heap.size := by obtain ⟨m, hm⟩ := k1; exact DataW.trod_lt m _ _ _ hm
  have k2 := h2
  have lt2 : ∀ x ∈ p2, x.block < W.heap.size := by obtain ⟨m, hm⟩ := k2; exact DataW.trod_lt m _ _ _ hm
  have k3 := h3
  have lt3 : ∀ x ∈ p3, x.block < W.heap.size := by obtain ⟨m, hm⟩ := k3; exact DataW.trod_lt m _ _ _ hm
  obtain ⟨x0, ok0, rfl, xx0⟩ := Vote.openV (hval 0 29 v0 rfl rfl) h0
  obtain ⟨x1, ok1, rfl, xx1⟩ := Vote.openV (hval 1 29 v1 rfl rfl) h1
  obtain ⟨l2, rfl, hl2⟩ := Hw.open_bytes Tryz.underlying23 Tryz.underlying5 (by kernel_rfl) (by kernel_rfl) (hval 2 23 v2 rfl rfl) h2
  obtain ⟨s3, l3, rfl, hs3⟩ := openSlVCalls Tryz.underlying39 Tryz.underlying5 (by kernel_rfl) (hval 3 39 v3 rfl rfl) h3
  clear hA0 hval0
  refine (walkVCalls W x0 ok0 x1 ok1 l2 hl2 s3 l3 hs3).mono fun e W' ⟨he, bel⟩ => ?_
  subst he
  exact ⟨_, rfl, _, _, _, [], _, [], hW', trodAll_mk1 (shut_bool Tryz.underlying4 _), (trodAll_cons_mk (Below.trod laidOutVCalls (by kernel_rfl) (of_decide_eq_true (by kernel_rfl)) k0 bel lt0) (trodAll_cons_mk (Below.trod laidOutVCalls (by kernel_rfl) (of_decide_eq_true (by kernel_rfl)) k1 bel lt1) (trodAll_cons_mk (Below.trod laidOutVCalls (by kernel_rfl) (of_decide_eq_true (by kernel_rfl)) k2 bel lt2) (trodAll_cons_mk (Below.trod laidOutVCalls (by kernel_rfl) (of_decide_eq_true (by kernel_rfl)) k3 bel lt3) trodAll_mk0)))), rfl, bel.frame _, fun h => by cases h⟩

theorem voteCalls_holds : Rows.VoteCallsSaid :=
  OpenClaim.holds_of_wide 6 Tryz.f6 rfl rfl rfl rfl rfl rfl rfl ⟨rfl, rfl, rfl, rfl, rfl⟩ rfl rfl rfl rfl rfl (by kernel_rfl) Tryz.func6 (by kernel_rfl)
    (of_decide_eq_true (by kernel_rfl)) (by unfold Func.isWrapper; first | (rw [if_pos (by decide +kernel)]; kernel_rfl) | (rw [if_neg (by decide +kernel)]; exact ⟨rfl, rfl⟩))
    (fun os started H enc _ => liftedVCalls os started H enc)

end Go.Proofs.YtpacobmjjjillaaGreat
end
