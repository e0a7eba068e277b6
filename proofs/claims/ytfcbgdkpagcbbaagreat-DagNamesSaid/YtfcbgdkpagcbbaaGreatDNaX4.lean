/- Contracts of functions of the loaded program, and the lemmas that they need (part 4). It proves no statement by itself; it has no conditions. -/
import Derived.WalkKit
import Derived.Orders
import Derived.Deep.LoopGhost
import Derived.IntWalk
import Derived.Laws.StructEq
import Derived.ArgAppend
import Derived.Deep.AppendSrc
import Derived.Lib.Bytealg
import Derived.Lib.BytesEntry
import Derived.Laws.IdiomStrings
import Derived.WideKeyArr2
import Derived.ProofKit
import Derived.OpenShut
import Derived.Deep.Slices
import Derived.Laws.Pointers
import Derived.Laws.Cover3
import Derived.LaidEqlPtr
import Derived.LoopN
import Derived.RangeFuncLeaves
import Derived.RangeFuncSeq
import Derived.OrdersIn
import Derived.Maps.Keyed
import Derived.Maps.RangeRun
import Derived.DeepKeys4
import Derived.Below
import Derived.Test.YtfcbgdkpagcbbaaGreatRows
import Derived.KernelRfl
import Derived.Laws.Externs
import Derived.Defers
import Derived.Laws.MathBits
import Derived.Shelf.SlSortCmp.WholeK
import Derived.Shelf.SlGeneric
import Derived.Test.YtfcbgdkpagcbbaaGreatProg
import Derived.Shelf.SlSortCmp.NoneTotal
import Derived.Deep.QuietTactic
import Derived.BigQuiet
import Derived.ScopeJumps
import Derived.DeepKeys3
import Derived.ChangeOld
import Derived.Test.YtfcbgdkpagcbbaaGreatDNaX3
set_option maxRecDepth 100000
set_option maxHeartbeats 8000000
set_option linter.unusedVariables false
set_option linter.unusedSimpArgs false
set_option linter.unusedSectionVars false
set_option linter.unnecessarySimpa false
section
namespace Go.Proofs.YtfcbgdkpagcbbaaGreat
open Go Hw

open Ed

theorem f_mul (x y : Fp) : Meets Tryz.prog 134 [agg (Aa (fb x)), agg (Aa (fb y))] [] (fun _ => True) (fun v out => v = agg (Aa (fb (x * y))) ∧ out = []) := by
  have h := field_Mul (fb x) (fb y) (Am x) (Am y)
  rwa [fe_fb x, fe_fb y] at h

theorem f_add (x y : Fp) : Meets Tryz.prog 137 [agg (Aa (fb x)), agg (Aa (fb y))] [] (fun _ => True) (fun v out => v = agg (Aa (fb (x + y))) ∧ out = []) := by
  have h := field_Add (fb x) (fb y) (Am x) (Am y)
  rwa [fe_fb x, fe_fb y] at h

theorem f_sub (x y : Fp) : Meets Tryz.prog 135 [agg (Aa (fb x)), agg (Aa (fb y))] [] (fun _ => True) (fun v out => v = agg (Aa (fb (x - y))) ∧ out = []) := by
  have h := field_Sub (fb x) (fb y) (Am x) (Am y)
  rwa [fe_fb x, fe_fb y] at h

theorem f_neg (x : Fp) : Meets Tryz.prog 141 [agg (Aa (fb x))] [] (fun _ => True) (fun v out => v = agg (Aa (fb (-x))) ∧ out = []) := by
  have h := field_Neg (fb x) (Am x)
  rwa [fe_fb x] at h

theorem f_inv (x : Fp) : Meets Tryz.prog 140 [agg (Aa (fb x))] [] (fun _ => True) (fun v out => v = agg (Aa (fb (finv x))) ∧ out = []) := by
  have h := field_Inv (fb x) (Am x)
  rwa [fe_fb x] at h

theorem f_odd (x : Fp) : Meets Tryz.prog 188 [agg (Aa (fb x))] [] (fun _ => True) (fun v out => v = .bool (decide (x.val % 2 = 1)) ∧ out = []) := by
  have h := field_Odd (fb x) (Am x)
  rwa [fe_fb x] at h

theorem f_same_raw (x : Fp) (a : List UInt8) (ha : a.length = 32) : Meets Tryz.prog 187 [agg (Aa (fb x)), agg (Aa a)] [] (fun _ => True) (fun v out => v = .bool (decide (x = fe (le a))) ∧ out = []) := by
  have h := field_Same (fb x) a (Am x) ha
  rwa [fe_fb x] at h
theorem f_pow_root (a : List UInt8) (ha : a.length = 32) : Meets Tryz.prog 185 [agg (Aa a), agg (Aa (onesB 254 15))] [] (fun _ => True) (fun v out => v = agg (Aa (fb (Ci (fe (le a)) ((PF + 3) / 8)))) ∧ out = []) := by
  have h := field_Pow a (onesB 254 15) ha (onesB_length _ _)
  rwa [ones_root] at h
theorem f_pow_unit : Meets Tryz.prog 185 [agg (Aa (fb (fe (2 : UInt64).toNat))), agg (Aa (onesB 251 31))] [] (fun _ => True) (fun v out => v = agg (Aa (fb (Ci (fe 2) ((PF - 1) / 4)))) ∧ out = []) := by
  have h := field_Pow (fb (fe (2 : UInt64).toNat)) (onesB 251 31) (Am _) (onesB_length _ _)
  rwa [ones_unit, fe_fb] at h
theorem f_one : Meets Tryz.prog 136 [u64 1] [] (fun _ => True) (fun v out => v = agg (Aa (fb 1)) ∧ out = []) := by
  have h := field_Of 1
  rwa [show fe (1 : UInt64).toNat = 1 from rfl] at h

theorem field_Root (a : List UInt8) (X : Fp) (ha : a.length = 32) (hX : fe (le a) = X) : Meets Tryz.prog 139 [agg (Aa a)] [] (fun _ => True) (fun v out => v = .tuple #[agg (Aa (fb (fRoot X).1)), .bool (fRoot X).2] ∧ out = []) := by
 intro W hW
 obtain ⟨r0, hr0⟩ : ∃ r, Ci X ((PF + 3) / 8) = r := ⟨_, rfl⟩
 obtain ⟨un, hun⟩ : ∃ r, Ci (fe 2) ((PF - 1) / 4) = r := ⟨_, rfl⟩
 obtain ⟨r1, hr1⟩ : ∃ r, fRoot1 X = r := ⟨_, rfl⟩
 have hp0 := f_pow_root a ha
 have hpu := f_pow_unit
 rw [hX, hr0] at hp0
 rw [hun] at hpu
 have hm := fun y => f_same_raw y a ha
 rw [hX] at hm
 have hr1' : r1 = if r0 * r0 = X then r0 else r0 * un := by rw [← hr1, fRoot1, hr0, hun]
 have hR : fRoot X = if r1 * r1 = X then ((if r1.val % 2 = 1 then -r1 else r1), true) else (0, false) := by rw [fRoot, hr1]
 clear hr1
 refine Ac Tryz.func139 J 31 Tryz.ntmps139 J (G3 ?_)
 intro n1 hn1 hf1
 refine .alloc (cs := (Aa (List.replicate 32 0))) J A4 J ?_
 intro n2 hn2 hf2
 refine G4 ?_
 refine .draw [(1, 0), (3, 1), (3, 2), (2, 3), (4, 4)] Ap zK (.lA J J J Y124.h J Sz124 Z1 (by (simp [ha]; done)) ?_)
 refine .cV J J J J Body186 (field_ones 254 15) tV (.cV J J J J Body185 (hp0) tV (.alloc (cs := (Aa (List.replicate 32 0))) J A4 J ?_))
 intro n4 hn4 hf4
 refine .sA J J J J zE Sz124 zF Z0 sP zU ?_
 refine G2 ?_
 refine .join (ι := Unit) (fun _u => ⟨[(1, ptr n1 0), (2, ptr n2 0), (4, ptr n4 0)], [⟨n4, Aa (fb r1), 124, 32⟩, ⟨n2, Aa (List.replicate 32 0), 124, 32⟩, ⟨n1, Aa a, 124, (Aa a).length⟩]⟩) (fun _u => True) ?_ ?_
 ·
  refine .seq (.draw [(1, 0), (1, 1), (1, 3), (3, 2), (3, 4), (0, 5)] Ap zK (G2 ?_))
  refine .lA J J J Y124.h J Sz124 Z2 (by (simp [ha]; done)) ?_
  refine .cV J J J J B8 (f_mul r0 r0) tV (.cV J J J J Body187 (hm (r0 * r0)) tV (G3 ?_))
  refine .condNP J (fun hc0 => ?_) (fun hc0 => ?_)
  ·
   refine .draw [(1, 0), (3, 1), (3, 2), (3, 3), (3, 4), (4, 5)] Ap zK (G1 ?_)
   refine .cV J J J J Body136 (field_Of 2) tV (.cV J J J J Body186 (field_ones 251 31) tV (.cV J J J J Body185 (hpu) tV (.cV J J J J B8 (f_mul r0 un) tV (G3 ?_))))
   (rw [hr1', if_neg hc0]; exact ⟨(), trivial, Ad (wk1 rfl (wk1 rfl (wk1 rfl wk0))) (wh1 Z0 (wh1 Z1 (wh1 Z2 wh0))) nD⟩)
  refine G2 ?_
  (rw [hr1', if_pos hc0]; exact ⟨(), trivial, Ad (wk1 rfl (wk1 rfl (wk1 rfl wk0))) (wh1 Z0 (wh1 Z1 (wh1 Z2 wh0))) nD⟩)
 intro _u hj
 skip
 refine G2 ?_
 refine .draw [(1, 0), (1, 1), (1, 3), (3, 2), (3, 4), (0, 5)] Ap zK (G2 ?_)
 refine .lA J J J Y124.h J Sz124 Z2 (by (simp [ha]; done)) ?_
 refine .cV J J J J B8 (f_mul r1 r1) tV (.cV J J J J Body187 (hm (r1 * r1)) tV (G3 ?_))
 refine .condNP J (fun hc1 => ?_) (fun hc1 => ?_)
 ·
  refine G2 ?_
  refine .build (cs := Aa (List.replicate 32 0)) J J J (fun w => by kernel_rfl) ?_
  refine .sA J J J J zE Sz124 sP Z1 sP zV ?_
  refine G3 ?_
  -- ret
  refine G3 ?_
  refine ⟨_, [], Bj J J J Y124.h J Sz124 Z1 sP, sP, sP, ?_, rfl⟩
  (rw [hR, if_neg hc1, fb_zero]; done)
 refine G2 ?_
 refine .join (ι := Unit) (fun _u => ⟨[(2, ptr n2 0), (4, ptr n4 0)], [⟨n4, Aa (fb (if r1.val % 2 = 1 then -r1 else r1)), 124, 32⟩, ⟨n2, Aa (List.replicate 32 0), 124, 32⟩]⟩) (fun _u => True) ?_ ?_
 ·
  refine G3 ?_
  refine .cV J J J J Body188 (f_odd r1) tV (G2 ?_)
  refine .condP J (fun hc2 => ?_) (fun hc2 => ?_)
  ·
   refine G2 ?_
   refine .cV J J J J Body141 (f_neg r1) tV (G3 ?_)
   (rw [if_pos hc2]; exact ⟨(), trivial, Ad (wk1 rfl (wk1 rfl wk0)) (wh1 Z0 (wh1 Z1 wh0)) nD⟩)
  refine G2 ?_
  (rw [if_neg hc2]; exact ⟨(), trivial, Ad (wk1 rfl (wk1 rfl wk0)) (wh1 Z0 (wh1 Z1 wh0)) nD⟩)
 intro _u hj
 skip
 refine G3 ?_
 refine .sA J J J J zE Sz124 zF Z1 sP zV ?_
 refine G3 ?_
 -- ret
 refine G2 ?_
 refine ⟨_, [], Bj J J J Y124.h J Sz124 Z1 (by simp [Am]), sP, sP, ?_, rfl⟩
 (rw [hR, if_pos hc1]; done)
end Go.Proofs.YtfcbgdkpagcbbaaGreat
end

section
namespace Go.Proofs.YtfcbgdkpagcbbaaGreat
open Go Hw

theorem scalar_canon (a : List UInt8) (ha : a.length = 32) : Meets Tryz.prog 84 [agg (Aa a)] [] (fun _ => True) (fun v out => v = .bool (decide (le a < L)) ∧ out = []) := by
 intro W hW
 refine Ac Tryz.func84 J 7 Tryz.ntmps84 J (G3 ?_)
 intro n1 hn1 hf1
 refine G5 ?_
 refine .lA J J J Y124.h J Sz124 Z0 (by (simp [ha]; done)) ?_
 refine .cV J J J J Body130 (scalar_load_n _ (by simp [ha])) tV ?_
 refine .cV J J J J Body132 (scalar_modulus_n) tV (.cV J J J J Body131 (scalar_below_n _ _ (le32 ha) L_lt) tV (G3 ?_))
 -- ret
 refine G2 ?_
 refine ⟨_, [], Al J J, sP, sP, ?_, rfl⟩
 rfl

theorem scalar_rest (b o c n : Nat) (xs : List UInt8) (hx : xs.length = n) (hn : n ≤ 64) : Meets Tryz.prog 150 [.slice (some ⟨b, o, none⟩) n c] [] (fun W => Sees W b o (Aa xs)) (fun v out => v = .tuple #[agg (Aa (leb 32 (le xs % L))), i64 0] ∧ out = []) := by
 intro W hW
 refine Ac Tryz.func150 J 34 Tryz.ntmps150 J (G2 ?_)
 refine .alloc (cs := (Aa (List.replicate 32 0))) J A4 J ?_
 intro n2 hn2 hf2
 refine G8 ?_
 refine .gtr J J J J (decide_eq_false oM) (G2 ?_)
 refine .cond_f J (rfl) (G4 ?_)
 refine .alloc (cs := (Ae (List.replicate 8 0))) J Zr120 J ?_
 intro n4 hn4 hf4
 refine G11 ?_
 refine .loop (ι := Nat) (fun k => ⟨[(2, ptr n2 0), (4, ptr n4 0), (11, .slice (some ⟨b, o, none⟩) n c), (12, i64 (n : Int)), (13, i64 (k : Int))], [⟨n4, Ae (words8 (le (xs.take k))), 120, 8⟩, ⟨n2, Aa (List.replicate 32 0), 124, 32⟩]⟩) (fun k => k ≤ n) (fun k => n - k) (0) ?_ ?_ ?_
 · omega
 · exact Ad (wk1 rfl (wk1 rfl (wk1 rfl (wk1 rfl (wk1 rfl wk0))))) (wh1 (by rw [List.take_zero, show le [] = 0 from rfl, words8_zero]; exact Bx) (wh1 Z1 wh0)) nD
 rintro k hi
 refine G6 ?_
 refine .condP J (fun hc1 => ?_) (fun hc1 => ?_)
 ·
  refine G7 ?_
  refine .idxSlO J J J J Y27.h Sz5 _ J oM (.loadE J J J Y5.h J sP (hW _ _ (get_bytes oM)) (G4 ?_))
  refine .draw [(0, 0), (0, 1), (0, 2), (0, 3), (1, 4), (0, 5), (0, 6), (0, 7), (0, 8), (0, 9), (0, 10), (0, 11), (0, 12), (4, 13)] Ap zK (G1 ?_)
  refine .quo_i64 J J J J oM (G1 ?_)
  refine .i1 J J J J Y120.h Sz24 (7 - k / 8) oM oM (.load1 J J J Y24.h J Z0 (by exact get_words (by (simp [words8_length]; omega))) ?_)
  refine G3 ?_
  refine .rem_i64 J J J J oM (.mul_i64 J J J J oM (.shl_u64 J J J J (8 * (k % 8)) oM oM (G1 ?_)))
  refine .i1 J J J J Y120.h Sz24 (7 - k / 8) oM oM (.s1 J J J J J Sz24 Z0 (by (simp [words8_length]; omega)) (by exact A8 _ _ _) zU ?_)
  refine G8 ?_
  exact ⟨k + 1, by omega, by omega, Ad (wk1 rfl (wk1 rfl (wk1 rfl (wk1 rfl (wk1 rfl wk0))))) (wh1 (by rw [le_take_succ xs k oM, words8_step _ _ _ (le_take_lt xs k) oM]; exact Bx) (wh1 Z1 wh0)) nD⟩
 obtain rfl : k = n := by omega
 refine G8 ?_
 refine .cV J J J J Body190 (scalar_residue _ _ _ 8 (words8 (le (xs.take k))) J oM) (fun W h => Ar h Z0) ?_
 refine .sA J J J J zB Sz124 (by (simp [Ah]; done)) Z1 sP zV ?_
 refine G3 ?_
 -- ret
 refine G2 ?_
 refine ⟨_, [], Bj J J J Y124.h J Sz124 Z1 (by simp [Ah]), sP, sP, ?_, rfl⟩
 rw [wv_words8 (take_512 xs k oM), List.take_of_length_le oM]
theorem scalar_bit_at (a : List UInt8) (ha : a.length = 32) (k : Nat) (hk : k < 256) : Meets Tryz.prog 147 [agg (Aa a), i64 (k : Int)] [] (fun _ => True) (fun v out => v = .bool ((le a).testBit k) ∧ out = []) := by
 intro W hW
 refine Ac Tryz.func147 J 22 Tryz.ntmps147 J (G3 ?_)
 intro n2 hn2 hf2
 refine G6 ?_
 refine .geq J J J J (decide_eq_true oM) (G2 ?_)
 refine .lss J J J J (decide_eq_true oM) (G3 ?_)
 refine .quo_i64 J J J J oM (.i1 J J J J Y124.h Sz5 (k / 8) oM oM (G2 ?_))
 refine .rem_i64 J J J J oM (.shr_u8 J J J J (k % 8) oM oM (.and_u8 J J J (show Ag _ _ = some (u8 1) from rfl) (G5 ?_)))
 -- ret
 refine G2 ?_
 refine ⟨_, [], Al J J, sP, sP, ?_, rfl⟩
 rw [← bit_and a k]; rfl


open Ed

def ptc (P : Pt Fp) : Point := ⟨fb P.x, fb P.y⟩
def wdc (w : Wd Fp) : wide := ⟨fb w.x, fb w.y, fb w.z, fb w.t⟩
theorem ptc_ok (P : Pt Fp) : (ptc P).ok := ⟨fb32 _, fb32 _⟩
theorem Bi (w : Wd Fp) : (wdc w).ok := ⟨fb32 _, fb32 _, fb32 _, fb32 _⟩
theorem sees_subC {w : World} {b o off : Nat} {cs l : List Value} (hs : Sees w b o cs) (h : ∀ (j : Nat) (v : Value), l[j]? = some v → cs[off + j]? = some v) : Sees w b (o + off) l := fun j v hj => by
  have := hs _ v (h j v hj)
  rwa [← Nat.add_assoc] at this
theorem ptc_inj {P Q : Pt Fp} : ptc P = ptc Q ↔ P = Q := ⟨fun h => by
  obtain ⟨x, y⟩ := P
  obtain ⟨z, w⟩ := Q
  simp only [ptc, Point.mk.injEq, fb_inj] at h
  rw [h.1, h.2], fun h => by rw [h]⟩

theorem curve_D  : Meets Tryz.prog 138 [] [] (fun _ => True) (fun v out => v = agg (Aa (fb fD)) ∧ out = []) := by
 intro W hW
 refine Ac Tryz.func138 J 2 Tryz.ntmps138 J (G2 ?_)
 refine .alloc (cs := (Aa (List.replicate 32 0))) J A4 J ?_
 intro n0 hn0 hf0
 refine G4 ?_
 refine .build (cs := Aa (fb fD)) J J J (fun w => by kernel_rfl) ?_
 refine .sA J J J J zE Sz124 zF Z0 sP zU ?_
 refine G2 ?_
 -- ret
 refine G2 ?_
 refine ⟨_, [], An J J Y124.h J Sz124 Z0 (by simp [Am]), sP, sP, ?_, rfl⟩
 rfl

theorem curve_Zero  : Meets Tryz.prog 143 [] [] (fun _ => True) (fun v out => v = agg (ptc (zero : Pt Fp)).cells ∧ out = []) := by
 intro W hW
 refine Ac Tryz.func143 J 3 Tryz.ntmps143 J (G2 ?_)
 refine .alloc (cs := Point.zero.cells) J Point.zr J ?_
 intro n0 hn0 hf0
 refine G4 ?_
 refine .cV J J J J Body136 (f_one) tV (.build (cs := (⟨fb 0, fb 1⟩ : Point).cells) J J J (fun w => by kernel_rfl) ?_)
 refine .sA J J J J (Point.isCell (by exact ⟨fb32 _, fb32 _⟩)) Sz127 (Point.length (by exact ⟨fb32 _, fb32 _⟩)) Z0 (Point.length zZ) zU ?_
 refine G2 ?_
 -- ret
 refine G2 ?_
 refine ⟨_, [], An J J Y127.h J Sz127 Z0 (by exact Point.length (by exact ⟨fb32 _, fb32 _⟩)), sP, sP, ?_, rfl⟩
 rfl

theorem base_len {k : Nat} (h : k ≤ 32) : (Aa (bX ++ (List.replicate k 102 ++ List.replicate (32 - k) 0))).length = 64 := by
  rw [Aa, List.length_map, List.length_append, List.length_append, List.length_replicate, List.length_replicate, show bX.length = 32 from rfl]; omega
theorem base_step {k : Nat} (h : k < 32) : (bX ++ (List.replicate k (102 : UInt8) ++ List.replicate (32 - k) 0)).set (32 + k) 102 = bX ++ (List.replicate (k + 1) 102 ++ List.replicate (32 - (k + 1)) 0) := by
  rw [List.set_append_right _ _ (by rw [show bX.length = 32 from rfl]; omega), show bX.length = 32 from rfl, show 32 + k - 32 = k by omega, show 32 - k = (32 - (k + 1)) + 1 by omega, List.replicate_succ, List.set_append_right _ _ sP]
  simp [List.replicate_succ']
theorem base_end : Aa ((bX ++ (List.replicate 32 (102 : UInt8) ++ List.replicate (32 - 32) 0)).set 32 88) = (ptc bP).cells := by
  show _ = Aa (fb bP.x) ++ Aa (fb bP.y)
  rw [bP_x, bP_y]
  kernel_rfl

theorem curve_Base  : Meets Tryz.prog 87 [] [] (fun _ => True) (fun v out => v = agg (ptc bP).cells ∧ out = []) := by
 intro W hW
 refine Ac Tryz.func87 J 15 Tryz.ntmps87 J (G2 ?_)
 refine .alloc (cs := Point.zero.cells) J Point.zr J ?_
 intro n0 hn0 hf0
 refine G4 ?_
 refine .build (cs := Aa bX) J J J (fun w => by kernel_rfl) ?_
 refine .build (cs := (⟨bX, List.replicate 32 0⟩ : Point).cells) J J J (fun w => by kernel_rfl) ?_
 refine .alloc (cs := Point.zero.cells) J Point.zr J ?_
 intro n1 hn1 hf1
 refine .sA J J J J (Point.isCell (by exact ⟨rfl, rfl⟩)) Sz127 (Point.length (by exact ⟨rfl, rfl⟩)) Z0 (Point.length (by exact ⟨rfl, rfl⟩)) zU ?_
 refine G9 ?_
 refine .loop (ι := Nat) (fun k => ⟨[(0, ptr n0 0), (1, ptr n1 0), (5, i64 (k : Int))], [⟨n1, Aa (bX ++ (List.replicate k 102 ++ List.replicate (32 - k) 0)), 127, 64⟩, ⟨n0, Point.zero.cells, 127, 64⟩]⟩) (fun k => k ≤ 32) (fun k => 32 - k) (0) ?_ ?_ ?_
 · omega
 · exact Ad (wk1 rfl (wk1 rfl (wk1 rfl wk0))) (wh1 (by rw [show Aa (bX ++ (List.replicate 0 102 ++ List.replicate (32 - 0) 0)) = (⟨bX, List.replicate 32 0⟩ : Point).cells from by kernel_rfl]; exact Bx) (wh1 Z1 wh0)) nD
 rintro k hi
 refine G6 ?_
 refine .condP J (fun hc0 => ?_) (fun hc0 => ?_)
 ·
  have hk2 : k < 32 := by omega
  refine G13 ?_
  refine .idxArrO J J J J Y124.h Sz5 k J oM (.s1 J J J J J Sz5 Z0 (by rw [base_len oM]; exact (show 32 + k < 64 by omega)) (by exact Be _ (32 + k) 102) zU ?_)
  refine G8 ?_
  exact ⟨k + 1, by omega, by omega, Ad (wk1 rfl (wk1 rfl (wk1 rfl wk0))) (wh1 (by rw [← base_step hk2]; exact Bx) (wh1 Z1 wh0)) nD⟩
 obtain rfl : k = 32 := by omega
 refine G8 ?_
 refine .idxArrO J J J J Y124.h Sz5 0 J dE (.s1 J J J J J Sz5 Z0 (by rw [base_len oM]; exact (show 32 + 0 < 64 by decide)) (by exact Be _ (32 + 0) 88) zU ?_)
 rw [base_end]
 refine G5 ?_
 refine .sA J J J J (Point.isCell zP) Sz127 (Point.length zP) Z1 (Point.length (by exact ⟨rfl, rfl⟩)) zV ?_
 refine G2 ?_
 -- ret
 refine G2 ?_
 refine ⟨_, [], An J J Y127.h J Sz127 Z1 (by exact Point.length zP), sP, sP, ?_, rfl⟩
 rfl
theorem curve_Check (p : Point) (hp : p.ok) : Meets Tryz.prog 142 [agg p.cells] [] (fun _ => True) (fun v out => v = i64 (pchk p.fX p.fY) ∧ out = []) := by
 intro W hW
 refine Ac Tryz.func142 J 38 Tryz.ntmps142 J (G3 ?_)
 intro n1 hn1 hf1
 refine G7 ?_
 refine .lN (Aa _) J J J Y124.h J Sz124 Z0 (Point.row_fX (by exact hp)) (Point.rl_fX (by exact hp)) ?_
 refine .callB J J J J Body133 (field_Canon p.fX hp.l_fX) tV (fun hs1_20 => ?_) (fun hs1_20 => ?_)
 ·
  have hs1_2 := of_decide_eq_true hs1_20
  refine G3 ?_
  refine .lN (Aa _) J J J Y124.h J Sz124 Z0 (Point.row_fY (by exact hp)) (Point.rl_fY (by exact hp)) ?_
  refine .callB J J J J Body133 (field_Canon p.fY hp.l_fY) tV (fun hs1_70 => ?_) (fun hs1_70 => ?_)
  ·
   have hs1_7 := of_decide_eq_true hs1_70
   refine G4 ?_
   refine .cond_f J J (G3 ?_)
   refine .draw [(0, 0), (1, 1), (0, 2), (1, 3), (0, 5), (1, 6), (0, 7), (1, 8), (3, 4), (3, 9), (2, 10), (2, 11), (4, 12), (4, 13)] Ap zK (G1 ?_)
   refine .lN (Aa _) J J J Y124.h J Sz124 Z0 (Point.row_fX (by exact hp)) (Point.rl_fX (by exact hp)) ?_
   refine G1 ?_
   refine .lN (Aa _) J J J Y124.h J Sz124 Z0 (Point.row_fX (by exact hp)) (Point.rl_fX (by exact hp)) ?_
   refine G1 ?_
   refine .lN (Aa _) J J J Y124.h J Sz124 Z0 (Point.row_fY (by exact hp)) (Point.rl_fY (by exact hp)) ?_
   refine G1 ?_
   refine .lN (Aa _) J J J Y124.h J Sz124 Z0 (Point.row_fY (by exact hp)) (Point.rl_fY (by exact hp)) ?_
   refine .cV J J J J B8 (field_Mul p.fX p.fX hp.l_fX hp.l_fX) tV (.cV J J J J B8 (field_Mul p.fY p.fY hp.l_fY hp.l_fY) tV (.alloc (cs := (Aa (List.replicate 32 0))) J A4 J ?_))
   intro n3 hn3 hf3
   refine .alloc (cs := (Aa (List.replicate 32 0))) J A4 J ?_
   intro n4 hn4 hf4
   refine .sA J J J J zE Sz124 zF Z1 sP zV ?_
   refine .sA J J J J zE Sz124 zF Z0 sP zU ?_
   refine G3 ?_
   refine .draw [(1, 2), (1, 3), (3, 0), (3, 1), (3, 4), (3, 5), (3, 6), (2, 7), (4, 8)] Ap zK (G2 ?_)
   refine .cV J J J J Body136 (f_one) tV (.cV J J J J Body138 (curve_D) tV (.cV J J J J B8 (f_mul _ _) tV (.cV J J J J B8 (f_mul _ _) tV (.cV J J J J Body137 (f_add _ _) tV (.alloc (cs := (Aa (List.replicate 32 0))) J A4 J ?_)))))
   intro n5 hn5 hf5
   refine .sA J J J J zE Sz124 zF Z0 sP zU ?_
   refine G4 ?_
   refine .draw [(1, 0), (1, 1), (1, 3), (3, 2), (0, 4)] Ap zK (G3 ?_)
   refine .cV J J J J Body135 (f_sub _ _) tV (.neq_bytes J J J J Tryz.eqGuardType124 Y124.h Y5.h Sz5 zF zF J (G2 ?_))
   refine .condNP J (fun hc1 => ?_) (fun hc1 => ?_)
   ·
    refine G5 ?_
    -- ret
    refine G3 ?_
    refine ⟨_, [], Al J J, sP, sP, ?_, rfl⟩
    unfold pchk
    exact congrArg i64 (if_neg (fun h => by exact hc1 (fb_inj.2 h.2.2))).symm
   refine G7 ?_
   -- ret
   refine G2 ?_
   refine ⟨_, [], Al J J, sP, sP, ?_, rfl⟩
   unfold pchk
   exact congrArg i64 (if_pos ⟨hs1_2, hs1_7, fb_inj.1 hc1⟩).symm
  have hs1_7 := of_decide_eq_false hs1_70
  refine G4 ?_
  refine .cond_t J J (G5 ?_)
  -- ret
  refine G3 ?_
  refine ⟨_, [], Al J J, sP, sP, ?_, rfl⟩
  unfold pchk
  exact congrArg i64 (if_neg (fun h => by exact hs1_7 h.2.1)).symm
 have hs1_2 := of_decide_eq_false hs1_20
 refine G9 ?_
 refine .cond_t J J (G5 ?_)
 -- ret
 refine G3 ?_
 refine ⟨_, [], Al J J, sP, sP, ?_, rfl⟩
 unfold pchk
 exact congrArg i64 (if_neg (fun h => by exact hs1_2 h.1)).symm
theorem curve_Check_on (P : Pt Fp) (h : cv.on P) : Meets Tryz.prog 142 [agg (ptc P).cells] [] (fun _ => True) (fun v out => v = i64 0 ∧ out = []) := by
  have h1 := curve_Check (ptc P) (ptc_ok P)
  rwa [show pchk (ptc P).fX (ptc P).fY = 0 from pchk_on h] at h1

theorem curve_widen (P : Pt Fp) : Meets Tryz.prog 144 [agg (ptc P).cells] [] (fun _ => True) (fun v out => v = agg (wdc (Wd.of P)).cells ∧ out = []) := by
 intro W hW
 refine Ac Tryz.func144 J 14 Tryz.ntmps144 J (G3 ?_)
 intro n1 hn1 hf1
 refine .alloc (cs := wide.zero.cells) J wide.zr J ?_
 intro n2 hn2 hf2
 refine G3 ?_
 refine .draw [(0, 0), (1, 1), (0, 2), (1, 3), (0, 5), (1, 6), (0, 7), (1, 8), (3, 4), (3, 9), (0, 10), (4, 11)] Ap zK (G1 ?_)
 refine .lN (Aa _) J J J Y124.h J Sz124 Z1 (Point.row_fX zP) (Point.rl_fX zP) ?_
 refine G1 ?_
 refine .lN (Aa _) J J J Y124.h J Sz124 Z1 (Point.row_fY zP) (Point.rl_fY zP) ?_
 refine G1 ?_
 refine .lN (Aa _) J J J Y124.h J Sz124 Z1 (Point.row_fX zP) (Point.rl_fX zP) ?_
 refine G1 ?_
 refine .lN (Aa _) J J J Y124.h J Sz124 Z1 (Point.row_fY zP) (Point.rl_fY zP) ?_
 refine .cV J J J J Body136 (f_one) tV (.cV J J J J B8 (f_mul P.x P.y) tV (.build (cs := (wdc (Wd.of P)).cells) J J J (fun w => by kernel_rfl) ?_))
 refine .sA J J J J (wide.isCell (by exact Bi _)) Sz178 (wide.length (by exact Bi _)) Z0 (wide.length (by exact wide.zero_ok)) zU ?_
 refine G2 ?_
 -- ret
 refine G2 ?_
 refine ⟨_, [], An J J Y178.h J Sz178 Z0 (by exact wide.length (by exact Bi _)), sP, sP, ?_, rfl⟩
 rfl

theorem wide_point (n : Nat) (w : Wd Fp) : Meets Tryz.prog 148 [ptr n 0] [] (fun W => Sees W n 0 (wdc w).cells) (fun v out => v = agg (ptc (⟨w.x * finv w.z, w.y * finv w.z⟩ : Pt Fp)).cells ∧ out = []) := by
 intro W hW
 have hinv := f_inv w.z
 revert hinv
 generalize finv w.z = iz
 intro hinv
 refine Ac Tryz.func148 J 22 Tryz.ntmps148 J (.sr (.alloc (cs := Point.zero.cells) J Point.zr J ?_))
 intro n2 hn2 hf2
 refine .nsr (.m J J J (.nC J J J (.fld J J J Y178.h J Sz124 dE _ J (.loadEN (Aa (fb w.z)) J J J Y124.h J Sz124 sP (by rw [Aa, List.length_map, Am]) (sees_subC hW (wide.see_fZ (Bi w))) ?_))))
 refine .cV J J J J Body140 (hinv) tV (.alloc (cs := (Aa (List.replicate 32 0))) J A4 J ?_)
 intro n3 hn3 hf3
 refine .sA J J J J zE Sz124 zF Z0 sP zU ?_
 refine .na (.seq (.draw [(0, 0), (0, 1), (0, 2), (1, 3), (1, 4), (0, 6), (0, 7), (0, 8), (1, 9), (1, 10), (3, 5), (3, 11), (0, 12), (4, 13)] Ap zK (.m J J J (.nC J J J (.fld J J J Y178.h J Sz124 dE _ J (.loadEN (Aa (fb w.x)) J J J Y124.h J Sz124 sP (by rw [Aa, List.length_map, Am]) (sees_subC hW (wide.see_fX (Bi w))) ?_))))))
 refine .lA J J J Y124.h J Sz124 Z0 zF ?_
 refine .m J J J (.nC J J J (.fld J J J Y178.h J Sz124 dE _ J (.loadEN (Aa (fb w.y)) J J J Y124.h J Sz124 sP (by rw [Aa, List.length_map, Am]) (sees_subC hW (wide.see_fY (Bi w))) ?_)))
 refine .lA J J J Y124.h J Sz124 Z0 zF ?_
 refine .cV J J J J B8 (f_mul _ _) tV (.cV J J J J B8 (f_mul _ _) tV (.build (cs := (ptc (⟨w.x * iz, w.y * iz⟩ : Pt Fp)).cells) J J J (fun w => by kernel_rfl) ?_))
 refine .sA J J J J (Point.isCell zP) Sz127 (Point.length zP) Z1 (Point.length zZ) zV ?_
 refine .na ?_
 -- ret
 refine .ret (en_r ?_)
 refine ⟨_, [], An J J Y127.h J Sz127 Z1 (by exact Point.length zP), sP, sP, ?_, rfl⟩
 rfl

theorem wide_finish (n : Nat) (w : Wd Fp) (e f g h : Fp) : Meets Tryz.prog 189 [ptr n 0, agg (Aa (fb e)), agg (Aa (fb f)), agg (Aa (fb g)), agg (Aa (fb h))] [n] (fun W => BlkOk W ⟨n, (wdc w).cells, 178, 128⟩) (fun v out => out = [⟨n, (wdc (Wd.fin e f g h)).cells, 178, 128⟩]) := by
 intro W hW
 refine calls_of (hp0 := [⟨n, (wdc w).cells, 178, 128⟩]) Tryz.func189 J 34 Tryz.ntmps189 J (HRep.one hW) (G3 ?_)
 intro n6 hn6 hf6
 refine G1 ?_
 intro n7 hn7 hf7
 refine G1 ?_
 intro n8 hn8 hf8
 refine G1 ?_
 intro n9 hn9 hf9
 refine G3 ?_
 refine .draw [(0, 0), (0, 1), (1, 2), (1, 3), (1, 5), (1, 6), (3, 4), (3, 7), (0, 8), (0, 9), (4, 10), (0, 11), (0, 12), (4, 13)] Ap zK (G6 ?_)
 refine .cV J J J J B8 (f_mul _ _) tV (.cV J J J J B8 (f_mul _ _) tV (G2 ?_))
 refine .storeN (Aa _) J J J J J zE Sz124 (by simp [Am]) Z4 (by rw [wide.length (by exact Bi _)]; simp [Am]) (wide.upd_fX (by exact Bi _) _ (by simp [Am])) (by exact upd4) ?_
 refine G2 ?_
 refine .storeN (Aa _) J J J J J zE Sz124 (by simp [Am]) Z4 (by rw [wide.length (by exact ⟨fb32 _, fb32 _, fb32 _, fb32 _⟩)]; simp [Am]) (wide.upd_fY (by exact ⟨fb32 _, fb32 _, fb32 _, fb32 _⟩) _ (by simp [Am])) (by exact upd4) ?_
 refine G2 ?_
 refine .draw [(0, 0), (0, 1), (1, 2), (1, 3), (1, 5), (1, 6), (3, 4), (3, 7), (0, 8), (0, 9), (4, 10), (0, 11), (0, 12), (4, 13)] Ap zK (G6 ?_)
 refine .cV J J J J B8 (f_mul _ _) tV (.cV J J J J B8 (f_mul _ _) tV (G2 ?_))
 refine .storeN (Aa _) J J J J J zE Sz124 (by simp [Am]) Z4 (by rw [wide.length (by exact ⟨fb32 _, fb32 _, fb32 _, fb32 _⟩)]; simp [Am]) (wide.upd_fZ (by exact ⟨fb32 _, fb32 _, fb32 _, fb32 _⟩) _ (by simp [Am])) (by exact upd4) ?_
 refine G2 ?_
 refine .storeN (Aa _) J J J J J zE Sz124 (by simp [Am]) Z4 (by rw [wide.length (by exact ⟨fb32 _, fb32 _, fb32 _, fb32 _⟩)]; simp [Am]) (wide.upd_fT (by exact ⟨fb32 _, fb32 _, fb32 _, fb32 _⟩) _ (by simp [Am])) (by exact upd4) ?_
 refine G2 ?_
 exact ⟨_, [⟨n, (wdc (Wd.fin e f g h)).cells, 178, 128⟩], res_none rfl, (fun b hb => by rw [List.mem_singleton.1 hb]; exact Z4), nodup1, rfl⟩

theorem wide_add (n q : Nat) (w p : Wd Fp) (tw : Fp) : Meets Tryz.prog 145 [ptr n 0, ptr q 0, agg (Aa (fb tw))] [n] (fun W => BlkOk W ⟨n, (wdc w).cells, 178, 128⟩ ∧ Sees W q 0 (wdc p).cells ∧ q ≠ n) (fun v out => out = [⟨n, (wdc (Wd.fin ((w.y + w.x) * (p.y + p.x) - (w.y - w.x) * (p.y - p.x)) (w.z * p.z + w.z * p.z - w.t * tw * p.t) (w.z * p.z + w.z * p.z + w.t * tw * p.t) ((w.y + w.x) * (p.y + p.x) + (w.y - w.x) * (p.y - p.x)))).cells, 178, 128⟩]) := by
 intro W hW
 refine calls_of (hp0 := [⟨n, (wdc w).cells, 178, 128⟩]) Tryz.func145 J 85 Tryz.ntmps145 J (HRep.one hW.1) (G3 ?_)
 intro n5 hn5 hf5
 refine G3 ?_
 refine .draw [(0, 0), (0, 1), (0, 2), (1, 3), (0, 4), (0, 5), (0, 6), (1, 7), (0, 9), (0, 10), (0, 11), (1, 12), (0, 13), (0, 14), (0, 15), (1, 16), (3, 8), (3, 17), (3, 18), (2, 19), (4, 20)] Ap zK (G3 ?_)
 refine .lN (Aa _) J J J Y124.h J Sz124 Z1 (wide.row_fY (by exact Bi _)) (wide.rl_fY (by exact Bi _)) ?_
 refine G3 ?_
 refine .lN (Aa _) J J J Y124.h J Sz124 Z1 (wide.row_fX (by exact Bi _)) (wide.rl_fX (by exact Bi _)) ?_
 refine G3 ?_
 refine .loadEN (Aa (fb p.y)) J J J Y124.h J Sz124 (by simp; exact hW.2.2) (by rw [Aa, List.length_map, Am]) (sees_subC hW.2.1 (wide.see_fY (Bi p))) ?_
 refine G3 ?_
 refine .loadEN (Aa (fb p.x)) J J J Y124.h J Sz124 (by simp; exact hW.2.2) (by rw [Aa, List.length_map, Am]) (sees_subC hW.2.1 (wide.see_fX (Bi p))) ?_
 refine .cV J J J J Body135 (f_sub _ _) tV (.cV J J J J Body135 (f_sub _ _) tV (.cV J J J J B8 (f_mul _ _) tV (.alloc (cs := (Aa (List.replicate 32 0))) J A4 J ?_)))
 intro n6 hn6 hf6
 refine .sA J J J J zE Sz124 zF Z0 sP zU ?_
 refine G3 ?_
 refine .draw [(0, 0), (0, 1), (0, 2), (1, 3), (0, 4), (0, 5), (0, 6), (1, 7), (0, 9), (0, 10), (0, 11), (1, 12), (0, 13), (0, 14), (0, 15), (1, 16), (3, 8), (3, 17), (3, 18), (2, 19), (4, 20)] Ap zK (G3 ?_)
 refine .lN (Aa _) J J J Y124.h J Sz124 Z2 (wide.row_fY (by exact Bi _)) (wide.rl_fY (by exact Bi _)) ?_
 refine G3 ?_
 refine .lN (Aa _) J J J Y124.h J Sz124 Z2 (wide.row_fX (by exact Bi _)) (wide.rl_fX (by exact Bi _)) ?_
 refine G3 ?_
 refine .loadEN (Aa (fb p.y)) J J J Y124.h J Sz124 (by simp; exact hW.2.2) (by rw [Aa, List.length_map, Am]) (sees_subC hW.2.1 (wide.see_fY (Bi p))) ?_
 refine G3 ?_
 refine .loadEN (Aa (fb p.x)) J J J Y124.h J Sz124 (by simp; exact hW.2.2) (by rw [Aa, List.length_map, Am]) (sees_subC hW.2.1 (wide.see_fX (Bi p))) ?_
 refine .cV J J J J Body137 (f_add _ _) tV (.cV J J J J Body137 (f_add _ _) tV (.cV J J J J B8 (f_mul _ _) tV (.alloc (cs := (Aa (List.replicate 32 0))) J A4 J ?_)))
 intro n7 hn7 hf7
 refine .sA J J J J zE Sz124 zF Z0 sP zU ?_
 refine G3 ?_
 refine .draw [(0, 0), (0, 1), (0, 2), (1, 3), (1, 4), (0, 6), (0, 7), (0, 8), (1, 9), (3, 5), (3, 10), (2, 11), (4, 12)] Ap zK (G3 ?_)
 refine .lN (Aa _) J J J Y124.h J Sz124 Z3 (wide.row_fT (by exact Bi _)) (wide.rl_fT (by exact Bi _)) ?_
 refine G4 ?_
 refine .loadEN (Aa (fb p.t)) J J J Y124.h J Sz124 (by simp; exact hW.2.2) (by rw [Aa, List.length_map, Am]) (sees_subC hW.2.1 (wide.see_fT (Bi p))) ?_
 refine .cV J J J J B8 (f_mul _ _) tV (.cV J J J J B8 (f_mul _ _) tV (.alloc (cs := (Aa (List.replicate 32 0))) J A4 J ?_))
 intro n8 hn8 hf8
 refine .sA J J J J zE Sz124 zF Z0 sP zU ?_
 refine G3 ?_
 refine .draw [(0, 0), (0, 1), (0, 2), (1, 3), (0, 4), (0, 5), (0, 6), (1, 7), (3, 8), (2, 9), (4, 10)] Ap zK (G3 ?_)
 refine .lN (Aa _) J J J Y124.h J Sz124 Z4 (wide.row_fZ (by exact Bi _)) (wide.rl_fZ (by exact Bi _)) ?_
 refine G3 ?_
 refine .loadEN (Aa (fb p.z)) J J J Y124.h J Sz124 (by simp; exact hW.2.2) (by rw [Aa, List.length_map, Am]) (sees_subC hW.2.1 (wide.see_fZ (Bi p))) ?_
 refine .cV J J J J B8 (f_mul _ _) tV (.alloc (cs := (Aa (List.replicate 32 0))) J A4 J ?_)
 intro n9 hn9 hf9
 refine .sA J J J J zE Sz124 zF Z0 sP zU ?_
 refine G6 ?_
 refine .cV J J J J Body137 (f_add _ _) tV (G3 ?_)
 refine .draw [(0, 0), (1, 1), (1, 2), (1, 4), (1, 5), (1, 7), (1, 8), (1, 10), (1, 11), (3, 3), (3, 6), (3, 9), (3, 12), (4, 13)] Ap zK (G9 ?_)
 refine .cV J J J J Body135 (f_sub _ _) tV (.cV J J J J Body135 (f_sub _ _) tV (.cV J J J J Body137 (f_add _ _) tV (.cV J J J J Body137 (f_add _ _) tV (.callL (L := [⟨n, (wdc w).cells, 178, 128⟩]) J J J J J Body189 (wide_finish n w ((w.y + w.x) * (p.y + p.x) - (w.y - w.x) * (p.y - p.x)) (w.z * p.z + w.z * p.z - w.t * tw * p.t) (w.z * p.z + w.z * p.z + w.t * tw * p.t) ((w.y + w.x) * (p.y + p.x) + (w.y - w.x) * (p.y - p.x))) (Ab rM Ak) (B6 J) (fun w h => own_blk h (by exact mem5)) ?_))))
 rintro v84 out84 rfl
 refine G2 ?_
 exact ⟨_, [⟨n, (wdc (Wd.fin ((w.y + w.x) * (p.y + p.x) - (w.y - w.x) * (p.y - p.x)) (w.z * p.z + w.z * p.z - w.t * tw * p.t) (w.z * p.z + w.z * p.z + w.t * tw * p.t) ((w.y + w.x) * (p.y + p.x) + (w.y - w.x) * (p.y - p.x)))).cells, 178, 128⟩], res_none rfl, (fun b hb => by rw [List.mem_singleton.1 hb]; exact Z0), nodup1, rfl⟩

theorem wide_double (n : Nat) (w : Wd Fp) : Meets Tryz.prog 146 [ptr n 0] [n] (fun W => BlkOk W ⟨n, (wdc w).cells, 178, 128⟩) (fun v out => out = [⟨n, (wdc (Wd.dbl w)).cells, 178, 128⟩]) := by
 intro W hW
 refine calls_of (hp0 := [⟨n, (wdc w).cells, 178, 128⟩]) Tryz.func146 J 66 Tryz.ntmps146 J (HRep.one hW) (.seq (.draw [(0, 0), (0, 1), (0, 2), (1, 3), (0, 4), (0, 5), (0, 6), (1, 7), (0, 9), (0, 10), (0, 11), (1, 12), (0, 13), (0, 14), (0, 15), (1, 16), (0, 18), (0, 19), (0, 20), (1, 21), (0, 22), (0, 23), (0, 24), (1, 25), (3, 8), (3, 17), (3, 26), (2, 27), (2, 28), (2, 29), (4, 30), (4, 31), (4, 32)] Ap zK (G3 ?_)))
 refine .lN (Aa _) J J J Y124.h J Sz124 Z0 (wide.row_fX (by exact Bi _)) (wide.rl_fX (by exact Bi _)) ?_
 refine G3 ?_
 refine .lN (Aa _) J J J Y124.h J Sz124 Z0 (wide.row_fX (by exact Bi _)) (wide.rl_fX (by exact Bi _)) ?_
 refine G3 ?_
 refine .lN (Aa _) J J J Y124.h J Sz124 Z0 (wide.row_fY (by exact Bi _)) (wide.rl_fY (by exact Bi _)) ?_
 refine G3 ?_
 refine .lN (Aa _) J J J Y124.h J Sz124 Z0 (wide.row_fY (by exact Bi _)) (wide.rl_fY (by exact Bi _)) ?_
 refine G3 ?_
 refine .lN (Aa _) J J J Y124.h J Sz124 Z0 (wide.row_fZ (by exact Bi _)) (wide.rl_fZ (by exact Bi _)) ?_
 refine G3 ?_
 refine .lN (Aa _) J J J Y124.h J Sz124 Z0 (wide.row_fZ (by exact Bi _)) (wide.rl_fZ (by exact Bi _)) ?_
 refine .cV J J J J B8 (f_mul _ _) tV (.cV J J J J B8 (f_mul _ _) tV (.cV J J J J B8 (f_mul _ _) tV (.alloc (cs := (Aa (List.replicate 32 0))) J A4 J ?_)))
 intro n2 hn2 hf2
 refine .alloc (cs := (Aa (List.replicate 32 0))) J A4 J ?_
 intro n3 hn3 hf3
 refine .alloc (cs := (Aa (List.replicate 32 0))) J A4 J ?_
 intro n4 hn4 hf4
 refine .sA J J J J zE Sz124 zF Z2 sP (by exact upd2) ?_
 refine .sA J J J J zE Sz124 zF Z1 sP zV ?_
 refine .sA J J J J zE Sz124 zF Z0 sP zU ?_
 refine G3 ?_
 refine .draw [(0, 0), (0, 1), (0, 2), (1, 3), (0, 4), (0, 5), (0, 6), (1, 7), (3, 8), (2, 9), (4, 10)] Ap zK (G3 ?_)
 refine .lN (Aa _) J J J Y124.h J Sz124 Z3 (wide.row_fX (by exact Bi _)) (wide.rl_fX (by exact Bi _)) ?_
 refine G3 ?_
 refine .lN (Aa _) J J J Y124.h J Sz124 Z3 (wide.row_fY (by exact Bi _)) (wide.rl_fY (by exact Bi _)) ?_
 refine .cV J J J J Body137 (f_add _ _) tV (.alloc (cs := (Aa (List.replicate 32 0))) J A4 J ?_)
 intro n5 hn5 hf5
 refine .sA J J J J zE Sz124 zF Z0 sP zU ?_
 refine G6 ?_
 refine .cV J J J J Body137 (f_add _ _) tV (.alloc (cs := (Aa (List.replicate 32 0))) J A4 J ?_)
 intro n6 hn6 hf6
 refine .sA J J J J zE Sz124 zF Z0 sP zU ?_
 refine G3 ?_
 refine .draw [(1, 0), (1, 1), (1, 2), (3, 3), (3, 4), (2, 5), (4, 6)] Ap zK (G3 ?_)
 refine .cV J J J J B8 (f_mul _ _) tV (.cV J J J J Body135 (f_sub _ _) tV (.alloc (cs := (Aa (List.replicate 32 0))) J A4 J ?_))
 intro n7 hn7 hf7
 refine .sA J J J J zE Sz124 zF Z0 sP zU ?_
 refine G6 ?_
 refine .cV J J J J Body135 (f_sub _ _) tV (.alloc (cs := (Aa (List.replicate 32 0))) J A4 J ?_)
 intro n8 hn8 hf8
 refine .sA J J J J zE Sz124 zF Z0 sP zU ?_
 refine G2 ?_
 refine .draw [(0, 0), (1, 1), (1, 2), (1, 3), (1, 5), (1, 7), (1, 8), (3, 4), (3, 6), (4, 9)] Ap zK (G7 ?_)
 refine .cV J J J J Body137 (f_add _ _) tV (.cV J J J J Body137 (f_add _ _) tV (.callL (L := [⟨n, (wdc w).cells, 178, 128⟩]) J J J J J Body189 (wide_finish n w (w.x * w.x + w.y * w.y - (w.x + w.y) * (w.x + w.y)) (w.z * w.z + w.z * w.z + (w.x * w.x - w.y * w.y)) (w.x * w.x - w.y * w.y) (w.x * w.x + w.y * w.y)) (Ab rM Ak) (B6 J) (fun w h => own_blk h (by exact mem7)) ?_))
 rintro v65 out65 rfl
 refine G2 ?_
 exact ⟨_, [⟨n, (wdc (Wd.dbl w)).cells, 178, 128⟩], res_none rfl, (fun b hb => by rw [List.mem_singleton.1 hb]; exact Z0), nodup1, rfl⟩

end Go.Proofs.YtfcbgdkpagcbbaaGreat
end

section
namespace Go.Proofs.YtfcbgdkpagcbbaaGreat
open Go Hw

open Ed

theorem own_ne {C : Cx} {hp R : List Blk} {w : World} {b1 b2 : Blk} (h : HRep C hp w) (p : hp.Perm ((b1 :: b2 :: []) ++ R)) : b2.n ≠ b1.n := fun e => by
  have := (p.map (·.n)).nodup_iff.1 h.nodup
  simp [e] at this
theorem wide_addD (n q : Nat) (w p : Wd Fp) : Meets Tryz.prog 145 [ptr n 0, ptr q 0, agg (Aa (fb (fD + fD)))] [n] (fun W => BlkOk W ⟨n, (wdc w).cells, 178, 128⟩ ∧ Sees W q 0 (wdc p).cells ∧ q ≠ n) (fun v out => out = [⟨n, (wdc (Wd.add fD w p)).cells, 178, 128⟩]) := wide_add n q w p (fD + fD)
theorem wide_pointR (n : Nat) (w : Wd Fp) (R : Pt Fp) (hw : w.rep R) : Meets Tryz.prog 148 [ptr n 0] [] (fun W => Sees W n 0 (wdc w).cells) (fun v out => v = agg (ptc R).cells ∧ out = []) := by
  have h := wide_point n w
  have e : (⟨w.x * finv w.z, w.y * finv w.z⟩ : Pt Fp) = R := cv.rep_pt hw
  rwa [e] at h
theorem pair_eg : Tryz.prog.eqGuardType Tryz.prog.depth 184 = false := by kernel_rfl
theorem pair_eq (a b c d : Bool) (w : World) : (Op.equalIn 10000 184 (agg [.bool a, .bool b]) (agg [.bool c, .bool d])).run Tryz.prog w = .ok (a == c && b == d) w := by
  cases a <;> cases b <;> cases c <;> cases d <;> kernel_rfl

theorem curve_Mul2 (a b : List UInt8) (P Q : Pt Fp) (ha : a.length = 32) (hb : b.length = 32) (hP : cv.on P) (hQ : cv.on Q) : Meets Tryz.prog 86 [agg (Aa a), agg (ptc P).cells, agg (Aa b), agg (ptc Q).cells] [] (fun _ => True) (fun v out => v = agg (ptc (cv.lin (le a) (le b) P Q)).cells ∧ out = []) := by
 intro W hW
 refine Ac Tryz.func86 J 65 Tryz.ntmps86 J (.sr (.boxA J J ?_))
 intro n4 hn4 hf4
 refine .boxA J J ?_
 intro n5 hn5 hf5
 refine .boxA J J ?_
 intro n6 hn6 hf6
 refine .boxA J J ?_
 intro n7 hn7 hf7
 refine .alloc (cs := Point.zero.cells) J Point.zr J ?_
 intro n8 hn8 hf8
 refine .na (.seq (.sr (.lA J J J Y127.h J Sz127 Z3 (Point.length zP) ?_)))
 refine .cV J J J J Body142 (curve_Check_on P hP) tV (.nei J J J J (show (!decide _) = false from congrArg not (decide_eq_true (rfl))) (.m J J J (.lA J J J Y127.h J Sz127 Z1 (Point.length zP) ?_)))
 refine .cV J J J J Body142 (curve_Check_on Q hQ) tV (.nei J J J J (show (!decide _) = false from congrArg not (decide_eq_true (rfl))) (.pick J J J J J J (.na (.cond_f J J (.skip (Cq (.sr (.cV J J J J Body138 (curve_D) tV (.cV J J J J Body138 (curve_D) tV (.cV J J J J Body137 (f_add _ _) tV (.alloc (cs := (Aa (List.replicate 32 0))) J A4 J ?_)))))))))))
 intro n9 hn9 hf9
 refine .sA J J J J zE Sz124 zF Z0 sP zU ?_
 refine .na (.seq (.draw [(1, 0), (1, 2), (1, 4), (3, 1), (3, 3), (3, 5), (3, 6), (3, 7), (2, 8), (2, 9), (2, 10), (2, 11), (4, 12), (4, 13), (4, 14), (4, 15)] Ap zK (.lA J J J Y127.h J Sz127 Z4 (Point.length zP) ?_)))
 refine .lA J J J Y127.h J Sz127 Z2 (Point.length zP) ?_
 refine .lA J J J Y127.h J Sz127 Z4 (Point.length zP) ?_
 refine .cV J J J J Body144 (curve_widen P) tV (.cV J J J J Body144 (curve_widen Q) tV (.cV J J J J Body144 (curve_widen P) tV (.cV J J J J Body143 (curve_Zero) tV (.cV J J J J Body144 (curve_widen (zero : Pt Fp)) tV (.alloc (cs := wide.zero.cells) J wide.zr J ?_)))))
 intro n10 hn10 hf10
 refine .alloc (cs := wide.zero.cells) J wide.zr J ?_
 intro n11 hn11 hf11
 refine .alloc (cs := wide.zero.cells) J wide.zr J ?_
 intro n12 hn12 hf12
 refine .alloc (cs := wide.zero.cells) J wide.zr J ?_
 intro n13 hn13 hf13
 refine .sA J J J J (wide.isCell (by exact Bi _)) Sz178 (wide.length (by exact Bi _)) Z3 (wide.length (by exact wide.zero_ok)) (by exact upd3) ?_
 refine .sA J J J J (wide.isCell (by exact Bi _)) Sz178 (wide.length (by exact Bi _)) Z2 (wide.length (by exact wide.zero_ok)) (by exact upd2) ?_
 refine .sA J J J J (wide.isCell (by exact Bi _)) Sz178 (wide.length (by exact Bi _)) Z1 (wide.length (by exact wide.zero_ok)) zV ?_
 refine .sA J J J J (wide.isCell (by exact Bi _)) Sz178 (wide.length (by exact Bi _)) Z0 (wide.length (by exact wide.zero_ok)) zU ?_
 refine .nsr (.lA J J J Y124.h J Sz124 Z4 zF ?_)
 refine .callL (L := [⟨n12, (wdc (Wd.of P)).cells, 178, 128⟩]) J J J J J Body145 (wide_addD n12 n11 (Wd.of P) (Wd.of Q)) (Ab rM Ak) (B6 J) (fun w h => ⟨own_blk h Z1, Ar h Z2, own_ne (b1 := ⟨n12, (wdc (Wd.of P)).cells, 178, 128⟩) (b2 := ⟨n11, (wdc (Wd.of Q)).cells, 178, 128⟩) h (Ab rM (Ab rM Ak))⟩) ?_
 rintro v36 out36 rfl
 simp only [List.cons_append, List.nil_append]
 refine .na (.seq (.sr (.a J J J (.na (.block (.loop (ι := Nat × Wd Fp) (fun p => ⟨[(4, ptr n4 0), (6, ptr n6 0), (8, ptr n8 0), (9, ptr n9 0), (10, ptr n10 0), (11, ptr n11 0), (12, ptr n12 0), (13, ptr n13 0), (14, i64 (255 - (p.1 : Int)))], [⟨n13, (wdc p.2).cells, 178, 128⟩, ⟨n12, (wdc (Wd.add fD (Wd.of P) (Wd.of Q))).cells, 178, 128⟩, ⟨n11, (wdc (Wd.of Q)).cells, 178, 128⟩, ⟨n10, (wdc (Wd.of P)).cells, 178, 128⟩, ⟨n9, Aa (fb (fD + fD)), 124, 32⟩, ⟨n8, Point.zero.cells, 127, 64⟩, ⟨n6, Aa b, 124, (Aa b).length⟩, ⟨n4, Aa a, 124, (Aa a).length⟩]⟩) (fun p => p.1 ≤ 256 ∧ p.2.rep (cv.lin (le a / 2 ^ (256 - p.1)) (le b / 2 ^ (256 - p.1)) P Q)) (fun p => 256 - p.1) ((0, Wd.of zero)) ?_ ?_ ?_))))))
 · exact ⟨Nat.zero_le _, lin_first a b ha hb P Q⟩
 · exact Ao (wk1 rfl (wk1 rfl (wk1 rfl (wk1 rfl (wk1 rfl (wk1 rfl (wk1 rfl (wk1 rfl (wk1 rfl wk0))))))))) (Ab rM (Ab rM (Ab rM (Ab rM (Ab rM (Ab rM (Ab rM (Ab rM Ak))))))))
 rintro p ⟨hj1, hw⟩
 refine .seq (.sr (.m J J J (.geq J J J J J (.na (.condP J (fun hc1 => ?_) (fun hc1 => ?_))))))
 ·
  have hj : p.1 < 256 := by omega
  refine .skip (Cq (.join (ι := Wd Fp) (fun u => ⟨[(4, ptr n4 0), (6, ptr n6 0), (8, ptr n8 0), (9, ptr n9 0), (10, ptr n10 0), (11, ptr n11 0), (12, ptr n12 0), (13, ptr n13 0), (14, i64 (((255 - p.1 : Nat) : Int)))], [⟨n13, (wdc u).cells, 178, 128⟩, ⟨n12, (wdc (Wd.add fD (Wd.of P) (Wd.of Q))).cells, 178, 128⟩, ⟨n11, (wdc (Wd.of Q)).cells, 178, 128⟩, ⟨n10, (wdc (Wd.of P)).cells, 178, 128⟩, ⟨n9, Aa (fb (fD + fD)), 124, 32⟩, ⟨n8, Point.zero.cells, 127, 64⟩, ⟨n6, Aa b, 124, (Aa b).length⟩, ⟨n4, Aa a, 124, (Aa a).length⟩]⟩) (fun u => u.rep (cv.lin (le a / 2 ^ (256 - (p.1 + 1))) (le b / 2 ^ (256 - (p.1 + 1))) P Q)) ?_ ?_))
  ·
   refine .block (.sr (.callL (L := [⟨n13, (wdc p.2).cells, 178, 128⟩]) J J J J J Body146 (wide_double n13 p.2) (Ab rM Ak) (B6 J) (fun w h => own_blk h Z0) ?_))
   rintro v41 out41 rfl
   simp only [List.cons_append, List.nil_append]
   rw [show (255 : Int) - (p.1 : Int) = ((255 - p.1 : Nat) : Int) by omega]
   refine .na (.seq (.draw [(1, 0), (0, 1), (1, 3), (0, 4), (3, 2), (3, 5), (0, 6)] Ap zK (.lA J J J Y124.h J Sz124 (by exact mem7) (by (simp [ha]; done)) ?_)))
   refine .m J J J (.lA J J J Y124.h J Sz124 (by exact mem6) (by (simp [hb]; done)) ?_)
   refine .m J J J (.callB J J J J Body147 (scalar_bit_at a ha (255 - p.1) oM) tV (fun hs10_20 => ?_) (fun hs10_20 => ?_))
   ·
    have hs10_2 := nd_t hs10_20
    have hs10_2 := hs10_20
    refine .callB J J J J Body147 (scalar_bit_at b hb (255 - p.1) oM) tV (fun hs10_50 => ?_) (fun hs10_50 => ?_)
    ·
     have hs10_5 := nd_t hs10_50
     have hs10_5 := hs10_50
     refine .build (cs := [.bool true, .bool true]) J J J (fun w => by kernel_rfl) ?_
     refine .na (.block (.sr (.build (cs := [.bool true, .bool true]) J J J (fun w => by kernel_rfl) ?_)))
     refine .eql_rec (q := (true == true && true == true)) (r := true) J J J J pair_eg (fun w => pair_eq true true true true w) J (.a J J J (.na (.cond_t J J (.region (.lA J J J Y124.h J Sz124 Z4 zF ?_)))))
     refine .callL (L := [⟨n13, (wdc (Wd.dbl p.2)).cells, 178, 128⟩]) J J J J J Body145 (wide_addD n13 n12 (Wd.dbl p.2) (Wd.add fD (Wd.of P) (Wd.of Q))) (Ab rM Ak) (B6 J) (fun w h => ⟨own_blk h Z0, Ar h Z1, own_ne (b1 := ⟨n13, (wdc (Wd.dbl p.2)).cells, 178, 128⟩) (b2 := ⟨n12, (wdc (Wd.add fD (Wd.of P) (Wd.of Q))).cells, 178, 128⟩) h (Ab rM (Ab rM Ak))⟩) ?_
     rintro v53 out53 rfl
     simp only [List.cons_append, List.nil_append]
     refine .nil (bl_n (bl_n (Cq ?_)))
     (exact ⟨Wd.add fD (Wd.dbl p.2) (Wd.add fD (Wd.of P) (Wd.of Q)), (by rw [lin_tt hj hP hQ hs10_2 hs10_5]; exact cv.rep_add (cv.rep_dbl hw (cv.on_lin hP hQ _ _)) (cv.rep_add (cv.rep_of P) (cv.rep_of Q) hP hQ) (cv.on_add (cv.on_lin hP hQ _ _) (cv.on_lin hP hQ _ _)) (cv.on_add hP hQ)), Ao (wk1 rfl (wk1 rfl (wk1 rfl (wk1 rfl (wk1 rfl (wk1 rfl (wk1 rfl (wk1 rfl (wk1 rfl wk0))))))))) (Ab rM (Ab rM (Ab rM (Ab rM (Ab rM (Ab rM (Ab rM (Ab rM Ak))))))))⟩)
    have hs10_5 := nd_f hs10_50
    have hs10_5 := hs10_50
    refine .build (cs := [.bool true, .bool false]) J J J (fun w => by kernel_rfl) ?_
    refine .na (.block (.sr (.build (cs := [.bool true, .bool true]) J J J (fun w => by kernel_rfl) ?_)))
    refine .eql_rec (q := (true == true && false == true)) (r := false) J J J J pair_eg (fun w => pair_eq true false true true w) J (.a J J J (.na (.cond_f J J (.sr (.build (cs := [.bool true, .bool false]) J J J (fun w => by kernel_rfl) ?_)))))
    refine .eql_rec (q := (true == true && false == false)) (r := true) J J J J pair_eg (fun w => pair_eq true false true false w) J (.a J J J (.na (.cond_t J J (.region (.lA J J J Y124.h J Sz124 Z4 zF ?_)))))
    refine .callL (L := [⟨n13, (wdc (Wd.dbl p.2)).cells, 178, 128⟩]) J J J J J Body145 (wide_addD n13 n10 (Wd.dbl p.2) (Wd.of P)) (Ab rM Ak) (B6 J) (fun w h => ⟨own_blk h Z0, Ar h Z3, own_ne (b1 := ⟨n13, (wdc (Wd.dbl p.2)).cells, 178, 128⟩) (b2 := ⟨n10, (wdc (Wd.of P)).cells, 178, 128⟩) h (Ab rM (Ab rM Ak))⟩) ?_
    rintro v58 out58 rfl
    simp only [List.cons_append, List.nil_append]
    refine .nil (bl_n (bl_n (Cq ?_)))
    (exact ⟨Wd.add fD (Wd.dbl p.2) (Wd.of P), (by rw [lin_tf hj hP hQ hs10_2 hs10_5]; exact cv.rep_add (cv.rep_dbl hw (cv.on_lin hP hQ _ _)) (cv.rep_of P) (cv.on_add (cv.on_lin hP hQ _ _) (cv.on_lin hP hQ _ _)) hP), Ao (wk1 rfl (wk1 rfl (wk1 rfl (wk1 rfl (wk1 rfl (wk1 rfl (wk1 rfl (wk1 rfl (wk1 rfl wk0))))))))) (Ab rM (Ab rM (Ab rM (Ab rM (Ab rM (Ab rM (Ab rM (Ab rM Ak))))))))⟩)
   have hs10_2 := nd_f hs10_20
   have hs10_2 := hs10_20
   refine .callB J J J J Body147 (scalar_bit_at b hb (255 - p.1) oM) tV (fun hs10_50 => ?_) (fun hs10_50 => ?_)
   ·
    have hs10_5 := nd_t hs10_50
    have hs10_5 := hs10_50
    refine .build (cs := [.bool false, .bool true]) J J J (fun w => by kernel_rfl) ?_
    refine .na (.block (.sr (.build (cs := [.bool true, .bool true]) J J J (fun w => by kernel_rfl) ?_)))
    refine .eql_rec (q := (false == true && true == true)) (r := false) J J J J pair_eg (fun w => pair_eq false true true true w) J (.a J J J (.na (.cond_f J J (.sr (.build (cs := [.bool true, .bool false]) J J J (fun w => by kernel_rfl) ?_)))))
    refine .eql_rec (q := (false == true && true == false)) (r := false) J J J J pair_eg (fun w => pair_eq false true true false w) J (.a J J J (.na (.cond_f J J (.sr (.build (cs := [.bool false, .bool true]) J J J (fun w => by kernel_rfl) ?_)))))
    refine .eql_rec (q := (false == false && true == true)) (r := true) J J J J pair_eg (fun w => pair_eq false true false true w) J (.a J J J (.na (.cond_t J J (.region (.lA J J J Y124.h J Sz124 Z4 zF ?_)))))
    refine .callL (L := [⟨n13, (wdc (Wd.dbl p.2)).cells, 178, 128⟩]) J J J J J Body145 (wide_addD n13 n11 (Wd.dbl p.2) (Wd.of Q)) (Ab rM Ak) (B6 J) (fun w h => ⟨own_blk h Z0, Ar h Z2, own_ne (b1 := ⟨n13, (wdc (Wd.dbl p.2)).cells, 178, 128⟩) (b2 := ⟨n11, (wdc (Wd.of Q)).cells, 178, 128⟩) h (Ab rM (Ab rM Ak))⟩) ?_
    rintro v63 out63 rfl
    simp only [List.cons_append, List.nil_append]
    refine .nil (bl_n (bl_n (Cq ?_)))
    (exact ⟨Wd.add fD (Wd.dbl p.2) (Wd.of Q), (by rw [lin_ft hj hP hQ hs10_2 hs10_5]; exact cv.rep_add (cv.rep_dbl hw (cv.on_lin hP hQ _ _)) (cv.rep_of Q) (cv.on_add (cv.on_lin hP hQ _ _) (cv.on_lin hP hQ _ _)) hQ), Ao (wk1 rfl (wk1 rfl (wk1 rfl (wk1 rfl (wk1 rfl (wk1 rfl (wk1 rfl (wk1 rfl (wk1 rfl wk0))))))))) (Ab rM (Ab rM (Ab rM (Ab rM (Ab rM (Ab rM (Ab rM (Ab rM Ak))))))))⟩)
   have hs10_5 := nd_f hs10_50
   have hs10_5 := hs10_50
   refine .build (cs := [.bool false, .bool false]) J J J (fun w => by kernel_rfl) ?_
   refine .na (.block (.sr (.build (cs := [.bool true, .bool true]) J J J (fun w => by kernel_rfl) ?_)))
   refine .eql_rec (q := (false == true && false == true)) (r := false) J J J J pair_eg (fun w => pair_eq false false true true w) J (.a J J J (.na (.cond_f J J (.sr (.build (cs := [.bool true, .bool false]) J J J (fun w => by kernel_rfl) ?_)))))
   refine .eql_rec (q := (false == true && false == false)) (r := false) J J J J pair_eg (fun w => pair_eq false false true false w) J (.a J J J (.na (.cond_f J J (.sr (.build (cs := [.bool false, .bool true]) J J J (fun w => by kernel_rfl) ?_)))))
   refine .eql_rec (q := (false == false && false == true)) (r := false) J J J J pair_eg (fun w => pair_eq false false false true w) J (.a J J J (.na (.cond_f J J (.skip (bl_n (bl_n (Cq ?_)))))))
   (exact ⟨Wd.dbl p.2, (by rw [lin_ff hj hP hQ hs10_2 hs10_5]; exact (cv.rep_dbl hw (cv.on_lin hP hQ _ _))), Ao (wk1 rfl (wk1 rfl (wk1 rfl (wk1 rfl (wk1 rfl (wk1 rfl (wk1 rfl (wk1 rfl (wk1 rfl wk0))))))))) (Ab rM (Ab rM (Ab rM (Ab rM (Ab rM (Ab rM (Ab rM (Ab rM Ak))))))))⟩)
  intro u hj
  have hu := hj
  refine .region (.m J J J (.sub_i64 J J J J oM (.a J J J (.na ?_))))
  exact ⟨(p.1 + 1, u), ⟨by simp only []; omega, hu⟩, by simp only []; omega, Ao (wk1 rfl (wk1 rfl (wk1 rfl (wk1 rfl (wk1 rfl (wk1 rfl (wk1 rfl (wk1 rfl (wk1 (congrArg (fun z => some (i64 z)) (show ((255 - p.1 : Nat) : Int) - 1 = 255 - ((p.1 + 1 : Nat) : Int) by omega)) wk0))))))))) (Ab rM (Ab rM (Ab rM (Ab rM (Ab rM (Ab rM (Ab rM (Ab rM Ak))))))))⟩
 have hje : p.1 = 256 := by omega
 have hfin : p.2.rep (cv.lin (le a) (le b) P Q) := by rw [hje, lin_last] at hw; exact hw
 refine .exit (at_x (at_x (bl_h (Cq (.sr (.cV J J J J Body148 (wide_pointR n13 p.2 _ hfin) (fun w h => Ar h Z0) ?_))))))
 refine .sA J J J J (Point.isCell zP) Sz127 (Point.length zP) (by exact mem5) (Point.length zZ) (by exact upd5) ?_
 refine .na ?_
 -- ret
 refine .ret (en_r ?_)
 refine ⟨_, [], An J J Y127.h J Sz127 (by exact mem5) (by exact Point.length zP), sP, sP, ?_, rfl⟩
 rfl
theorem ptc_y (P : Pt Fp) : (ptc P).fY = fb P.y := rfl
theorem le_zero32 : le (List.replicate 32 0) = 0 := by kernel_rfl
theorem curve_Neg (P : Pt Fp) (hP : cv.on P) : Meets Tryz.prog 89 [agg (ptc P).cells] [] (fun _ => True) (fun v out => v = agg (ptc (neg P)).cells ∧ out = []) := by
 intro W hW
 refine Ac Tryz.func89 J 13 Tryz.ntmps89 J (.sr (.boxA J J ?_))
 intro n1 hn1 hf1
 refine .alloc (cs := Point.zero.cells) J Point.zr J ?_
 intro n2 hn2 hf2
 refine .na (.seq (.sr (.lA J J J Y127.h J Sz127 Z1 (Point.length zP) ?_)))
 refine .cV J J J J Body142 (curve_Check_on P hP) tV (.nei J J J J (show (!decide _) = false from congrArg not (decide_eq_true (rfl))) (.na (.cond_f J (rfl) (.skip (Cq (.seq (.draw [(0, 0), (1, 1), (0, 3), (1, 4), (3, 2), (0, 5), (4, 6)] Ap zK (.fld J J J Y127.h J Sz124 dE _ J (.lN (Aa _) J J J Y124.h J Sz124 Z1 (Point.row_fX zP) (Point.rl_fX zP) ?_)))))))))
 refine .fld J J J Y127.h J Sz124 dE _ J (.lN (Aa _) J J J Y124.h J Sz124 Z1 (Point.row_fY zP) (Point.rl_fY zP) ?_)
 refine .cV J J J J Body141 (f_neg _) tV (.build (cs := (ptc (neg P)).cells) J J J (fun w => by kernel_rfl) ?_)
 refine .sA J J J J (Point.isCell zP) Sz127 (Point.length zP) Z0 (Point.length zZ) zU ?_
 refine .na ?_
 -- ret
 refine .ret (en_r ?_)
 refine ⟨_, [], An J J Y127.h J Sz127 Z0 (by exact Point.length zP), sP, sP, ?_, rfl⟩
 rfl

def rdV (b : List UInt8) : Value := match rdP b with
  | some P => .tuple #[agg (ptc P).cells, i64 0]
  | none => .tuple #[agg Point.zero.cells, i64 4]
theorem rdV_none {b : List UInt8} (h : rdP b = none) : rdV b = .tuple #[agg Point.zero.cells, i64 4] := by rw [rdV, h]
theorem rdV_some {b : List UInt8} {P : Pt Fp} (h : rdP b = some P) : rdV b = .tuple #[agg (ptc P).cells, i64 0] := by rw [rdV, h]
theorem rd_n1 {b : List UInt8} (h : ¬ fb (fe (le (lowB b))) = lowB b) : rdP b = none := by rw [rdP, if_neg h]
theorem rd_n2 {b : List UInt8} {r : Fp × Bool} (hx : xOf (fe (le (lowB b))) = r) (h : r.2 = false) : rdP b = none := by
  rw [rdP]
  split
  · rw [hx, if_neg (by rw [h]; simp)]
  · rfl
theorem rd_n3 {b : List UInt8} {r : Fp × Bool} (hx : xOf (fe (le (lowB b))) = r) (h1 : topB b = true) (h : fb r.1 = List.replicate 32 0) : rdP b = none := by
  have h2 : r.1 = 0 := fb_inj.1 (h.trans fb_zero.symm)
  rw [rdP]
  split
  · rw [hx, if_neg (fun e => e.2 ⟨h1, h2⟩)]
  · rfl
theorem rd_s1 {b : List UInt8} {r : Fp × Bool} (hc : fb (fe (le (lowB b))) = lowB b) (hx : xOf (fe (le (lowB b))) = r) (h2 : r.2 = true) (h1 : topB b = true) (h : ¬ fb r.1 = List.replicate 32 0) : rdP b = some ⟨-r.1, fe (le (lowB b))⟩ := by
  rw [rdP, if_pos hc, hx, if_pos ⟨h2, fun e => h (by rw [e.2, fb_zero])⟩, if_pos h1]
theorem rd_s2 {b : List UInt8} {r : Fp × Bool} (hc : fb (fe (le (lowB b))) = lowB b) (hx : xOf (fe (le (lowB b))) = r) (h2 : r.2 = true) (h1 : topB b = false) : rdP b = some ⟨r.1, fe (le (lowB b))⟩ := by
  rw [rdP, if_pos hc, hx, if_pos ⟨h2, fun e => by rw [h1] at e; cases e.1⟩, if_neg (by rw [h1]; decide)]
theorem topB_t {b : List UInt8} (h : ¬ ((b.getD 31 0 &&& 128).toNat : Int) = 0) : topB b = true := by rw [topB, decide_eq_false h]; rfl
theorem topB_f {b : List UInt8} (h : ((b.getD 31 0 &&& 128).toNat : Int) = 0) : topB b = false := by rw [topB, decide_eq_true h]; rfl

theorem curve_Read (b : List UInt8) (hb : b.length = 32) : Meets Tryz.prog 85 [agg (Aa b)] [] (fun _ => True) (fun v out => v = rdV b ∧ out = []) := by
 intro W hW
 have hll := lowB_length hb
 obtain ⟨Y, hY⟩ : ∃ Y, fe (le (lowB b)) = Y := ⟨_, rfl⟩
 have hcan := field_Canon (lowB b) hll
 have hmul := field_Mul (lowB b) (lowB b) hll hll
 have hinv := f_inv (fD * (Y * Y) + 1)
 have hxo : xOf Y = fRoot ((Y * Y - 1) * finv (fD * (Y * Y) + 1)) := rfl
 revert hinv hxo
 generalize finv (fD * (Y * Y) + 1) = iz
 intro hinv hxo
 have hroot := field_Root (fb ((Y * Y - 1) * iz)) ((Y * Y - 1) * iz) (Am _) (fe_fb _)
 revert hroot hxo
 generalize fRoot ((Y * Y - 1) * iz) = xr
 intro hxo hroot
 rw [← hY] at hxo
 rw [hY] at hcan hmul
 refine Ac Tryz.func85 J 60 Tryz.ntmps85 J (.sr (.boxA J J ?_))
 intro n1 hn1 hf1
 refine .alloc (cs := Point.zero.cells) J Point.zr J ?_
 intro n2 hn2 hf2
 refine .a J J J (.nsr (.i1 J J J J Y22.h Sz5 31 J dE (.load1 J J J Y5.h J Z1 zG ?_)))
 refine .and_u8 J J J (show Ag _ _ = some (u8 128) from rfl) (two (fun r hr k => Tr.nei J J J J hr k) (fun hs1_30 => ?_) (fun hs1_30 => ?_))
 ·
  have hs1_3 := nd_t hs1_30
  refine .a J J J (.nsr (.lA J J J Y22.h J Sz22 Z1 (by (simp [hb]; done)) ?_))
  refine .alloc (cs := (Aa (List.replicate 32 0))) J A4 J ?_
  intro n5 hn5 hf5
  refine .sA J J J J zE Sz124 (by (simp [hb]; done)) Z0 sP zU ?_
  refine .nsr (.i1 J J J J Y124.h Sz5 31 J dE (.load1 J J J Y5.h J Z0 zG ?_))
  refine .and_u8 J J J (show Ag _ _ = some (u8 127) from rfl) (.i1 J J J J Y124.h Sz5 31 J dE (.s1 J J J J J Sz5 Z0 (by (simp [hb]; done)) (by exact Be _ _ _) zU ?_))
  refine .na (.seq (.sr (.lA J J J Y124.h J Sz124 Z0 (by (simp [hb]; done)) ?_)))
  refine .cV J J J J Body133 (hcan) tV (.not J J J (.na (.cond J (fun hc0 => ?_) (fun hc0 => ?_))))
  ·
   have hcn : ¬ fb Y = lowB b := of_decide_eq_false (by simpa using hc0)
   refine .sr (.build (cs := Point.zero.cells) J J J (fun w => by kernel_rfl) ?_)
   refine .sA J J J J (Point.isCell zZ) Sz127 (Point.length zZ) Z1 (Point.length zZ) zV ?_
   refine .a J J J (.na ?_)
   -- ret
   refine .ret (at_r (en_r ?_))
   refine ⟨_, [], Bj J J J Y127.h J Sz127 Z1 (by exact Point.length zZ), sP, sP, ?_, rfl⟩
   exact (rdV_none (rd_n1 (by rw [hY]; exact hcn))).symm
  have hcy : fb Y = lowB b := of_decide_eq_true (by simpa using hc0)
  refine .skip (Cq (.sr (.lA J J J Y124.h J Sz124 Z0 (by (simp [hb]; done)) ?_)))
  refine .lA J J J Y124.h J Sz124 Z0 (by (simp [hb]; done)) ?_
  refine .cV J J J J B8 (hmul) tV (.alloc (cs := (Aa (List.replicate 32 0))) J A4 J ?_)
  intro n6 hn6 hf6
  refine .sA J J J J zE Sz124 zF Z0 sP zU ?_
  refine .na (.seq (.draw [(1, 0), (3, 1), (3, 2), (2, 3), (4, 4)] Ap zK (.lA J J J Y124.h J Sz124 Z0 zF ?_)))
  refine .cV J J J J Body136 (f_one) tV (.cV J J J J Body135 (f_sub _ _) tV (.alloc (cs := (Aa (List.replicate 32 0))) J A4 J ?_))
  intro n7 hn7 hf7
  refine .sA J J J J zE Sz124 zF Z0 sP zU ?_
  refine .na (.seq (.draw [(1, 1), (3, 0), (3, 2), (3, 3), (3, 4), (2, 5), (4, 6)] Ap zK (.lA J J J Y124.h J Sz124 Z1 zF ?_)))
  refine .cV J J J J Body138 (curve_D) tV (.cV J J J J B8 (f_mul _ _) tV (.cV J J J J Body136 (f_one) tV (.cV J J J J Body137 (f_add _ _) tV (.alloc (cs := (Aa (List.replicate 32 0))) J A4 J ?_))))
  intro n8 hn8 hf8
  refine .sA J J J J zE Sz124 zF Z0 sP zU ?_
  refine .na (.seq (.draw [(1, 0), (1, 1), (3, 2), (3, 3), (3, 4), (0, 5), (0, 6), (0, 7), (2, 8), (4, 9), (0, 10)] Ap zK (.lA J J J Y124.h J Sz124 Z1 zF ?_)))
  refine .lA J J J Y124.h J Sz124 Z0 zF ?_
  refine .cV J J J J Body140 (hinv) tV (.cV J J J J B8 (f_mul _ _) tV (.cV J J J J Body139 (hroot) tV (.m J J J (.eX J J J J (.extractB J J J J (fun hs9_70 => ?_) (fun hs9_70 => ?_))))))
  ·
   have hs9_7 := hs9_70
   refine .alloc (cs := (Aa (List.replicate 32 0))) J A4 J ?_
   intro n9 hn9 hf9
   refine .sA J J J J zE Sz124 zF Z0 sP zU ?_
   refine .a J J J (.na (.seq (.sr (.m J J J (.not J J J (.m J J J (.m J J J (.m J J J (.lA J J J Y124.h J Sz124 Z0 zF ?_)))))))))
   refine .build (cs := Aa (List.replicate 32 0)) J J J (fun w => by kernel_rfl) ?_
   refine two (fun r hr k => Tr.eql_bytes J J J J Tryz.eqGuardType124 Y124.h Y5.h Sz5 zF sP hr k) (fun hs10_70 => ?_) (fun hs10_70 => ?_)
   ·
    have hs10_7 := of_decide_eq_true hs10_70
    refine .pick J J J J J J (.pick J J J J J J (.na (.cond_t J J (.sr (.build (cs := Point.zero.cells) J J J (fun w => by kernel_rfl) ?_)))))
    refine .sA J J J J (Point.isCell zZ) Sz127 (Point.length zZ) (by exact mem5) (Point.length zZ) (by exact upd5) ?_
    refine .a J J J (.na ?_)
    -- ret
    refine .ret (at_r (en_r ?_))
    refine ⟨_, [], Bj J J J Y127.h J Sz127 (by exact mem5) (by exact Point.length zZ), sP, sP, ?_, rfl⟩
    exact (rdV_none (rd_n3 hxo (topB_t hs1_3) hs10_7)).symm
   have hs10_7 := of_decide_eq_false hs10_70
   refine .pick J J J J J J (.pick J J J J J J (.na (.cond_f J J (.skip (Cq (.seq (.sr (.m J J J (.na (.cond_t J J (.region (.lA J J J Y124.h J Sz124 Z0 zF ?_))))))))))))
   refine .cV J J J J Body141 (f_neg _) tV (.sA J J J J zE Sz124 zF Z0 zF zU ?_)
   refine .nsr ?_
   rw [show b.set 31 (b.getD 31 0 &&& 127) = fb Y from hcy.symm]
   refine .lA J J J Y124.h J Sz124 Z0 zF ?_
   refine .lA J J J Y124.h J Sz124 Z4 zF ?_
   refine .build (cs := (⟨fb (-xr.1), fb Y⟩ : Point).cells) J J J (fun w => by kernel_rfl) ?_
   refine .sA J J J J (Point.isCell (by exact ⟨fb32 _, fb32 _⟩)) Sz127 (Point.length (by exact ⟨fb32 _, fb32 _⟩)) (by exact mem5) (Point.length zZ) (by exact upd5) ?_
   refine .a J J J (.na ?_)
   -- ret
   refine .ret (en_r ?_)
   refine ⟨_, [], Bj J J J Y127.h J Sz127 (by exact mem5) (by exact Point.length (by exact ⟨fb32 _, fb32 _⟩)), sP, sP, ?_, rfl⟩
   (rw [rdV_some (rd_s1 (by rw [hY]; exact hcy) hxo hs9_7 (topB_t hs1_3) hs10_7), hY]; rfl)
  have hs9_7 := hs9_70
  refine .alloc (cs := (Aa (List.replicate 32 0))) J A4 J ?_
  intro n9 hn9 hf9
  refine .sA J J J J zE Sz124 zF Z0 sP zU ?_
  refine .a J J J (.na (.seq (.sr (.m J J J (.not J J J (.m J J J (.skp J J (.skp J J (.skp J J (.skp J J (.skp J J (.skp J J (.pick J J J J J J (.na (.cond_t J J (.sr (.build (cs := Point.zero.cells) J J J (fun w => by kernel_rfl) ?_)))))))))))))))))
  refine .sA J J J J (Point.isCell zZ) Sz127 (Point.length zZ) (by exact mem5) (Point.length zZ) (by exact upd5) ?_
  refine .a J J J (.na ?_)
  -- ret
  refine .ret (at_r (en_r ?_))
  refine ⟨_, [], Bj J J J Y127.h J Sz127 (by exact mem5) (by exact Point.length zZ), sP, sP, ?_, rfl⟩
  exact (rdV_none (rd_n2 hxo hs9_7)).symm
 have hs1_3 := nd_f hs1_30
 refine .a J J J (.nsr (.lA J J J Y22.h J Sz22 Z1 (by (simp [hb]; done)) ?_))
 refine .alloc (cs := (Aa (List.replicate 32 0))) J A4 J ?_
 intro n5 hn5 hf5
 refine .sA J J J J zE Sz124 (by (simp [hb]; done)) Z0 sP zU ?_
 refine .nsr (.i1 J J J J Y124.h Sz5 31 J dE (.load1 J J J Y5.h J Z0 zG ?_))
 refine .and_u8 J J J (show Ag _ _ = some (u8 127) from rfl) (.i1 J J J J Y124.h Sz5 31 J dE (.s1 J J J J J Sz5 Z0 (by (simp [hb]; done)) (by exact Be _ _ _) zU ?_))
 refine .na (.seq (.sr (.lA J J J Y124.h J Sz124 Z0 (by (simp [hb]; done)) ?_)))
 refine .cV J J J J Body133 (hcan) tV (.not J J J (.na (.cond J (fun hc0 => ?_) (fun hc0 => ?_))))
 ·
  have hcn : ¬ fb Y = lowB b := of_decide_eq_false (by simpa using hc0)
  refine .sr (.build (cs := Point.zero.cells) J J J (fun w => by kernel_rfl) ?_)
  refine .sA J J J J (Point.isCell zZ) Sz127 (Point.length zZ) Z1 (Point.length zZ) zV ?_
  refine .a J J J (.na ?_)
  -- ret
  refine .ret (at_r (en_r ?_))
  refine ⟨_, [], Bj J J J Y127.h J Sz127 Z1 (by exact Point.length zZ), sP, sP, ?_, rfl⟩
  exact (rdV_none (rd_n1 (by rw [hY]; exact hcn))).symm
 have hcy : fb Y = lowB b := of_decide_eq_true (by simpa using hc0)
 refine .skip (Cq (.sr (.lA J J J Y124.h J Sz124 Z0 (by (simp [hb]; done)) ?_)))
 refine .lA J J J Y124.h J Sz124 Z0 (by (simp [hb]; done)) ?_
 refine .cV J J J J B8 (hmul) tV (.alloc (cs := (Aa (List.replicate 32 0))) J A4 J ?_)
 intro n6 hn6 hf6
 refine .sA J J J J zE Sz124 zF Z0 sP zU ?_
 refine .na (.seq (.draw [(1, 0), (3, 1), (3, 2), (2, 3), (4, 4)] Ap zK (.lA J J J Y124.h J Sz124 Z0 zF ?_)))
 refine .cV J J J J Body136 (f_one) tV (.cV J J J J Body135 (f_sub _ _) tV (.alloc (cs := (Aa (List.replicate 32 0))) J A4 J ?_))
 intro n7 hn7 hf7
 refine .sA J J J J zE Sz124 zF Z0 sP zU ?_
 refine .na (.seq (.draw [(1, 1), (3, 0), (3, 2), (3, 3), (3, 4), (2, 5), (4, 6)] Ap zK (.lA J J J Y124.h J Sz124 Z1 zF ?_)))
 refine .cV J J J J Body138 (curve_D) tV (.cV J J J J B8 (f_mul _ _) tV (.cV J J J J Body136 (f_one) tV (.cV J J J J Body137 (f_add _ _) tV (.alloc (cs := (Aa (List.replicate 32 0))) J A4 J ?_))))
 intro n8 hn8 hf8
 refine .sA J J J J zE Sz124 zF Z0 sP zU ?_
 refine .na (.seq (.draw [(1, 0), (1, 1), (3, 2), (3, 3), (3, 4), (0, 5), (0, 6), (0, 7), (2, 8), (4, 9), (0, 10)] Ap zK (.lA J J J Y124.h J Sz124 Z1 zF ?_)))
 refine .lA J J J Y124.h J Sz124 Z0 zF ?_
 refine .cV J J J J Body140 (hinv) tV (.cV J J J J B8 (f_mul _ _) tV (.cV J J J J Body139 (hroot) tV (.m J J J (.eX J J J J (.extractB J J J J (fun hs9_70 => ?_) (fun hs9_70 => ?_))))))
 ·
  have hs9_7 := hs9_70
  refine .alloc (cs := (Aa (List.replicate 32 0))) J A4 J ?_
  intro n9 hn9 hf9
  refine .sA J J J J zE Sz124 zF Z0 sP zU ?_
  refine .a J J J (.na (.seq (.sr (.m J J J (.not J J J (.m J J J (.m J J J (.m J J J (.skp J J (.skp J J (.skp J J (.pick J J J J J J (.pick J J J J J J (.na (.cond_f J J (.skip (Cq (.seq (.sr (.m J J J (.na (.cond_f J J (.skip (Cq (.sr ?_)))))))))))))))))))))))))
  rw [show b.set 31 (b.getD 31 0 &&& 127) = fb Y from hcy.symm]
  refine .lA J J J Y124.h J Sz124 Z0 zF ?_
  refine .lA J J J Y124.h J Sz124 Z4 zF ?_
  refine .build (cs := (⟨fb xr.1, fb Y⟩ : Point).cells) J J J (fun w => by kernel_rfl) ?_
  refine .sA J J J J (Point.isCell (by exact ⟨fb32 _, fb32 _⟩)) Sz127 (Point.length (by exact ⟨fb32 _, fb32 _⟩)) (by exact mem5) (Point.length zZ) (by exact upd5) ?_
  refine .a J J J (.na ?_)
  -- ret
  refine .ret (en_r ?_)
  refine ⟨_, [], Bj J J J Y127.h J Sz127 (by exact mem5) (by exact Point.length (by exact ⟨fb32 _, fb32 _⟩)), sP, sP, ?_, rfl⟩
  (rw [rdV_some (rd_s2 (by rw [hY]; exact hcy) hxo hs9_7 (topB_f hs1_3)), hY]; rfl)
 have hs9_7 := hs9_70
 refine .alloc (cs := (Aa (List.replicate 32 0))) J A4 J ?_
 intro n9 hn9 hf9
 refine .sA J J J J zE Sz124 zF Z0 sP zU ?_
 refine .a J J J (.na (.seq (.sr (.m J J J (.not J J J (.m J J J (.skp J J (.skp J J (.skp J J (.skp J J (.skp J J (.skp J J (.pick J J J J J J (.na (.cond_t J J (.sr (.build (cs := Point.zero.cells) J J J (fun w => by kernel_rfl) ?_)))))))))))))))))
 refine .sA J J J J (Point.isCell zZ) Sz127 (Point.length zZ) (by exact mem5) (Point.length zZ) (by exact upd5) ?_
 refine .a J J J (.na ?_)
 -- ret
 refine .ret (at_r (en_r ?_))
 refine ⟨_, [], Bj J J J Y127.h J Sz127 (by exact mem5) (by exact Point.length zZ), sP, sP, ?_, rfl⟩
 exact (rdV_none (rd_n2 hxo hs9_7)).symm
end Go.Proofs.YtfcbgdkpagcbbaaGreat
end

section
namespace Go.Proofs.YtfcbgdkpagcbbaaGreat
open Go Hw

open Ed

def Bz (l : List UInt8) : List UInt8 := sumUp (allW kW startW l) 64
theorem sha512_length (l : List UInt8) : (Bz l).length = 64 := Cf _ _
theorem sha_StartS (s : List UInt64) (h : Hid (startW = s)) : Meets Tryz.prog 156 [] [] (fun _ => True) (fun v out => v = agg (Ae s) ∧ out = []) := by
  rw [← h.out]; exact sha_Start

theorem sha_Sum512 (p : Option Addr) (n c : Nat) (ss : List Sl) (ls : List (List UInt8)) (hss : ss.length = n) (hls : ls.length = n) (hsl : ∀ j, j < n → (ss.getD j Sl.nil).n = (ls.getD j []).length ∧ ((ss.getD j Sl.nil).p = none → (ss.getD j Sl.nil).n = 0)) (F : List UInt8) (hF : ls.flatten = F) (htot : F.length ≤ 90000) (hn : n ≤ 1000000) (s : List UInt8) (hs : Hid (Bz F = s))  : Meets Tryz.prog 149 [.slice p n c] [] (fun W => SeesP W p (ss.map Sl.v) ∧ ∀ j, j < n → SeesP W (ss.getD j Sl.nil).p (Aa (ls.getD j []))) (fun v out => v = agg (Aa s) ∧ out = []) := by
 intro W hW
 have hs64 : s.length = 64 := by rw [← hs.out]; exact sha512_length F
 obtain ⟨k, hk⟩ : ∃ k, Hid (kW = k) := ⟨_, ⟨rfl⟩⟩
 obtain ⟨st, hst⟩ : ∃ k, Hid (startW = k) := ⟨_, ⟨rfl⟩⟩
 obtain ⟨r, hr⟩ : ∃ r, Hid (allW k st F = r) := ⟨_, ⟨rfl⟩⟩
 have hk80 : k.length = 80 := by rw [← hk.out]; rfl
 have hst8 : st.length = 8 := by rw [← hst.out]; rfl
 have hr8 : r.length = 8 := by rw [← hr.out, allW_length]; exact hst8
 have hs2 : Hid (sumUp r 64 = s) := ⟨by rw [← hs.out, Bz, hk.out, hst.out, hr.out]⟩
 refine Ac Tryz.func149 J 7 Tryz.ntmps149 J (G2 ?_)
 refine .alloc (cs := (Aa (List.replicate 64 0))) J Zr28 J ?_
 intro n2 hn2 hf2
 refine G4 ?_
 refine .cV J J J J Body156 (sha_StartS st hst) tV (G1 ?_)
 refine .cV J J J J Body92 (sha_whole st hst8 k hk hk80 p n c ss ls hss hls hsl F hF htot hn) (fun w h => ⟨A6 h J hW.1, fun j hj => A6 h J (hW.2 j hj)⟩) ?_
 rw [hr.out]
 refine .cV J J J J Body91 (sha_sum r hr8 s hs2) tV (.sA J J J J zE Sz28 (by (simp [hs64]; done)) Z0 sP zU ?_)
 refine G2 ?_
 -- ret
 refine G2 ?_
 refine ⟨_, [], An J J Y28.h J Sz28 Z0 (by simp [hs64]), sP, sP, ?_, rfl⟩
 rfl

theorem sign_residue (p : Option Addr) (n c : Nat) (ss : List Sl) (ls : List (List UInt8)) (hss : ss.length = n) (hls : ls.length = n) (hsl : ∀ j, j < n → (ss.getD j Sl.nil).n = (ls.getD j []).length ∧ ((ss.getD j Sl.nil).p = none → (ss.getD j Sl.nil).n = 0)) (F : List UInt8) (hF : ls.flatten = F) (htot : F.length ≤ 90000) (hn : n ≤ 1000000) (s : List UInt8) (hs : Hid (Bz F = s))  : Meets Tryz.prog 88 [.slice p n c] [] (fun W => SeesP W p (ss.map Sl.v) ∧ ∀ j, j < n → SeesP W (ss.getD j Sl.nil).p (Aa (ls.getD j []))) (fun v out => v = agg (Aa (leb 32 (le s % L))) ∧ out = []) := by
 intro W hW
 have hs64 : s.length = 64 := by rw [← hs.out]; exact sha512_length F
 refine Ac Tryz.func88 J 14 Tryz.ntmps88 J (G2 ?_)
 refine .alloc (cs := (Aa (List.replicate 32 0))) J A4 J ?_
 intro n2 hn2 hf2
 refine G5 ?_
 refine .cV J J J J Body149 (sha_Sum512 p n c ss ls hss hls hsl F hF htot hn s hs) (fun w h => ⟨A6 h J hW.1, fun j hj => A6 h J (hW.2 j hj)⟩) (.alloc (cs := (Aa (List.replicate 64 0))) J Zr28 J ?_)
 intro n3 hn3 hf3
 refine .sA J J J J zE Sz28 (by (simp [hs64]; done)) Z0 sP zU ?_
 refine G5 ?_
 refine .cV J J J J Body150 (scalar_rest n3 0 64 64 s hs64 dE) (fun w h => Ar h Z0) ?_
 refine G3 ?_
 refine .alloc (cs := (Aa (List.replicate 32 0))) J A4 J ?_
 intro n4 hn4 hf4
 refine .sA J J J J zE Sz124 (by (simp [Ah]; done)) Z0 sP zU ?_
 refine G5 ?_
 refine .lA J J J Y124.h J Sz124 Z0 (by (simp [Ah]; done)) ?_
 refine .sA J J J J zE Sz124 (by (simp [Ah]; done)) Z2 sP (by exact upd2) ?_
 refine G2 ?_
 -- ret
 refine G2 ?_
 refine ⟨_, [], An J J Y124.h J Sz124 Z2 (by simp [Ah]), sP, sP, ?_, rfl⟩
 rfl

def clampB (l : List UInt8) : List UInt8 := (l.set 0 (l.getD 0 0 &&& 248)).set 31 (((l.getD 31 0) &&& 127) ||| 64)
theorem clampB_length {l : List UInt8} (h : l.length = 32) : (clampB l).length = 32 := by simp [clampB, h]
theorem d64 {s : List UInt8} (h : s.length = 64) : (s.drop 32).take 32 = s.drop 32 := List.take_of_length_le (by rw [List.length_drop, h]; decide)

end Go.Proofs.YtfcbgdkpagcbbaaGreat
end

section
namespace Go.Proofs.YtfcbgdkpagcbbaaGreat
open Go Hw

open Ed

def sgR (s : List UInt8) : List UInt8 := leb 32 (le s % L)
theorem sgR_length (s : List UInt8) : (sgR s).length = 32 := Ah _ _
def sgF (s1 : List UInt8) : List UInt8 := pb (cv.mul (le (sgR s1)) bP)
def sgK (s : List UInt8) : List UInt8 := pb (cv.mul (le (clampB (s.take 32))) bP)
theorem sgF_length (s : List UInt8) : (sgF s).length = 32 := Cd _
theorem sgK_length (s : List UInt8) : (sgK s).length = 32 := Cd _
def sgS (s s1 s2 : List UInt8) : List UInt8 := leb 32 ((le (sgR s2) * le (clampB (s.take 32)) + le (sgR s1)) % L)
theorem sgS_length (s s1 s2 : List UInt8) : (sgS s s1 s2).length = 32 := Ah _ _
theorem upd_first {f : List UInt8} (h : f.length = 32) : upd (Aa (List.replicate 64 0)) 0 (Aa f) = Aa (f ++ List.replicate 32 0) := by
  simp [upd, Aa, h]
theorem upd_last {f g : List UInt8} (h : f.length = 32) (hg : g.length = 32) : upd (Aa (f ++ List.replicate 32 0)) 32 (Aa g) = Aa (f ++ g) := by
  simp [upd, Aa, h, hg]

theorem sign_residueR (p : Option Addr) (n c : Nat) (ss : List Sl) (ls : List (List UInt8)) (hss : ss.length = n) (hls : ls.length = n) (hsl : ∀ j, j < n → (ss.getD j Sl.nil).n = (ls.getD j []).length ∧ ((ss.getD j Sl.nil).p = none → (ss.getD j Sl.nil).n = 0)) (F : List UInt8) (hF : ls.flatten = F) (htot : F.length ≤ 90000) (hn : n ≤ 1000000) (s : List UInt8) (hs : Hid (Bz F = s)) (r : List UInt8) (hr : Hid (sgR s = r))  : Meets Tryz.prog 88 [.slice p n c] [] (fun W => SeesP W p (ss.map Sl.v) ∧ ∀ j, j < n → SeesP W (ss.getD j Sl.nil).p (Aa (ls.getD j []))) (fun v out => v = agg (Aa r) ∧ out = []) := by
  have h := sign_residue p n c ss ls hss hls hsl F hF htot hn s hs
  rwa [show leb 32 (le s % L) = r from hr.out] at h

theorem take_sees {l : List UInt8} {n i : Nat} {v : Value} (h : (Aa (l.take n))[i]? = some v) : (Aa l)[i]? = some v := by
  rw [Aa, List.map_take, List.getElem?_take] at h
  split at h
  · exact h
  · cases h

theorem curve_Read_none (b : List UInt8) (hb : b.length = 32) (h : rdP b = none) : Meets Tryz.prog 85 [agg (Aa b)] [] (fun _ => True) (fun v out => v = .tuple #[agg Point.zero.cells, i64 4] ∧ out = []) := by
  have := curve_Read b hb
  rwa [rdV_none h] at this
theorem curve_Read_some (b : List UInt8) (P : Pt Fp) (hb : b.length = 32) (h : rdP b = some P) : Meets Tryz.prog 85 [agg (Aa b)] [] (fun _ => True) (fun v out => v = .tuple #[agg (ptc P).cells, i64 0] ∧ out = []) := by
  have := curve_Read b hb
  rwa [rdV_some h] at this
open Classical in
noncomputable def goodB (k bb sg : List UInt8) : Bool := decide (le (sg.drop 32) < L ∧ ∃ A R, rdP k = some A ∧ rdP (sg.take 32) = some R ∧ cv.lin (le (sg.drop 32)) (le (sgR (Bz (sg.take 32 ++ (k ++ bb))))) bP (neg A) = R)
theorem good_dec {k bb sg : List UInt8} {A R Q : Pt Fp} (h1 : le (sg.drop 32) < L) (h2 : rdP k = some A) (h3 : rdP (sg.take 32) = some R) (h4 : cv.lin (le (sg.drop 32)) (le (sgR (Bz (sg.take 32 ++ (k ++ bb))))) bP (neg A) = Q) : @decide (ptc Q = ptc R) (Classical.propDecidable _) = goodB k bb sg := by
  rw [goodB, Bool.eq_iff_iff]
  simp only [decide_eq_true_eq, ptc_inj]
  constructor
  · intro h
    exact ⟨h1, A, R, h2, h3, h4.trans h⟩
  · rintro ⟨_, A', R', e1, e2, e3⟩
    rw [h2] at e1; rw [h3] at e2
    cases e1; cases e2
    exact h4.symm.trans e3
theorem good_no {k bb sg : List UInt8} (h : ¬ (le (sg.drop 32) < L ∧ (∃ A, rdP k = some A) ∧ ∃ R, rdP (sg.take 32) = some R)) : goodB k bb sg = false := by
  rw [goodB, decide_eq_false_iff_not]
  intro e
  refine h ?_
  obtain ⟨h1, A, R, h2, h3, _⟩ := e
  exact ⟨h1, ⟨A, h2⟩, ⟨R, h3⟩⟩

theorem sign_Good_c (k : List UInt8) (hk : k.length = 32) (sb : Sl) (bb : List UInt8) (hbn : bb.length ≤ 80000) (sg : List UInt8) (hsg : sg.length = 64) (hc : ¬ le (sg.drop 32) < L) : Meets Tryz.prog 61 [agg (Aa k), sb.v, agg (Aa sg)] [] (fun W => BytesAt W sb bb) (fun v out => v = .bool false ∧ out = []) := by
 intro W hW
 have hd32 : (sg.drop 32).length = 32 := by rw [List.length_drop, hsg]
 have ht32 : (sg.take 32).length = 32 := by rw [List.length_take, hsg]; rfl
 refine Ac Tryz.func61 J 45 Tryz.ntmps61 J (G3 ?_)
 intro n3 hn3 hf3
 refine G1 ?_
 intro n5 hn5 hf5
 refine G5 ?_
 refine .sliceArrLo 32 J J J J J dE Y29.h Sz5 (.s2a J J J Y124.h oM (.lN (Aa (sg.drop 32)) J J J Y124.h J Sz124 Z0 (by show ((sg.map u8).drop 32).take 32 = _; rw [← List.map_drop, ← List.map_take, d64 hsg]) (by rw [List.length_map]; exact hd32) ?_))
 refine .alloc (cs := (Aa (List.replicate 32 0))) J A4 J ?_
 intro n7 hn7 hf7
 refine .sA J J J J zE Sz124 (by (simp [hsg]; done)) Z0 sP zU ?_
 refine G5 ?_
 refine .lA J J J Y124.h J Sz124 Z0 (by (simp [hsg]; done)) ?_
 refine .cV J J J J Body84 (scalar_canon (sg.drop 32) hd32) tV (G3 ?_)
 refine .cond_t J (by rw [decide_eq_false hc]; rfl) ?_
 refine G5 ?_
 -- ret
 refine G3 ?_
 refine ⟨_, [], Al J J, sP, sP, ?_, rfl⟩
 rfl

theorem sign_Good_k (k : List UInt8) (hk : k.length = 32) (sb : Sl) (bb : List UInt8) (hbn : bb.length ≤ 80000) (sg : List UInt8) (hsg : sg.length = 64) (hc : le (sg.drop 32) < L) (h1 : rdP k = none) : Meets Tryz.prog 61 [agg (Aa k), sb.v, agg (Aa sg)] [] (fun W => BytesAt W sb bb) (fun v out => v = .bool false ∧ out = []) := by
 intro W hW
 have hd32 : (sg.drop 32).length = 32 := by rw [List.length_drop, hsg]
 have ht32 : (sg.take 32).length = 32 := by rw [List.length_take, hsg]; rfl
 refine Ac Tryz.func61 J 45 Tryz.ntmps61 J (G3 ?_)
 intro n3 hn3 hf3
 refine G1 ?_
 intro n5 hn5 hf5
 refine G5 ?_
 refine .sliceArrLo 32 J J J J J dE Y29.h Sz5 (.s2a J J J Y124.h oM (.lN (Aa (sg.drop 32)) J J J Y124.h J Sz124 Z0 (by show ((sg.map u8).drop 32).take 32 = _; rw [← List.map_drop, ← List.map_take, d64 hsg]) (by rw [List.length_map]; exact hd32) ?_))
 refine .alloc (cs := (Aa (List.replicate 32 0))) J A4 J ?_
 intro n7 hn7 hf7
 refine .sA J J J J zE Sz124 (by (simp [hsg]; done)) Z0 sP zU ?_
 refine G5 ?_
 refine .lA J J J Y124.h J Sz124 Z0 (by (simp [hsg]; done)) ?_
 refine .cV J J J J Body84 (scalar_canon (sg.drop 32) hd32) tV (G3 ?_)
 refine .cond_f J (by rw [decide_eq_true hc]; rfl) ?_
 refine G4 ?_
 refine .lA J J J Y23.h J Sz23 Z2 (by (simp [hk]; done)) ?_
 refine .cV J J J J Body85 (curve_Read_none k hk h1) tV (G3 ?_)
 refine .alloc (cs := Point.zero.cells) J Point.zr J ?_
 intro n8 hn8 hf8
 refine G8 ?_
 refine .nei J J J J (show (!decide _) = true from congrArg not (decide_eq_false dE)) (G2 ?_)
 refine .cond_t J (rfl) (G5 ?_)
 -- ret
 refine G3 ?_
 refine ⟨_, [], Al J J, sP, sP, ?_, rfl⟩
 rfl

theorem sign_Good_r (k : List UInt8) (hk : k.length = 32) (sb : Sl) (bb : List UInt8) (hbn : bb.length ≤ 80000) (sg : List UInt8) (hsg : sg.length = 64) (hc : le (sg.drop 32) < L) (A : Pt Fp) (h1 : rdP k = some A) (h2 : rdP (sg.take 32) = none) : Meets Tryz.prog 61 [agg (Aa k), sb.v, agg (Aa sg)] [] (fun W => BytesAt W sb bb) (fun v out => v = .bool false ∧ out = []) := by
 intro W hW
 have hd32 : (sg.drop 32).length = 32 := by rw [List.length_drop, hsg]
 have ht32 : (sg.take 32).length = 32 := by rw [List.length_take, hsg]; rfl
 refine Ac Tryz.func61 J 45 Tryz.ntmps61 J (.sr (.boxA J J ?_))
 intro n3 hn3 hf3
 refine .boxA J J ?_
 intro n5 hn5 hf5
 refine .a J J J (.nsr (.sliceArrLo 32 J J J J J dE Y29.h Sz5 (.s2a J J J Y124.h oM (.lN (Aa (sg.drop 32)) J J J Y124.h J Sz124 Z0 (by show ((sg.map u8).drop 32).take 32 = _; rw [← List.map_drop, ← List.map_take, d64 hsg]) (by rw [List.length_map]; exact hd32) ?_))))
 refine .alloc (cs := (Aa (List.replicate 32 0))) J A4 J ?_
 intro n7 hn7 hf7
 refine .sA J J J J zE Sz124 (by (simp [hsg]; done)) Z0 sP zU ?_
 refine .na (.seq (.sr (.lA J J J Y124.h J Sz124 Z0 (by (simp [hsg]; done)) ?_)))
 refine .cV J J J J Body84 (scalar_canon (sg.drop 32) hd32) tV (.not J J J (.na (.cond_f J (by rw [decide_eq_true hc]; rfl) ?_)))
 refine .skip (Cq (.sr (.lA J J J Y23.h J Sz23 Z2 (by (simp [hk]; done)) ?_)))
 refine .cV J J J J Body85 (curve_Read_some k A hk h1) tV (.m J J J (.eX J J J J (.eX J J J J (.alloc (cs := Point.zero.cells) J Point.zr J ?_))))
 intro n8 hn8 hf8
 refine .sA J J J J (Point.isCell zP) Sz127 (Point.length zP) Z0 (Point.length zZ) zU ?_
 refine .a J J J (.na (.seq (.sr (.m J J J (.nei J J J J (show (!decide _) = false from congrArg not (decide_eq_true (rfl))) (.na (.cond_f J (rfl) (.skip (Cq (.sr (.sliceArrHi 32 J J J J J dE dE Y29.h Sz5 (.s2a J J J Y22.h oM (.lN (Aa (sg.take 32)) J J J Y22.h J Sz22 Z2 (by rw [List.drop_zero, ← List.map_take]) (by rw [List.length_map]; exact ht32) ?_)))))))))))))
 refine .cV J J J J Body85 (curve_Read_none (sg.take 32) ht32 h2) tV (.m J J J (.eX J J J J (.eX J J J J (.alloc (cs := Point.zero.cells) J Point.zr J ?_))))
 intro n10 hn10 hf10
 refine .sA J J J J (Point.isCell zZ) Sz127 (Point.length zZ) Z0 (Point.length zZ) zU ?_
 refine .a J J J (.na (.seq (.sr (.m J J J (.nei J J J J (show (!decide _) = true from congrArg not (decide_eq_false dE)) (.na (.cond_t J (rfl) (.sr (.a J J J (.na ?_))))))))))
 -- ret
 refine .ret (at_r (en_r ?_))
 refine ⟨_, [], Al J J, sP, sP, ?_, rfl⟩
 rfl

theorem sign_Good_ok (k : List UInt8) (hk : k.length = 32) (sb : Sl) (bb : List UInt8) (hbn : bb.length ≤ 80000) (sg : List UInt8) (hsg : sg.length = 64) (hc : le (sg.drop 32) < L) (A R : Pt Fp) (h1 : rdP k = some A) (h2 : rdP (sg.take 32) = some R) (s r : List UInt8) (hs : Hid (Bz (sg.take 32 ++ (k ++ bb)) = s)) (hr : Hid (sgR s = r)) (hrl : r.length = 32) : Meets Tryz.prog 61 [agg (Aa k), sb.v, agg (Aa sg)] [] (fun W => BytesAt W sb bb) (fun v out => v = .bool (goodB k bb sg) ∧ out = []) := by
 intro W hW
 have hd32 : (sg.drop 32).length = 32 := by rw [List.length_drop, hsg]
 have ht32 : (sg.take 32).length = 32 := by rw [List.length_take, hsg]; rfl
 have hA := rdP_on h1
 obtain ⟨Q, hQ⟩ : ∃ Q, cv.lin (le (sg.drop 32)) (le (sgR (Bz (sg.take 32 ++ (k ++ bb))))) bP (neg A) = Q := ⟨_, rfl⟩
 have hmul := curve_Mul2 (sg.drop 32) r bP (neg A) hd32 hrl bP_on (cv.on_neg hA)
 rw [show cv.lin (le (sg.drop 32)) (le r) bP (neg A) = Q from by rw [← hr.out, ← hs.out]; exact hQ] at hmul
 refine Ac Tryz.func61 J 45 Tryz.ntmps61 J (.sr (.boxA J J ?_))
 intro n3 hn3 hf3
 refine .boxA J J ?_
 intro n5 hn5 hf5
 refine .a J J J (.nsr (.sliceArrLo 32 J J J J J dE Y29.h Sz5 (.s2a J J J Y124.h oM (.lN (Aa (sg.drop 32)) J J J Y124.h J Sz124 Z0 (by show ((sg.map u8).drop 32).take 32 = _; rw [← List.map_drop, ← List.map_take, d64 hsg]) (by rw [List.length_map]; exact hd32) ?_))))
 refine .alloc (cs := (Aa (List.replicate 32 0))) J A4 J ?_
 intro n7 hn7 hf7
 refine .sA J J J J zE Sz124 (by (simp [hsg]; done)) Z0 sP zU ?_
 refine .na (.seq (.sr (.lA J J J Y124.h J Sz124 Z0 (by (simp [hsg]; done)) ?_)))
 refine .cV J J J J Body84 (scalar_canon (sg.drop 32) hd32) tV (.not J J J (.na (.cond_f J (by rw [decide_eq_true hc]; rfl) ?_)))
 refine .skip (Cq (.sr (.lA J J J Y23.h J Sz23 Z2 (by (simp [hk]; done)) ?_)))
 refine .cV J J J J Body85 (curve_Read_some k A hk h1) tV (.m J J J (.eX J J J J (.eX J J J J (.alloc (cs := Point.zero.cells) J Point.zr J ?_))))
 intro n8 hn8 hf8
 refine .sA J J J J (Point.isCell zP) Sz127 (Point.length zP) Z0 (Point.length zZ) zU ?_
 refine .a J J J (.na (.seq (.sr (.m J J J (.nei J J J J (show (!decide _) = false from congrArg not (decide_eq_true (rfl))) (.na (.cond_f J (rfl) (.skip (Cq (.sr (.sliceArrHi 32 J J J J J dE dE Y29.h Sz5 (.s2a J J J Y22.h oM (.lN (Aa (sg.take 32)) J J J Y22.h J Sz22 Z2 (by rw [List.drop_zero, ← List.map_take]) (by rw [List.length_map]; exact ht32) ?_)))))))))))))
 refine .cV J J J J Body85 (curve_Read_some (sg.take 32) R ht32 h2) tV (.m J J J (.eX J J J J (.eX J J J J (.alloc (cs := Point.zero.cells) J Point.zr J ?_))))
 intro n10 hn10 hf10
 refine .sA J J J J (Point.isCell zP) Sz127 (Point.length zP) Z0 (Point.length zZ) zU ?_
 refine .a J J J (.na (.seq (.sr (.m J J J (.nei J J J J (show (!decide _) = false from congrArg not (decide_eq_true (rfl))) (.na (.cond_f J (rfl) (.skip (Cq (.seq (.draw [(1, 0), (0, 2), (0, 3), (0, 4), (1, 7), (1, 10), (3, 1), (2, 5), (3, 6), (3, 8), (3, 9), (0, 11), (0, 12)] Ap zK (.lA J J J Y124.h J Sz124 Z2 (by (simp [hsg]; done)) ?_))))))))))))
 refine .sliceArrHi 32 J J J J J dE dE Y29.h Sz5 (.sliceArr J J J Y23.h Sz5 (.m J J J (.lA J J J Y127.h J Sz127 Z1 (Point.length zP) ?_)))
 refine .lA J J J Y127.h J Sz127 Z0 (Point.length zP) ?_
 refine .cV J J J J Body87 (curve_Base) tV (.mkRow2 (z := .slice none 0 0) [.slice (some ⟨n5, 0, none⟩) 32 64, .slice (some ⟨n3, 0, none⟩) 32 32, sb.v] [.slice (some ⟨n5, 0, none⟩) 32 64, .slice (some ⟨n3, 0, none⟩) 32 32, sb.v] rfl J Y118.h Sz27 Zr27 J J (by intro v hv; simp only [List.mem_cons, List.not_mem_nil, or_false] at hv; rcases hv with rfl | rfl | rfl <;> rfl) dE J ?_)
 intro q38
 refine .cV J J J J Body88 (sign_residueR (some ⟨q38, 0, none⟩) 3 3 [⟨some ⟨n5, 0, none⟩, 32, 64⟩, ⟨some ⟨n3, 0, none⟩, 32, 32⟩, sb] [sg.take 32, k, bb] rfl J (fun j hj => (by
   rcases (show j = 0 ∨ j = 1 ∨ j = 2 by omega) with rfl | rfl | rfl
   · exact ⟨by show 32 = List.length _; exact ht32.symm, fun e => by cases e⟩
   · exact ⟨by show 32 = List.length _; exact hk.symm, fun e => by cases e⟩
   · exact ⟨by show sb.n = bb.length; exact hW.len.symm, fun e => by have h1 := hW.nil e; have h2 := hW.cap; show sb.n = 0; omega⟩)) (sg.take 32 ++ (k ++ bb)) sP (by simp [hsg, hk]; omega) dE s hs r hr) (fun w h => ⟨SeesP.of (Ar h Z0), (fun j hj => (by
   rcases (show j = 0 ∨ j = 1 ∨ j = 2 by omega) with rfl | rfl | rfl
   · exact SeesP.of (by have h9 := Ar (cs := Aa sg) h Z4; exact fun i v hv => h9 i v (take_sees hv))
   · exact SeesP.of (Ar (cs := Aa k) h (by exact mem5))
   · exact A6 h rfl hW.see))⟩) ?_
 refine .cV J J J J Body89 (curve_Neg A hA) tV (.cV J J J J Body86 (hmul) tV (.eql_rec J J J J Point.eg (fun w => Point.eq_runC (ptc_ok _) (ptc_ok _) w) (good_dec hc h1 h2 hQ) (.a J J J (.na ?_))))
 -- ret
 refine .ret (en_r ?_)
 refine ⟨_, [], Al J J, sP, sP, ?_, rfl⟩
 rfl

theorem sign_Good (k : List UInt8) (hk : k.length = 32) (sb : Sl) (bb : List UInt8) (hbn : bb.length ≤ 80000) (sg : List UInt8) (hsg : sg.length = 64) : Meets Tryz.prog 61 [agg (Aa k), sb.v, agg (Aa sg)] [] (fun W => BytesAt W sb bb) (fun v out => v = .bool (goodB k bb sg) ∧ out = []) := by
  by_cases hc : le (sg.drop 32) < L
  · cases h1 : rdP k with
    | none =>
      rw [good_no (fun e => by obtain ⟨_, ⟨A, h⟩, _⟩ := e; rw [h1] at h; cases h)]
      exact sign_Good_k k hk sb bb hbn sg hsg hc h1
    | some A =>
      cases h2 : rdP (sg.take 32) with
      | none =>
        rw [good_no (fun e => by obtain ⟨_, _, ⟨R, h⟩⟩ := e; rw [h2] at h; cases h)]
        exact sign_Good_r k hk sb bb hbn sg hsg hc A h1 h2
      | some R => exact sign_Good_ok k hk sb bb hbn sg hsg hc A R h1 h2 _ _ ⟨rfl⟩ ⟨rfl⟩ (sgR_length _)
  · rw [good_no (fun e => hc e.1)]
    exact sign_Good_c k hk sb bb hbn sg hsg hc
end Go.Proofs.YtfcbgdkpagcbbaaGreat
end

section
namespace Go.Proofs.YtfcbgdkpagcbbaaGreat
open Go Hw Ed
set_option maxRecDepth 100000
theorem L_prm : Prm L := prm_order
theorem bP_y1 : Nat.beq bP.y.val 1 = false := by kernel_rfl
theorem bP_ne : bP ≠ zero := fun e => by
  have h : bP.y.val = 1 := by rw [e]; rfl
  have h2 := bP_y1
  rw [h] at h2
  cases h2
theorem order_gen {P : Pt Fp} (hP : cv.on P) {q : Nat} (hL : Prm q) (ho : cv.mul q P = zero) (hne : P ≠ zero) {m : Nat} (h : cv.mul m P = zero) : q ∣ m := by
  refine Classical.byContradiction fun hn => hne ?_
  have h1 := hL.fermat hn
  have h2 : cv.mul (m ^ (q - 1) % q) P = cv.mul (m ^ (q - 1)) P := cv.mul_order hP ho _
  rw [h1, cv.mul_one] at h2
  rw [h2]
  have e : m ^ (q - 1) = m ^ (q - 2) * m := by
    rw [← Nat.pow_succ]
    congr 1
    have := hL.1
    omega
  rw [e, cv.mul_mul hP, h, cv.mul_zero]
theorem order_dvd {m : Nat} (h : cv.mul m bP = zero) : L ∣ m := order_gen bP_on L_prm bP_order bP_ne h
theorem sgK_read (s : List UInt8) : rdP (sgK s) = some (cv.mul (le (clampB (s.take 32))) bP) := rdP_pb (cv.on_mul bP_on _)
theorem sgF_read (s : List UInt8) : rdP (sgF s) = some (cv.mul (le (sgR s)) bP) := rdP_pb (cv.on_mul bP_on _)
theorem sgS_lt (s s1 s2 : List UInt8) : le (sgS s s1 s2) < L := by
  have h := Nat.mod_lt (le (sgR s2) * le (clampB (s.take 32)) + le (sgR s1)) L_pos
  rw [sgS, le_leb32 (Nat.lt_trans h L_lt)]; exact h
theorem sgS_eq (s s1 s2 : List UInt8) : le (sgS s s1 s2) = (le (sgR s2) * le (clampB (s.take 32)) + le (sgR s1)) % L := by
  have h := Nat.mod_lt (le (sgR s2) * le (clampB (s.take 32)) + le (sgR s1)) L_pos
  rw [sgS, le_leb32 (Nat.lt_trans h L_lt)]
theorem lin_selfS (k n r : Nat) : cv.lin ((k * n + r) % L) k bP (neg (cv.mul n bP)) = cv.mul r bP := by
  have hn := cv.on_mul bP_on n
  have hk := cv.on_mul hn k
  have hr := cv.on_mul bP_on r
  rw [Cv.lin, cv.mul_order bP_on bP_order, Nat.add_comm, cv.mul_add bP_on, cv.mul_mul bP_on, cv.mul_neg hn, cv.add_assoc hr hk (cv.on_neg hk), cv.add_neg hk, cv.add_zero]
theorem sg_take (s s1 s2 : List UInt8) : (sgF s1 ++ sgS s s1 s2).take 32 = sgF s1 := by
  rw [List.take_left' (sgF_length s1)]
theorem sg_drop (s s1 s2 : List UInt8) : (sgF s1 ++ sgS s s1 s2).drop 32 = sgS s s1 s2 := by
  rw [List.drop_left' (sgF_length s1)]
theorem good_self (s s1 bb : List UInt8) {s2 : List UInt8} (h : Bz (sgF s1 ++ (sgK s ++ bb)) = s2) : goodB (sgK s) bb (sgF s1 ++ sgS s s1 s2) = true := by
  unfold goodB
  simp only [decide_eq_true_eq]
  rw [sg_take, sg_drop, h]
  refine ⟨sgS_lt s s1 s2, _, _, sgK_read s, sgF_read s1, ?_⟩
  rw [sgS_eq]
  exact lin_selfS _ _ _
end Go.Proofs.YtfcbgdkpagcbbaaGreat
end

section
namespace Go.Proofs.YtfcbgdkpagcbbaaGreat
open Go Hw

open Ed

theorem own_bytes {W : World} {q n c : Nat} {l : List UInt8} (hs : SeesP W (some ⟨q, 0, none⟩) (Aa l)) (hl : l.length = n) (hc : n ≤ c) (hm : n ≤ maxLen) : BytesAt W ⟨some ⟨q, 0, none⟩, n, c⟩ l := ⟨hl, hc, hs, hm, fun e => by cases e⟩
end Go.Proofs.YtfcbgdkpagcbbaaGreat
end

section
namespace Go.Proofs.YtfcbgdkpagcbbaaGreat
open Go Hw

theorem rolW_64 (x : UInt64) (n : Nat) (h : n ≤ 64) : Aq x n ||| Ay x (64 - n) = rolW x (64 - n) := by
  rw [rolW, show 64 - (64 - n) = n by omega, UInt64.or_comm]
theorem W8.of_l {st : List UInt64} (h : st.length = 8) : (W8.of st).l = st := by
  match st, h with
  | [a, b, c, d, e, f, g, i], _ => rfl
theorem addUp_gets (st xs : List UInt64) : ∀ i j, i ≤ st.length → j < st.length → (addUp st xs i).getD j 0 = if j < i then st.getD j 0 + xs.getD j 0 else st.getD j 0
  | 0, j, _, hj => by rw [if_neg oM]; rfl
  | i + 1, j, hi, hj => by
    have hl := Bt st xs i
    rw [addUp, List.getD_eq_getElem?_getD, List.getElem?_set]
    split
    · rename_i e
      subst e
      rw [if_pos oM, if_pos oM, Option.getD_some, addUp_get st xs i i (Nat.le_refl _)]
    · rename_i e
      rw [← List.getD_eq_getElem?_getD, addUp_gets st xs i j oM hj]
      by_cases h : j < i
      · rw [if_pos h, if_pos oM]
      · rw [if_neg h, if_neg oM]
theorem addUp_comm {st xs : List UInt64} (h : st.length = 8) (hx : xs.length = 8) : addUp xs st 8 = addUp st xs 8 := by
  have h1 := Bt xs st 8
  have h2 := Bt st xs 8
  apply List.ext_getElem oM
  intro j ha hb
  have e1 := addUp_gets xs st 8 j oM oM
  have e2 := addUp_gets st xs 8 j oM oM
  rw [if_pos oM] at e1 e2
  rw [List.getD_eq_getElem?_getD, List.getElem?_eq_getElem ha, Option.getD_some] at e1
  rw [List.getD_eq_getElem?_getD, List.getElem?_eq_getElem hb, Option.getD_some] at e2
  rw [e1, e2, UInt64.add_comm]
def schT (p : List UInt8) (A : List UInt64) (t : Nat) : List UInt64 := if t ≤ 16 then schA p (8 * t) else schB A (t - 16)
theorem schT_lo {p : List UInt8} {A : List UInt64} {t : Nat} (h : t ≤ 16) : schT p A t = schA p (8 * t) := if_pos h
theorem schT_hi {p : List UInt8} {A : List UInt64} {t : Nat} (hA : schA p 128 = A) (h : 16 ≤ t) : schT p A t = schB A (t - 16) := by
  unfold schT
  split
  · obtain rfl : t = 16 := by omega
    exact hA
  · rfl
theorem schT_step {p : List UInt8} {A : List UInt64} {j : Nat} (hA : schA p 128 = A) : schT p A (16 + j + 1) = (schB A j).set (16 + j) ((schB A j).getD j 0 + sig0 ((schB A j).getD (j + 1) 0) + (schB A j).getD (j + 9) 0 + sig1 ((schB A j).getD (j + 14) 0)) := by
  rw [schT_hi hA oM, show 16 + j + 1 - 16 = j + 1 by omega]; rfl
theorem schA_step (p : List UInt8) (t i : Nat) (hi : i < 8) : schA p (8 * t + (i + 1)) = (schA p (8 * t + i)).set t (Ay ((schA p (8 * t + i)).getD t 0) 8 ||| (p.getD (8 * t + i) 0).toUInt64) := by
  have e : (8 * t + i) / 8 = t := by omega
  show schA p ((8 * t + i) + 1) = _
  rw [schA, e]

theorem r2_K (k : List UInt64) (hk : Hid (kW = k)) : Meets Tryz.prog 177 [] [] (fun _ => True) (fun v out => v = agg (Ae k) ∧ out = []) := by
 intro W hW
 rw [← hk.out]
 refine Ac Tryz.func177 J 2 Tryz.ntmps177 J (G2 ?_)
 refine .alloc (cs := (Ae (List.replicate 80 0))) J Zr199 J ?_
 intro n0 hn0 hf0
 refine G4 ?_
 refine .build (cs := Ae kW) J J J (fun w => by kernel_rfl) ?_
 refine .sA J J J J zB Sz199 (by (simp [kW]; done)) Z0 sP zU ?_
 refine G2 ?_
 -- ret
 refine G2 ?_
 refine ⟨_, [], An J J Y199 J Sz199 Z0 (by simp [kW]), sP, sP, ?_, rfl⟩
 rfl

theorem r2_Start (k : List UInt64) (hk : Hid (startW = k)) : Meets Tryz.prog 129 [] [] (fun _ => True) (fun v out => v = agg (Ae k) ∧ out = []) := by
 intro W hW
 rw [← hk.out]
 refine Ac Tryz.func129 J 2 Tryz.ntmps129 J (G2 ?_)
 refine .alloc (cs := (Ae (List.replicate 8 0))) J Zr120 J ?_
 intro n0 hn0 hf0
 refine G4 ?_
 refine .build (cs := Ae startW) J J J (fun w => by kernel_rfl) ?_
 refine .sA J J J J zB Sz120 (by (simp [startW]; done)) Z0 sP zU ?_
 refine G2 ?_
 -- ret
 refine G2 ?_
 refine ⟨_, [], An J J Y120.h J Sz120 Z0 (by simp [startW]), sP, sP, ?_, rfl⟩
 rfl

theorem r2_rot (x : UInt64) (n : Nat) (hn : n ≤ 63) : Meets Tryz.prog 178 [u64 x, i64 (n : Int)] [] (fun _ => True) (fun v out => v = u64 (rolW x (64 - n)) ∧ out = []) := by
 intro W hW
 refine Ac Tryz.func178 J 15 Tryz.ntmps178 J (G2 ?_)
 refine .a J J (show Ag _ _ = some (u64 0) from rfl) (G7 ?_)
 refine .shr_u64 J J J J n (by rw [wordOf_id _ oM]) oM ?_
 refine G2 ?_
 refine .subN 64 n J J J J oM (G1 ?_)
 refine .shl_u64 J J J J (64 - n) (by rw [wordOf_id _ oM]) oM ?_
 refine G4 ?_
 -- ret
 refine G2 ?_
 refine ⟨_, [], Al J J, sP, sP, ?_, rfl⟩
 rw [rolW_64 x n oM]

theorem r2_piece (st : List UInt64) (hst : st.length = 8) (p : List UInt8) (hp : p.length = 128) (q o c : Nat) (A w k : List UInt64) (R : W8) (hA : Hid (schA p 128 = A)) (hwp : Hid (schB A 64 = w)) (hk : Hid (kW = k)) (hk80 : k.length = 80) (hR : Hid (rnds k w (W8.of st) 80 = R)) : Meets Tryz.prog 128 [agg (Ae st), .slice (some ⟨q, o, none⟩) 128 c] [] (fun W => Sees W q o (Aa p)) (fun v out => v = agg (Ae (addUp st R.l 8)) ∧ out = []) := by
 intro W hW
 have hA80 : A.length = 80 := by rw [← hA.out]; exact schA_length p 128
 have hw80 : w.length = 80 := by rw [← hwp.out, schB_length]; exact hA80
 have hRl := W8.l_length R
 have hlw := hw80
 have hcm := addUp_comm hst hRl
 refine Ac Tryz.func128 J 176 Tryz.ntmps128 J (G3 ?_)
 intro n2 hn2 hf2
 refine .alloc (cs := (Ae (List.replicate 8 0))) J Zr120 J ?_
 intro n4 hn4 hf4
 refine G4 ?_
 refine .cV J J J J Body177 (r2_K k hk) tV (.alloc (cs := (Ae (List.replicate 80 0))) J Zr199 J ?_)
 intro n5 hn5 hf5
 refine .sA J J J J zB Sz199 (by (simp [hk80]; done)) Z0 sP zU ?_
 refine G4 ?_
 refine .alloc (cs := (Ae (List.replicate 80 0))) J Zr199 J ?_
 intro n6 hn6 hf6
 refine G9 ?_
 refine .loop (ι := Nat) (fun t => ⟨[(1, .slice (some ⟨q, o, none⟩) 128 c), (2, ptr n2 0), (4, ptr n4 0), (5, ptr n5 0), (6, ptr n6 0), (7, i64 (t : Int))], [⟨n6, Ae (schT p A t), 199, 80⟩, ⟨n5, Ae k, 199, 80⟩, ⟨n4, Ae (List.replicate 8 0), 120, 8⟩, ⟨n2, Ae st, 120, (Ae st).length⟩]⟩) (fun t => t ≤ 80) (fun t => 80 - t) (0) ?_ ?_ ?_
 · omega
 · exact Ad (wk1 rfl (wk1 rfl (wk1 rfl (wk1 rfl (wk1 rfl (wk1 rfl wk0)))))) (wh1 (by rw [schT_lo oM]; exact Bx) (wh1 Z1 (wh1 Z2 (wh1 Z3 wh0)))) nD
 rintro t ht
 refine G7 ?_
 refine .condP J (fun hc0 => ?_) (fun hc0 => ?_)
 ·
  refine G11 ?_
  refine .condP J (fun hc1 => ?_) (fun hc1 => ?_)
  ·
   refine G7 ?_
   refine .loop (ι := Nat) (fun i => ⟨[(1, .slice (some ⟨q, o, none⟩) 128 c), (2, ptr n2 0), (4, ptr n4 0), (5, ptr n5 0), (6, ptr n6 0), (7, i64 (t : Int)), (8, i64 (i : Int))], [⟨n6, Ae (schA p (8 * t + i)), 199, 80⟩, ⟨n5, Ae k, 199, 80⟩, ⟨n4, Ae (List.replicate 8 0), 120, 8⟩, ⟨n2, Ae st, 120, (Ae st).length⟩]⟩) (fun i => i ≤ 8) (fun i => 8 - i) (0) ?_ ?_ ?_
   · omega
   · exact Ad (wk1 rfl (wk1 rfl (wk1 rfl (wk1 rfl (wk1 rfl (wk1 rfl (wk1 rfl wk0))))))) (wh1 (by rw [Nat.add_zero, ← schT_lo (p := p) (A := A) (by omega : t ≤ 16)]; exact Bx) (wh1 Z1 (wh1 Z2 (wh1 Z3 wh0)))) nD
   rintro i hi
   have hlw := schA_length p (8 * t + i)
   refine G7 ?_
   refine .condP J (fun hc2 => ?_) (fun hc2 => ?_)
   ·
    refine G4 ?_
    refine .draw [(0, 0), (0, 1), (0, 2), (1, 3), (0, 4), (0, 5), (0, 6), (0, 7), (0, 8), (0, 9), (0, 10), (1, 11), (0, 12), (0, 13), (0, 14), (4, 15)] Ap zK (G2 ?_)
    refine .i1 J J J J Y199 Sz24 _ J oM (G1 ?_)
    refine .shl_u64 J J J J 8 J dE (G2 ?_)
    refine .mulN 8 t J J J J oM (G1 ?_)
    refine .addN (8 * t) i J J J J oM (.idxSlO J J J J Y27.h Sz5 (8 * t + i) oM oM (.loadE J J J Y5.h J sP (hW (8 * t + i) _ (get_bytes oM)) (G2 ?_)))
    refine .i1 J J J J Y199 Sz24 _ J oM (.s1 J J J J J Sz24 Z0 (by (simp [hlw]; omega)) (by exact A8 _ _ _) zU ?_)
    refine G9 ?_
    exact ⟨i + 1, by omega, by omega, Ad (wk1 rfl (wk1 rfl (wk1 rfl (wk1 rfl (wk1 rfl (wk1 rfl (wk1 rfl wk0))))))) (wh1 (by rw [schA_step p t i oM]; exact Bx) (wh1 Z1 (wh1 Z2 (wh1 Z3 wh0)))) nD⟩
   refine G15 ?_
   exact ⟨t + 1, by omega, by omega, Ad (wk1 rfl (wk1 rfl (wk1 rfl (wk1 rfl (wk1 rfl (wk1 rfl wk0)))))) (wh1 (by (rw [schT_lo (by omega : t + 1 ≤ 16), show 8 * (t + 1) = 8 * t + i by omega]; exact Bx)) (wh1 Z1 (wh1 Z2 (wh1 Z3 wh0)))) nD⟩
  obtain ⟨j, rfl⟩ : ∃ j, t = 16 + j := ⟨t - 16, by omega⟩
  rw [schT_hi hA.out (show 16 ≤ 16 + j by omega), show 16 + j - 16 = j by omega]
  have hlw : (schB A j).length = 80 := by rw [schB_length]; exact hA80
  refine G3 ?_
  refine .draw [(0, 0), (0, 1), (0, 2), (1, 3), (0, 4), (0, 5), (0, 6), (1, 7), (0, 8), (0, 9)] Ap zK (G2 ?_)
  refine .i1 J J J J Y199 Sz24 (j + 1) oM oM (G3 ?_)
  refine .i1 J J J J Y199 Sz24 (j + 14) oM oM (G5 ?_)
  refine .draw [(0, 0), (0, 1), (0, 2), (0, 3), (1, 4), (0, 5), (0, 7), (0, 10), (0, 11), (0, 14), (0, 15), (0, 16), (1, 17), (0, 19), (0, 21), (0, 24), (0, 25), (3, 6), (3, 8), (0, 9), (0, 12), (0, 13), (0, 18), (3, 20), (3, 22), (0, 23), (0, 26), (0, 27), (0, 28), (4, 29)] Ap zK (G3 ?_)
  refine .i1 J J J J Y199 Sz24 j oM oM (G4 ?_)
  refine .shr_u64 J J J J 7 J dE (G2 ?_)
  refine .i1 J J J J Y199 Sz24 (j + 9) oM oM (G4 ?_)
  refine .shr_u64 J J J J 6 J dE (.cV J J J J Body178 (r2_rot _ 1 dE) tV (.cV J J J J Body178 (r2_rot _ 8 dE) tV (G4 ?_)))
  refine .cV J J J J Body178 (r2_rot _ 19 dE) tV (.cV J J J J Body178 (r2_rot _ 61 dE) tV (G3 ?_))
  refine .i1 J J J J Y199 Sz24 (16 + j) oM oM (.s1 J J J J J Sz24 Z0 (by (simp [hlw]; omega)) (by exact A8 _ _ _) zU ?_)
  refine G9 ?_
  exact ⟨16 + j + 1, by omega, by omega, Ad (wk1 rfl (wk1 rfl (wk1 rfl (wk1 rfl (wk1 rfl (wk1 rfl wk0)))))) (wh1 (by (rw [schT_step hA.out]; exact Bx)) (wh1 Z1 (wh1 Z2 (wh1 Z3 wh0)))) nD⟩
 obtain rfl : t = 80 := by omega
 rw [show schT p A 80 = w from by rw [schT_hi hA.out dE]; exact hwp.out]
 refine G7 ?_
 refine .lA J J J Y120.h J Sz120 Z3 (by (simp [hst]; done)) ?_
 refine .alloc (cs := (Ae (List.replicate 8 0))) J Zr120 J ?_
 intro n11 hn11 hf11
 refine .sA J J J J zB Sz120 (by (simp [hst]; done)) Z0 sP zU ?_
 refine G9 ?_
 refine .loop (ι := Nat) (fun t => ⟨[(2, ptr n2 0), (4, ptr n4 0), (5, ptr n5 0), (6, ptr n6 0), (11, ptr n11 0), (12, i64 (t : Int))], [⟨n11, Ae (rnds k w (W8.of st) t).l, 120, 8⟩, ⟨n6, Ae w, 199, 80⟩, ⟨n5, Ae k, 199, 80⟩, ⟨n4, Ae (List.replicate 8 0), 120, 8⟩, ⟨n2, Ae st, 120, (Ae st).length⟩]⟩) (fun t => t ≤ 80) (fun t => 80 - t) (0) ?_ ?_ ?_
 · omega
 · exact Ad (wk1 rfl (wk1 rfl (wk1 rfl (wk1 rfl (wk1 rfl (wk1 rfl wk0)))))) (wh1 (by rw [show (rnds k w (W8.of st) 0).l = st from W8.of_l hst]; exact Bx) (wh1 Z1 (wh1 Z2 (wh1 Z3 (wh1 Z4 wh0))))) nD
 rintro t ht
 have hlr := W8.l_length (rnds k w (W8.of st) t)
 refine G7 ?_
 refine .condP J (fun hc3 => ?_) (fun hc3 => ?_)
 ·
  refine G5 ?_
  refine .draw [(0, 0), (1, 1), (0, 2), (1, 3), (0, 4), (0, 5)] Ap zK (.i1 J J J J Y120.h Sz24 0 J dE (G1 ?_))
  refine .i1 J J J J Y120.h Sz24 4 J dE (G6 ?_)
  refine .draw [(0, 0), (1, 1), (0, 2), (0, 4), (0, 7), (0, 11), (0, 12), (1, 13), (0, 14), (0, 15), (0, 16), (0, 17), (1, 18), (0, 19), (0, 20), (0, 22), (0, 23), (1, 24), (0, 26), (0, 27), (1, 28), (3, 3), (3, 5), (0, 6), (3, 8), (0, 9), (0, 10), (0, 21), (0, 25), (0, 29), (0, 30)] Ap zK (.i1 J J J J Y120.h Sz24 7 J dE (G5 ?_))
  refine .i1 J J J J Y120.h Sz24 5 J dE (G3 ?_)
  refine .not_u64 J J J (.i1 J J J J Y120.h Sz24 6 J dE (G4 ?_))
  refine .i1 J J J J Y199 Sz24 _ J oM (G2 ?_)
  refine .i1 J J J J Y199 Sz24 _ J oM (G1 ?_)
  refine .cV J J J J Body178 (r2_rot _ 14 dE) tV (.cV J J J J Body178 (r2_rot _ 18 dE) tV (G1 ?_))
  refine .cV J J J J Body178 (r2_rot _ 41 dE) tV (G9 ?_)
  refine .draw [(0, 0), (0, 2), (0, 5), (0, 8), (0, 9), (1, 10), (0, 11), (0, 12), (0, 13), (1, 14), (0, 15), (0, 16), (0, 17), (1, 18), (0, 19), (1, 20), (0, 21), (0, 22), (3, 1), (3, 3), (0, 4), (3, 6), (0, 7), (0, 23), (0, 24)] Ap zK (G4 ?_)
  refine .i1 J J J J Y120.h Sz24 1 J dE (G3 ?_)
  refine .i1 J J J J Y120.h Sz24 2 J dE (G3 ?_)
  refine .i1 J J J J Y120.h Sz24 1 J dE (G1 ?_)
  refine .i1 J J J J Y120.h Sz24 2 J dE (G3 ?_)
  refine .cV J J J J Body178 (r2_rot _ 28 dE) tV (.cV J J J J Body178 (r2_rot _ 34 dE) tV (G1 ?_))
  refine .cV J J J J Body178 (r2_rot _ 39 dE) tV (G10 ?_)
  refine .i1 J J J J Y120.h Sz24 1 J dE (G1 ?_)
  refine .i1 J J J J Y120.h Sz24 2 J dE (G1 ?_)
  refine .i1 J J J J Y120.h Sz24 3 J dE (G4 ?_)
  refine .i1 J J J J Y120.h Sz24 5 J dE (G1 ?_)
  refine .i1 J J J J Y120.h Sz24 6 J dE (G1 ?_)
  refine .build (cs := Ae (rnd1 (rnds k w (W8.of st) t) (k.getD t 0) (w.getD t 0)).l) J J J (fun w => by kernel_rfl) ?_
  refine .sA J J J J zB Sz120 (by (simp [W8.l_length]; done)) Z0 (by (simp [W8.l_length]; done)) zU ?_
  refine G9 ?_
  exact ⟨t + 1, by omega, by omega, Ad (wk1 rfl (wk1 rfl (wk1 rfl (wk1 rfl (wk1 rfl (wk1 rfl wk0)))))) (wh1 Z0 (wh1 Z1 (wh1 Z2 (wh1 Z3 (wh1 Z4 wh0))))) nD⟩
 obtain rfl : t = 80 := by omega
 rw [hR.out]
 refine G12 ?_
 refine .loop (ι := Nat) (fun i => ⟨[(2, ptr n2 0), (4, ptr n4 0), (11, ptr n11 0), (17, i64 (i : Int))], [⟨n11, Ae (addUp R.l st i), 120, 8⟩, ⟨n4, Ae (List.replicate 8 0), 120, 8⟩, ⟨n2, Ae st, 120, (Ae st).length⟩]⟩) (fun i => i ≤ 8) (fun i => 8 - i) (0) ?_ ?_ ?_
 · omega
 · exact Ad (wk1 rfl (wk1 rfl (wk1 rfl (wk1 rfl wk0)))) (wh1 Z0 (wh1 Z3 (wh1 Z4 wh0))) nD
 rintro i hi
 have hlu := Bt R.l st i
 refine G7 ?_
 refine .condP J (fun hc4 => ?_) (fun hc4 => ?_)
 ·
  refine G4 ?_
  refine .draw [(0, 0), (0, 1), (0, 2), (1, 3), (0, 4), (0, 5), (1, 6), (0, 7), (0, 8), (4, 9)] Ap zK (G2 ?_)
  refine .i1 J J J J Y120.h Sz24 _ J oM (G2 ?_)
  refine .i1 J J J J Y120.h Sz24 _ J oM (G2 ?_)
  refine .i1 J J J J Y120.h Sz24 _ J oM (.s1 J J J J J Sz24 Z0 (by (simp [hRl, Bt]; omega)) (by exact A8 _ _ _) zU ?_)
  refine G9 ?_
  exact ⟨i + 1, by omega, by omega, Ad (wk1 rfl (wk1 rfl (wk1 rfl (wk1 rfl wk0)))) (wh1 Z0 (wh1 Z1 (wh1 Z2 wh0))) nD⟩
 obtain rfl : i = 8 := by omega
 rw [hcm]
 refine G7 ?_
 refine .lA J J J Y120.h J Sz120 Z0 (by (simp [hst, Bt]; done)) ?_
 refine .sA J J J J zB Sz120 (by (simp [hst, Bt]; done)) Z1 sP zV ?_
 refine G2 ?_
 -- ret
 refine G2 ?_
 refine ⟨_, [], An J J Y120.h J Sz120 Z1 (by simp [hst, Bt]), sP, sP, ?_, rfl⟩
 rfl
theorem r2_bytes (st : List UInt64) (hst : st.length = 8) (s : List UInt8) (hs : Hid (sumUp st 64 = s)) : Meets Tryz.prog 80 [agg (Ae st)] [] (fun _ => True) (fun v out => v = agg (Aa s) ∧ out = []) := by
 intro W hW
 have hs64 : s.length = 64 := by rw [← hs.out]; exact Cf st 64
 refine Ac Tryz.func80 J 23 Tryz.ntmps80 J (G3 ?_)
 intro n1 hn1 hf1
 refine .alloc (cs := (Aa (List.replicate 64 0))) J Zr28 J ?_
 intro n2 hn2 hf2
 refine G4 ?_
 refine .alloc (cs := (Aa (List.replicate 64 0))) J Zr28 J ?_
 intro n3 hn3 hf3
 refine G9 ?_
 refine .loop (ι := Nat) (fun k => ⟨[(1, ptr n1 0), (2, ptr n2 0), (3, ptr n3 0), (4, i64 (k : Int))], [⟨n3, Aa (sumUp st k), 28, 64⟩, ⟨n2, Aa (List.replicate 64 0), 28, 64⟩, ⟨n1, Ae st, 120, (Ae st).length⟩]⟩) (fun k => k ≤ 64) (fun k => 64 - k) (0) ?_ ?_ ?_
 · omega
 · exact Ad (wk1 rfl (wk1 rfl (wk1 rfl (wk1 rfl wk0)))) (wh1 Z0 (wh1 Z1 (wh1 Z2 wh0))) nD
 rintro k hi
 have hlk := Cf st k
 refine G7 ?_
 refine .condP J (fun hc0 => ?_) (fun hc0 => ?_)
 ·
  refine G7 ?_
  refine .quo_i64 J J J J oM (.i1 J J J J Y120.h Sz24 (k / 8) oM oM (G2 ?_))
  refine .remN k 8 J J J J dE (.mulN 8 (k % 8) J J J J oM (.subN 56 (8 * (k % 8)) J J J J oM (G1 ?_)))
  refine .shr_u64 J J J J (56 - 8 * (k % 8)) (by rw [wordOf_id _ oM]) oM ?_
  refine G1 ?_
  refine .i1 J J J J Y28.h Sz5 _ J oM (.s1 J J J J J Sz5 Z0 (by (simp [Cf]; omega)) (by exact Be _ _ _) zU ?_)
  refine G9 ?_
  exact ⟨k + 1, by omega, by omega, Ad (wk1 rfl (wk1 rfl (wk1 rfl (wk1 rfl wk0)))) (wh1 Z0 (wh1 Z1 (wh1 Z2 wh0))) nD⟩
 obtain rfl : k = 64 := by omega
 rw [hs.out]
 clear hlk
 refine G7 ?_
 refine .lA J J J Y28.h J Sz28 Z0 (by (simp [hs64]; done)) ?_
 refine .sA J J J J zE Sz28 (by (simp [hs64]; done)) Z1 sP zV ?_
 refine G2 ?_
 -- ret
 refine G2 ?_
 refine ⟨_, [], An J J Y28.h J Sz28 Z1 (by simp [hs64]), sP, sP, ?_, rfl⟩
 rfl
theorem r2_join (p : Option Addr) (n c : Nat) (ss : List Sl) (ls : List (List UInt8)) (hss : ss.length = n) (hls : ls.length = n) (hsl : ∀ j, j < n → (ss.getD j Sl.nil).n = (ls.getD j []).length ∧ ((ss.getD j Sl.nil).p = none → (ss.getD j Sl.nil).n = 0)) (F : List UInt8) (hF : ls.flatten = F) (htot : F.length ≤ 90000) (hn : n ≤ 1000000)  : Meets Tryz.prog 83 [.slice p n c] [] (fun W => SeesP W p (ss.map Sl.v) ∧ ∀ j, j < n → SeesP W (ss.getD j Sl.nil).p (Aa (ls.getD j []))) (fun v out => ∃ s, v = s.v ∧ Acc s out (Aa F) 5 F.length 1) := by
 intro W hW
 have hle := take_flat_le ls
 rw [hF] at hle
 refine Ac Tryz.func83 J 18 Tryz.ntmps83 J (G17 ?_)
 refine .loop (ι := Nat × Sl × List Blk) (fun x => ⟨[(0, .slice p n c), (3, x.2.1.v), (4, i64 (x.1 : Int))], (x.2.2 ++ [])⟩) (fun x => x.1 ≤ n ∧ Acc x.2.1 x.2.2 (Aa (ls.take x.1).flatten) 5 (ls.take x.1).flatten.length 1) (fun x => n - x.1) ((0, Sl.nil, [])) ?_ ?_ ?_
 · exact ⟨Nat.zero_le _, Acc.none⟩
 · exact Ao (wk1 rfl (wk1 rfl (wk1 rfl wk0))) (pm_none Ak)
 rintro x ⟨hx, hax⟩
 refine G9 ?_
 refine .condP J (fun hc0 => ?_) (fun hc0 => ?_)
 ·
  have hx3 : x.1 < n := by omega
  obtain ⟨b, o, hbp, hbs⟩ := hW.1.at (by rw [List.length_map]; omega)
  have hv : W.cell? ⟨b, o + x.1 * 1, none⟩ = some (ss.getD x.1 Sl.nil).v := by rw [Nat.mul_one]; exact hbs x.1 _ (sl_get oM)
  have hstep := hle (x.1 + 1)
  rw [take_flat oM, List.length_append, ← (hsl x.1 oM).1] at hstep
  refine G8 ?_
  refine .idxSlP 1 J J J hbp J Y118.h Sz27 x.1 J oM (.loadE J J J Y27.h J sP (hv) (.appendAcc (z := u8 0) (by' := 1) (Aa (ls.getD x.1 [])) J J J J J Y27.h Y27.h Sz5 Zr5 (by unfold By; kernel_rfl) J hax sG (fun w h => A6 h J (hW.2 x.1 oM)) (hsl x.1 oM).2 (Ax _) oM oM (by rw [Aa, List.length_map, Nat.mul_one]; exact (hsl x.1 oM).1.symm) ?_))
  intro s16 bl16 hac16
  refine G10 ?_
  refine ⟨(x.1 + 1, s16, bl16), ⟨by simp only []; omega, ?_⟩, by simp only []; omega, Ao (wk1 J (wk1 J (wk1 J wk0))) (Af sG Ak)⟩
  rw [take_flat oM, List.length_append, ← (hsl x.1 oM).1]
  simpa [Aa] using hac16
 have hx3 : x.1 = n := by omega
 rw [hx3, List.take_of_length_le oM, hF] at hax
 refine G11 ?_
 -- ret
 refine G2 ?_
 refine Az (out := (x.2.2 ++ [])) (Al J J) (Af sG Ak) ?_
 exact ⟨x.2.1, rfl, by rw [List.append_nil]; exact hax⟩
theorem pad_acc (F : List UInt8) {q c : Nat} (x : UInt64) (h : F.length + 1 + padZ F.length + 8 ≤ c) : Acc ⟨some ⟨q, 0, none⟩, F.length + 1 + padZ F.length + 8, c⟩ [⟨q, Aa (F ++ [128] ++ List.replicate (padZ F.length) 0) ++ List.replicate 8 (u8 0), 5, c⟩] (Aa (F ++ [128] ++ List.replicate (padZ F.length) 0 ++ beUp 0 8 ++ beUp x 0)) 5 (F.length + 1 + padZ F.length + 8 + 0) 1 := by
  have e : Aa (F ++ [128] ++ List.replicate (padZ F.length) 0) ++ List.replicate 8 (u8 0) = Aa (F ++ [128] ++ List.replicate (padZ F.length) 0 ++ beUp 0 8 ++ beUp x 0) := by
    rw [show beUp x 0 = [] from rfl, List.append_nil, bytesV_app (b := beUp 0 8)]
    rfl
  have h2 : (Aa (F ++ [128] ++ List.replicate (padZ F.length) 0 ++ beUp 0 8 ++ beUp x 0)).length = (F.length + 1 + padZ F.length + 8) * 1 := by
    simp [Aa, beUp_length]; omega
  have h3 := Acc.some (q := q) (E := 5) (size := 1) h h2
  rw [Nat.mul_one] at h3
  rw [e]
  exact h3

theorem r2_Pad (s : Sl) (F : List UInt8) (hsl : s.n = F.length) (hsn : s.p = none → s.n = 0) (htot : F.length ≤ 90000) : Meets Tryz.prog 127 [s.v] [] (fun W => SeesP W s.p (Aa F)) (fun v out => ∃ s, v = s.v ∧ Acc s out (Aa (padB F)) 5 (padB F).length 1) := by
 intro W hW
 have hz := padZ_lt F.length
 refine Ac Tryz.func127 J 38 Tryz.ntmps127 J (G7 ?_)
 refine .mkRow (z := u8 0) [] ([]) J J J Y27.h Sz5 Zr5 J J (by intro v hv; cases hv) dE J ?_
 intro q6
 refine G1 ?_
 refine .appendSl (z := u8 0) (by' := 1) (Aa F) J J J J J Y27.h Y27.h Sz5 Zr5 (by unfold By; kernel_rfl) J (fun w h => A6 h J hW) hsn (Ax _) rM J J oM oM oM (by rw [Aa, List.length_map]; omega) ?_
 intro q8 c8 hq8
 refine .mkRow (z := u8 0) [u8 (128)] (Aa [128]) J J J Y27.h Sz5 Zr5 J J (by intro v hv; rw [List.mem_singleton.1 hv]; rfl) dE J ?_
 intro q9
 refine .appendSl (z := u8 0) (by' := 1) (Aa [128]) J J J J J Y27.h Y27.h Sz5 Zr5 (by unfold By; kernel_rfl) J (fun w h => SeesP.of (Ar h Z0)) (fun e => by cases e) (Ax _) rM J (by rw [List.nil_append, Aa, List.length_map]; omega) oM oM oM (by rfl) ?_
 intro q10 c10 hq10
 refine G5 ?_
 refine .loop (ι := Nat × Sl × List Blk) (fun z => ⟨[(0, s.v), (3, z.2.1.v)], (z.2.2 ++ [])⟩) (fun z => z.1 ≤ padZ F.length ∧ Acc z.2.1 z.2.2 (Aa (F ++ [128] ++ List.replicate z.1 0)) 5 (F.length + 1 + z.1) 1) (fun z => padZ F.length - z.1) ((0, ⟨some ⟨q10, 0, none⟩, 0 + s.n + 1, c10⟩, [⟨q10, [] ++ Aa F ++ Aa [128], 5, c10 * 1⟩])) ?_ ?_ ?_
 · exact ⟨Nat.zero_le _, by rw [show [] ++ Aa F ++ Aa [128] = Aa (F ++ [128] ++ List.replicate 0 0) from by simp [Aa], show 0 + s.n + 1 = F.length + 1 + 0 by omega]; exact Acc.some oM (by simp [Aa])⟩
 · exact Ao (wk1 rfl (wk1 rfl wk0)) (pm_consE rM rfl rfl Ak)
 rintro ⟨j, sz, blz⟩ ⟨hz1, haz⟩
 simp only [] at hz1 haz
 have hzn := haz.num
 have hpz := padZ_at F.length j hz1
 refine G5 ?_
 refine .rem_i64 J J J J oM (G3 ?_)
 refine .condNP J (fun hc0 => ?_) (fun hc0 => ?_)
 ·
  simp only [] at hc0
  have hz3 : j < padZ F.length := by omega
  refine G5 ?_
  refine .mkRow (z := u8 0) [u8 (0)] (Aa [0]) J J J Y27.h Sz5 Zr5 J J (by intro v hv; rw [List.mem_singleton.1 hv]; rfl) dE J ?_
  intro q16
  refine .appendAcc (z := u8 0) (by' := 1) (Aa [0]) J J J J J Y27.h Y27.h Sz5 Zr5 (by unfold By; kernel_rfl) J haz sG (fun w h => SeesP.of (Ar h Z0)) (fun e => by cases e) (Ax _) oM oM (by rfl) ?_
  intro s17 bl17 hac17
  refine G4 ?_
  refine ⟨(j + 1, s17, bl17), ⟨by simp only []; omega, ?_⟩, by simp only []; omega, Ao (wk1 J (wk1 J wk0)) (Af sG Ak)⟩
  rw [List.replicate_succ', ← List.append_assoc]
  simpa [Aa, Nat.add_assoc] using hac17
 simp only [] at hc0
 have hz3 : j = padZ F.length := by omega
 rw [hz3] at haz
 obtain ⟨qz, cz, rfl, hcz, rfl⟩ := acc_pos haz oM
 refine G8 ?_
 refine .appendMade (n := F.length + 1 + padZ F.length) (m := 8) (z := u8 0) (by' := 1) J J J J J J Y27.h Y3.h Sz5 Zr5 (by unfold By; kernel_rfl) J J rM (Nat.mul_one _) (by rw [Aa, List.length_map]; simp; omega) hcz oM dE ?_
 intro q19 c19 hq19
 refine G8 ?_
 rw [word_nat (n := s.n) oM]
 refine .mul_u64 J J J (show Ag _ _ = some (u64 8) from rfl) ?_
 rw [hsl]
 refine G10 ?_
 refine .loop (ι := Nat × Sl × List Blk) (fun y => ⟨[(3, y.2.1.v), (4, u64 (UInt64.ofNat F.length * 8)), (5, i64 (7 - (y.1 : Int)))], (y.2.2 ++ [])⟩) (fun y => y.1 ≤ 8 ∧ Acc y.2.1 y.2.2 (Aa (F ++ [128] ++ List.replicate (padZ F.length) 0 ++ beUp 0 8 ++ beUp (UInt64.ofNat F.length * 8) y.1)) 5 (F.length + 1 + padZ F.length + 8 + y.1) 1) (fun y => 8 - y.1) ((0, ⟨some ⟨q19, 0, none⟩, F.length + 1 + padZ F.length + 8, c19⟩, [⟨q19, Aa (F ++ [128] ++ List.replicate (padZ F.length) 0) ++ List.replicate 8 (u8 0), 5, c19⟩])) ?_ ?_ ?_
 · exact ⟨Nat.zero_le _, pad_acc F _ hq19⟩
 · exact Ao (wk1 rfl (wk1 rfl (wk1 rfl wk0))) (pm_consE rM rfl rfl Ak)
 rintro y ⟨hy, hay⟩
 refine G7 ?_
 refine .condP J (fun hc1 => ?_) (fun hc1 => ?_)
 ·
  have hy3 : y.1 ≤ 7 := by omega
  refine G8 ?_
  refine .mul_i64 J J J J oM (G1 ?_)
  refine .shr_u64 J J J J (56 - 8 * y.1) (by rw [wordOf_id _ oM]; omega) oM ?_
  refine G1 ?_
  refine .mkRow (z := u8 0) [u8 ((Aq (UInt64.ofNat F.length * 8) (56 - 8 * y.1)).toUInt8)] (Aa [(Aq (UInt64.ofNat F.length * 8) (56 - 8 * y.1)).toUInt8]) J J J Y27.h Sz5 Zr5 J J (by intro v hv; rw [List.mem_singleton.1 hv]; rfl) dE J ?_
  intro q35
  refine .appendAcc (z := u8 0) (by' := 1) (Aa [(Aq (UInt64.ofNat F.length * 8) (56 - 8 * y.1)).toUInt8]) J J J J J Y27.h Y27.h Sz5 Zr5 (by unfold By; kernel_rfl) J hay sG (fun w h => SeesP.of (Ar h Z0)) (fun e => by cases e) (Ax _) oM oM (by rfl) ?_
  intro s36 bl36 hac36
  refine G10 ?_
  refine ⟨(y.1 + 1, s36, bl36), ⟨by simp only []; omega, ?_⟩, by simp only []; omega, Ao (wk1 J (wk1 J (wk1 (congrArg (fun z => some (i64 z)) oM) wk0))) (Af sG Ak)⟩
  rw [show beUp (UInt64.ofNat F.length * 8) (y.1 + 1) = beUp (UInt64.ofNat F.length * 8) y.1 ++ [(Aq (UInt64.ofNat F.length * 8) (56 - 8 * y.1)).toUInt8] from rfl, ← List.append_assoc, bytesV_app]
  exact hac36
 have hy3 : y.1 = 8 := by omega
 rw [hy3] at hay
 refine G11 ?_
 -- ret
 refine G2 ?_
 refine Az (out := (y.2.2 ++ [])) (Al J J) (Af sG Ak) ?_
 refine ⟨y.2.1, rfl, ?_⟩
 have e8 : UInt64.ofNat F.length * 8 = UInt64.ofNat (8 * F.length) := by
  apply UInt64.toNat_inj.1
  rw [mul8_nat (by rw [ofNat_nat oM]; omega), ofNat_nat oM, ofNat_nat oM]; omega
 rw [e8] at hay
 rw [padB_length, padB]
 simpa [Nat.add_assoc, Nat.add_comm, Nat.add_left_comm] using hay
theorem take_len2 {xs : List UInt8} {i K : Nat} (h : xs.length = 128 * K) (hi : i < K) : ((xs.drop (128 * i)).take 128).length = 128 := by simp; omega
theorem sees_chunk {w : World} {q i : Nat} {l : List UInt8} (h : Sees w q 0 (Aa l)) : Sees w q (128 * i) (Aa ((l.drop (128 * i)).take 128)) := fun j v hj => by
  have e : (Aa l)[128 * i + j]? = some v := by
    rw [Aa, List.map_take, List.map_drop, List.getElem?_take] at hj
    split at hj
    · rwa [List.getElem?_drop] at hj
    · cases hj
  have h1 := h _ v e
  rwa [Nat.zero_add] at h1
theorem cut_chunk (q c i : Nat) (h : 128 * i < c) : (.slice (some ⟨q, if c = 128 * i then 0 else 0 + 128 * i * 1, none⟩) (128 * i + 128 - 128 * i) (c - 128 * i) : Value) = .slice (some ⟨q, 128 * i, none⟩) 128 (c - 128 * i) := by
  rw [if_neg oM, show 128 * i + 128 - 128 * i = 128 by omega, show 0 + 128 * i * 1 = 128 * i by omega]

theorem r2_run (st : List UInt64) (hst : st.length = 8) (k : List UInt64) (hk : Hid (kW = k)) (hk80 : k.length = 80) (s : Sl) (F : List UInt8) (hsl : s.n = F.length) (hsn : s.p = none → s.n = 0) (htot : F.length ≤ 90000) : Meets Tryz.prog 81 [agg (Ae st), s.v] [] (fun W => SeesP W s.p (Aa F)) (fun v out => v = agg (Ae (allW k st F)) ∧ out = []) := by
 intro W hW
 have hpl := padB_length F
 have hpz := padZ_lt F.length
 have hpm := padB_mod F
 obtain ⟨K, hK⟩ : ∃ K, (padB F).length / 128 = K := ⟨_, rfl⟩
 rw [hK] at hpm
 obtain ⟨U, hU⟩ : ∃ U, Hid (allW k st F = U) := ⟨_, ⟨rfl⟩⟩
 have hst2 : U.length = 8 := by rw [← hU.out, allW_length]; exact hst
 rw [hU.out]
 have hrl := hst2
 refine Ac Tryz.func81 J 23 Tryz.ntmps81 J (G3 ?_)
 intro n2 hn2 hf2
 refine .alloc (cs := (Ae (List.replicate 8 0))) J Zr120 J ?_
 intro n4 hn4 hf4
 refine G5 ?_
 refine .call4 J J J J J Body127 (r2_Pad s F hsl hsn htot) (fun w h => A6 h J hW) ?_
 rintro v8 out8 ⟨s7, rfl, hac7⟩
 obtain ⟨q7, c7, rfl, hc7, rfl⟩ := acc_pos hac7 oM
 refine G10 ?_
 refine .loop (ι := Nat) (fun i => ⟨[(2, ptr n2 0), (4, ptr n4 0), (5, .slice (some ⟨q7, 0, none⟩) (padB F).length c7), (6, i64 ((128 * i : Nat) : Int))], [⟨q7, Aa (padB F), 5, c7 * 1⟩, ⟨n4, Ae (List.replicate 8 0), 120, 8⟩, ⟨n2, Ae (runW k st (padB F) i), 120, (Ae st).length⟩]⟩) (fun i => i ≤ K) (fun i => K - i) (0) ?_ ?_ ?_
 · exact Nat.zero_le _
 · exact Ao (wk1 rfl (wk1 rfl (wk1 rfl (wk1 rfl wk0)))) (Ab rM (Ab rM (Ab rM Ak)))
 rintro i hi
 have hrl : (runW k st (padB F) i).length = 8 := by rw [runW_length]; exact hst
 refine G9 ?_
 refine .condP J (fun hc0 => ?_) (fun hc0 => ?_)
 ·
  have hi3 : i < K := by omega
  obtain ⟨A, hA⟩ : ∃ A, Hid (schA ((padB F).drop (128 * i) |>.take 128) 128 = A) := ⟨_, ⟨rfl⟩⟩
  obtain ⟨w, hwp⟩ : ∃ w, Hid (schB A 64 = w) := ⟨_, ⟨rfl⟩⟩
  obtain ⟨R, hR⟩ : ∃ R, Hid (rnds k w (W8.of (runW k st (padB F) i)) 80 = R) := ⟨_, ⟨rfl⟩⟩
  have e1 : addUp (runW k st (padB F) i) R.l 8 = runW k st (padB F) (i + 1) := by rw [runW, pieceW, schW, hA.out, hwp.out, hR.out]
  have hrl2 : (runW k st (padB F) (i + 1)).length = 8 := by rw [runW_length]; exact hst
  refine G4 ?_
  refine .draw [(1, 0), (0, 1), (0, 2), (0, 3), (0, 4), (0, 5), (3, 6), (4, 7)] Ap zK (.lA J J J Y120.h J Sz120 Z2 (by (simp [hrl]; done)) ?_)
  refine G4 ?_
  refine .sliceLoHiN (128*i) (128*i+128) J J J J J oM oM oM oM Y27.h Sz5 ?_
  rw [cut_chunk q7 c7 i oM]
  refine .cV J J J J Body128 (r2_piece (runW k st (padB F) i) hrl ((padB F).drop (128 * i) |>.take 128) (take_len2 hpm hi3) q7 (128 * i) (c7 - 128 * i) A w k R hA hwp hk hk80 hR) (fun w h => sees_chunk (Ar h Z0)) ?_
  rw [e1]
  refine .sA J J J J zB Sz120 (by (simp [hst, runW_length]; done)) Z2 (by (simp [hrl]; done)) (by exact upd2) ?_
  refine G9 ?_
  exact ⟨i + 1, by omega, by omega, Ao (wk1 rfl (wk1 rfl (wk1 rfl (wk1 (congrArg (fun z => some (i64 z)) oM) wk0)))) (Ab rM (Ab rM (Ab rM Ak)))⟩
 rw [show (runW k st (padB F) i) = U from by rw [show i = K by omega, ← hU.out, allW, hK]]
 refine G7 ?_
 refine .lA J J J Y120.h J Sz120 Z2 (by (simp [hst2]; done)) ?_
 refine .sA J J J J zB Sz120 (by (simp [hst2]; done)) Z1 sP zV ?_
 refine G2 ?_
 -- ret
 refine G2 ?_
 refine ⟨_, [], An J J Y120.h J Sz120 Z1 (by simp [hst2]), sP, sP, ?_, rfl⟩
 rfl
theorem r2_Sum512 (p : Option Addr) (n c : Nat) (ss : List Sl) (ls : List (List UInt8)) (hss : ss.length = n) (hls : ls.length = n) (hsl : ∀ j, j < n → (ss.getD j Sl.nil).n = (ls.getD j []).length ∧ ((ss.getD j Sl.nil).p = none → (ss.getD j Sl.nil).n = 0)) (F : List UInt8) (hF : ls.flatten = F) (htot : F.length ≤ 90000) (hn : n ≤ 1000000) (s : List UInt8) (hs : Hid (Bz F = s))  : Meets Tryz.prog 121 [.slice p n c] [] (fun W => SeesP W p (ss.map Sl.v) ∧ ∀ j, j < n → SeesP W (ss.getD j Sl.nil).p (Aa (ls.getD j []))) (fun v out => v = agg (Aa s) ∧ out = []) := by
 intro W hW
 have hs64 : s.length = 64 := by rw [← hs.out]; exact sha512_length F
 obtain ⟨k, hk⟩ : ∃ k, Hid (kW = k) := ⟨_, ⟨rfl⟩⟩
 obtain ⟨st, hst⟩ : ∃ k, Hid (startW = k) := ⟨_, ⟨rfl⟩⟩
 obtain ⟨r, hr⟩ : ∃ r, Hid (allW k st F = r) := ⟨_, ⟨rfl⟩⟩
 have hk80 : k.length = 80 := by rw [← hk.out]; rfl
 have hst8 : st.length = 8 := by rw [← hst.out]; rfl
 have hr8 : r.length = 8 := by rw [← hr.out, allW_length]; exact hst8
 have hsum : Hid (sumUp r 64 = s) := ⟨by rw [← hr.out, ← hk.out, ← hst.out]; exact hs.out⟩
 have hrun := fun (x : Sl) (h1 : x.n = F.length) (h2 : x.p = none → x.n = 0) => r2_run st hst8 k hk hk80 x F h1 h2 htot
 rw [hr.out] at hrun
 refine Ac Tryz.func121 J 8 Tryz.ntmps121 J (G2 ?_)
 refine .alloc (cs := (Aa (List.replicate 64 0))) J Zr28 J ?_
 intro n2 hn2 hf2
 refine G4 ?_
 refine .cV J J J J Body129 (r2_Start st hst) tV (G1 ?_)
 refine .call4 J J J J J Body83 (r2_join p n c ss ls hss hls hsl F hF htot hn) (fun w h => ⟨A6 h J hW.1, fun j hj => A6 h J (hW.2 j hj)⟩) ?_
 rintro v5 out5 ⟨s5, rfl, hac5⟩
 refine .cV J J J J Body81 (hrun s5 hac5.num hac5.nil) (fun w h => hac5.see (Lies.of h (by repeat (exact Bf)))) ?_
 refine .cV J J J J Body80 (r2_bytes r hr8 s hsum) tV (.sA J J J J zE Sz28 (by (simp [hs64]; done)) mR sP (by (repeat (first | exact upd0 | apply Upd.seg))) ?_)
 refine G2 ?_
 -- ret
 refine G2 ?_
 refine ⟨_, [], An J J Y28.h J Sz28 mR (by simp [hs64]), sP, sP, ?_, rfl⟩
 rfl


open Ed

theorem bits_even {i : Nat} (h : (i : Int).tmod 2 = 0) : A2 i = 26 := by 
  unfold A2
  have e : (i : Int).tmod 2 = ((i % 2 : Nat) : Int) := rfl
  rw [if_pos oM]
theorem bits_odd {i : Nat} (h : ¬ (i : Int).tmod 2 = 0) : A2 i = 25 := by 
  unfold A2
  have e : (i : Int).tmod 2 = ((i % 2 : Nat) : Int) := rfl
  rw [if_neg oM]
theorem bits_w (i : Nat) : ((UInt64.ofNat (A2 i)).toNat : Int) = ((A2 i : Nat) : Int) := by
  have := bits_26 i
  rw [UInt64.toNat_ofNat', Nat.mod_eq_of_lt oM]
theorem bits_wn (i : Nat) : (UInt64.ofNat (A2 i)).toNat = A2 i := by
  have := bits_26 i
  rw [UInt64.toNat_ofNat', Nat.mod_eq_of_lt oM]
theorem carAt_nine {w : List Nat} {k : Nat} (h : (k : Int) = 9) : Ck w (k + 1) = ((Ck w k).set k ((Ck w k).getD k 0 % 2 ^ A2 k)).set 0 (((Ck w k).set k ((Ck w k).getD k 0 % 2 ^ A2 k)).getD 0 0 + 19 * ((Ck w k).getD k 0 / 2 ^ A2 k)) := stepC_nine oM
theorem carAt_low {w : List Nat} {k : Nat} (h : ¬ (k : Int) = 9) : Ck w (k + 1) = ((Ck w k).set k ((Ck w k).getD k 0 % 2 ^ A2 k)).set (k + 1) (((Ck w k).set k ((Ck w k).getD k 0 % 2 ^ A2 k)).getD (k + 1) 0 + (Ck w k).getD k 0 / 2 ^ A2 k) := stepC_low oM
theorem opB_nine {i : Nat} (h : (i : Int) = 9) : opB i = 26 := if_pos oM
theorem opB_low {i : Nat} (h : ¬ (i : Int) = 9) : opB i = A2 i := if_neg oM
theorem natc {a b : Nat} (h : a = b) : some (i64 (a : Int)) = some (i64 (b : Int)) := by rw [h]

theorem r3_bits (i : Nat) (hi : i < 10) : Meets Tryz.prog 227 [i64 (i : Int)] [] (fun _ => True) (fun v out => v = u64 (UInt64.ofNat (A2 i)) ∧ out = []) := by
 intro W hW
 refine Ac Tryz.func227 J 6 Tryz.ntmps227 J (G2 ?_)
 refine .a J J (show Ag _ _ = some (u64 0) from rfl) (G6 ?_)
 refine .rem_i64 J J J J oM (G3 ?_)
 refine .condP J (fun hc0 => ?_) (fun hc0 => ?_)
 ·
  rw [bits_even hc0]
  refine G2 ?_
  refine .a J J (show Ag _ _ = some (u64 26) from rfl) (G2 ?_)
  -- ret
  refine G3 ?_
  refine ⟨_, [], Al J J, sP, sP, ?_, rfl⟩
  rfl
 rw [bits_odd hc0]
 refine G4 ?_
 refine .a J J (show Ag _ _ = some (u64 25) from rfl) (G2 ?_)
 -- ret
 refine G2 ?_
 refine ⟨_, [], Al J J, sP, sP, ?_, rfl⟩
 rfl
theorem r3_carry (w : List Nat) (h : Mid10 w) : Meets Tryz.prog 228 [agg (Bg w)] [] (fun _ => True) (fun v out => v = agg (Bg (Cl w)) ∧ out = []) := by
 intro W hW
 have hlw := h.len
 obtain ⟨u, hu0⟩ : ∃ u, Hid (Cl w = u) := ⟨_, ⟨rfl⟩⟩
 have hul : u.length = 10 := by rw [← hu0.out]; exact car10_length w
 rw [hu0.out]
 refine Ac Tryz.func228 J 43 Tryz.ntmps228 J (G3 ?_)
 intro n1 hn1 hf1
 refine .alloc (cs := (Bu (List.replicate 10 0))) J Zr225 J ?_
 intro n2 hn2 hf2
 refine G9 ?_
 refine .loop (ι := Nat) (fun k => ⟨[(1, ptr n1 0), (2, ptr n2 0), (3, i64 (k : Int))], [⟨n2, (Bu (List.replicate 10 0)), 225, 10⟩, ⟨n1, Bg (Ck w k), 225, (Bg w).length⟩]⟩) (fun k => k ≤ 10) (fun k => 10 - k) (0) ?_ ?_ ?_
 · omega
 · exact Ad (wk1 rfl (wk1 rfl (wk1 rfl wk0))) (wh1 Z0 (wh1 Z1 wh0)) nD
 rintro k hi
 have hlc := carAt_length h.len k
 refine G7 ?_
 refine .condP J (fun hc0 => ?_) (fun hc0 => ?_)
 ·
  have hk2 : k < 10 := by omega
  have ck := carK h hk2
  have hb26 := bits_26 k
  have hcut := car_cut ((Ck w k).getD k 0) (A2 k)
  have hx := ck.x
  have hq := ck.q
  have hsl : ((Ck w k).set k ((Ck w k).getD k 0 % 2 ^ A2 k)).length = 10 := by rw [List.length_set]; exact hlc
  refine G5 ?_
  refine .draw [(0, 0), (0, 1), (1, 2), (0, 3), (3, 4), (0, 5), (0, 6)] Ap zK (G1 ?_)
  refine .i1 J J J J Cb Sz2 _ J oM (.load1 J J J Y2 J Z1 (by exact get_wds oM) ?_)
  refine G1 ?_
  refine .cV J J J J Body227 (r3_bits k hk2) tV (.shrN ((Ck w k).getD k 0) (A2 k) J J J J (bits_w k) oM (G4 ?_))
  refine .draw [(0, 0), (0, 1), (0, 2), (1, 3), (0, 4), (0, 5), (3, 6), (0, 7), (0, 8), (0, 9), (4, 10)] Ap zK (G2 ?_)
  refine .i1 J J J J Cb Sz2 _ J oM (.load1 J J J Y2 J Z1 (by exact get_wds oM) ?_)
  refine G2 ?_
  refine .cV J J J J Body227 (r3_bits k hk2) tV (.shlN ((Ck w k).getD k 0 / 2 ^ A2 k) (A2 k) J J J J (bits_w k) oM oM (.subN ((Ck w k).getD k 0) ((Ck w k).getD k 0 / 2 ^ A2 k * 2 ^ A2 k) J J J J oM (.i1 J J J J Cb Sz2 _ J oM ?_)))
  rw [hcut.2]
  refine .s1 J J J J J Sz2 Z1 (by (simp [Aj]; omega)) (by exact set_wds _ _ _) zV ?_
  refine G8 ?_
  refine .condP J (fun hc1 => ?_) (fun hc1 => ?_)
  ·
   have hfs := ck.fs oM
   refine .region (.i1 J J J J Cb Sz2 0 J dE (.load1 J J J Y2 J Z1 (by exact get_wds oM) ?_))
   refine G1 ?_
   refine .mulN (19) ((Ck w k).getD k 0 / 2 ^ A2 k) J J J J oM (.addN (((Ck w k).set k ((Ck w k).getD k 0 % 2 ^ A2 k)).getD 0 0) (19 * ((Ck w k).getD k 0 / 2 ^ A2 k)) J J J J oM (.i1 J J J J Cb Sz2 0 J dE (.s1 J J J J J Sz2 Z1 (by (simp [Aj]; omega)) (by exact set_wds _ _ _) zV ?_)))
   refine G9 ?_
   exact ⟨k + 1, by omega, by omega, Ad (wk1 rfl (wk1 rfl (wk1 rfl wk0))) (wh1 Z0 (wh1 (by (rw [carAt_nine hc1]; exact mem1)) wh0)) nD⟩
  have hnx := ck.nx oM
  refine G2 ?_
  refine .addN (k) (1) J J J J oM (G1 ?_)
  refine .addN (k) (1) J J J J oM (.i1 J J J J Cb Sz2 _ J oM (.load1 J J J Y2 J Z1 (by exact get_wds oM) ?_))
  refine G1 ?_
  refine .addN (((Ck w k).set k ((Ck w k).getD k 0 % 2 ^ A2 k)).getD (k + 1) 0) ((Ck w k).getD k 0 / 2 ^ A2 k) J J J J oM (.i1 J J J J Cb Sz2 _ J oM (.s1 J J J J J Sz2 Z1 (by (simp [Aj]; omega)) (by exact set_wds _ _ _) zV ?_))
  refine G9 ?_
  exact ⟨k + 1, by omega, by omega, Ad (wk1 rfl (wk1 rfl (wk1 rfl wk0))) (wh1 Z0 (wh1 (by (rw [carAt_low hc1]; exact mem1)) wh0)) nD⟩
 rw [show Ck w k = u from by rw [show k = 10 by omega, carAt_eq h.len, hu0.out]]
 refine G7 ?_
 refine .lA J J J Cb J Sz225 Z1 (by (simp [Aj, hul]; done)) ?_
 refine .sA J J J J (by exact Cc _) Sz225 (by (simp [Aj, hul]; done)) Z0 sP zU ?_
 refine G2 ?_
 -- ret
 refine G2 ?_
 refine ⟨_, [], An J J Cb J Sz225 Z0 (by simp [Aj, hul]), sP, sP, ?_, rfl⟩
 rfl
theorem op_on {N i k : Nat} (hi : i < 10) (hb : N.testBit (Bm i + k) = true) : ((opAt N i).set i (N / 2 ^ Bm i % 2 ^ k)).set i (((opAt N i).set i (N / 2 ^ Bm i % 2 ^ k)).getD i 0 + 1 * 2 ^ k) = (opAt N i).set i (N / 2 ^ Bm i % 2 ^ (k + 1)) := by
  have hl := opAt_length N i oM
  rw [getD_set' oM, if_pos rfl, List.set_set, op_bit, hb, if_pos rfl, Nat.one_mul]
theorem op_off {N i k : Nat} (hb : N.testBit (Bm i + k) = false) : (opAt N i).set i (N / 2 ^ Bm i % 2 ^ k) = (opAt N i).set i (N / 2 ^ Bm i % 2 ^ (k + 1)) := by
  rw [op_bit, hb, if_neg dE, Nat.add_zero]
theorem op_val {N i k : Nat} (hi : i < 10) (hk : k ≤ 26) : ((opAt N i).set i (N / 2 ^ Bm i % 2 ^ k)).getD i 0 ≤ 67108864 ∧ 2 ^ k ≤ 67108864 := by
  have hl := opAt_length N i oM
  have h1 : 2 ^ k ≤ 2 ^ 26 := Nat.pow_le_pow_right dE hk
  have h2 : N / 2 ^ Bm i % 2 ^ k < 2 ^ k := Nat.mod_lt _ (Nat.pow_pos dE)
  rw [getD_set' oM, if_pos rfl]
  omega
theorem bit_is {a : List UInt8} {m : Nat} (h : (((UInt8.ofNat ((shr8 (a.getD (m / 8) 0) (m % 8)).toNat % 2)).toNat : Int) = 1)) : (le a).testBit m = true := by rw [← bit_rem]; exact decide_eq_true h
theorem bit_isn {a : List UInt8} {m : Nat} (h : ¬ (((UInt8.ofNat ((shr8 (a.getD (m / 8) 0) (m % 8)).toNat % 2)).toNat : Int) = 1)) : (le a).testBit m = false := by rw [← bit_rem]; exact decide_eq_false h

theorem r3_Open (a : List UInt8) (ha : a.length = 32) : Meets Tryz.prog 205 [agg (Aa a)] [] (fun _ => True) (fun v out => v = agg (Bg (openT (le a))) ∧ out = []) := by
 intro W hW
 obtain ⟨u, hu⟩ : ∃ u, Hid (openT (le a) = u) := ⟨_, ⟨rfl⟩⟩
 obtain ⟨D, hD⟩ : ∃ D, Hid (opD (le a) = D) := ⟨_, ⟨rfl⟩⟩
 have hu10 : u.length = 10 := by rw [← hu.out]; exact openT_length _
 have hd10 : D.length = 10 := by rw [← hD.out]; exact opD_length _
 have hc := r3_carry D (by rw [← hD.out]; exact opD_mid _)
 rw [show Cl D = u from by rw [← hD.out]; exact hu.out] at hc
 rw [hu.out]
 have hsl := hd10
 refine Ac Tryz.func205 J 58 Tryz.ntmps205 J (G3 ?_)
 intro n1 hn1 hf1
 refine .alloc (cs := (Bu (List.replicate 10 0))) J Zr225 J ?_
 intro n2 hn2 hf2
 refine G4 ?_
 refine .alloc (cs := (Bu (List.replicate 10 0))) J Zr225 J ?_
 intro n3 hn3 hf3
 refine G14 ?_
 refine .loop (ι := Nat) (fun i => ⟨[(1, ptr n1 0), (2, ptr n2 0), (3, ptr n3 0), (4, i64 ((Bm i : Nat) : Int)), (5, i64 (i : Int))], [⟨n3, Bg (opAt (le a) i), 225, 10⟩, ⟨n2, (Bu (List.replicate 10 0)), 225, 10⟩, ⟨n1, Aa a, 124, (Aa a).length⟩]⟩) (fun i => i ≤ 10) (fun i => 10 - i) (0) ?_ ?_ ?_
 · omega
 · exact Ad (wk1 rfl (wk1 rfl (wk1 rfl (wk1 rfl (wk1 rfl wk0))))) (wh1 (by rw [show Bg (opAt (le a) 0) = Bu (List.replicate 10 0) from rfl]; exact Bx) (wh1 Z1 (wh1 Z2 wh0))) nD
 rintro i hi
 refine G7 ?_
 refine .condP J (fun hc0 => ?_) (fun hc0 => ?_)
 ·
  have hi2 : i < 10 := by omega
  have hb26 := bits_26 i
  have hbw := bits_wn i
  have hop := at_op hi2
  have hopl := op_le i
  have hat := at_le hi2
  refine G7 ?_
  refine .cV J J J J Body227 (r3_bits i hi2) tV (.conv J J J Y112.h Y3.h (cv_u64_i64 oM) ?_)
  rw [bits_wn]
  refine G3 ?_
  refine .join (ι := Unit) (fun _u => ⟨[(1, ptr n1 0), (2, ptr n2 0), (3, ptr n3 0), (4, i64 ((Bm i : Nat) : Int)), (5, i64 (i : Int)), (6, i64 ((opB i : Nat) : Int))], [⟨n3, Bg (opAt (le a) i), 225, 10⟩, ⟨n2, (Bu (List.replicate 10 0)), 225, 10⟩, ⟨n1, Aa a, 124, (Aa a).length⟩]⟩) (fun _u => True) ?_ ?_
  ·
   refine G6 ?_
   refine .condP J (fun hc1 => ?_) (fun hc1 => ?_)
   ·
    refine G4 ?_
    (rw [opB_nine hc1]; exact ⟨(), trivial, Ad (wk1 rfl (wk1 rfl (wk1 rfl (wk1 rfl (wk1 rfl (wk1 rfl wk0)))))) (wh1 Z0 (wh1 Z1 (wh1 Z2 wh0))) nD⟩)
   refine G2 ?_
   (rw [opB_low hc1]; exact ⟨(), trivial, Ad (wk1 rfl (wk1 rfl (wk1 rfl (wk1 rfl (wk1 rfl (wk1 rfl wk0)))))) (wh1 Z0 (wh1 Z1 (wh1 Z2 wh0))) nD⟩)
  intro _u hj
  skip
  refine G7 ?_
  refine .loop (ι := Nat) (fun k => ⟨[(1, ptr n1 0), (2, ptr n2 0), (3, ptr n3 0), (4, i64 ((Bm i : Nat) : Int)), (5, i64 (i : Int)), (6, i64 ((opB i : Nat) : Int)), (7, i64 (k : Int))], [⟨n3, Bg ((opAt (le a) i).set i (le a / 2 ^ Bm i % 2 ^ k)), 225, 10⟩, ⟨n2, (Bu (List.replicate 10 0)), 225, 10⟩, ⟨n1, Aa a, 124, (Aa a).length⟩]⟩) (fun k => k ≤ opB i) (fun k => opB i - k) (0) ?_ ?_ ?_
  · exact Nat.zero_le _
  · exact Ad (wk1 rfl (wk1 rfl (wk1 rfl (wk1 rfl (wk1 rfl (wk1 rfl (wk1 rfl wk0))))))) (wh1 (by rw [opAt_first _ hi2]; exact Bx) (wh1 Z1 (wh1 Z2 wh0))) nD
  rintro k hk
  have hsl : ((opAt (le a) i).set i (le a / 2 ^ Bm i % 2 ^ k)).length = 10 := by rw [List.length_set]; exact opAt_length _ i oM
  refine G5 ?_
  refine two (fun r hr k => Tr.lss J J J J hr k) (fun hs10_20 => ?_) (fun hs10_20 => ?_)
  ·
   have hs10_2 := of_decide_eq_true hs10_20
   skip
   refine G3 ?_
   refine .addN (Bm i) (k) J J J J oM (.lss J J J J (decide_eq_true oM) (G3 ?_))
   refine .cond_t J J (G8 ?_)
   refine .addN (Bm i) (k) J J J J oM (.quoN (Bm i + k) (8) J J J J ⟨by decide, by omega⟩ ?_)
   refine .i1 J J J J Y124.h Sz5 _ J oM (G3 ?_)
   refine .addN (Bm i) (k) J J J J oM (.remN (Bm i + k) (8) J J J J dE (G1 ?_))
   refine .shr_u8 J J J J ((Bm i + k) % 8) (by rw [wordOf_id _ oM]) oM ?_
   refine .rem_u8 J J J J 2 J dE (G3 ?_)
   refine .condP J (fun hc3 => ?_) (fun hc3 => ?_)
   ·
    have hbt := bit_is hc3
    have hov := op_val (N := le a) hi2 (show k ≤ 26 by omega)
    refine G3 ?_
    refine .i1 J J J J Cb Sz2 _ J oM (.load1 J J J Y2 J Z0 (by exact get_wds oM) ?_)
    refine G2 ?_
    refine .shlN 1 k J J J J (wordOf_id _ oM) oM oM (.addN (((opAt (le a) i).set i (le a / 2 ^ Bm i % 2 ^ k)).getD i 0) (1 * 2 ^ k) J J J J oM (.i1 J J J J Cb Sz2 _ J oM (.s1 J J J J J Sz2 Z0 (by (simp [Aj, hsl]; omega)) (by exact set_wds _ _ _) zU ?_)))
    refine G9 ?_
    exact ⟨k + 1, by omega, by omega, Ad (wk1 rfl (wk1 rfl (wk1 rfl (wk1 rfl (wk1 rfl (wk1 rfl (wk1 rfl wk0))))))) (wh1 (by (rw [← op_on hi2 hbt]; exact Bx)) (wh1 Z1 (wh1 Z2 wh0))) nD⟩
   have hbf := bit_isn hc3
   refine G9 ?_
   exact ⟨k + 1, by omega, by omega, Ad (wk1 rfl (wk1 rfl (wk1 rfl (wk1 rfl (wk1 rfl (wk1 rfl (wk1 rfl wk0))))))) (wh1 (by (rw [← op_off hbf]; exact Bx)) (wh1 Z1 (wh1 Z2 wh0))) nD⟩
  have hs10_2 := of_decide_eq_false hs10_20
  skip
  refine G8 ?_
  refine .cond_f J J (G8 ?_)
  refine .cV J J J J Body227 (r3_bits i hi2) tV (.conv J J J Y112.h Y3.h (cv_u64_i64 oM) ?_)
  rw [bits_wn]
  refine .addN (Bm i) (A2 i) J J J J oM (G10 ?_)
  exact ⟨i + 1, by omega, by omega, Ad (wk1 rfl (wk1 rfl (wk1 rfl (wk1 (natc (at_succ hi2)) (wk1 rfl wk0))))) (wh1 (by rw [← opAt_set (le a) hi2, show opB i = k by omega]; exact Bx) (wh1 Z1 (wh1 Z2 wh0))) nD⟩
 rw [show opAt (le a) i = D from by rw [show i = 10 by omega, opAt_ten]; exact hD.out]
 refine G7 ?_
 refine .lA J J J Cb J Sz225 Z0 (by (simp [Aj, hd10]; done)) ?_
 refine .cV J J J J Body228 (hc) tV (.sA J J J J (by exact Cc _) Sz225 (by (simp [Aj, hu10]; done)) Z1 sP zV ?_)
 refine G2 ?_
 -- ret
 refine G2 ?_
 refine ⟨_, [], An J J Cb J Sz225 Z1 (by simp [Aj, hu10]), sP, sP, ?_, rfl⟩
 rfl
theorem close_first (X : Nat) : leb 32 (X % 2 ^ Bm 0) = List.replicate 32 0 := by
  rw [show Bm 0 = 0 from rfl, Nat.pow_zero, Nat.mod_one, leb_zero32]

theorem r3_Close (w : List Nat) (hw : Fit10 w) : Meets Tryz.prog 211 [agg (Bg w)] [] (fun _ => True) (fun v out => v = agg (Aa (fb (fe (v10 w)))) ∧ out = []) := by
 intro W hW
 have hlw := hw.len
 obtain ⟨X, hX⟩ : ∃ X, Hid (low10 w = X) := ⟨_, ⟨rfl⟩⟩
 have hX255 : X < 2 ^ 255 := by rw [← hX.out]; exact low10_lt hw
 have h4 := car10_four hw
 rw [hX.out] at h4
 have hfx : fe (v10 w) = fe X := by rw [← hX.out]; exact (low10_fe w).symm
 rw [hfx]
 have f1 : Fit10 (Cl w) := car10_fit (by have := hw.v; omega)
 have f2 : Fit10 (Cl (Cl w)) := car10_fit (by have := f1.v; omega)
 have f3 : Fit10 (Cl (Cl (Cl w))) := car10_fit (by have := f2.v; omega)
 have c1 := r3_carry w hw.mid
 have c2 := r3_carry _ f1.mid
 have c3 := r3_carry _ f2.mid
 have c4 := r3_carry _ f3.mid
 rw [h4] at c4
 have hl1 := f1.len
 have hl2 := f2.len
 have hl3 := f3.len
 have hDl : (dg X b10).length = 10 := by rw [dg_length]; rfl
 have hDb : ∀ i k, i < 10 → k < A2 i → (((((dg X b10).getD i 0 / 2 ^ k % 2 : Nat) : Int) = 1) ↔ X.testBit (Bm i + k) = true) := fun i k h1 h2 => dg_bit_dec X h1 h2
 have ht := fun h => not_top hX255 h
 have hm := fun i h1 h2 h => not_mid (i := i) hX255 h1 h2 h
 have htop := fun h1 h2 h3 => is_top hX255 h1 h2 h3
 obtain ⟨O, hO⟩ : ∃ O, Hid (leb 32 X = O) := ⟨_, ⟨rfl⟩⟩
 have hOl : O.length = 32 := by rw [← hO.out]; exact Ah _ _
 rw [hO.out] at ht hm htop
 clear f1 f2 f3 h4
 revert c1 c2 c3 c4 hl1 hl2 hl3 hDl hDb
 generalize Cl (Cl (Cl w)) = w3
 generalize Cl (Cl w) = w2
 generalize Cl w = w1
 generalize dg X b10 = D
 intro c1 c2 c3 c4 hl1 hl2 hl3 hDl hDb
 generalize hFB : fb (fe X) = FB at ht hm htop ⊢
 refine Ac Tryz.func211 J 77 Tryz.ntmps211 J (G3 ?_)
 intro n1 hn1 hf1
 refine .alloc (cs := (Aa (List.replicate 32 0))) J A4 J ?_
 intro n2 hn2 hf2
 refine G4 ?_
 refine .lA J J J Cb J Sz225 Z1 (by (simp [Aj, hlw]; done)) ?_
 refine .cV J J J J Body228 (c1) tV (.cV J J J J Body228 (c2) tV (.cV J J J J Body228 (c3) tV (.cV J J J J Body228 (c4) tV (.sA J J J J (by exact Cc _) Sz225 (by (simp [Aj, hDl]; done)) Z1 (by (simp [Aj, hlw]; done)) zV ?_))))
 refine G4 ?_
 refine .alloc (cs := (Aa (List.replicate 32 0))) J A4 J ?_
 intro n3 hn3 hf3
 refine G14 ?_
 refine .loop (ι := Nat) (fun i => ⟨[(1, ptr n1 0), (2, ptr n2 0), (3, ptr n3 0), (4, i64 ((Bm i : Nat) : Int)), (5, i64 (i : Int))], [⟨n3, Aa (leb 32 (X % 2 ^ Bm i)), 124, 32⟩, ⟨n2, Aa (List.replicate 32 0), 124, 32⟩, ⟨n1, Bg D, 225, (Bg w).length⟩]⟩) (fun i => i ≤ 10) (fun i => 10 - i) (0) ?_ ?_ ?_
 · omega
 · exact Ad (wk1 rfl (wk1 rfl (wk1 rfl (wk1 rfl (wk1 rfl wk0))))) (wh1 (by rw [close_first]; exact Bx) (wh1 Z1 (wh1 Z2 wh0))) nD
 rintro i hi
 refine G7 ?_
 refine .condP J (fun hc0 => ?_) (fun hc0 => ?_)
 ·
  have hi2 : i < 10 := by omega
  have hb26 := bits_26 i
  have hbw := bits_wn i
  have hat := at_le hi2
  have hat2 := at_succ hi2
  have hat3 : Bm (i + 1) ≤ 255 := by unfold Bm; omega
  refine G11 ?_
  refine .loop (ι := Nat) (fun k => ⟨[(1, ptr n1 0), (2, ptr n2 0), (3, ptr n3 0), (4, i64 ((Bm i : Nat) : Int)), (5, i64 (i : Int)), (6, i64 (k : Int))], [⟨n3, Aa (leb 32 (X % 2 ^ (Bm i + k))), 124, 32⟩, ⟨n2, Aa (List.replicate 32 0), 124, 32⟩, ⟨n1, Bg D, 225, (Bg w).length⟩]⟩) (fun k => k ≤ A2 i) (fun k => A2 i - k) (0) ?_ ?_ ?_
  · exact Nat.zero_le _
  · exact Ad (wk1 rfl (wk1 rfl (wk1 rfl (wk1 rfl (wk1 rfl (wk1 rfl wk0)))))) (wh1 (by rw [Nat.add_zero]; exact Bx) (wh1 Z1 (wh1 Z2 wh0))) nD
  rintro k hk
  refine G5 ?_
  refine .cV J J J J Body227 (r3_bits i hi2) tV (.conv J J J Y112.h Y3.h (cv_u64_i64 oM) ?_)
  rw [bits_wn]
  refine G3 ?_
  refine .condP J (fun hc1 => ?_) (fun hc1 => ?_)
  ·
   refine G7 ?_
   refine .i1 J J J J Cb Sz2 _ J oM (.load1 J J J Y2 J Z2 (by exact get_wds oM) ?_)
   refine G2 ?_
   refine .shrN (D.getD i 0) (k) J J J J (wordOf_id _ oM) oM (.remN (D.getD i 0 / 2 ^ k) (2) J J J J dE (G3 ?_))
   refine .condP J (fun hc2 => ?_) (fun hc2 => ?_)
   ·
    have hbt := (hDb i k hi2 oM).1 hc2
    have hbs : leb 32 (X % 2 ^ (Bm i + (k + 1))) = _ := (bit_set X (m := Bm i + k) oM hbt).symm
    refine G3 ?_
    refine .addN (Bm i) (k) J J J J oM (.quoN (Bm i + k) (8) J J J J ⟨by decide, by omega⟩ ?_)
    refine G2 ?_
    refine .addN (Bm i) (k) J J J J oM (.quoN (Bm i + k) (8) J J J J ⟨by decide, by omega⟩ ?_)
    refine .i1 J J J J Y124.h Sz5 _ J oM (.load1 J J J Y5.h J Z0 (by exact get_bytes (by (simp [Ah]; omega))) ?_)
    refine G2 ?_
    refine .addN (Bm i) (k) J J J J oM (.remN (Bm i + k) (8) J J J J dE (G1 ?_))
    refine .shl_u8 J J (show Ag _ _ = some (u8 1) from rfl) J ((Bm i + k) % 8) (by rw [wordOf_id _ oM]) oM ?_
    refine .add_u8 J J J J (.i1 J J J J Y124.h Sz5 _ J oM (.s1 J J J J J Sz5 Z0 (by (simp [Ah]; omega)) (by exact Be _ _ _) zU ?_))
    refine G9 ?_
    exact ⟨k + 1, by omega, by omega, Ad (wk1 rfl (wk1 rfl (wk1 rfl (wk1 rfl (wk1 rfl (wk1 rfl wk0)))))) (wh1 (by rw [hbs]; exact Bx) (wh1 Z1 (wh1 Z2 wh0))) nD⟩
   have hbf : X.testBit (Bm i + k) = false := Bool.eq_false_iff.2 (fun e => hc2 ((hDb i k hi2 oM).2 e))
   have hbs : leb 32 (X % 2 ^ (Bm i + (k + 1))) = leb 32 (X % 2 ^ (Bm i + k)) := (bit_off X (Bm i + k) hbf).symm
   refine G9 ?_
   exact ⟨k + 1, by omega, by omega, Ad (wk1 rfl (wk1 rfl (wk1 rfl (wk1 rfl (wk1 rfl (wk1 rfl wk0)))))) (wh1 (by rw [hbs]; exact Bx) (wh1 Z1 (wh1 Z2 wh0))) nD⟩
  refine G8 ?_
  refine .cV J J J J Body227 (r3_bits i hi2) tV (.conv J J J Y112.h Y3.h (cv_u64_i64 oM) ?_)
  rw [bits_wn]
  refine .addN (Bm i) (A2 i) J J J J oM (G10 ?_)
  exact ⟨i + 1, by omega, by omega, Ad (wk1 rfl (wk1 rfl (wk1 rfl (wk1 (natc (at_succ hi2)) (wk1 rfl wk0))))) (wh1 (by rw [← at_succ hi2, show A2 i = k by omega]; exact Bx) (wh1 Z1 (wh1 Z2 wh0))) nD⟩
 rw [show leb 32 (X % 2 ^ Bm i) = O from by rw [show Bm i = 255 from by rw [show i = 10 by omega]; rfl, Nat.mod_eq_of_lt hX255]; exact hO.out]
 refine G8 ?_
 refine .i1 J J J J Y124.h Sz5 0 J dE (G1 ?_)
 refine two (fun r hr k => Tr.lss J J J J hr k) (fun hs13_20 => ?_) (fun hs13_20 => ?_)
 ·
  have hs13_2 := of_decide_eq_true hs13_20
  refine G7 ?_
  refine .cond_t J J (G2 ?_)
  refine .lA J J J Y124.h J Sz124 Z0 (by (simp [hOl]; done)) ?_
  refine .sA J J J J zE Sz124 (by (simp [hOl]; done)) Z1 sP zV ?_
  refine G2 ?_
  -- ret
  refine G3 ?_
  refine ⟨_, [], An J J Y124.h J Sz124 Z1 (by simp [hOl]), sP, sP, ?_, rfl⟩
  exact congrArg (fun l => agg (Aa l)) (ht oM)
 have hs13_2 := of_decide_eq_false hs13_20
 refine G1 ?_
 refine .i1 J J J J Y124.h Sz5 31 J dE (G1 ?_)
 refine two (fun r hr k => Tr.nei J J J J hr k) (fun hs13_60 => ?_) (fun hs13_60 => ?_)
 ·
  have hs13_6 := nd_t hs13_60
  refine G3 ?_
  refine .cond_t J J (G2 ?_)
  refine .lA J J J Y124.h J Sz124 Z0 (by (simp [hOl]; done)) ?_
  refine .sA J J J J zE Sz124 (by (simp [hOl]; done)) Z1 sP zV ?_
  refine G2 ?_
  -- ret
  refine G3 ?_
  refine ⟨_, [], An J J Y124.h J Sz124 Z1 (by simp [hOl]), sP, sP, ?_, rfl⟩
  exact congrArg (fun l => agg (Aa l)) (ht oM)
 have hs13_6 := nd_f hs13_60
 refine G3 ?_
 refine .cond_f J J (G9 ?_)
 refine .loop (ι := Nat) (fun j => ⟨[(2, ptr n2 0), (3, ptr n3 0), (7, i64 (j : Int))], [⟨n3, Aa O, 124, 32⟩, ⟨n2, Aa (List.replicate 32 0), 124, 32⟩]⟩) (fun j => 1 ≤ j ∧ j ≤ 31 ∧ ∀ m, 0 < m → m < j → (O.getD m 0).toNat = 255) (fun j => 31 - j) (1) ?_ ?_ ?_
 · exact ⟨Nat.le_refl _, by omega, fun m h1 h2 => by omega⟩
 · exact Ad (wk1 rfl (wk1 rfl (wk1 rfl wk0))) (wh1 Z0 (wh1 Z1 wh0)) nD
 rintro j ⟨hj1, hj2, hj3⟩
 refine G7 ?_
 refine .condP J (fun hc4 => ?_) (fun hc4 => ?_)
 ·
  refine G7 ?_
  refine .i1 J J J J Y124.h Sz5 _ J oM (G4 ?_)
  refine .condNP J (fun hc5 => ?_) (fun hc5 => ?_)
  ·
   refine G2 ?_
   refine .lA J J J Y124.h J Sz124 Z0 (by (simp [hOl]; done)) ?_
   refine .sA J J J J zE Sz124 (by (simp [hOl]; done)) Z1 sP zV ?_
   refine G2 ?_
   -- ret
   refine G7 ?_
   refine ⟨_, [], An J J Y124.h J Sz124 Z1 (by simp [hOl]), sP, sP, ?_, rfl⟩
   exact congrArg (fun l => agg (Aa l)) (hm j oM oM oM)
  refine G9 ?_
  exact ⟨j + 1, ⟨by omega, by omega, fun m h1 h2 => by
    by_cases e : m = j
    · rw [e]; omega
    · exact hj3 m h1 oM⟩, by omega, Ad (wk1 rfl (wk1 rfl (wk1 rfl wk0))) (wh1 Z0 (wh1 Z1 wh0)) nD⟩
 refine G7 ?_
 refine .i1 J J J J Y124.h Sz5 0 J dE (G1 ?_)
 refine .sub_u8 J J J (show Ag _ _ = some (u8 237) from rfl) (.build (cs := Aa ((O.getD 0 0 - 237) :: List.replicate 31 0)) J J J (fun w => by kernel_rfl) ?_)
 refine .sA J J J J zE Sz124 (by (simp [hOl]; done)) Z1 sP zV ?_
 refine G2 ?_
 -- ret
 refine G2 ?_
 refine ⟨_, [], An J J Y124.h J Sz124 Z1 (by simp [hOl]), sP, sP, ?_, rfl⟩
 exact congrArg (fun l => agg (Aa l)) (htop oM oM (fun m h1 h2 => hj3 m h1 oM))
def p1 (i : Nat) : Nat := 2 ^ A2 i - 1 - (if i = 0 then 18 else 0)
theorem p1_z {i : Nat} (h : (i : Int) = 0) : p1 i = 1 * 2 ^ A2 i - 1 - 18 := by rw [p1, if_pos oM, Nat.one_mul]
theorem p1_n {i : Nat} (h : ¬ (i : Int) = 0) : p1 i = 1 * 2 ^ A2 i - 1 := by rw [p1, if_neg oM, Nat.one_mul, Nat.sub_zero]
theorem p4_p1 (i : Nat) : p4 i = 4 * p1 i := rfl
def cf2 (i k : Nat) : Nat := if i % 2 = 1 ∧ k % 2 = 1 then 2 else 1
theorem cf2_t {i k : Nat} (P : Nat) (h : ((i % 2 : Nat) : Int) = 1) (h2 : ((k % 2 : Nat) : Int) = 1) : cf2 i k * P = 2 * P := by rw [cf2, if_pos ⟨by omega, by omega⟩]
theorem cf2_a {i k : Nat} (P : Nat) (h : ¬ ((i % 2 : Nat) : Int) = 1) : cf2 i k * P = P := by rw [cf2, if_neg (fun e => h oM), Nat.one_mul]
theorem cf2_b {i k : Nat} (P : Nat) (h : ¬ ((k % 2 : Nat) : Int) = 1) : cf2 i k * P = P := by rw [cf2, if_neg (fun e => h oM), Nat.one_mul]
theorem cf2_le (i k : Nat) : cf2 i k ≤ 2 := by unfold cf2; split <;> omega
theorem coef_hi {i k : Nat} (P : Nat) (h : (9 : Int) < ((i + k : Nat) : Int)) : coef i k * P = 19 * (cf2 i k * P) := by
  rw [coef, if_pos oM, Nat.mul_assoc]; rfl
theorem coef_lo {i k : Nat} (P : Nat) (h : ¬ (9 : Int) < ((i + k : Nat) : Int)) : coef i k * P = cf2 i k * P := by
  rw [coef, if_neg oM, Nat.one_mul]; rfl
theorem tRow_bd {x y : List Nat} (hx : Fit10 x) (hy : Fit10 y) {i k m : Nat} (hi : i < 10) (hk : k ≤ 10) (hm : m < 10) : (tRow x y i (tAll x y i) k).getD m 0 ≤ 6845471433603153920 := by
  have h1 := tRow_le hi (fun k hk => term_le hx hy i k hi hk) (tAll_length x y i) k hk m hm
  have h2 := tAll_le (term_le hx hy) i oM m hm
  have h3 : (if (m + 10 - i) % 10 < k then 38 * (2 ^ 27 * 2 ^ 27) else 0) ≤ 38 * (2 ^ 27 * 2 ^ 27) := by split <;> omega
  omega
theorem prod_le {x y : List Nat} (hx : Fit10 x) (hy : Fit10 y) {i k : Nat} (hi : i < 10) (hk : k < 10) : x.getD i 0 * y.getD k 0 ≤ 18014398509481984 :=
  Nat.le_trans (Nat.mul_le_mul (Nat.le_of_lt (hx.all hi)) (Nat.le_of_lt (hy.all hk))) dE

theorem r3_Plus (x y : List Nat) (hx : Fit10 x) (hy : Fit10 y) : Meets Tryz.prog 229 [agg (Bg x), agg (Bg y)] [] (fun _ => True) (fun v out => v = agg (Bg (plusT x y)) ∧ out = []) := by
 intro W hW
 have hxl := hx.len
 have hyl := hy.len
 obtain ⟨A, hA⟩ : ∃ A, Hid (addAt x y 10 = A) := ⟨_, ⟨rfl⟩⟩
 obtain ⟨U, hU⟩ : ∃ U, Hid (plusT x y = U) := ⟨_, ⟨rfl⟩⟩
 have hAl : A.length = 10 := by rw [← hA.out]; exact addAt_length y hx.len 10
 have hUl : U.length = 10 := by rw [← hU.out]; exact car10_length _
 have hc := r3_carry A (by rw [← hA.out]; exact addAt_mid hx hy)
 rw [show Cl A = U from by rw [← hA.out]; exact hU.out] at hc
 rw [hU.out]
 have hal := hAl
 refine Ac Tryz.func229 J 21 Tryz.ntmps229 J (G3 ?_)
 intro n2 hn2 hf2
 refine G1 ?_
 intro n3 hn3 hf3
 refine .alloc (cs := (Bu (List.replicate 10 0))) J Zr225 J ?_
 intro n4 hn4 hf4
 refine G9 ?_
 refine .loop (ι := Nat) (fun i => ⟨[(2, ptr n2 0), (3, ptr n3 0), (4, ptr n4 0), (5, i64 (i : Int))], [⟨n4, (Bu (List.replicate 10 0)), 225, 10⟩, ⟨n3, Bg y, 225, (Bg y).length⟩, ⟨n2, Bg (addAt x y i), 225, (Bg x).length⟩]⟩) (fun i => i ≤ 10) (fun i => 10 - i) (0) ?_ ?_ ?_
 · omega
 · exact Ad (wk1 rfl (wk1 rfl (wk1 rfl (wk1 rfl wk0)))) (wh1 Z0 (wh1 Z1 (wh1 Z2 wh0))) nD
 rintro i hi
 have hal := addAt_length y hxl i
 refine G7 ?_
 refine .condP J (fun hc0 => ?_) (fun hc0 => ?_)
 ·
  have hi2 : i < 10 := by omega
  have hxi : (addAt x y i).getD i 0 = x.getD i 0 + 0 := by rw [addAt_get hx.len i oM i hi2, if_neg oM]
  have hx2 := hx.all hi2
  have hy2 := hy.all hi2
  refine G4 ?_
  refine .draw [(0, 0), (0, 1), (0, 2), (1, 3), (0, 4), (0, 5), (1, 6), (0, 7), (0, 8), (4, 9)] Ap zK (G2 ?_)
  refine .i1 J J J J Cb Sz2 _ J oM (.load1 J J J Y2 J Z2 (by exact get_wds oM) ?_)
  refine G1 ?_
  refine .i1 J J J J Cb Sz2 _ J oM (.load1 J J J Y2 J Z1 (by exact get_wds oM) ?_)
  refine .addN ((addAt x y i).getD i 0) (y.getD i 0) J J J J oM (.i1 J J J J Cb Sz2 _ J oM (.s1 J J J J J Sz2 Z2 (by (simp [Aj, hal]; omega)) (by exact set_wds _ _ _) (by exact upd2) ?_))
  refine G9 ?_
  exact ⟨i + 1, by omega, by omega, Ad (wk1 rfl (wk1 rfl (wk1 rfl (wk1 rfl wk0)))) (wh1 Z0 (wh1 Z1 (wh1 Z2 wh0))) nD⟩
 rw [show addAt x y i = A from by rw [show i = 10 by omega]; exact hA.out]
 refine G7 ?_
 refine .lA J J J Cb J Sz225 Z2 (by (simp [Aj, hAl]; done)) ?_
 refine .cV J J J J Body228 (hc) tV (.sA J J J J (by exact Cc _) Sz225 (by (simp [Aj, hUl]; done)) Z0 sP zU ?_)
 refine G2 ?_
 -- ret
 refine G2 ?_
 refine ⟨_, [], An J J Cb J Sz225 Z0 (by simp [Aj, hUl]), sP, sP, ?_, rfl⟩
 rfl
theorem r3_Minus (x y : List Nat) (hx : Fit10 x) (hy : Fit10 y) : Meets Tryz.prog 226 [agg (Bg x), agg (Bg y)] [] (fun _ => True) (fun v out => v = agg (Bg (minusT x y)) ∧ out = []) := by
 intro W hW
 have hxl := hx.len
 have hyl := hy.len
 obtain ⟨A, hA⟩ : ∃ A, Hid (subAt x y 10 = A) := ⟨_, ⟨rfl⟩⟩
 obtain ⟨U, hU⟩ : ∃ U, Hid (minusT x y = U) := ⟨_, ⟨rfl⟩⟩
 have hAl : A.length = 10 := by rw [← hA.out]; exact subAt_length y hx.len 10
 have hUl : U.length = 10 := by rw [← hU.out]; exact car10_length _
 have hc := r3_carry A (by rw [← hA.out]; exact subAt_mid hx)
 rw [show Cl A = U from by rw [← hA.out]; exact hU.out] at hc
 rw [hU.out]
 have hal := hAl
 refine Ac Tryz.func226 J 33 Tryz.ntmps226 J (G3 ?_)
 intro n2 hn2 hf2
 refine G1 ?_
 intro n3 hn3 hf3
 refine .alloc (cs := (Bu (List.replicate 10 0))) J Zr225 J ?_
 intro n4 hn4 hf4
 refine G9 ?_
 refine .loop (ι := Nat) (fun i => ⟨[(2, ptr n2 0), (3, ptr n3 0), (4, ptr n4 0), (5, i64 (i : Int))], [⟨n4, (Bu (List.replicate 10 0)), 225, 10⟩, ⟨n3, Bg y, 225, (Bg y).length⟩, ⟨n2, Bg (subAt x y i), 225, (Bg x).length⟩]⟩) (fun i => i ≤ 10) (fun i => 10 - i) (0) ?_ ?_ ?_
 · omega
 · exact Ad (wk1 rfl (wk1 rfl (wk1 rfl (wk1 rfl wk0)))) (wh1 Z0 (wh1 Z1 (wh1 Z2 wh0))) nD
 rintro i hi
 have hal := subAt_length y hxl i
 refine G7 ?_
 refine .condP J (fun hc0 => ?_) (fun hc0 => ?_)
 ·
  have hi2 : i < 10 := by omega
  have hxi : (subAt x y i).getD i 0 = x.getD i 0 + 0 := by rw [subAt_get hx.len i oM i hi2, if_neg oM]
  have hx2 := hx.all hi2
  have hy2 := hy.all hi2
  have hpg := p4_ge hy hi2
  have hpl := p4_le i
  rw [p4_p1] at hpg hpl
  have hbg := bits_ge i
  have hbl := bits_le i
  have hb26 := bits_26 i
  have hsub : (subAt x y i).getD i 0 + 4 * p1 i - y.getD i 0 = (subAt x y i).getD i 0 + (p4 i - y.getD i 0) := by rw [p4_p1]; omega
  refine G7 ?_
  refine .cV J J J J Body227 (r3_bits i hi2) tV (.shlN (1) (A2 i) J J J J (bits_w i) oM oM (.subN (1 * 2 ^ A2 i) (1) J J J J oM (G3 ?_)))
  refine .join (ι := Unit) (fun _u => ⟨[(2, ptr n2 0), (3, ptr n3 0), (4, ptr n4 0), (5, i64 (i : Int)), (6, i64 ((p1 i : Nat) : Int))], [⟨n4, (Bu (List.replicate 10 0)), 225, 10⟩, ⟨n3, Bg y, 225, (Bg y).length⟩, ⟨n2, Bg (subAt x y i), 225, (Bg x).length⟩]⟩) (fun _u => True) ?_ ?_
  ·
   refine G6 ?_
   refine .condP J (fun hc1 => ?_) (fun hc1 => ?_)
   ·
    refine G2 ?_
    refine .subN (1 * 2 ^ A2 i - 1) (18) J J J J oM (G3 ?_)
    (rw [p1_z hc1]; exact ⟨(), trivial, Ad (wk1 rfl (wk1 rfl (wk1 rfl (wk1 rfl (wk1 rfl wk0))))) (wh1 Z0 (wh1 Z1 (wh1 Z2 wh0))) nD⟩)
   refine G2 ?_
   (rw [p1_n hc1]; exact ⟨(), trivial, Ad (wk1 rfl (wk1 rfl (wk1 rfl (wk1 rfl (wk1 rfl wk0))))) (wh1 Z0 (wh1 Z1 (wh1 Z2 wh0))) nD⟩)
  intro _u hj
  skip
  refine .draw [(0, 0), (0, 1), (0, 2), (1, 3), (0, 4), (0, 5), (0, 6), (0, 7), (0, 8), (1, 9), (0, 10), (0, 11), (4, 12)] Ap zK (G2 ?_)
  refine .i1 J J J J Cb Sz2 _ J oM (.load1 J J J Y2 J Z2 (by exact get_wds oM) ?_)
  refine G1 ?_
  refine .mulN (4) (p1 i) J J J J oM (.addN ((subAt x y i).getD i 0) (4 * p1 i) J J J J oM (G1 ?_))
  refine .i1 J J J J Cb Sz2 _ J oM (.load1 J J J Y2 J Z1 (by exact get_wds oM) ?_)
  refine .subN ((subAt x y i).getD i 0 + 4 * p1 i) (y.getD i 0) J J J J oM (.i1 J J J J Cb Sz2 _ J oM ?_)
  rw [hsub]
  refine .s1 J J J J J Sz2 Z2 (by (simp [Aj, hal]; omega)) (by exact set_wds _ _ _) (by exact upd2) ?_
  refine G9 ?_
  exact ⟨i + 1, by omega, by omega, Ad (wk1 rfl (wk1 rfl (wk1 rfl (wk1 rfl wk0)))) (wh1 Z0 (wh1 Z1 (wh1 Z2 wh0))) nD⟩
 rw [show subAt x y i = A from by rw [show i = 10 by omega]; exact hA.out]
 refine G7 ?_
 refine .lA J J J Cb J Sz225 Z2 (by (simp [Aj, hAl]; done)) ?_
 refine .cV J J J J Body228 (hc) tV (.sA J J J J (by exact Cc _) Sz225 (by (simp [Aj, hUl]; done)) Z0 sP zU ?_)
 refine G2 ?_
 -- ret
 refine G2 ?_
 refine ⟨_, [], An J J Cb J Sz225 Z0 (by simp [Aj, hUl]), sP, sP, ?_, rfl⟩
 rfl
theorem r3_Times (x y : List Nat) (hx : Fit10 x) (hy : Fit10 y) : Meets Tryz.prog 212 [agg (Bg x), agg (Bg y)] [] (fun _ => True) (fun v out => v = agg (Bg (mulT x y)) ∧ out = []) := by
 intro W hW
 have hxl := hx.len
 have hyl := hy.len
 obtain ⟨A, hA⟩ : ∃ A, Hid (tAll x y 10 = A) := ⟨_, ⟨rfl⟩⟩
 obtain ⟨U, hU⟩ : ∃ U, Hid (Cl (tAll x y 10) = U) := ⟨_, ⟨rfl⟩⟩
 have hAl : A.length = 10 := by rw [← hA.out]; exact tAll_length x y 10
 have hUl : U.length = 10 := by rw [← hU.out]; exact car10_length _
 have hc := r3_carry A (by rw [← hA.out]; exact tAll_mid hx hy)
 rw [show Cl A = U from by rw [← hA.out]; exact hU.out] at hc
 have hcc := r3_carry U (by rw [← hU.out]; exact car10_mid (tAll_v10 hx hy))
 obtain ⟨V, hV⟩ : ∃ V, Hid (mulT x y = V) := ⟨_, ⟨rfl⟩⟩
 have hVl : V.length = 10 := by rw [← hV.out]; exact car10_length _
 rw [show Cl U = V from by rw [← hU.out]; exact hV.out] at hcc
 rw [hV.out]
 have hal := hAl
 refine Ac Tryz.func212 J 56 Tryz.ntmps212 J (G3 ?_)
 intro n2 hn2 hf2
 refine G1 ?_
 intro n3 hn3 hf3
 refine .alloc (cs := (Bu (List.replicate 10 0))) J Zr225 J ?_
 intro n4 hn4 hf4
 refine G4 ?_
 refine .alloc (cs := (Bu (List.replicate 10 0))) J Zr225 J ?_
 intro n5 hn5 hf5
 refine G9 ?_
 refine .loop (ι := Nat) (fun i => ⟨[(2, ptr n2 0), (3, ptr n3 0), (4, ptr n4 0), (5, ptr n5 0), (6, i64 (i : Int))], [⟨n5, Bg (tAll x y i), 225, 10⟩, ⟨n4, (Bu (List.replicate 10 0)), 225, 10⟩, ⟨n3, Bg y, 225, (Bg y).length⟩, ⟨n2, Bg x, 225, (Bg x).length⟩]⟩) (fun i => i ≤ 10) (fun i => 10 - i) (0) ?_ ?_ ?_
 · omega
 · exact Ad (wk1 rfl (wk1 rfl (wk1 rfl (wk1 rfl (wk1 rfl wk0))))) (wh1 (by rw [show Bg (tAll x y 0) = Bu (List.replicate 10 0) from rfl]; exact Bx) (wh1 Z1 (wh1 Z2 (wh1 Z3 wh0)))) nD
 rintro i hi
 refine G7 ?_
 refine .condP J (fun hc0 => ?_) (fun hc0 => ?_)
 ·
  have hi2 : i < 10 := by omega
  refine G10 ?_
  refine .loop (ι := Nat) (fun k => ⟨[(2, ptr n2 0), (3, ptr n3 0), (4, ptr n4 0), (5, ptr n5 0), (6, i64 (i : Int)), (7, i64 (k : Int))], [⟨n5, Bg (tRow x y i (tAll x y i) k), 225, 10⟩, ⟨n4, (Bu (List.replicate 10 0)), 225, 10⟩, ⟨n3, Bg y, 225, (Bg y).length⟩, ⟨n2, Bg x, 225, (Bg x).length⟩]⟩) (fun k => k ≤ 10) (fun k => 10 - k) (0) ?_ ?_ ?_
  · omega
  · exact Ad (wk1 rfl (wk1 rfl (wk1 rfl (wk1 rfl (wk1 rfl (wk1 rfl wk0)))))) (wh1 Z0 (wh1 Z1 (wh1 Z2 (wh1 Z3 wh0)))) nD
  rintro k hk
  have hal := tRow_length x y i (tAll_length x y i) k
  refine G7 ?_
  refine .condP J (fun hc1 => ?_) (fun hc1 => ?_)
  ·
   have hk2 : k < 10 := by omega
   have hxy := prod_le hx hy hi2 hk2
   have hcf : cf2 i k * (x.getD i 0 * y.getD k 0) ≤ 2 * 18014398509481984 := Nat.mul_le_mul (cf2_le i k) hxy
   have hco := term_le hx hy i k hi2 hk2
   have hbd := tRow_bd hx hy (m := (i + k) % 10) hi2 (show k ≤ 10 by omega) (Nat.mod_lt _ dE)
   refine G5 ?_
   refine .draw [(0, 0), (0, 1), (1, 2), (0, 3), (0, 4), (1, 5), (0, 6), (0, 7)] Ap zK (G1 ?_)
   refine .i1 J J J J Cb Sz2 _ J oM (.load1 J J J Y2 J Z3 (by exact get_wds oM) ?_)
   refine G1 ?_
   refine .i1 J J J J Cb Sz2 _ J oM (.load1 J J J Y2 J Z2 (by exact get_wds oM) ?_)
   refine .mulN (x.getD i 0) (y.getD k 0) J J J J oM (G3 ?_)
   refine .join (ι := Unit) (fun _u => ⟨[(2, ptr n2 0), (3, ptr n3 0), (4, ptr n4 0), (5, ptr n5 0), (6, i64 (i : Int)), (7, i64 (k : Int)), (8, i64 ((cf2 i k * (x.getD i 0 * y.getD k 0) : Nat) : Int))], [⟨n5, Bg (tRow x y i (tAll x y i) k), 225, 10⟩, ⟨n4, (Bu (List.replicate 10 0)), 225, 10⟩, ⟨n3, Bg y, 225, (Bg y).length⟩, ⟨n2, Bg x, 225, (Bg x).length⟩]⟩) (fun _u => True) ?_ ?_
   ·
    refine G3 ?_
    refine .remN (i) (2) J J J J dE (two (fun r hr k => Tr.eqi J J J J hr k) (fun hs9_20 => ?_) (fun hs9_20 => ?_))
    ·
     have hs9_2 := of_decide_eq_true hs9_20
     refine G2 ?_
     refine .remN (k) (2) J J J J dE (two (fun r hr k => Tr.eqi J J J J hr k) (fun hs9_60 => ?_) (fun hs9_60 => ?_))
     ·
      have hs9_6 := of_decide_eq_true hs9_60
      refine G3 ?_
      refine .cond_t J J (G2 ?_)
      refine .mulN (2) (x.getD i 0 * y.getD k 0) J J J J oM (G3 ?_)
      (rw [cf2_t _ hs9_2 hs9_6]; exact ⟨(), trivial, Ad (wk1 rfl (wk1 rfl (wk1 rfl (wk1 rfl (wk1 rfl (wk1 rfl (wk1 rfl wk0))))))) (wh1 Z0 (wh1 Z1 (wh1 Z2 (wh1 Z3 wh0)))) nD⟩)
     have hs9_6 := of_decide_eq_false hs9_60
     refine G3 ?_
     refine .cond_f J J (G2 ?_)
     (rw [cf2_b _ hs9_6]; exact ⟨(), trivial, Ad (wk1 rfl (wk1 rfl (wk1 rfl (wk1 rfl (wk1 rfl (wk1 rfl (wk1 rfl wk0))))))) (wh1 Z0 (wh1 Z1 (wh1 Z2 (wh1 Z3 wh0)))) nD⟩)
    have hs9_2 := of_decide_eq_false hs9_20
    refine G7 ?_
    refine .cond_f J J (G2 ?_)
    (rw [cf2_a _ hs9_2]; exact ⟨(), trivial, Ad (wk1 rfl (wk1 rfl (wk1 rfl (wk1 rfl (wk1 rfl (wk1 rfl (wk1 rfl wk0))))))) (wh1 Z0 (wh1 Z1 (wh1 Z2 (wh1 Z3 wh0)))) nD⟩)
   intro _u hj
   skip
   refine .join (ι := Unit) (fun _u => ⟨[(2, ptr n2 0), (3, ptr n3 0), (4, ptr n4 0), (5, ptr n5 0), (6, i64 (i : Int)), (7, i64 (k : Int)), (8, i64 ((coef i k * (x.getD i 0 * y.getD k 0) : Nat) : Int))], [⟨n5, Bg (tRow x y i (tAll x y i) k), 225, 10⟩, ⟨n4, (Bu (List.replicate 10 0)), 225, 10⟩, ⟨n3, Bg y, 225, (Bg y).length⟩, ⟨n2, Bg x, 225, (Bg x).length⟩]⟩) (fun _u => True) ?_ ?_
   ·
    refine G4 ?_
    refine .addN (i) (k) J J J J oM (G3 ?_)
    refine .condP J (fun hc3 => ?_) (fun hc3 => ?_)
    ·
     refine G2 ?_
     refine .mulN (19) (cf2 i k * (x.getD i 0 * y.getD k 0)) J J J J oM (G3 ?_)
     (rw [coef_hi _ hc3]; exact ⟨(), trivial, Ad (wk1 rfl (wk1 rfl (wk1 rfl (wk1 rfl (wk1 rfl (wk1 rfl (wk1 rfl wk0))))))) (wh1 Z0 (wh1 Z1 (wh1 Z2 (wh1 Z3 wh0)))) nD⟩)
    refine G2 ?_
    (rw [coef_lo _ hc3]; exact ⟨(), trivial, Ad (wk1 rfl (wk1 rfl (wk1 rfl (wk1 rfl (wk1 rfl (wk1 rfl (wk1 rfl wk0))))))) (wh1 Z0 (wh1 Z1 (wh1 Z2 (wh1 Z3 wh0)))) nD⟩)
   intro _u hj
   skip
   refine G3 ?_
   refine .addN (i) (k) J J J J oM (.remN (i + k) (10) J J J J dE (G2 ?_))
   refine .addN (i) (k) J J J J oM (.remN (i + k) (10) J J J J dE (.i1 J J J J Cb Sz2 _ J oM (.load1 J J J Y2 J Z0 (by exact get_wds oM) ?_)))
   refine G1 ?_
   refine .addN ((tRow x y i (tAll x y i) k).getD ((i + k) % 10) 0) (coef i k * (x.getD i 0 * y.getD k 0)) J J J J oM (.i1 J J J J Cb Sz2 _ J oM (.s1 J J J J J Sz2 Z0 (by (simp [Aj, hal]; omega)) (by exact set_wds _ _ _) zU ?_))
   refine G9 ?_
   exact ⟨k + 1, by omega, by omega, Ad (wk1 rfl (wk1 rfl (wk1 rfl (wk1 rfl (wk1 rfl (wk1 rfl wk0)))))) (wh1 Z0 (wh1 Z1 (wh1 Z2 (wh1 Z3 wh0)))) nD⟩
  refine G12 ?_
  exact ⟨i + 1, by omega, by omega, Ad (wk1 rfl (wk1 rfl (wk1 rfl (wk1 rfl (wk1 rfl wk0))))) (wh1 (by rw [show tAll x y (i + 1) = (tRow x y i (tAll x y i) k) from by rw [show k = 10 by omega]; rfl]; exact Bx) (wh1 Z1 (wh1 Z2 (wh1 Z3 wh0)))) nD⟩
 rw [show tAll x y i = A from by rw [show i = 10 by omega]; exact hA.out]
 refine G7 ?_
 refine .lA J J J Cb J Sz225 Z0 (by (simp [Aj, hAl]; done)) ?_
 refine .cV J J J J Body228 (hc) tV (.cV J J J J Body228 (hcc) tV (.sA J J J J (by exact Cc _) Sz225 (by (simp [Aj, hVl]; done)) Z1 sP zV ?_))
 refine G2 ?_
 -- ret
 refine G2 ?_
 refine ⟨_, [], An J J Cb J Sz225 Z1 (by simp [Aj, hVl]), sP, sP, ?_, rfl⟩
 rfl
end Go.Proofs.YtfcbgdkpagcbbaaGreat
end

section
namespace Go.Proofs.YtfcbgdkpagcbbaaGreat
open Go Hw

open Ed

theorem o_fit {a : List UInt8} (ha : a.length = 32) : Fit10 (openT (le a)) := openT_fit (le32 ha)
theorem o_v {a : List UInt8} (ha : a.length = 32) : fe (v10 (openT (le a))) = fe (le a) := openT_v (le32 ha)
theorem r3_Close_v (w : List Nat) (hw : Fit10 w) (X : Fp) (h : fe (v10 w) = X) : Meets Tryz.prog 211 [agg (Bg w)] [] (fun _ => True) (fun v out => v = agg (Aa (fb X)) ∧ out = []) := by
  rw [← h]; exact r3_Close w hw

theorem r3_Rest (a : List UInt8) (ha : a.length = 32) : Meets Tryz.prog 204 [agg (Aa a)] [] (fun _ => True) (fun v out => v = agg (Aa (fb (fe (le a)))) ∧ out = []) := by
 intro W hW
 refine Ac Tryz.func204 J 6 Tryz.ntmps204 J (G3 ?_)
 intro n1 hn1 hf1
 refine .alloc (cs := (Aa (List.replicate 32 0))) J A4 J ?_
 intro n2 hn2 hf2
 refine G4 ?_
 refine .lA J J J Y124.h J Sz124 Z1 (by (simp [ha]; done)) ?_
 refine .cV J J J J Body205 (r3_Open (a) (ha)) tV (.cV J J J J Body211 (r3_Close_v (_) (o_fit ha) (_) (o_v ha)) tV (.sA J J J J zE Sz124 zF Z0 sP zU ?_))
 refine G2 ?_
 -- ret
 refine G2 ?_
 refine ⟨_, [], An J J Y124.h J Sz124 Z0 (by simp [Am]), sP, sP, ?_, rfl⟩
 rfl

theorem r3_Canon (a : List UInt8) (ha : a.length = 32) : Meets Tryz.prog 201 [agg (Aa a)] [] (fun _ => True) (fun v out => v = .bool (decide (fb (fe (le a)) = a)) ∧ out = []) := by
 intro W hW
 refine Ac Tryz.func201 J 7 Tryz.ntmps201 J (G3 ?_)
 intro n1 hn1 hf1
 refine G4 ?_
 refine .draw [(1, 0), (1, 2), (3, 1), (0, 3), (0, 4)] Ap zK (.lA J J J Y124.h J Sz124 Z0 (by (simp [ha]; done)) ?_)
 refine .lA J J J Y124.h J Sz124 Z0 (by (simp [ha]; done)) ?_
 refine .cV J J J J Body204 (r3_Rest (a) (ha)) tV (.eql_bytes J J J J Tryz.eqGuardType124 Y124.h Y5.h Sz5 zF (by (simp [ha]; done)) J ?_)
 refine G3 ?_
 -- ret
 refine G2 ?_
 refine ⟨_, [], Al J J, sP, sP, ?_, rfl⟩
 rfl

theorem r3_Same (a b : List UInt8) (ha : a.length = 32) (hb : b.length = 32) : Meets Tryz.prog 231 [agg (Aa a), agg (Aa b)] [] (fun _ => True) (fun v out => v = .bool (decide (fe (le a) = fe (le b))) ∧ out = []) := by
 intro W hW
 refine Ac Tryz.func231 J 10 Tryz.ntmps231 J (G3 ?_)
 intro n2 hn2 hf2
 refine G1 ?_
 intro n3 hn3 hf3
 refine G4 ?_
 refine .draw [(1, 0), (1, 2), (3, 1), (3, 3), (0, 4), (0, 5)] Ap zK (.lA J J J Y124.h J Sz124 Z1 (by (simp [ha]; done)) ?_)
 refine .lA J J J Y124.h J Sz124 Z0 (by (simp [hb]; done)) ?_
 refine .cV J J J J Body204 (r3_Rest (a) (ha)) tV (.cV J J J J Body204 (r3_Rest (b) (hb)) tV (.eql_bytes J J J J Tryz.eqGuardType124 Y124.h Y5.h Sz5 zF zF J (G3 ?_)))
 -- ret
 refine G2 ?_
 refine ⟨_, [], Al J J, sP, sP, ?_, rfl⟩
 rw [fb_dec]

theorem odd_byte2 (x : Fp) : decide (((UInt8.ofNat (((fb x).getD 0 0).toNat % 2)).toNat : Int) = 1) = decide (x.val % 2 = 1) := by
  have e : (UInt8.ofNat (((fb x).getD 0 0).toNat % 2)).toNat = x.val % 2 := by
    rw [fb_head, UInt8.toNat_ofNat', UInt8.toNat_ofNat']
    omega
  rw [e]
  congr 1
  exact propext ⟨fun h => by omega, fun h => by omega⟩

theorem r3_Odd (a : List UInt8) (ha : a.length = 32) : Meets Tryz.prog 166 [agg (Aa a)] [] (fun _ => True) (fun v out => v = .bool (decide ((fe (le a)).val % 2 = 1)) ∧ out = []) := by
 intro W hW
 refine Ac Tryz.func166 J 8 Tryz.ntmps166 J (G3 ?_)
 intro n1 hn1 hf1
 refine G5 ?_
 refine .lA J J J Y124.h J Sz124 Z0 (by (simp [ha]; done)) ?_
 refine .cV J J J J Body204 (r3_Rest (a) (ha)) tV (.idxA1 J J J J Y124.h Sz5 Y5.h J 0 J oM (by rfl) ?_)
 refine .rem_u8 J J J J 2 J dE (G4 ?_)
 -- ret
 refine G2 ?_
 refine ⟨_, [], Al J J, sP, sP, ?_, rfl⟩
 exact congrArg Value.bool (odd_byte2 _)

theorem r3_Of (x : UInt64) : Meets Tryz.prog 170 [u64 x] [] (fun _ => True) (fun v out => v = agg (Aa (fb (fe x.toNat))) ∧ out = []) := by
 intro W hW
 have hpl : True := trivial
 refine Ac Tryz.func170 J 18 Tryz.ntmps170 J (G2 ?_)
 refine .alloc (cs := (Aa (List.replicate 32 0))) J A4 J ?_
 intro n2 hn2 hf2
 refine G4 ?_
 refine .alloc (cs := (Aa (List.replicate 32 0))) J A4 J ?_
 intro n3 hn3 hf3
 refine G9 ?_
 refine .loop (ι := Nat) (fun k => ⟨[(0, u64 x), (2, ptr n2 0), (3, ptr n3 0), (4, i64 (k : Int))], [⟨n3, Aa (padW 32 x.toNat k), 124, 32⟩, ⟨n2, Aa (List.replicate 32 0), 124, 32⟩]⟩) (fun k => k ≤ 8) (fun k => 8 - k) (0) ?_ ?_ ?_
 · omega
 · exact Ad (wk1 rfl (wk1 rfl (wk1 rfl (wk1 rfl wk0)))) (wh1 (by rw [padW_zero]; exact Bx) (wh1 Z1 wh0)) nD
 rintro k hi
 have hpl := padW_length 32 x.toNat k oM
 refine G7 ?_
 refine .condP J (fun hc0 => ?_) (fun hc0 => ?_)
 ·
  refine G8 ?_
  refine .mul_i64 J J J J oM (G1 ?_)
  refine .shr_u64 J J J J (8 * k) (by rw [wordOf_id _ oM]; omega) oM ?_
  refine G1 ?_
  refine .i1 J J J J Y124.h Sz5 _ J oM (.s1 J J J J J Sz5 Z0 (by (simp [hpl]; omega)) (by exact Be _ _ _) zU ?_)
  refine G9 ?_
  exact ⟨k + 1, by omega, by omega, Ad (wk1 rfl (wk1 rfl (wk1 rfl (wk1 rfl wk0)))) (wh1 (by rw [← zero_set x k oM]; exact Bx) (wh1 Z1 wh0)) nD⟩
 obtain rfl : k = 8 := by omega
 rw [pad_small] at *
 refine G7 ?_
 refine .lA J J J Y124.h J Sz124 Z0 (by (simp [hpl]; done)) ?_
 refine .sA J J J J zE Sz124 (by (simp [hpl]; done)) Z1 sP zV ?_
 refine G2 ?_
 -- ret
 refine G2 ?_
 refine ⟨_, [], An J J Y124.h J Sz124 Z1 (by simp [hpl]), sP, sP, ?_, rfl⟩
 rw [fe_small]
theorem mul_ab {a b : List UInt8} (ha : a.length = 32) (hb : b.length = 32) : fe (v10 (mulT (openT (le a)) (openT (le b)))) = fe (le a) * fe (le b) := by rw [mulT_v (o_fit ha).len (o_fit hb).len, o_v ha, o_v hb]
theorem sub_ab {a b : List UInt8} (ha : a.length = 32) (hb : b.length = 32) : fe (v10 (minusT (openT (le a)) (openT (le b)))) = fe (le a) - fe (le b) := by rw [minusT_v (o_fit ha).len (o_fit hb), o_v ha, o_v hb]

theorem r3_Mul (a b : List UInt8) (ha : a.length = 32) (hb : b.length = 32) : Meets Tryz.prog 169 [agg (Aa a), agg (Aa b)] [] (fun _ => True) (fun v out => v = agg (Aa (fb (fe (le a) * fe (le b)))) ∧ out = []) := by
 intro W hW
 refine Ac Tryz.func169 J 11 Tryz.ntmps169 J (G3 ?_)
 intro n2 hn2 hf2
 refine G1 ?_
 intro n3 hn3 hf3
 refine .alloc (cs := (Aa (List.replicate 32 0))) J A4 J ?_
 intro n4 hn4 hf4
 refine G3 ?_
 refine .draw [(1, 0), (1, 2), (3, 1), (3, 3), (3, 4), (3, 5), (4, 6)] Ap zK (.lA J J J Y124.h J Sz124 Z2 (by (simp [ha]; done)) ?_)
 refine .lA J J J Y124.h J Sz124 Z1 (by (simp [hb]; done)) ?_
 refine .cV J J J J Body205 (r3_Open (a) (ha)) tV (.cV J J J J Body205 (r3_Open (b) (hb)) tV (.cV J J J J Body212 (r3_Times (_) (_) (o_fit ha) (o_fit hb)) tV (.cV J J J J Body211 (r3_Close_v (_) (A9 (o_fit ha) (o_fit hb)) (_) (mul_ab ha hb)) tV (.sA J J J J zE Sz124 zF Z0 sP zU ?_))))
 refine G2 ?_
 -- ret
 refine G2 ?_
 refine ⟨_, [], An J J Y124.h J Sz124 Z0 (by simp [Am]), sP, sP, ?_, rfl⟩
 rfl

theorem r3_Sub (a b : List UInt8) (ha : a.length = 32) (hb : b.length = 32) : Meets Tryz.prog 202 [agg (Aa a), agg (Aa b)] [] (fun _ => True) (fun v out => v = agg (Aa (fb (fe (le a) - fe (le b)))) ∧ out = []) := by
 intro W hW
 refine Ac Tryz.func202 J 11 Tryz.ntmps202 J (G3 ?_)
 intro n2 hn2 hf2
 refine G1 ?_
 intro n3 hn3 hf3
 refine .alloc (cs := (Aa (List.replicate 32 0))) J A4 J ?_
 intro n4 hn4 hf4
 refine G3 ?_
 refine .draw [(1, 0), (1, 2), (3, 1), (3, 3), (3, 4), (3, 5), (4, 6)] Ap zK (.lA J J J Y124.h J Sz124 Z2 (by (simp [ha]; done)) ?_)
 refine .lA J J J Y124.h J Sz124 Z1 (by (simp [hb]; done)) ?_
 refine .cV J J J J Body205 (r3_Open (a) (ha)) tV (.cV J J J J Body205 (r3_Open (b) (hb)) tV (.cV J J J J Body226 (r3_Minus (_) (_) (o_fit ha) (o_fit hb)) tV (.cV J J J J Body211 (r3_Close_v (_) (minusT_fit (o_fit ha) (o_fit hb)) (_) (sub_ab ha hb)) tV (.sA J J J J zE Sz124 zF Z0 sP zU ?_))))
 refine G2 ?_
 -- ret
 refine G2 ?_
 refine ⟨_, [], An J J Y124.h J Sz124 Z0 (by simp [Am]), sP, sP, ?_, rfl⟩
 rfl

theorem r3_Neg (a : List UInt8) (ha : a.length = 32) : Meets Tryz.prog 203 [agg (Aa a)] [] (fun _ => True) (fun v out => v = agg (Aa (fb (- fe (le a)))) ∧ out = []) := by
 intro W hW
 refine Ac Tryz.func203 J 6 Tryz.ntmps203 J (G3 ?_)
 intro n1 hn1 hf1
 refine .alloc (cs := (Aa (List.replicate 32 0))) J A4 J ?_
 intro n2 hn2 hf2
 refine G4 ?_
 refine .build (cs := Aa (List.replicate 32 0)) J J J (fun w => by kernel_rfl) ?_
 refine .lA J J J Y124.h J Sz124 Z1 (by (simp [ha]; done)) ?_
 refine .cV J J J J Body202 (r3_Sub (List.replicate 32 0) (a) (rfl) (ha)) tV (.sA J J J J zE Sz124 zF Z0 sP zU ?_)
 refine G2 ?_
 -- ret
 refine G2 ?_
 refine ⟨_, [], An J J Y124.h J Sz124 Z0 (by simp [Am]), sP, sP, ?_, rfl⟩
 rw [show fe (le (List.replicate 32 0)) - fe (le a) = - fe (le a) from by rw [show fe (le (List.replicate 32 0)) = 0 by kernel_rfl]; grind]

theorem oneT_l : oneT.length = 10 := rfl

theorem r3_Power (x : List Nat) (e : List UInt8) (hx : Fit10 x) (he : e.length = 32) : Meets Tryz.prog 230 [agg (Bg x), agg (Aa e)] [] (fun _ => True) (fun v out => v = agg (Bg (powT x (le e) 256)) ∧ out = []) := by
 intro W hW
 have hxl := hx.len
 have hE := le32 he
 obtain ⟨U, hU⟩ : ∃ U, Hid (powT x (le e) 256 = U) := ⟨_, ⟨rfl⟩⟩
 have hUl : U.length = 10 := by rw [← hU.out]; exact (powT_ok hx hE 256 (Nat.le_refl _)).1.len
 rw [hU.out]
 have hpl := hUl
 refine Ac Tryz.func230 J 29 Tryz.ntmps230 J (G3 ?_)
 intro n2 hn2 hf2
 refine G1 ?_
 intro n3 hn3 hf3
 refine .alloc (cs := (Bu (List.replicate 10 0))) J Zr225 J ?_
 intro n4 hn4 hf4
 refine G4 ?_
 refine .build (cs := Bg oneT) J J J (fun w => by kernel_rfl) ?_
 refine .alloc (cs := (Bu (List.replicate 10 0))) J Zr225 J ?_
 intro n5 hn5 hf5
 refine .sA J J J J (by exact Cc _) Sz225 (by (simp [Aj, oneT_l]; done)) Z0 sP zU ?_
 refine G9 ?_
 refine .loop (ι := Nat) (fun j => ⟨[(2, ptr n2 0), (3, ptr n3 0), (4, ptr n4 0), (5, ptr n5 0), (6, i64 (255 - (j : Int)))], [⟨n5, Bg (powT x (le e) j), 225, 10⟩, ⟨n4, (Bu (List.replicate 10 0)), 225, 10⟩, ⟨n3, Aa e, 124, (Aa e).length⟩, ⟨n2, Bg x, 225, (Bg x).length⟩]⟩) (fun j => j ≤ 256) (fun j => 256 - j) (0) ?_ ?_ ?_
 · omega
 · exact Ad (wk1 rfl (wk1 rfl (wk1 rfl (wk1 rfl (wk1 rfl wk0))))) (wh1 (by rw [show powT x (le e) 0 = oneT from rfl]; exact Bx) (wh1 Z1 (wh1 Z2 (wh1 Z3 wh0)))) nD
 rintro j hj
 obtain ⟨hfit, hfv⟩ := powT_ok hx hE j hj
 have hpl := hfit.len
 have hml : (mulT (powT x (le e) j) (powT x (le e) j)).length = 10 := mulT_length _ _
 refine G7 ?_
 refine .condP J (fun hc0 => ?_) (fun hc0 => ?_)
 ·
  have hj2 : j < 256 := by omega
  rw [show (255 : Int) - (j : Int) = ((255 - j : Nat) : Int) by omega]
  refine G6 ?_
  refine .lA J J J Cb J Sz225 Z0 (by (simp [Aj, hpl]; done)) ?_
  refine .lA J J J Cb J Sz225 Z0 (by (simp [Aj, hpl]; done)) ?_
  refine .cV J J J J Body212 (r3_Times _ _ hfit hfit) tV (.sA J J J J (by exact Cc _) Sz225 (by (simp [Aj, mulT_length]; done)) Z0 (by (simp [Aj, hpl]; done)) zU ?_)
  refine G5 ?_
  refine .quoN (255 - j) (8) J J J J ⟨by decide, by omega⟩ ?_
  refine .i1 J J J J Y124.h Sz5 _ J oM (G2 ?_)
  refine .remN (255 - j) (8) J J J J dE (G1 ?_)
  refine .shr_u8 J J J J ((255 - j) % 8) (by rw [wordOf_id _ oM]) oM ?_
  refine .rem_u8 J J J J 2 J dE (G3 ?_)
  refine .condP J (fun hc1 => ?_) (fun hc1 => ?_)
  ·
   have hbt := bit_is hc1
   refine .region (.lA J J J Cb J Sz225 Z0 (by (simp [Aj, mulT_length]; done)) ?_)
   refine .lA J J J Cb J Sz225 Z3 (by (simp [Aj, hxl]; done)) ?_
   refine .cV J J J J Body212 (r3_Times _ _ (A9 hfit hfit) hx) tV (.sA J J J J (by exact Cc _) Sz225 (by (simp [Aj, mulT_length]; done)) Z0 (by (simp [Aj, mulT_length]; done)) zU ?_)
   refine G9 ?_
   exact ⟨j + 1, by omega, by omega, Ad (wk1 rfl (wk1 rfl (wk1 rfl (wk1 rfl (wk1 (congrArg (fun z => some (i64 z)) (show ((255 - j : Nat) : Int) - 1 = 255 - ((j + 1 : Nat) : Int) by omega)) wk0))))) (wh1 (by (rw [powT_t hbt]; exact Bx)) (wh1 Z1 (wh1 Z2 (wh1 Z3 wh0)))) nD⟩
  have hbf := bit_isn hc1
  refine G9 ?_
  exact ⟨j + 1, by omega, by omega, Ad (wk1 rfl (wk1 rfl (wk1 rfl (wk1 rfl (wk1 (congrArg (fun z => some (i64 z)) (show ((255 - j : Nat) : Int) - 1 = 255 - ((j + 1 : Nat) : Int) by omega)) wk0))))) (wh1 (by (rw [powT_f hbf]; exact Bx)) (wh1 Z1 (wh1 Z2 (wh1 Z3 wh0)))) nD⟩
 rw [show powT x (le e) j = U from by rw [show j = 256 by omega]; exact hU.out]
 refine G7 ?_
 refine .lA J J J Cb J Sz225 Z0 (by (simp [Aj, hUl]; done)) ?_
 refine .sA J J J J (by exact Cc _) Sz225 (by (simp [Aj, hUl]; done)) Z1 sP zV ?_
 refine G2 ?_
 -- ret
 refine G2 ?_
 refine ⟨_, [], An J J Cb J Sz225 Z1 (by simp [Aj, hUl]), sP, sP, ?_, rfl⟩
 rfl
theorem pow_ab {a e : List UInt8} (ha : a.length = 32) (he : e.length = 32) : fe (v10 (powT (openT (le a)) (le e) 256)) = Ci (fe (le a)) (le e) := by rw [powT_all (o_fit ha) (le32 he), o_v ha]

theorem r3_Pow (a e : List UInt8) (ha : a.length = 32) (he : e.length = 32) : Meets Tryz.prog 213 [agg (Aa a), agg (Aa e)] [] (fun _ => True) (fun v out => v = agg (Aa (fb (Ci (fe (le a)) (le e)))) ∧ out = []) := by
 intro W hW
 refine Ac Tryz.func213 J 10 Tryz.ntmps213 J (G3 ?_)
 intro n2 hn2 hf2
 refine G1 ?_
 intro n3 hn3 hf3
 refine .alloc (cs := (Aa (List.replicate 32 0))) J A4 J ?_
 intro n4 hn4 hf4
 refine G3 ?_
 refine .draw [(1, 0), (1, 2), (3, 1), (3, 3), (3, 4), (4, 5)] Ap zK (.lA J J J Y124.h J Sz124 Z2 (by (simp [ha]; done)) ?_)
 refine .lA J J J Y124.h J Sz124 Z1 (by (simp [he]; done)) ?_
 refine .cV J J J J Body205 (r3_Open (a) (ha)) tV (.cV J J J J Body230 (r3_Power (_) (e) (o_fit ha) (he)) tV (.cV J J J J Body211 (r3_Close_v (_) ((powT_ok (o_fit ha) (le32 he) 256 (Nat.le_refl _)).1) (_) (pow_ab ha he)) tV (.sA J J J J zE Sz124 zF Z0 sP zU ?_)))
 refine G2 ?_
 -- ret
 refine G2 ?_
 refine ⟨_, [], An J J Y124.h J Sz124 Z0 (by simp [Am]), sP, sP, ?_, rfl⟩
 rfl

theorem half_rem {p : UInt8} : ((UInt8.ofNat (p.toNat % 2)).toNat : Int) = 1 ↔ p.toNat % 2 = 1 := by
  rw [UInt8.toNat_ofNat']
  omega
theorem ones_three (n : Nat) : ((List.replicate 32 (255 : UInt8)).set 0 (UInt8.ofNat (237 - n))).set 31 127 = leb 32 (le (onesB (UInt8.ofNat (237 - n)) 127) / 2 ^ 0) := by
  rw [Nat.pow_zero, Nat.div_one, ones_leb]; rfl
theorem half_pow (V j : Nat) : leb 32 (V / 2 ^ (j + 1)) = B5 (V / 2 ^ j) 32 := by
  rw [halfAt_end, Nat.div_div_eq_div_mul, ← Nat.pow_succ]

theorem r3_shifted (n k : Nat) (hn : n ≤ 237) (hk : k ≤ 9) : Meets Tryz.prog 214 [i64 (n : Int), i64 (k : Int)] [] (fun _ => True) (fun v out => v = agg (Aa (expT n k)) ∧ out = []) := by
 intro W hW
 obtain ⟨V, hV⟩ : ∃ V, Hid (le (onesB (UInt8.ofNat (237 - n)) 127) = V) := ⟨_, ⟨rfl⟩⟩
 have hV2 : V < 2 ^ 256 := by rw [← hV.out]; exact le32 (onesB_length _ _)
 have hx : expT n k = leb 32 (V / 2 ^ k) := by rw [expT, hV.out]
 rw [hx]
 have hon := ones_three n
 rw [hV.out] at hon
 have hhl : True := trivial
 have hsl : True := trivial
 refine Ac Tryz.func214 J 50 Tryz.ntmps214 J (G2 ?_)
 refine .alloc (cs := (Aa (List.replicate 32 0))) J A4 J ?_
 intro n4 hn4 hf4
 refine G4 ?_
 refine .alloc (cs := (Aa (List.replicate 32 0))) J A4 J ?_
 intro n5 hn5 hf5
 refine G9 ?_
 refine .loop (ι := Nat) (fun i => ⟨[(0, i64 (n : Int)), (1, i64 (k : Int)), (4, ptr n4 0), (5, ptr n5 0), (6, i64 (i : Int))], [⟨n5, Aa (List.replicate i 255 ++ List.replicate (32 - i) 0), 124, 32⟩, ⟨n4, Aa (List.replicate 32 0), 124, 32⟩]⟩) (fun i => i ≤ 32) (fun i => 32 - i) (0) ?_ ?_ ?_
 · omega
 · exact Ad (wk1 rfl (wk1 rfl (wk1 rfl (wk1 rfl (wk1 rfl wk0))))) (wh1 Z0 (wh1 Z1 wh0)) nD
 rintro i hi
 refine G7 ?_
 refine .condP J (fun hc0 => ?_) (fun hc0 => ?_)
 ·
  have hi2 : i < 32 := by omega
  refine G6 ?_
  refine .i1 J J J J Y124.h Sz5 _ J oM (.s1 J J J (show Ag _ _ = some (u8 255) from rfl) J Sz5 Z0 (by (simp; omega)) (by exact Be _ _ _) zU ?_)
  refine G9 ?_
  exact ⟨i + 1, by omega, by omega, Ad (wk1 rfl (wk1 rfl (wk1 rfl (wk1 rfl (wk1 rfl wk0))))) (wh1 (by rw [← ones_step hi2]; exact Bx) (wh1 Z1 wh0)) nD⟩
 obtain rfl : i = 32 := by omega
 rw [show ((List.replicate 32 255 ++ List.replicate (32 - 32) 0) : List UInt8) = List.replicate 32 255 from rfl]
 refine G8 ?_
 refine .subN (237) (n) J J J J oM (G1 ?_)
 refine .i1 J J J J Y124.h Sz5 0 J dE ?_
 rw [byteOf_nat]
 refine .s1 J J J J J Sz5 Z0 sP (by exact Be _ _ _) zU ?_
 refine .i1 J J J J Y124.h Sz5 31 J dE (.s1 J J J (show Ag _ _ = some (u8 127) from rfl) J Sz5 Z0 sP (by exact Be _ _ _) zU ?_)
 refine G4 ?_
 refine .loop (ι := Nat) (fun j => ⟨[(1, i64 ((k : Int) - (j : Int))), (4, ptr n4 0), (5, ptr n5 0)], [⟨n5, Aa (leb 32 (V / 2 ^ j)), 124, 32⟩, ⟨n4, Aa (List.replicate 32 0), 124, 32⟩]⟩) (fun j => j ≤ k) (fun j => k - j) (0) ?_ ?_ ?_
 · exact Nat.zero_le _
 · exact Ad (wk1 (congrArg (fun z => some (i64 z)) (show (k : Int) = (k : Int) - ((0 : Nat) : Int) by omega)) (wk1 rfl (wk1 rfl wk0))) (wh1 (by rw [← hon]; exact Bx) (wh1 Z1 wh0)) nD
 rintro j hj
 refine G7 ?_
 refine .condP J (fun hc1 => ?_) (fun hc1 => ?_)
 ·
  have hVj : V / 2 ^ j < 2 ^ 256 := Nat.lt_of_le_of_lt (Nat.div_le_self _ _) hV2
  refine G10 ?_
  refine .loop (ι := Nat) (fun i => ⟨[(1, i64 ((k : Int) - (j : Int))), (4, ptr n4 0), (5, ptr n5 0), (7, i64 (i : Int))], [⟨n5, Aa (B5 (V / 2 ^ j) i), 124, 32⟩, ⟨n4, Aa (List.replicate 32 0), 124, 32⟩]⟩) (fun i => i ≤ 32) (fun i => 32 - i) (0) ?_ ?_ ?_
  · omega
  · exact Ad (wk1 rfl (wk1 rfl (wk1 rfl (wk1 rfl wk0)))) (wh1 (by rw [halfAt_zero]; exact Bx) (wh1 Z1 wh0)) nD
  rintro i hi
  have hhl := halfAt_length (V / 2 ^ j) i hi
  have hsl : ((B5 (V / 2 ^ j) i).set i (UInt8.ofNat (((B5 (V / 2 ^ j) i).getD i 0).toNat / 2))).length = 32 := by rw [List.length_set]; exact hhl
  refine G7 ?_
  refine .condP J (fun hc2 => ?_) (fun hc2 => ?_)
  ·
   have hi2 : i < 32 := by omega
   refine G8 ?_
   refine .i1 J J J J Y124.h Sz5 _ J oM (G1 ?_)
   refine .quo_u8 J J J J 2 J dE (.i1 J J J J Y124.h Sz5 _ J oM (.s1 J J J J J Sz5 Z0 (by (simp [hhl]; omega)) (by exact Be _ _ _) zU ?_))
   refine G5 ?_
   refine two (fun r hr k => Tr.lss J J J J hr k) (fun hs13_10 => ?_) (fun hs13_10 => ?_)
   ·
    have hs13_1 := of_decide_eq_true hs13_10
    refine G2 ?_
    refine .addN (i) (1) J J J J oM (.i1 J J J J Y124.h Sz5 _ J oM (G1 ?_))
    refine .rem_u8 J J J J 2 J dE (two (fun r hr k => Tr.eqi J J J J hr k) (fun hs13_80 => ?_) (fun hs13_80 => ?_))
    ·
     have hs13_8 := of_decide_eq_true hs13_80
     refine G3 ?_
     refine .cond_t J J (G3 ?_)
     refine .i1 J J J J Y124.h Sz5 _ J oM (G1 ?_)
     refine .add_u8 J J J (show Ag _ _ = some (u8 128) from rfl) (.i1 J J J J Y124.h Sz5 _ J oM (.s1 J J J J J Sz5 Z0 (by (simp [hhl]; omega)) (by exact Be _ _ _) zU ?_))
     refine G9 ?_
     exact ⟨i + 1, by omega, by omega, Ad (wk1 rfl (wk1 rfl (wk1 rfl (wk1 rfl wk0)))) (wh1 (by (rw [← half_odd (V / 2 ^ j) oM (half_rem.1 hs13_8)]; exact Bx)) (wh1 Z1 wh0)) nD⟩
    have hs13_8 := of_decide_eq_false hs13_80
    refine G3 ?_
    refine .cond_f J J (G9 ?_)
    exact ⟨i + 1, by omega, by omega, Ad (wk1 rfl (wk1 rfl (wk1 rfl (wk1 rfl wk0)))) (wh1 (by (rw [← half_even (V / 2 ^ j) oM (fun e => hs13_8 (half_rem.2 e))]; exact Bx)) (wh1 Z1 wh0)) nD⟩
   have hs13_1 := of_decide_eq_false hs13_10
   refine G10 ?_
   refine .cond_f J J (G9 ?_)
   exact ⟨i + 1, by omega, by omega, Ad (wk1 rfl (wk1 rfl (wk1 rfl (wk1 rfl wk0)))) (wh1 (by (rw [show i = 31 by omega, ← half_last _ hVj]; exact Bx)) (wh1 Z1 wh0)) nD⟩
  refine G12 ?_
  exact ⟨j + 1, by omega, by omega, Ad (wk1 (congrArg (fun z => some (i64 z)) (show (k : Int) - (j : Int) - 1 = (k : Int) - ((j + 1 : Nat) : Int) by omega)) (wk1 rfl (wk1 rfl wk0))) (wh1 (by rw [half_pow, show (32 : Nat) = i by omega]; exact Bx) (wh1 Z1 wh0)) nD⟩
 obtain rfl : j = k := by omega
 refine G7 ?_
 refine .lA J J J Y124.h J Sz124 Z0 (by (simp [Ah]; done)) ?_
 refine .sA J J J J zE Sz124 (by (simp [Ah]; done)) Z1 sP zV ?_
 refine G2 ?_
 -- ret
 refine G2 ?_
 refine ⟨_, [], An J J Y124.h J Sz124 Z1 (by simp [Ah]), sP, sP, ?_, rfl⟩
 rfl
theorem r3_Pow_e (a e : List UInt8) (ha : a.length = 32) (he : e.length = 32) (N : Nat) (X : Fp) (hN : le e = N) (hX : fe (le a) = X) : Meets Tryz.prog 213 [agg (Aa a), agg (Aa e)] [] (fun _ => True) (fun v out => v = agg (Aa (fb (Ci X N))) ∧ out = []) := by
  rw [← hN, ← hX]; exact r3_Pow a e ha he

theorem r3_Inv (a : List UInt8) (ha : a.length = 32) : Meets Tryz.prog 171 [agg (Aa a)] [] (fun _ => True) (fun v out => v = agg (Aa (fb (finv (fe (le a))))) ∧ out = []) := by
 intro W hW
 obtain ⟨E, hE⟩ : ∃ E, Hid (expT 2 0 = E) := ⟨_, ⟨rfl⟩⟩
 have hEl : E.length = 32 := by rw [← hE.out]; exact expT_length _ _
 have hs := r3_shifted 2 0 dE dE
 rw [hE.out] at hs
 have hp := r3_Pow_e a E ha hEl (PF - 2) _ (by rw [← hE.out]; exact expT_inv) rfl
 rw [show Ci (fe (le a)) (PF - 2) = finv (fe (le a)) from rfl] at hp
 obtain ⟨R, hR⟩ : ∃ R, Hid (finv (fe (le a)) = R) := ⟨_, ⟨rfl⟩⟩
 rw [hR.out] at hp ⊢
 refine Ac Tryz.func171 J 6 Tryz.ntmps171 J (G3 ?_)
 intro n1 hn1 hf1
 refine .alloc (cs := (Aa (List.replicate 32 0))) J A4 J ?_
 intro n2 hn2 hf2
 refine G3 ?_
 refine .draw [(1, 0), (3, 1), (3, 2), (4, 3)] Ap zK (.lA J J J Y124.h J Sz124 Z1 (by (simp [ha]; done)) ?_)
 refine .cV J J J J Body214 (hs) tV (.cV J J J J Body213 (hp) tV (.sA J J J J zE Sz124 zF Z0 sP zU ?_))
 refine G2 ?_
 -- ret
 refine G2 ?_
 refine ⟨_, [], An J J Y124.h J Sz124 Z0 (by simp [Am]), sP, sP, ?_, rfl⟩
 rfl

end Go.Proofs.YtfcbgdkpagcbbaaGreat
end

section
namespace Go.Proofs.YtfcbgdkpagcbbaaGreat
open Go Hw

theorem ref_L  : Meets Tryz.prog 217 [] [] (fun _ => True) (fun v out => v = agg (Aa (leb 32 L)) ∧ out = []) := by
 intro W hW
 refine Ac Tryz.func217 J 2 Tryz.ntmps217 J (G2 ?_)
 refine .alloc (cs := (Aa (List.replicate 32 0))) J A4 J ?_
 intro n0 hn0 hf0
 refine G4 ?_
 refine .build (cs := Aa (leb 32 L)) J J J (fun w => by kernel_rfl) ?_
 refine .sA J J J J zB Sz124 (by (simp [Ah]; done)) Z0 sP zU ?_
 refine G2 ?_
 -- ret
 refine G2 ?_
 refine ⟨_, [], An J J Y124.h J Sz124 Z0 (by simp [Ah]), sP, sP, ?_, rfl⟩
 rfl

theorem ref_below (a b : List UInt8) (ha : a.length = 32) (hb : b.length = 32) : Meets Tryz.prog 216 [agg (Aa a), agg (Aa b)] [] (fun _ => True) (fun v out => v = .bool (decide (le a < le b)) ∧ out = []) := by
  intro W hW
  refine Ac Tryz.func216 J 24 Tryz.ntmps216 J (G3 ?_)
  intro n2 hn2 hf2
  refine G1 ?_
  intro n3 hn3 hf3
  refine G10 ?_
  refine .loop (ι := Nat) (fun k => ⟨[(2, ptr n2 0), (3, ptr n3 0), (5, i64 (31 - (k : Int)))], [⟨n3, Aa b, 124, (Aa b).length⟩, ⟨n2, Aa a, 124, (Aa a).length⟩]⟩) (fun k => k ≤ 32 ∧ a.drop (32 - k) = b.drop (32 - k)) (fun k => 32 - k) (0) ?_ ?_ ?_
  · exact ⟨by omega, by rw [List.drop_of_length_le oM, List.drop_of_length_le oM]⟩
  · exact Ad (wk1 rfl (wk1 rfl (wk1 rfl wk0))) (wh1 Z0 (wh1 Z1 wh0)) nD
  rintro k ⟨hk, hd⟩
  refine G7 ?_
  refine .condP J (fun hc0 => ?_) (fun hc0 => ?_)
  ·
    have hk2 : k < 32 := by omega
    refine G5 ?_
    refine .draw [(0, 0), (0, 1), (1, 2), (0, 3), (0, 4), (1, 5), (0, 6)] Ap zK (G1 ?_)
    refine .i1 J J J J Y124.h Sz5 (31 - k) oM oM (G2 ?_)
    refine .i1 J J J J Y124.h Sz5 (31 - k) oM oM (G4 ?_)
    refine .condNP J (fun hc1 => ?_) (fun hc1 => ?_)
    ·
      have hlt := le_lt_at ha hb (i := 31 - k) oM (by rw [show 31 - k + 1 = 32 - k by omega]; exact hd) oM
      refine .seq (.draw [(0, 0), (0, 1), (1, 2), (0, 3), (0, 4), (1, 5), (0, 6), (0, 7)] Ap zK (G1 ?_))
      refine .i1 J J J J Y124.h Sz5 (31 - k) oM oM (G2 ?_)
      refine .i1 J J J J Y124.h Sz5 (31 - k) oM oM (G5 ?_)
      -- ret
      refine G7 ?_
      refine ⟨_, [], Al J J, sP, sP, ?_, rfl⟩
      first
        | (rw [show decide (le a < le b) = decide (((a.getD (31 - k) 0).toNat : Int) < ((b.getD (31 - k) 0).toNat : Int)) from decide_eq_decide.2 (hlt.symm.trans oM)])
        | (have he : a = b := by simpa using hd
           rw [he, decide_eq_false (Nat.lt_irrefl _)])
    refine G9 ?_
    exact ⟨k + 1, ⟨by omega, drop_step ha hb oM (by rw [show 32 - (k + 1) + 1 = 32 - k by omega]; exact hd) (by rw [show 32 - (k + 1) = 31 - k by omega]; omega)⟩, by omega, Ad (wk1 rfl (wk1 rfl (wk1 (by rw [show (31 - ((k + 1 : Nat) : Int)) = 31 - (k : Int) - 1 by omega]; rfl) wk0))) (wh1 Z0 (wh1 Z1 wh0)) nD⟩
  obtain rfl : k = 32 := by omega
  refine G10 ?_
  -- ret
  refine G2 ?_
  refine ⟨_, [], Al J J, sP, sP, ?_, rfl⟩
  first
    | (rw [show decide (le a < le b) = decide (((a.getD (31 - k) 0).toNat : Int) < ((b.getD (31 - k) 0).toNat : Int)) from decide_eq_decide.2 (hlt.symm.trans oM)])
    | (have he : a = b := by simpa using hd
       rw [he, decide_eq_false (Nat.lt_irrefl _)])
theorem ref_plus (a b : List UInt8) (ha : a.length = 32) (hb : b.length = 32) (hla : le a < L) (hlb : le b < L) : Meets Tryz.prog 174 [agg (Aa a), agg (Aa b)] [] (fun _ => True) (fun v out => v = agg (Aa (leb 32 ((le a + le b) % L))) ∧ out = []) := by
 intro W hW
 have hL : L < 2 ^ 253 := by decide
 refine Ac Tryz.func174 J 61 Tryz.ntmps174 J (G3 ?_)
 intro n2 hn2 hf2
 refine G1 ?_
 intro n3 hn3 hf3
 refine .alloc (cs := (Aa (List.replicate 32 0))) J A4 J ?_
 intro n4 hn4 hf4
 refine G4 ?_
 refine .alloc (cs := (Aa (List.replicate 32 0))) J A4 J ?_
 intro n5 hn5 hf5
 refine G7 ?_
 refine .join (ι := Unit) (fun _u => ⟨[(4, ptr n4 0), (5, ptr n5 0)], [⟨n5, Aa (leb 32 (le a + le b)), 124, 32⟩, ⟨n4, Aa (List.replicate 32 0), 124, 32⟩]⟩) (fun _u => True) ?_ ?_
 ·
  refine G6 ?_
  refine .loop (ι := Nat) (fun k => ⟨[(2, ptr n2 0), (3, ptr n3 0), (4, ptr n4 0), (5, ptr n5 0), (6, i64 (((le (a.take k) + le (b.take k)) / 256 ^ k : Nat) : Int)), (7, i64 (k : Int))], [⟨n5, Aa (padW 32 (le (a.take k) + le (b.take k)) k), 124, 32⟩, ⟨n4, Aa (List.replicate 32 0), 124, 32⟩, ⟨n3, Aa b, 124, (Aa b).length⟩, ⟨n2, Aa a, 124, (Aa a).length⟩]⟩) (fun k => k ≤ 32) (fun k => 32 - k) (0) ?_ ?_ ?_
  · omega
  · exact Ad (wk1 rfl (wk1 rfl (wk1 rfl (wk1 rfl (wk1 (by rw [List.take_zero, List.take_zero]; rfl) (wk1 rfl wk0)))))) (wh1 (by rw [padW_zero]; exact Bx) (wh1 Z1 (wh1 Z2 (wh1 Z3 wh0)))) nD
  rintro k hk
  have hpl := padW_length 32 (le (a.take k) + le (b.take k)) k hk
  have hcb : (le (a.take k) + le (b.take k)) / 256 ^ k ≤ 1 := by
   have h1 := le_take_lt a k
   have h2 := le_take_lt b k
   rw [← Nat.lt_succ_iff, Nat.div_lt_iff_lt_mul (Nat.pow_pos dE)]
   omega
  have hcn : (0 : Int) ≤ (((le (a.take k) + le (b.take k)) / 256 ^ k : Nat) : Int) := Int.natCast_nonneg _
  have hcb2 : (((le (a.take k) + le (b.take k)) / 256 ^ k : Nat) : Int) ≤ 1 := Int.ofNat_le.2 hcb
  refine G7 ?_
  refine .condP J (fun hc0 => ?_) (fun hc0 => ?_)
  ·
   have hk2 : k < 32 := by omega
   have ha8 := (a.getD k 0).toNat_lt
   have hb8 := (b.getD k 0).toNat_lt
   have hs : (((le (a.take k) + le (b.take k)) / 256 ^ k : Nat) : Int) + ((a.getD k 0).toNat : Int) + ((b.getD k 0).toNat : Int) = (((le (a.take k) + le (b.take k)) / 256 ^ k + ((a.getD k 0).toNat + (b.getD k 0).toNat) : Nat) : Int) := by rw [Int.natCast_add, Int.natCast_add, Int.add_assoc]
   refine G5 ?_
   refine .draw [(0, 0), (0, 1), (0, 2), (1, 3), (0, 4), (0, 5), (0, 6), (0, 7), (1, 8), (0, 9), (0, 10), (0, 11)] Ap zK (G2 ?_)
   refine .i1 J J J J Y124.h Sz5 _ J oM (G4 ?_)
   refine .i1 J J J J Y124.h Sz5 _ J oM (G10 ?_)
   refine .rem_i64 J J J J oM (G1 ?_)
   refine .i1 J J J J Y124.h Sz5 _ J oM (.s1 J J J J J Sz5 Z0 (by (simp; omega)) (by exact Be _ _ _) zU ?_)
   refine G4 ?_
   refine .quo_i64 J J J J oM (G10 ?_)
   have hst : le (a.take (k + 1)) + le (b.take (k + 1)) = (le (a.take k) + le (b.take k)) + 256 ^ k * ((a.getD k 0).toNat + (b.getD k 0).toNat) := by
    rw [le_take_succ a k oM, le_take_succ b k oM, Nat.mul_add]; omega
   exact ⟨k + 1, by omega, by omega, Ad (wk1 rfl (wk1 rfl (wk1 rfl (wk1 rfl (wk1 (by rw [hst, ← carry_step _ _ _ _ hs]; rfl) (wk1 rfl wk0)))))) (wh1 (by rw [hst, ← padW_step 32 _ _ k oM _ hs, byteOf_mod]; exact Bx) (wh1 Z1 (wh1 Z2 (wh1 Z3 wh0)))) nD⟩
  obtain rfl : k = 32 := by omega
  have hta : le (a.take 32) = le a := by rw [List.take_of_length_le oM]
  have htb : le (b.take 32) = le b := by rw [List.take_of_length_le oM]
  refine G5 ?_
  refine ⟨(), trivial, Ad (wk1 J (wk1 J wk0)) (wh1 (by rw [← padW_all, ← hta, ← htb]; exact Bx) (wh1 Z1 wh0)) nD⟩
 intro _u hj
 skip
 refine G2 ?_
 refine .draw [(1, 0), (3, 1), (3, 2)] Ap zK (.lA J J J Y124.h J Sz124 Z0 (by (simp [Ah]; done)) ?_)
 refine .cV J J J J Body217 (ref_L) tV (.cV J J J J Body216 (ref_below _ _ (by simp [Ah]) (by simp [Ah])) tV ?_)
 refine G2 ?_
 refine .condP J (fun hc1 => ?_) (fun hc1 => ?_)
 ·
  have hS : le a + le b < L := by rw [le_leb32 oM, le_leb32 L_lt] at hc1; exact hc1
  refine G2 ?_
  refine .lA J J J Y124.h J Sz124 Z0 (by (simp [Ah]; done)) ?_
  refine .sA J J J J zB Sz124 (by (simp [Ah]; done)) Z1 sP zV ?_
  refine G2 ?_
  -- ret
  refine G3 ?_
  refine ⟨_, [], An J J Y124.h J Sz124 Z1 (by simp [Ah]), sP, sP, ?_, rfl⟩
  (rw [Nat.mod_eq_of_lt hS]; done)
 have hge : L ≤ le a + le b := by rw [le_leb32 oM, le_leb32 L_lt] at hc1; exact Nat.le_of_not_lt hc1
 refine G4 ?_
 refine .cV J J J J Body217 (ref_L) tV (.alloc (cs := (Aa (List.replicate 32 0))) J A4 J ?_)
 intro n8 hn8 hf8
 refine .sA J J J J zB Sz124 (by (simp [Ah]; done)) Z0 sP zU ?_
 refine G14 ?_
 refine .loop (ι := Nat) (fun k => ⟨[(4, ptr n4 0), (5, ptr n5 0), (8, ptr n8 0), (6, i64 (-((bor (le a + le b - L) L k : Nat) : Int))), (9, i64 (k : Int))], [⟨n8, Aa (leb 32 L), 124, 32⟩, ⟨n5, Aa (subB (le a + le b - L) L k), 124, 32⟩, ⟨n4, Aa (List.replicate 32 0), 124, 32⟩]⟩) (fun k => k ≤ 32) (fun k => 32 - k) (0) ?_ ?_ ?_
 · omega
 · exact Ad (wk1 rfl (wk1 rfl (wk1 rfl (wk1 (by rw [bor_zero]; rfl) (wk1 rfl wk0))))) (wh1 Z0 (wh1 (by rw [subB_zero, Nat.sub_add_cancel hge]; exact mem1) (wh1 Z2 wh0))) nD
 rintro k hk
 have hpl := subB_length (le a + le b - L) L k hk
 have hbl := bor_le (le a + le b - L) L k
 refine G7 ?_
 refine .condP J (fun hc2 => ?_) (fun hc2 => ?_)
 ·
  have hk3 : k < 32 := by omega
  have hx8 := ((subB (le a + le b - L) L k).getD k 0).toNat_lt
  have hy8 := ((leb 32 L).getD k 0).toNat_lt
  have hJ : (((subB (le a + le b - L) L k).getD k 0).toNat : Int) - (((leb 32 L).getD k 0).toNat : Int) + -((bor (le a + le b - L) L k : Nat) : Int) = (((le a + le b - L + L) / 256 ^ k % 256 : Nat) : Int) - ((L / 256 ^ k % 256 : Nat) : Int) + -((bor (le a + le b - L) L k : Nat) : Int) := by rw [subB_get _ _ k hk3, leb_getD 32 L k hk3, ofNat8_toNat, ofNat8_toNat]
  have hbn := bor_next _ _ k _ hJ
  refine G2 ?_
  refine .join (ι := Unit) (fun _u => ⟨[(4, ptr n4 0), (5, ptr n5 0), (8, ptr n8 0), (6, i64 (-((bor (le a + le b - L) L (k + 1) : Nat) : Int))), (9, i64 (k : Int))], [⟨n8, Aa (leb 32 L), 124, 32⟩, ⟨n5, Aa (subB (le a + le b - L) L (k + 1)), 124, 32⟩, ⟨n4, Aa (List.replicate 32 0), 124, 32⟩]⟩) (fun _u => True) ?_ ?_
  ·
   refine G2 ?_
   refine .draw [(0, 0), (0, 1), (1, 2), (0, 3), (0, 4), (0, 5), (1, 6), (0, 7), (0, 8), (0, 9), (0, 10), (0, 11)] Ap zK (G1 ?_)
   refine .i1 J J J J Y124.h Sz5 _ J oM (G3 ?_)
   refine .i1 J J J J Y124.h Sz5 _ J oM (.load1 J J J Y5.h J Z0 (by exact get_bytes (by (simp [Ah]; omega))) ?_)
   refine G12 ?_
   refine .rem_i64 J J J J oM (G1 ?_)
   refine .i1 J J J J Y124.h Sz5 _ J oM (.s1 J J J J J Sz5 Z1 (by (simp; omega)) (by exact Be _ _ _) zV ?_)
   refine G8 ?_
   refine .condP J (fun hc3 => ?_) (fun hc3 => ?_)
   ·
    have hn3 := hbn.1 hc3
    refine G5 ?_
    refine ⟨(), trivial, Ad (wk1 J (wk1 J (wk1 J (wk1 (by rw [hn3]; rfl) (wk1 J wk0))))) (wh1 Z0 (wh1 (by rw [← subB_step _ _ k hk3 _ hJ, byteOf_mod]; exact mem1) (wh1 Z2 wh0))) nD⟩
   have hn3 := hbn.2 hc3
   refine G5 ?_
   refine ⟨(), trivial, Ad (wk1 J (wk1 J (wk1 J (wk1 (by rw [hn3]; rfl) (wk1 J wk0))))) (wh1 Z0 (wh1 (by rw [← subB_step _ _ k hk3 _ hJ, byteOf_mod]; exact mem1) (wh1 Z2 wh0))) nD⟩
  intro _u hj
  skip
  refine G6 ?_
  exact ⟨k + 1, by omega, by omega, Ad (wk1 rfl (wk1 rfl (wk1 rfl (wk1 rfl (wk1 rfl wk0))))) (wh1 Z0 (wh1 Z1 (wh1 Z2 wh0))) nD⟩
 obtain rfl : k = 32 := by omega
 refine G7 ?_
 refine .lA J J J Y124.h J Sz124 Z1 (by (simp [Ah, subB_all]; done)) ?_
 refine .sA J J J J zB Sz124 (by (simp [Ah, subB_all]; done)) Z2 sP (by exact upd2) ?_
 refine G2 ?_
 -- ret
 refine G2 ?_
 refine ⟨_, [], An J J Y124.h J Sz124 Z2 (by simp [Ah, subB_all]), sP, sP, ?_, rfl⟩
 (rw [subB_all, Nat.mod_eq_sub_mod hge, Nat.mod_eq_of_lt (a := le a + le b - L) oM])
theorem ref_plus_n (x y : Nat) (hx : x < L) (hy : y < L) : Meets Tryz.prog 174 [agg (Aa (leb 32 x)), agg (Aa (leb 32 y))] [] (fun _ => True) (fun v out => v = agg (Aa (leb 32 ((x + y) % L))) ∧ out = []) := by
  have e1 := le_leb32 (Nat.lt_trans hx L_lt)
  have e2 := le_leb32 (Nat.lt_trans hy L_lt)
  have := ref_plus (leb 32 x) (leb 32 y) (Ah 32 x) (Ah 32 y) (by rw [e1]; exact hx) (by rw [e2]; exact hy)
  rw [e1, e2] at this
  exact this
theorem ref_plus_one (x : Nat) (hx : x < L) : Meets Tryz.prog 174 [agg (Aa (leb 32 x)), agg (Aa ((List.replicate 32 0).set 0 1))] [] (fun _ => True) (fun v out => v = agg (Aa (leb 32 ((x + 1) % L))) ∧ out = []) := by
  have e1 := le_leb32 (Nat.lt_trans hx L_lt)
  have := ref_plus (leb 32 x) ((List.replicate 32 0).set 0 1) (Ah 32 x) sP (by rw [e1]; exact hx) (by rw [le_one']; decide)
  rw [e1, le_one'] at this
  exact this

theorem ref_rest (b o c n : Nat) (xs : List UInt8) (hx : xs.length = n) (hn : n ≤ 1000000) : Meets Tryz.prog 173 [.slice (some ⟨b, o, none⟩) n c] [] (fun W => Sees W b o (Aa xs)) (fun v out => v = agg (Aa (leb 32 (le xs % L))) ∧ out = []) := by
 intro W hW
 refine Ac Tryz.func173 J 33 Tryz.ntmps173 J (G2 ?_)
 refine .alloc (cs := (Aa (List.replicate 32 0))) J A4 J ?_
 intro n2 hn2 hf2
 refine G4 ?_
 refine .alloc (cs := (Aa (List.replicate 32 0))) J A4 J ?_
 intro n3 hn3 hf3
 refine .alloc (cs := (Aa (List.replicate 32 0))) J A4 J ?_
 intro n4 hn4 hf4
 refine G4 ?_
 refine .i1 J J J J Y124.h Sz5 0 J dE (.s1 J J J (show Ag _ _ = some (u8 1) from rfl) J Sz5 Z0 sP (by exact Be _ _ _) zU ?_)
 refine G7 ?_
 refine .mul_i64 J J J J oM (G5 ?_)
 refine .loop (ι := Nat) (fun k => ⟨[(0, .slice (some ⟨b, o, none⟩) n c), (2, ptr n2 0), (3, ptr n3 0), (4, ptr n4 0), (5, i64 (8 * (n : Int) - 1 - (k : Int)))], [⟨n4, Aa ((List.replicate 32 0).set 0 1), 124, 32⟩, ⟨n3, Aa (leb 32 ((le xs / 2 ^ (8 * n - k)) % L)), 124, 32⟩, ⟨n2, Aa (List.replicate 32 0), 124, 32⟩]⟩) (fun k => k ≤ 8 * n) (fun k => 8 * n - k) (0) ?_ ?_ ?_
 · omega
 · exact Ad (wk1 rfl (wk1 rfl (wk1 rfl (wk1 rfl (wk1 (by rw [show (8 * (n : Int) - 1 - ((0 : Nat) : Int)) = 8 * (n : Int) - 1 by omega]; rfl) wk0))))) (wh1 Z0 (wh1 (by rw [Nat.sub_zero, le_zero_div xs n hx, zero_modL, leb_zero32]; exact mem1) (wh1 Z2 wh0))) nD
 rintro k hk
 refine G7 ?_
 refine .condP J (fun hc0 => ?_) (fun hc0 => ?_)
 ·
  have hk2 : k < 8 * n := by omega
  have hdv := div_bit (le xs) (8 * n - (k + 1))
  rw [show 8 * n - (k + 1) + 1 = 8 * n - k by omega] at hdv
  have hbr := bit_rem xs (8 * n - (k + 1))
  rw [show 8 * n - (k + 1) = 8 * n - 1 - k by omega] at hbr hdv
  refine G2 ?_
  refine .join (ι := Unit) (fun _u => ⟨[(0, .slice (some ⟨b, o, none⟩) n c), (2, ptr n2 0), (3, ptr n3 0), (4, ptr n4 0), (5, i64 (8 * (n : Int) - 1 - (k : Int)))], [⟨n4, Aa ((List.replicate 32 0).set 0 1), 124, 32⟩, ⟨n3, Aa (leb 32 ((le xs / 2 ^ (8 * n - (k + 1))) % L)), 124, 32⟩, ⟨n2, Aa (List.replicate 32 0), 124, 32⟩]⟩) (fun _u => True) ?_ ?_
  ·
   refine G3 ?_
   refine .lA J J J Y124.h J Sz124 Z1 (by (simp [Ah]; done)) ?_
   refine .lA J J J Y124.h J Sz124 Z1 (by (simp [Ah]; done)) ?_
   refine .cV J J J J Body174 (ref_plus_n _ _ (Nat.mod_lt _ L_pos) (Nat.mod_lt _ L_pos)) tV (.sA J J J J zB Sz124 (by (simp [Ah]; done)) Z1 (by (simp [Ah]; done)) zV ?_)
   refine G6 ?_
   refine .quo_i64 J J J J oM (.idxSlO J J J J Y27.h Sz5 ((8 * n - 1 - k) / 8) oM oM (.loadE J J J Y5.h J sP (hW _ _ (get_bytes oM)) (G1 ?_)))
   refine .rem_i64 J J J J oM (G1 ?_)
   refine .shr_u8 J J J J ((8 * n - 1 - k) % 8) (by rw [wordOf_id _ oM]; omega) oM ?_
   refine .rem_u8 J J J J 2 J dE (G3 ?_)
   refine .condP J (fun hc1 => ?_) (fun hc1 => ?_)
   ·
    have hdb : le xs / 2 ^ (8 * n - (k + 1)) = 2 * (le xs / 2 ^ (8 * n - k)) + 1 := by rw [show 8 * n - (k + 1) = 8 * n - 1 - k by omega, hdv, ← hbr, if_pos (decide_eq_true hc1)]
    refine .region (.lA J J J Y124.h J Sz124 Z1 (by (simp [Ah]; done)) ?_)
    refine .lA J J J Y124.h J Sz124 Z0 sP ?_
    refine .cV J J J J Body174 (ref_plus_one _ (Nat.mod_lt _ L_pos)) tV (.sA J J J J zB Sz124 (by (simp [Ah]; done)) Z1 (by (simp [Ah]; done)) zV ?_)
    refine G3 ?_
    refine ⟨(), trivial, Ad (wk1 J (wk1 J (wk1 J (wk1 J (wk1 J wk0))))) (wh1 Z0 (wh1 (by (rw [hdb, ← dbl_mod1]; exact mem1)) (wh1 Z2 wh0))) nD⟩
   have hdb : le xs / 2 ^ (8 * n - (k + 1)) = 2 * (le xs / 2 ^ (8 * n - k)) := by rw [show 8 * n - (k + 1) = 8 * n - 1 - k by omega, hdv, ← hbr, if_neg (by simpa using hc1), Nat.add_zero]
   refine G3 ?_
   refine ⟨(), trivial, Ad (wk1 J (wk1 J (wk1 J (wk1 J (wk1 J wk0))))) (wh1 Z0 (wh1 (by (rw [hdb, ← dbl_mod]; exact mem1)) (wh1 Z2 wh0))) nD⟩
  intro _u hj
  skip
  refine G6 ?_
  exact ⟨k + 1, by omega, by omega, Ad (wk1 rfl (wk1 rfl (wk1 rfl (wk1 rfl (wk1 (by rw [show (8 * (n : Int) - 1 - ((k + 1 : Nat) : Int)) = 8 * (n : Int) - 1 - (k : Int) - 1 by omega]; rfl) wk0))))) (wh1 Z0 (wh1 Z1 (wh1 Z2 wh0))) nD⟩
 obtain rfl : k = 8 * n := by omega
 refine G7 ?_
 refine .lA J J J Y124.h J Sz124 Z1 (by (simp [Ah]; done)) ?_
 refine .sA J J J J zB Sz124 (by (simp [Ah]; done)) Z2 sP (by exact upd2) ?_
 refine G2 ?_
 -- ret
 refine G2 ?_
 refine ⟨_, [], An J J Y124.h J Sz124 Z2 (by simp [Ah]), sP, sP, ?_, rfl⟩
 rw [Nat.sub_self, Nat.pow_zero, Nat.div_one]
theorem ref_Rest (b o c n : Nat) (xs : List UInt8) (hx : xs.length = n) (hn : n ≤ 64) : Meets Tryz.prog 122 [.slice (some ⟨b, o, none⟩) n c] [] (fun W => Sees W b o (Aa xs)) (fun v out => v = .tuple #[agg (Aa (leb 32 (le xs % L))), i64 0] ∧ out = []) := by
 intro W hW
 refine Ac Tryz.func122 J 10 Tryz.ntmps122 J (G2 ?_)
 refine .alloc (cs := (Aa (List.replicate 32 0))) J A4 J ?_
 intro n2 hn2 hf2
 refine G8 ?_
 refine .gtr J J J J (decide_eq_false oM) (G2 ?_)
 refine .cond_f J (rfl) (G5 ?_)
 refine .cV J J J J Body173 (ref_rest _ _ _ n xs hx oM) (fun W h => sees_ext h sP hW) (.sA J J J J zB Sz124 (by (simp [Ah]; done)) Z0 sP zU ?_)
 refine G3 ?_
 -- ret
 refine G2 ?_
 refine ⟨_, [], Bj J J J Y124.h J Sz124 Z0 (by simp [Ah]), sP, sP, ?_, rfl⟩
 rfl

theorem ref_bit_at (a : List UInt8) (ha : a.length = 32) (k : Nat) (hk : k < 256) : Meets Tryz.prog 209 [agg (Aa a), i64 (k : Int)] [] (fun _ => True) (fun v out => v = .bool ((le a).testBit k) ∧ out = []) := by
 intro W hW
 refine Ac Tryz.func209 J 23 Tryz.ntmps209 J (G3 ?_)
 intro n2 hn2 hf2
 refine G6 ?_
 refine .geq J J J J (decide_eq_true oM) (G2 ?_)
 refine .lss J J J J (decide_eq_true oM) (G3 ?_)
 refine .quo_i64 J J J J oM (.i1 J J J J Y124.h Sz5 (k / 8) oM oM (G2 ?_))
 refine .rem_i64 J J J J oM (G1 ?_)
 refine .shr_u8 J J J J (k % 8) (by rw [wordOf_id _ oM]; omega) oM ?_
 refine .rem_u8 J J J J 2 J dE (G5 ?_)
 -- ret
 refine G2 ?_
 refine ⟨_, [], Al J J, sP, sP, ?_, rfl⟩
 rw [← bit_rem a k]; rfl


open Ed

theorem r_mul (x y : Fp) : Meets Tryz.prog 169 [agg (Aa (fb x)), agg (Aa (fb y))] [] (fun _ => True) (fun v out => v = agg (Aa (fb (x * y))) ∧ out = []) := by
  have h := r3_Mul (fb x) (fb y) (Am x) (Am y)
  rwa [fe_fb x, fe_fb y] at h

theorem r_sub (x y : Fp) : Meets Tryz.prog 202 [agg (Aa (fb x)), agg (Aa (fb y))] [] (fun _ => True) (fun v out => v = agg (Aa (fb (x - y))) ∧ out = []) := by
  have h := r3_Sub (fb x) (fb y) (Am x) (Am y)
  rwa [fe_fb x, fe_fb y] at h

theorem r_neg (x : Fp) : Meets Tryz.prog 203 [agg (Aa (fb x))] [] (fun _ => True) (fun v out => v = agg (Aa (fb (-x))) ∧ out = []) := by
  have h := r3_Neg (fb x) (Am x)
  rwa [fe_fb x] at h

theorem r_inv (x : Fp) : Meets Tryz.prog 171 [agg (Aa (fb x))] [] (fun _ => True) (fun v out => v = agg (Aa (fb (finv x))) ∧ out = []) := by
  have h := r3_Inv (fb x) (Am x)
  rwa [fe_fb x] at h

theorem r_odd (x : Fp) : Meets Tryz.prog 166 [agg (Aa (fb x))] [] (fun _ => True) (fun v out => v = .bool (decide (x.val % 2 = 1)) ∧ out = []) := by
  have h := r3_Odd (fb x) (Am x)
  rwa [fe_fb x] at h

theorem r_canon (x : Fp) : Meets Tryz.prog 201 [agg (Aa (fb x))] [] (fun _ => True) (fun v out => v = .bool true ∧ out = []) := by
  have h := r3_Canon (fb x) (Am x)
  rw [fe_fb x] at h
  rwa [decide_eq_true rfl] at h
theorem r_same_raw (x : Fp) (a : List UInt8) (ha : a.length = 32) : Meets Tryz.prog 231 [agg (Aa (fb x)), agg (Aa a)] [] (fun _ => True) (fun v out => v = .bool (decide (x = fe (le a))) ∧ out = []) := by
  have h := r3_Same (fb x) a (Am x) ha
  rwa [fe_fb x] at h
theorem r_of (x : UInt64) (X : Fp) (h : fe x.toNat = X) : Meets Tryz.prog 170 [u64 x] [] (fun _ => True) (fun v out => v = agg (Aa (fb X)) ∧ out = []) := by
  rw [← h]; exact r3_Of x
theorem r_one : Meets Tryz.prog 170 [u64 1] [] (fun _ => True) (fun v out => v = agg (Aa (fb 1)) ∧ out = []) := r_of 1 1 rfl
theorem r_cA : Meets Tryz.prog 170 [u64 121666] [] (fun _ => True) (fun v out => v = agg (Aa (fb cA)) ∧ out = []) := r_of 121666 cA rfl
theorem r_cB : Meets Tryz.prog 170 [u64 121665] [] (fun _ => True) (fun v out => v = agg (Aa (fb cB)) ∧ out = []) := r_of 121665 cB rfl
theorem r_pow_root (a : List UInt8) (ha : a.length = 32) (X : Fp) (hX : fe (le a) = X) : Meets Tryz.prog 213 [agg (Aa a), agg (Aa (expT 5 3))] [] (fun _ => True) (fun v out => v = agg (Aa (fb (Ci X ((PF - 5) / 8)))) ∧ out = []) := r3_Pow_e a _ ha (expT_length _ _) _ X expT_root hX
theorem r_pow_unit : Meets Tryz.prog 213 [agg (Aa (fb (fe 2))), agg (Aa (expT 1 2))] [] (fun _ => True) (fun v out => v = agg (Aa (fb (Ci (fe 2) ((PF - 1) / 4)))) ∧ out = []) := r3_Pow_e _ _ (Am _) (expT_length _ _) _ _ expT_unit (fe_fb _)
theorem r_mul_a (p r : Fp) (a : List UInt8) (ha : a.length = 32) (h : p * fe (le a) = r) : Meets Tryz.prog 169 [agg (Aa (fb p)), agg (Aa a)] [] (fun _ => True) (fun v out => v = agg (Aa (fb r)) ∧ out = []) := by
  have h1 := r3_Mul (fb p) a (Am p) ha
  rwa [fe_fb p, h] at h1

theorem r3_Root (a : List UInt8) (X : Fp) (ha : a.length = 32) (hX : fe (le a) = X) : Meets Tryz.prog 215 [agg (Aa a)] [] (fun _ => True) (fun v out => v = .tuple #[agg (Aa (fb (fRoot X).1)), .bool (fRoot X).2] ∧ out = []) := by
 intro W hW
 obtain ⟨r0, hr0⟩ : ∃ r, Ci X ((PF + 3) / 8) = r := ⟨_, rfl⟩
 obtain ⟨un, hun⟩ : ∃ r, Ci (fe 2) ((PF - 1) / 4) = r := ⟨_, rfl⟩
 obtain ⟨r1, hr1⟩ : ∃ r, fRoot1 X = r := ⟨_, rfl⟩
 have hp0 := r_pow_root a ha X hX
 have hstep := root_step X
 obtain ⟨p0, hpp⟩ : ∃ r, Ci X ((PF - 5) / 8) = r := ⟨_, rfl⟩
 rw [hpp] at hp0 hstep
 rw [hr0] at hstep
 have hm0 := r_mul_a p0 r0 a ha (by rw [hX]; exact hstep)
 have hpu := r_pow_unit
 rw [hun] at hpu
 have hm := fun y => r_same_raw y a ha
 rw [hX] at hm
 have hr1' : r1 = if r0 * r0 = X then r0 else r0 * un := by rw [← hr1, fRoot1, hr0, hun]
 have hR : fRoot X = if r1 * r1 = X then ((if r1.val % 2 = 1 then -r1 else r1), true) else (0, false) := by rw [fRoot, hr1]
 clear hr1 hstep
 have hs53 := r3_shifted 5 3 dE dE
 have hs12 := r3_shifted 1 2 dE dE
 obtain ⟨E, hE⟩ : ∃ E, Hid (expT 5 3 = E) := ⟨_, ⟨rfl⟩⟩
 obtain ⟨G, hG⟩ : ∃ E, Hid (expT 1 2 = E) := ⟨_, ⟨rfl⟩⟩
 have hEl : E.length = 32 := by rw [← hE.out]; exact expT_length _ _
 have hGl : G.length = 32 := by rw [← hG.out]; exact expT_length _ _
 rw [hE.out] at hs53 hp0
 rw [hG.out] at hs12 hpu
 refine Ac Tryz.func215 J 33 Tryz.ntmps215 J (G3 ?_)
 intro n1 hn1 hf1
 refine .alloc (cs := (Aa (List.replicate 32 0))) J A4 J ?_
 intro n2 hn2 hf2
 refine G4 ?_
 refine .draw [(1, 0), (1, 3), (3, 1), (3, 2), (3, 4), (2, 5), (4, 6)] Ap zK (.lA J J J Y124.h J Sz124 Z1 (by (simp [ha]; done)) ?_)
 refine .lA J J J Y124.h J Sz124 Z1 (by (simp [ha]; done)) ?_
 refine .cV J J J J Body214 (hs53) tV (.cV J J J J Body213 (hp0) tV (.cV J J J J Body169 (hm0) tV (.alloc (cs := (Aa (List.replicate 32 0))) J A4 J ?_)))
 intro n4 hn4 hf4
 refine .sA J J J J zE Sz124 zF Z0 sP zU ?_
 refine G2 ?_
 refine .join (ι := Unit) (fun _u => ⟨[(1, ptr n1 0), (2, ptr n2 0), (4, ptr n4 0)], [⟨n4, Aa (fb r1), 124, 32⟩, ⟨n2, Aa (List.replicate 32 0), 124, 32⟩, ⟨n1, Aa a, 124, (Aa a).length⟩]⟩) (fun _u => True) ?_ ?_
 ·
  refine .seq (.draw [(1, 0), (1, 1), (1, 3), (3, 2), (3, 4), (0, 5)] Ap zK (G2 ?_))
  refine .lA J J J Y124.h J Sz124 Z2 (by (simp [ha]; done)) ?_
  refine .cV J J J J Body169 (r_mul r0 r0) tV (.cV J J J J Body231 (hm (r0 * r0)) tV (G3 ?_))
  refine .condNP J (fun hc0 => ?_) (fun hc0 => ?_)
  ·
   refine .draw [(1, 0), (3, 1), (3, 2), (3, 3), (3, 4), (4, 5)] Ap zK (G1 ?_)
   refine .cV J J J J Body170 (r_of 2 (fe 2) J) tV (.cV J J J J Body214 (hs12) tV (.cV J J J J Body213 (hpu) tV (.cV J J J J Body169 (r_mul r0 un) tV (G3 ?_))))
   (rw [hr1', if_neg hc0]; exact ⟨(), trivial, Ad (wk1 rfl (wk1 rfl (wk1 rfl wk0))) (wh1 Z0 (wh1 Z1 (wh1 Z2 wh0))) nD⟩)
  refine G2 ?_
  (rw [hr1', if_pos hc0]; exact ⟨(), trivial, Ad (wk1 rfl (wk1 rfl (wk1 rfl wk0))) (wh1 Z0 (wh1 Z1 (wh1 Z2 wh0))) nD⟩)
 intro _u hj
 skip
 refine G2 ?_
 refine .draw [(1, 0), (1, 1), (1, 3), (3, 2), (3, 4), (0, 5)] Ap zK (G2 ?_)
 refine .lA J J J Y124.h J Sz124 Z2 (by (simp [ha]; done)) ?_
 refine .cV J J J J Body169 (r_mul r1 r1) tV (.cV J J J J Body231 (hm (r1 * r1)) tV (G3 ?_))
 refine .condNP J (fun hc1 => ?_) (fun hc1 => ?_)
 ·
  refine G2 ?_
  refine .build (cs := Aa (List.replicate 32 0)) J J J (fun w => by kernel_rfl) ?_
  refine .sA J J J J zE Sz124 sP Z1 sP zV ?_
  refine G3 ?_
  -- ret
  refine G3 ?_
  refine ⟨_, [], Bj J J J Y124.h J Sz124 Z1 sP, sP, sP, ?_, rfl⟩
  (rw [hR, if_neg hc1, fb_zero]; done)
 refine G2 ?_
 refine .join (ι := Unit) (fun _u => ⟨[(2, ptr n2 0), (4, ptr n4 0)], [⟨n4, Aa (fb (if r1.val % 2 = 1 then -r1 else r1)), 124, 32⟩, ⟨n2, Aa (List.replicate 32 0), 124, 32⟩]⟩) (fun _u => True) ?_ ?_
 ·
  refine G3 ?_
  refine .cV J J J J Body166 (r_odd r1) tV (G2 ?_)
  refine .condP J (fun hc2 => ?_) (fun hc2 => ?_)
  ·
   refine G2 ?_
   refine .cV J J J J Body203 (r_neg r1) tV (G3 ?_)
   (rw [if_pos hc2]; exact ⟨(), trivial, Ad (wk1 rfl (wk1 rfl wk0)) (wh1 Z0 (wh1 Z1 wh0)) nD⟩)
  refine G2 ?_
  (rw [if_neg hc2]; exact ⟨(), trivial, Ad (wk1 rfl (wk1 rfl wk0)) (wh1 Z0 (wh1 Z1 wh0)) nD⟩)
 intro _u hj
 skip
 refine G3 ?_
 refine .sA J J J J zE Sz124 zF Z1 sP zV ?_
 refine G3 ?_
 -- ret
 refine G2 ?_
 refine ⟨_, [], Bj J J J Y124.h J Sz124 Z1 (by simp [Am]), sP, sP, ?_, rfl⟩
 (rw [hR, if_pos hc1]; done)
theorem check_eq {P : Pt Fp} (h : cv.on P) : cA * (P.y * P.y - P.x * P.x - 1) = -(cB * (P.x * P.x * (P.y * P.y))) := by
  have h1 := (cv.on_iff P).1 h
  have h2 : P.y * P.y - P.x * P.x = 1 + fD * (P.x * P.x * (P.y * P.y)) := h1
  have h3 := fD_cA
  rw [h2]
  generalize P.x * P.x * (P.y * P.y) = q at *
  generalize cA = a at *
  generalize cB = b at *
  generalize fD = d at *
  grind

theorem r5_D  : Meets Tryz.prog 206 [] [] (fun _ => True) (fun v out => v = agg (Aa (fb fD)) ∧ out = []) := by
 intro W hW
 have hm := r_mul (-cB) (finv cA)
 rw [ref_D] at hm
 have hi := r_inv cA
 revert hm hi
 generalize finv cA = ia
 intro hm hi
 refine Ac Tryz.func206 J 6 Tryz.ntmps206 J (G2 ?_)
 refine .alloc (cs := (Aa (List.replicate 32 0))) J A4 J ?_
 intro n0 hn0 hf0
 refine G4 ?_
 refine .cV J J J J Body170 (r_cB) tV (.cV J J J J Body203 (r_neg cB) tV ?_)
 refine .cV J J J J Body170 (r_cA) tV (.cV J J J J Body171 (hi) tV (.cV J J J J Body169 (hm) tV (.sA J J J J zE Sz124 zF Z0 sP zU ?_)))
 refine G2 ?_
 -- ret
 refine G2 ?_
 refine ⟨_, [], An J J Y124.h J Sz124 Z0 (by simp [Am]), sP, sP, ?_, rfl⟩
 rfl

theorem r5_Zero  : Meets Tryz.prog 168 [] [] (fun _ => True) (fun v out => v = agg (ptc (zero : Pt Fp)).cells ∧ out = []) := by
 intro W hW
 refine Ac Tryz.func168 J 3 Tryz.ntmps168 J (G2 ?_)
 refine .alloc (cs := Point.zero.cells) J Point.zr J ?_
 intro n0 hn0 hf0
 refine G4 ?_
 refine .cV J J J J Body170 (r_one) tV (.build (cs := (⟨fb 0, fb 1⟩ : Point).cells) J J J (fun w => by kernel_rfl) ?_)
 refine .sA J J J J (Point.isCell (by exact ⟨fb32 _, fb32 _⟩)) Sz127 (Point.length (by exact ⟨fb32 _, fb32 _⟩)) Z0 (Point.length zZ) zU ?_
 refine G2 ?_
 -- ret
 refine G2 ?_
 refine ⟨_, [], An J J Y127.h J Sz127 Z0 (by exact Point.length (by exact ⟨fb32 _, fb32 _⟩)), sP, sP, ?_, rfl⟩
 rfl

theorem r5_root (Y : Fp) : Meets Tryz.prog 172 [agg (Aa (fb Y))] [] (fun _ => True) (fun v out => v = .tuple #[agg (Aa (fb (xOf Y).1)), .bool (xOf Y).2] ∧ out = []) := by
 intro W hW
 have hq := ref_quot Y
 have hxo : xOf Y = fRoot ((Y * Y - 1) * finv (fD * (Y * Y) + 1)) := rfl
 rw [← hq] at hxo
 have hinv := r_inv (cA - cB * (Y * Y))
 revert hinv hxo
 clear hq
 generalize finv (cA - cB * (Y * Y)) = iz
 intro hxo hinv
 have hroot := r3_Root (fb (cA * (Y * Y - 1) * iz)) (cA * (Y * Y - 1) * iz) (Am _) (fe_fb _)
 rw [← hxo] at hroot
 clear hxo
 revert hroot
 generalize xOf Y = xr
 intro hroot
 refine Ac Tryz.func172 J 27 Tryz.ntmps172 J (.sr (.boxA J J ?_))
 intro n1 hn1 hf1
 refine .alloc (cs := (Aa (List.replicate 32 0))) J A4 J ?_
 intro n2 hn2 hf2
 refine .a J J J (.nsr (.lA J J J Y124.h J Sz124 Z1 zF ?_))
 refine .lA J J J Y124.h J Sz124 Z1 zF ?_
 refine .cV J J J J Body169 (r_mul Y Y) tV (.alloc (cs := (Aa (List.replicate 32 0))) J A4 J ?_)
 intro n4 hn4 hf4
 refine .sA J J J J zE Sz124 zF Z0 sP zU ?_
 refine .na (.seq (.draw [(1, 1), (3, 0), (3, 2), (3, 3), (3, 4), (2, 5), (4, 6)] Ap zK (.lA J J J Y124.h J Sz124 Z0 zF ?_)))
 refine .cV J J J J Body170 (r_cA) tV (.cV J J J J Body170 (r_one) tV (.cV J J J J Body202 (r_sub (Y * Y) 1) tV (.cV J J J J Body169 (r_mul cA (Y * Y - 1)) tV (.alloc (cs := (Aa (List.replicate 32 0))) J A4 J ?_))))
 intro n5 hn5 hf5
 refine .sA J J J J zE Sz124 zF Z0 sP zU ?_
 refine .na (.seq (.draw [(1, 2), (3, 0), (3, 1), (3, 3), (3, 4), (2, 5), (4, 6)] Ap zK (.lA J J J Y124.h J Sz124 Z1 zF ?_)))
 refine .cV J J J J Body170 (r_cA) tV (.cV J J J J Body170 (r_cB) tV (.cV J J J J Body169 (r_mul cB (Y * Y)) tV ?_))
 refine .cV J J J J Body202 (r_sub cA (cB * (Y * Y))) tV ?_
 refine .alloc (cs := (Aa (List.replicate 32 0))) J A4 J ?_
 intro n6 hn6 hf6
 refine .sA J J J J zE Sz124 zF Z0 sP zU ?_
 refine .na (.seq (.draw [(1, 0), (1, 1), (3, 2), (3, 3), (3, 4), (0, 5), (0, 6), (4, 7), (0, 8)] Ap zK (.lA J J J Y124.h J Sz124 Z1 zF ?_)))
 refine .lA J J J Y124.h J Sz124 Z0 zF ?_
 refine .cV J J J J Body171 (hinv) tV (.cV J J J J Body169 (r_mul (cA * (Y * Y - 1)) iz) tV (.cV J J J J Body215 (hroot) tV (.eX J J J J (.eX J J J J (.sA J J J J zE Sz124 zF Z3 sP (by exact upd3) ?_)))))
 refine .a J J J (.na ?_)
 -- ret
 refine .ret (en_r ?_)
 refine ⟨_, [], Bj J J J Y124.h J Sz124 Z3 (by simp [Am]), sP, sP, ?_, rfl⟩
 rfl

theorem bP_four : fe 4 * finv (fe 5) = bP.y := by
  have h1 : bP.y * fe 5 = fe 4 := by kernel_rfl
  have h2 : fe 5 * finv (fe 5) = 1 := finv_mul (by
    intro h
    have := congrArg Fin.val h
    revert this
    decide)
  generalize finv (fe 5) = v at *
  generalize fe 5 = f at *
  rw [← h1]
  generalize bP.y = y at *
  grind
theorem bP_even : (decide (bP.x.val % 2 = 1)) = false := by kernel_rfl
theorem bP_root : xOf bP.y = (bP.x, true) := by
  have h := xOf_eq (x := bP.x) (y := bP.y) bP_on
  rw [h, if_neg (of_decide_eq_false bP_even)]

theorem r5_Base  : Meets Tryz.prog 119 [] [] (fun _ => True) (fun v out => v = agg (ptc bP).cells ∧ out = []) := by
 intro W hW
 have hm := r_mul (fe 4) (finv (fe 5))
 rw [bP_four] at hm
 have hi := r_inv (fe 5)
 have hr := r5_root bP.y
 rw [bP_root] at hr
 have hb : bP = ⟨bP.x, bP.y⟩ := rfl
 rw [hb]
 clear hb
 revert hm hi hr
 generalize finv (fe 5) = iv
 generalize bP.x = bx
 generalize bP.y = bY
 intro hm hi hr
 refine Ac Tryz.func119 J 16 Tryz.ntmps119 J (.sr (.alloc (cs := Point.zero.cells) J Point.zr J ?_))
 intro n0 hn0 hf0
 refine .nsr (.cV J J J J Body170 (r_of 4 (fe 4) J) tV (.cV J J J J Body170 (r_of 5 (fe 5) J) tV (.cV J J J J Body171 (hi) tV (.cV J J J J Body169 (hm) tV (.alloc (cs := (Aa (List.replicate 32 0))) J A4 J ?_)))))
 intro n1 hn1 hf1
 refine .sA J J J J zE Sz124 zF Z0 sP zU ?_
 refine .nsr (.lA J J J Y124.h J Sz124 Z0 zF ?_)
 refine .cV J J J J Body172 (hr) tV (.m J J J (.eX J J J J (.eX J J J J (.alloc (cs := (Aa (List.replicate 32 0))) J A4 J ?_))))
 intro n2 hn2 hf2
 refine .sA J J J J zE Sz124 zF Z0 sP zU ?_
 refine .a J J J (.nsr (.lA J J J Y124.h J Sz124 Z0 zF ?_))
 refine .lA J J J Y124.h J Sz124 Z1 zF ?_
 refine .build (cs := (ptc (⟨bx, bY⟩ : Pt Fp)).cells) J J J (fun w => by kernel_rfl) ?_
 refine .sA J J J J (Point.isCell zP) Sz127 (Point.length zP) Z2 (Point.length zZ) (by exact upd2) ?_
 refine .na ?_
 -- ret
 refine .ret (en_r ?_)
 refine ⟨_, [], An J J Y127.h J Sz127 Z2 (by exact Point.length zP), sP, sP, ?_, rfl⟩
 rfl

theorem r5_Check (P : Pt Fp) (hP : cv.on P) : Meets Tryz.prog 165 [agg (ptc P).cells] [] (fun _ => True) (fun v out => v = i64 0 ∧ out = []) := by
 intro W hW
 refine Ac Tryz.func165 J 41 Tryz.ntmps165 J (G3 ?_)
 intro n1 hn1 hf1
 refine G7 ?_
 refine .lN (Aa _) J J J Y124.h J Sz124 Z0 (Point.row_fX zP) (Point.rl_fX zP) ?_
 refine .cV J J J J Body201 (r_canon P.x) tV (G3 ?_)
 refine .lN (Aa _) J J J Y124.h J Sz124 Z0 (Point.row_fY zP) (Point.rl_fY zP) ?_
 refine .cV J J J J Body201 (r_canon P.y) tV (G4 ?_)
 refine .cond_f J J (G3 ?_)
 refine .draw [(0, 0), (1, 1), (0, 2), (1, 3), (0, 5), (1, 6), (0, 7), (1, 8), (3, 4), (3, 9), (2, 10), (2, 11), (4, 12), (4, 13)] Ap zK (G1 ?_)
 refine .lN (Aa _) J J J Y124.h J Sz124 Z0 (Point.row_fX zP) (Point.rl_fX zP) ?_
 refine G1 ?_
 refine .lN (Aa _) J J J Y124.h J Sz124 Z0 (Point.row_fX zP) (Point.rl_fX zP) ?_
 refine G1 ?_
 refine .lN (Aa _) J J J Y124.h J Sz124 Z0 (Point.row_fY zP) (Point.rl_fY zP) ?_
 refine G1 ?_
 refine .lN (Aa _) J J J Y124.h J Sz124 Z0 (Point.row_fY zP) (Point.rl_fY zP) ?_
 refine .cV J J J J Body169 (r_mul P.x P.x) tV (.cV J J J J Body169 (r_mul P.y P.y) tV (.alloc (cs := (Aa (List.replicate 32 0))) J A4 J ?_))
 intro n3 hn3 hf3
 refine .alloc (cs := (Aa (List.replicate 32 0))) J A4 J ?_
 intro n4 hn4 hf4
 refine .sA J J J J zE Sz124 zF Z1 sP zV ?_
 refine .sA J J J J zE Sz124 zF Z0 sP zU ?_
 refine G3 ?_
 refine .draw [(1, 1), (1, 2), (3, 0), (3, 3), (3, 4), (3, 5), (3, 6), (2, 7), (4, 8)] Ap zK (G2 ?_)
 refine .cV J J J J Body170 (r_cA) tV (.cV J J J J Body202 (r_sub (P.y * P.y) (P.x * P.x)) tV (.cV J J J J Body170 (r_one) tV (.cV J J J J Body202 (r_sub (P.y * P.y - P.x * P.x) 1) tV (.cV J J J J Body169 (r_mul cA (P.y * P.y - P.x * P.x - 1)) tV (.alloc (cs := (Aa (List.replicate 32 0))) J A4 J ?_)))))
 intro n5 hn5 hf5
 refine .sA J J J J zE Sz124 zF Z0 sP zU ?_
 refine G4 ?_
 refine .draw [(1, 0), (1, 2), (1, 3), (3, 1), (3, 4), (3, 5), (3, 6), (0, 7)] Ap zK (G3 ?_)
 refine .cV J J J J Body170 (r_cB) tV (.cV J J J J Body169 (r_mul (P.x * P.x) (P.y * P.y)) tV (.cV J J J J Body169 (r_mul cB (P.x * P.x * (P.y * P.y))) tV ?_))
 refine .cV J J J J Body203 (r_neg (cB * (P.x * P.x * (P.y * P.y)))) tV ?_
 refine .neq_bytes J J J J Tryz.eqGuardType124 Y124.h Y5.h Sz5 zF zF (show (!decide _) = false from congrArg not (decide_eq_true (congrArg fb (check_eq hP)))) (G2 ?_)
 refine .cond_f J (rfl) (G7 ?_)
 -- ret
 refine G2 ?_
 refine ⟨_, [], Al J J, sP, sP, ?_, rfl⟩
 rfl

end Go.Proofs.YtfcbgdkpagcbbaaGreat
end

section
namespace Go.Proofs.YtfcbgdkpagcbbaaGreat
open Go Hw

open Ed

structure FarFit (u : far) : Prop where
  x : Fit10 u.fX
  y : Fit10 u.fY
  z : Fit10 u.fZ
theorem FarFit.ok {x : far} (h : FarFit x) : x.ok := ⟨h.x.len, h.y.len, h.z.len⟩
def farV (x : far) : Fr Fp := ⟨fe (v10 x.fX), fe (v10 x.fY), fe (v10 x.fZ)⟩
structure FarRep (x : far) (P : Pt Fp) : Prop where
  fit : FarFit x
  rep : (farV x).rep P
def frA (p q : far) : List Nat := mulT p.fZ q.fZ
def frM (d : List Nat) (p q : far) : List Nat := mulT d (mulT (mulT p.fX q.fX) (mulT p.fY q.fY))
def frB (p q : far) : List Nat := plusT (mulT p.fX q.fX) (mulT p.fY q.fY)
def frC (p q : far) : List Nat := minusT (mulT (plusT p.fX p.fY) (plusT q.fX q.fY)) (frB p q)
def frF (d : List Nat) (p q : far) : List Nat := minusT (mulT (frA p q) (frA p q)) (frM d p q)
def frG (d : List Nat) (p q : far) : List Nat := plusT (mulT (frA p q) (frA p q)) (frM d p q)
def frT (d : List Nat) (p q : far) : far := ⟨mulT (frA p q) (mulT (frF d p q) (frC p q)), mulT (frA p q) (mulT (frG d p q) (frB p q)), mulT (frF d p q) (frG d p q)⟩
section
variable {d : List Nat} {p q : far}
theorem frA_fit (hp : FarFit p) (hq : FarFit q) : Fit10 (frA p q) := A9 hp.z hq.z
theorem frM_fit (hd : Fit10 d) (hp : FarFit p) (hq : FarFit q) : Fit10 (frM d p q) := A9 hd (A9 (A9 hp.x hq.x) (A9 hp.y hq.y))
theorem frB_fit (hp : FarFit p) (hq : FarFit q) : Fit10 (frB p q) := plusT_fit (A9 hp.x hq.x) (A9 hp.y hq.y)
theorem frC_fit (hp : FarFit p) (hq : FarFit q) : Fit10 (frC p q) := minusT_fit (A9 (plusT_fit hp.x hp.y) (plusT_fit hq.x hq.y)) (frB_fit hp hq)
theorem frF_fit (hd : Fit10 d) (hp : FarFit p) (hq : FarFit q) : Fit10 (frF d p q) := minusT_fit (A9 (frA_fit hp hq) (frA_fit hp hq)) (frM_fit hd hp hq)
theorem frG_fit (hd : Fit10 d) (hp : FarFit p) (hq : FarFit q) : Fit10 (frG d p q) := plusT_fit (A9 (frA_fit hp hq) (frA_fit hp hq)) (frM_fit hd hp hq)
theorem frT_fit (hd : Fit10 d) (hp : FarFit p) (hq : FarFit q) : FarFit (frT d p q) :=
  ⟨A9 (frA_fit hp hq) (A9 (frF_fit hd hp hq) (frC_fit hp hq)), A9 (frA_fit hp hq) (A9 (frG_fit hd hp hq) (frB_fit hp hq)), A9 (frF_fit hd hp hq) (frG_fit hd hp hq)⟩
theorem mv {x y : List Nat} (hx : Fit10 x) (hy : Fit10 y) : fe (v10 (mulT x y)) = fe (v10 x) * fe (v10 y) := mulT_v hx.len hy.len
theorem pv' {x y : List Nat} (hx : Fit10 x) (hy : Fit10 y) : fe (v10 (plusT x y)) = fe (v10 x) + fe (v10 y) := plusT_v hx.len hy.len
theorem nv {x y : List Nat} (hx : Fit10 x) (hy : Fit10 y) : fe (v10 (minusT x y)) = fe (v10 x) - fe (v10 y) := minusT_v hx.len hy
theorem frT_v (hd : Fit10 d) (hp : FarFit p) (hq : FarFit q) : farV (frT d p q) = Fr.add (fe (v10 d)) (farV p) (farV q) := by
  have a := frA_fit hp hq
  have m := frM_fit hd hp hq
  have b := frB_fit hp hq
  have c := frC_fit hp hq
  have f := frF_fit hd hp hq
  have g := frG_fit hd hp hq
  have c1 := A9 hp.x hq.x
  have c2 := A9 hp.y hq.y
  have va : fe (v10 (frA p q)) = fe (v10 p.fZ) * fe (v10 q.fZ) := mv hp.z hq.z
  have vm : fe (v10 (frM d p q)) = fe (v10 d) * (fe (v10 p.fX) * fe (v10 q.fX) * (fe (v10 p.fY) * fe (v10 q.fY))) := by rw [frM, mv hd (A9 c1 c2), mv c1 c2, mv hp.x hq.x, mv hp.y hq.y]
  have vb : fe (v10 (frB p q)) = fe (v10 p.fX) * fe (v10 q.fX) + fe (v10 p.fY) * fe (v10 q.fY) := by rw [frB, pv' c1 c2, mv hp.x hq.x, mv hp.y hq.y]
  have vc : fe (v10 (frC p q)) = (fe (v10 p.fX) + fe (v10 p.fY)) * (fe (v10 q.fX) + fe (v10 q.fY)) - (fe (v10 p.fX) * fe (v10 q.fX) + fe (v10 p.fY) * fe (v10 q.fY)) := by
    rw [frC, nv (A9 (plusT_fit hp.x hp.y) (plusT_fit hq.x hq.y)) b, mv (plusT_fit hp.x hp.y) (plusT_fit hq.x hq.y), pv' hp.x hp.y, pv' hq.x hq.y, vb]
  have vf : fe (v10 (frF d p q)) = fe (v10 (frA p q)) * fe (v10 (frA p q)) - fe (v10 (frM d p q)) := by rw [frF, nv (A9 a a) m, mv a a]
  have vg : fe (v10 (frG d p q)) = fe (v10 (frA p q)) * fe (v10 (frA p q)) + fe (v10 (frM d p q)) := by rw [frG, pv' (A9 a a) m, mv a a]
  unfold farV frT Fr.add
  simp only [mv a (A9 f c), mv f c, mv a (A9 g b), mv g b, mv f g, vf, vg, va, vm, vb, vc]
end
theorem FarRep.add {d : List Nat} {p q : far} {P Q : Pt Fp} (hd : Fit10 d) (hdv : fe (v10 d) = fD) (hp : FarRep p P) (hq : FarRep q Q) (hP : cv.on P) (hQ : cv.on Q) : FarRep (frT d p q) (cv.add P Q) := by
  refine ⟨frT_fit hd hp.fit hq.fit, ?_⟩
  rw [frT_v hd hp.fit hq.fit, hdv]
  exact cv.far_add hp.rep hq.rep hP hQ
def awT (P : Pt Fp) : far := ⟨openT (le (fb P.x)), openT (le (fb P.y)), openT (le (fb (1 : Fp)))⟩
theorem awT_fit (P : Pt Fp) : FarFit (awT P) := ⟨o_fit (Am _), o_fit (Am _), o_fit (Am _)⟩
theorem awT_rep (P : Pt Fp) : FarRep (awT P) P := by
  refine ⟨awT_fit P, ?_⟩
  have h : farV (awT P) = Fr.of P := by
    unfold farV awT Fr.of
    simp only [o_v (Am _), fe_fb]
  rw [h]
  exact cv.far_of P
def dT : List Nat := openT (le (fb fD))
theorem dT_fit : Fit10 dT := o_fit (Am _)
theorem dT_v : fe (v10 dT) = fD := by
  have h := o_v (Am fD)
  rw [fe_fb] at h
  exact h
theorem r5_openD : Meets Tryz.prog 205 [agg (Aa (fb fD))] [] (fun _ => True) (fun v out => v = agg (Bg dT) ∧ out = []) := r3_Open (fb fD) (Am _)

theorem r5_plus (d : List Nat) (p q : far) (hd : Fit10 d) (hp : FarFit p) (hq : FarFit q) : Meets Tryz.prog 208 [agg (Bg d), agg (p).cells, agg (q).cells] [] (fun _ => True) (fun v out => v = agg (frT d p q).cells ∧ out = []) := by
 intro W hW
 have ldd := hd.len
 have hpo := hp.ok
 have hqo := hq.ok
 unfold frT frF frG frC frM frB frA
 have fa := A9 hp.z hq.z
 have ca := r3_Times _ _ hp.z hq.z
 revert fa ca
 generalize mulT p.fZ q.fZ = a
 intro fa ca
 have la := fa.len
 have fb2 := A9 fa fa
 have cb := r3_Times _ _ fa fa
 revert fb2 cb
 generalize mulT a a = b
 intro fb2 cb
 have lb := fb2.len
 have fc := A9 hp.x hq.x
 have cc := r3_Times _ _ hp.x hq.x
 revert fc cc
 generalize mulT p.fX q.fX = c
 intro fc cc
 have lc := fc.len
 have fe2 := A9 hp.y hq.y
 have ce := r3_Times _ _ hp.y hq.y
 revert fe2 ce
 generalize mulT p.fY q.fY = e
 intro fe2 ce
 have le := fe2.len
 have fce := A9 fc fe2
 have cce := r3_Times _ _ fc fe2
 revert fce cce
 generalize mulT c e = ce2
 intro fce cce
 have lce2 := fce.len
 have fm := A9 hd fce
 have cm := r3_Times _ _ hd fce
 revert fm cm
 generalize mulT d ce2 = m
 intro fm cm
 have lm := fm.len
 have ff := minusT_fit fb2 fm
 have cf := r3_Minus _ _ fb2 fm
 revert ff cf
 generalize minusT b m = f
 intro ff cf
 have lf := ff.len
 have fg := plusT_fit fb2 fm
 have cg := r3_Plus _ _ fb2 fm
 revert fg cg
 generalize plusT b m = g
 intro fg cg
 have lg := fg.len
 have fbo := plusT_fit fc fe2
 have cbo := r3_Plus _ _ fc fe2
 revert fbo cbo
 generalize plusT c e = both
 intro fbo cbo
 have lboth := fbo.len
 have fpp := plusT_fit hp.x hp.y
 have cpp := r3_Plus _ _ hp.x hp.y
 revert fpp cpp
 generalize plusT p.fX p.fY = pp
 intro fpp cpp
 have lpp := fpp.len
 have fqq := plusT_fit hq.x hq.y
 have cqq := r3_Plus _ _ hq.x hq.y
 revert fqq cqq
 generalize plusT q.fX q.fY = qq
 intro fqq cqq
 have lqq := fqq.len
 have fpq := A9 fpp fqq
 have cpq := r3_Times _ _ fpp fqq
 revert fpq cpq
 generalize mulT pp qq = pq
 intro fpq cpq
 have lpq := fpq.len
 have fcr := minusT_fit fpq fbo
 have ccr := r3_Minus _ _ fpq fbo
 revert fcr ccr
 generalize minusT pq both = cr
 intro fcr ccr
 have lcr := fcr.len
 have ffc := A9 ff fcr
 have cfc := r3_Times _ _ ff fcr
 revert ffc cfc
 generalize mulT f cr = fcr2
 intro ffc cfc
 have lfcr2 := ffc.len
 have fgb := A9 fg fbo
 have cgb := r3_Times _ _ fg fbo
 revert fgb cgb
 generalize mulT g both = gb
 intro fgb cgb
 have lgb := fgb.len
 have fX := A9 fa ffc
 have cX := r3_Times _ _ fa ffc
 revert fX cX
 generalize mulT a fcr2 = X
 intro fX cX
 have lX := fX.len
 have fY := A9 fa fgb
 have cY := r3_Times _ _ fa fgb
 revert fY cY
 generalize mulT a gb = Y
 intro fY cY
 have lY := fY.len
 have fZ := A9 ff fg
 have cZ := r3_Times _ _ ff fg
 revert fZ cZ
 generalize mulT f g = Z
 intro fZ cZ
 have lZ := fZ.len
 refine Ac Tryz.func208 J 75 Tryz.ntmps208 J (G3 ?_)
 intro n3 hn3 hf3
 refine G1 ?_
 intro n4 hn4 hf4
 refine G1 ?_
 intro n5 hn5 hf5
 refine .alloc (cs := far.zero.cells) J far.zr J ?_
 intro n6 hn6 hf6
 refine G5 ?_
 refine .lN (Bg _) J J J Cb J Sz225 Z2 (far.row_fZ (by exact hpo)) (far.rl_fZ (by exact hpo)) ?_
 refine G1 ?_
 refine .lN (Bg _) J J J Cb J Sz225 Z1 (far.row_fZ (by exact hqo)) (far.rl_fZ (by exact hqo)) ?_
 refine .cV J J J J Body212 (ca) tV (.alloc (cs := (Bu (List.replicate 10 0))) J Zr225 J ?_)
 intro n7 hn7 hf7
 refine .sA J J J J (by exact Cc _) Sz225 (by (simp [Aj, la]; done)) Z0 sP zU ?_
 refine G4 ?_
 refine .lA J J J Cb J Sz225 Z0 (by (simp [Aj, la]; done)) ?_
 refine .lA J J J Cb J Sz225 Z0 (by (simp [Aj, la]; done)) ?_
 refine .cV J J J J Body212 (cb) tV (.alloc (cs := (Bu (List.replicate 10 0))) J Zr225 J ?_)
 intro n8 hn8 hf8
 refine .sA J J J J (by exact Cc _) Sz225 (by (simp [Aj, lb]; done)) Z0 sP zU ?_
 refine G3 ?_
 refine .draw [(0, 0), (1, 1), (0, 2), (1, 3), (0, 5), (1, 6), (0, 7), (1, 8), (3, 4), (3, 9), (2, 10), (2, 11), (4, 12), (4, 13)] Ap zK (G1 ?_)
 refine .lN (Bg _) J J J Cb J Sz225 Z4 (far.row_fX (by exact hpo)) (far.rl_fX (by exact hpo)) ?_
 refine G1 ?_
 refine .lN (Bg _) J J J Cb J Sz225 Z3 (far.row_fX (by exact hqo)) (far.rl_fX (by exact hqo)) ?_
 refine G1 ?_
 refine .lN (Bg _) J J J Cb J Sz225 Z4 (far.row_fY (by exact hpo)) (far.rl_fY (by exact hpo)) ?_
 refine G1 ?_
 refine .lN (Bg _) J J J Cb J Sz225 Z3 (far.row_fY (by exact hqo)) (far.rl_fY (by exact hqo)) ?_
 refine .cV J J J J Body212 (cc) tV (.cV J J J J Body212 (ce) tV (.alloc (cs := (Bu (List.replicate 10 0))) J Zr225 J ?_))
 intro n9 hn9 hf9
 refine .alloc (cs := (Bu (List.replicate 10 0))) J Zr225 J ?_
 intro n10 hn10 hf10
 refine .sA J J J J (by exact Cc _) Sz225 (by (simp [Aj, lc]; done)) Z1 sP zV ?_
 refine .sA J J J J (by exact Cc _) Sz225 (by (simp [Aj, le]; done)) Z0 sP zU ?_
 refine G3 ?_
 refine .draw [(1, 0), (1, 1), (1, 2), (3, 3), (3, 4), (2, 5), (4, 6)] Ap zK (.lA J J J Cb J Sz225 (by exact mem7) (by (simp [Aj, ldd]; done)) ?_)
 refine .lA J J J Cb J Sz225 Z1 (by (simp [Aj, lc]; done)) ?_
 refine .lA J J J Cb J Sz225 Z0 (by (simp [Aj, le]; done)) ?_
 refine .cV J J J J Body212 (cce) tV (.cV J J J J Body212 (cm) tV (.alloc (cs := (Bu (List.replicate 10 0))) J Zr225 J ?_))
 intro n11 hn11 hf11
 refine .sA J J J J (by exact Cc _) Sz225 (by (simp [Aj, lm]; done)) Z0 sP zU ?_
 refine G3 ?_
 refine .draw [(1, 0), (1, 1), (1, 3), (1, 4), (3, 2), (3, 5), (2, 6), (2, 7), (4, 8), (4, 9)] Ap zK (.lA J J J Cb J Sz225 Z3 (by (simp [Aj, lb]; done)) ?_)
 refine .lA J J J Cb J Sz225 Z0 (by (simp [Aj, lm]; done)) ?_
 refine .lA J J J Cb J Sz225 Z3 (by (simp [Aj, lb]; done)) ?_
 refine .lA J J J Cb J Sz225 Z0 (by (simp [Aj, lm]; done)) ?_
 refine .cV J J J J Body226 (cf) tV (.cV J J J J Body229 (cg) tV (.alloc (cs := (Bu (List.replicate 10 0))) J Zr225 J ?_))
 intro n12 hn12 hf12
 refine .alloc (cs := (Bu (List.replicate 10 0))) J Zr225 J ?_
 intro n13 hn13 hf13
 refine .sA J J J J (by exact Cc _) Sz225 (by (simp [Aj, lf]; done)) Z1 sP zV ?_
 refine .sA J J J J (by exact Cc _) Sz225 (by (simp [Aj, lg]; done)) Z0 sP zU ?_
 refine G4 ?_
 refine .lA J J J Cb J Sz225 Z4 (by (simp [Aj, lc]; done)) ?_
 refine .lA J J J Cb J Sz225 Z3 (by (simp [Aj, le]; done)) ?_
 refine .cV J J J J Body229 (cbo) tV (.alloc (cs := (Bu (List.replicate 10 0))) J Zr225 J ?_)
 intro n14 hn14 hf14
 refine .sA J J J J (by exact Cc _) Sz225 (by (simp [Aj, lboth]; done)) Z0 sP zU ?_
 refine G3 ?_
 refine .draw [(0, 0), (1, 1), (0, 2), (1, 3), (0, 5), (1, 6), (0, 7), (1, 8), (1, 11), (3, 4), (3, 9), (3, 10), (3, 12), (2, 13), (4, 14)] Ap zK (G1 ?_)
 refine .lN (Bg _) J J J Cb J Sz225 mR (far.row_fX (by exact hpo)) (far.rl_fX (by exact hpo)) ?_
 refine G1 ?_
 refine .lN (Bg _) J J J Cb J Sz225 mR (far.row_fY (by exact hpo)) (far.rl_fY (by exact hpo)) ?_
 refine G1 ?_
 refine .lN (Bg _) J J J Cb J Sz225 mR (far.row_fX (by exact hqo)) (far.rl_fX (by exact hqo)) ?_
 refine G1 ?_
 refine .lN (Bg _) J J J Cb J Sz225 mR (far.row_fY (by exact hqo)) (far.rl_fY (by exact hqo)) ?_
 refine .lA J J J Cb J Sz225 Z0 (by (simp [Aj, lboth]; done)) ?_
 refine .cV J J J J Body229 (cpp) tV (.cV J J J J Body229 (cqq) tV (.cV J J J J Body212 (cpq) tV (.cV J J J J Body226 (ccr) tV (.alloc (cs := (Bu (List.replicate 10 0))) J Zr225 J ?_))))
 intro n15 hn15 hf15
 refine .sA J J J J (by exact Cc _) Sz225 (by (simp [Aj, lcr]; done)) Z0 sP zU ?_
 refine G3 ?_
 refine .draw [(1, 0), (1, 1), (1, 2), (1, 5), (1, 6), (1, 7), (1, 10), (1, 11), (3, 3), (3, 4), (3, 8), (3, 9), (3, 12), (0, 13), (4, 14)] Ap zK (.lA J J J Cb J Sz225 mR (by (simp [Aj, la]; done)) ?_)
 refine .lA J J J Cb J Sz225 Z3 (by (simp [Aj, lf]; done)) ?_
 refine .lA J J J Cb J Sz225 Z0 (by (simp [Aj, lcr]; done)) ?_
 refine .lA J J J Cb J Sz225 mR (by (simp [Aj, la]; done)) ?_
 refine .lA J J J Cb J Sz225 Z2 (by (simp [Aj, lg]; done)) ?_
 refine .lA J J J Cb J Sz225 Z1 (by (simp [Aj, lboth]; done)) ?_
 refine .lA J J J Cb J Sz225 Z3 (by (simp [Aj, lf]; done)) ?_
 refine .lA J J J Cb J Sz225 Z2 (by (simp [Aj, lg]; done)) ?_
 refine .cV J J J J Body212 (cfc) tV (.cV J J J J Body212 (cX) tV (.cV J J J J Body212 (cgb) tV (.cV J J J J Body212 (cY) tV (.cV J J J J Body212 (cZ) tV (.build (cs := (⟨X, Y, Z⟩ : far).cells) J J J (fun w => by kernel_rfl) ?_)))))
 refine .sA J J J J (far.isCell (by exact ⟨lX, lY, lZ⟩)) Sz228 (far.length (by exact ⟨lX, lY, lZ⟩)) mR (far.length (by exact far.zero_ok)) (by (repeat (first | exact upd0 | apply Upd.tail))) ?_
 refine G2 ?_
 -- ret
 refine G2 ?_
 refine ⟨_, [], An J J Y228.h J Sz228 mR (by exact far.length (by exact ⟨lX, lY, lZ⟩)), sP, sP, ?_, rfl⟩
 rfl

theorem r5_near (p : far) (P : Pt Fp) (hp : FarRep p P) : Meets Tryz.prog 210 [agg (p).cells] [] (fun _ => True) (fun v out => v = agg (ptc P).cells ∧ out = []) := by
 intro W hW
 have hpo := hp.fit.ok
 have hpt := cv.far_pt hp.rep
 have h1 := r3_Close_v p.fZ hp.fit.z _ rfl
 have h2 := r3_Close_v p.fX hp.fit.x _ rfl
 have h3 := r3_Close_v p.fY hp.fit.y _ rfl
 have hi := r_inv (fe (v10 p.fZ))
 have e : P = ⟨fe (v10 p.fX) * finv (fe (v10 p.fZ)), fe (v10 p.fY) * finv (fe (v10 p.fZ))⟩ := hpt.symm
 rw [e]
 clear e hpt
 revert h1 h2 h3 hi
 generalize finv (fe (v10 p.fZ)) = iz
 generalize fe (v10 p.fZ) = z
 generalize fe (v10 p.fX) = x
 generalize fe (v10 p.fY) = y
 intro h1 h2 h3 hi
 refine Ac Tryz.func210 J 19 Tryz.ntmps210 J (.sr (.boxA J J ?_))
 intro n1 hn1 hf1
 refine .alloc (cs := Point.zero.cells) J Point.zr J ?_
 intro n2 hn2 hf2
 refine .nsr (.fld J J J Y228.h J Sz225 dE _ J (.lN (Bg _) J J J Cb J Sz225 Z1 (far.row_fZ (by exact hpo)) (far.rl_fZ (by exact hpo)) ?_))
 refine .cV J J J J Body211 (h1) tV (.cV J J J J Body171 (hi) tV (.alloc (cs := (Aa (List.replicate 32 0))) J A4 J ?_))
 intro n3 hn3 hf3
 refine .sA J J J J zE Sz124 zF Z0 sP zU ?_
 refine .na (.seq (.draw [(0, 0), (1, 1), (1, 3), (0, 5), (1, 6), (1, 8), (3, 2), (3, 4), (3, 7), (3, 9), (0, 10), (4, 11)] Ap zK (.fld J J J Y228.h J Sz225 dE _ J (.lN (Bg _) J J J Cb J Sz225 Z2 (far.row_fX (by exact hpo)) (far.rl_fX (by exact hpo)) ?_))))
 refine .lA J J J Y124.h J Sz124 Z0 zF ?_
 refine .fld J J J Y228.h J Sz225 dE _ J (.lN (Bg _) J J J Cb J Sz225 Z2 (far.row_fY (by exact hpo)) (far.rl_fY (by exact hpo)) ?_)
 refine .lA J J J Y124.h J Sz124 Z0 zF ?_
 refine .cV J J J J Body211 (h2) tV (.cV J J J J Body169 (r_mul x iz) tV (.cV J J J J Body211 (h3) tV (.cV J J J J Body169 (r_mul y iz) tV (.build (cs := (ptc (⟨x * iz, y * iz⟩ : Pt Fp)).cells) J J J (fun w => by kernel_rfl) ?_))))
 refine .sA J J J J (Point.isCell zP) Sz127 (Point.length zP) Z1 (Point.length zZ) zV ?_
 refine .na ?_
 -- ret
 refine .ret (en_r ?_)
 refine ⟨_, [], An J J Y127.h J Sz127 Z1 (by exact Point.length zP), sP, sP, ?_, rfl⟩
 rfl

theorem r5_away (P : Pt Fp) : Meets Tryz.prog 207 [agg (ptc P).cells] [] (fun _ => True) (fun v out => v = agg (awT P).cells ∧ out = []) := by
 intro W hW
 have h1 := r3_Open (fb P.x) (Am _)
 have h2 := r3_Open (fb P.y) (Am _)
 have h3 := r3_Open (fb 1) (Am _)
 have lX := openT_length (le (fb P.x))
 have lY := openT_length (le (fb P.y))
 have lZ := openT_length (le (fb 1))
 unfold awT
 revert h1 h2 h3 lX lY lZ
 generalize openT (le (fb P.x)) = X
 generalize openT (le (fb P.y)) = Y
 generalize openT (le (fb 1)) = Z
 intro h1 h2 h3 lX lY lZ
 refine Ac Tryz.func207 J 12 Tryz.ntmps207 J (G3 ?_)
 intro n1 hn1 hf1
 refine .alloc (cs := far.zero.cells) J far.zr J ?_
 intro n2 hn2 hf2
 refine G3 ?_
 refine .draw [(0, 0), (1, 1), (0, 3), (1, 4), (3, 2), (3, 5), (3, 6), (3, 7), (0, 8), (4, 9)] Ap zK (G1 ?_)
 refine .lN (Aa _) J J J Y124.h J Sz124 Z1 (Point.row_fX zP) (Point.rl_fX zP) ?_
 refine G1 ?_
 refine .lN (Aa _) J J J Y124.h J Sz124 Z1 (Point.row_fY zP) (Point.rl_fY zP) ?_
 refine .cV J J J J Body205 (h1) tV (.cV J J J J Body205 (h2) tV (.cV J J J J Body170 (r_one) tV (.cV J J J J Body205 (h3) tV (.build (cs := (⟨X, Y, Z⟩ : far).cells) J J J (fun w => by kernel_rfl) ?_))))
 refine .sA J J J J (far.isCell (by exact ⟨lX, lY, lZ⟩)) Sz228 (far.length (by exact ⟨lX, lY, lZ⟩)) Z0 (far.length (by exact far.zero_ok)) zU ?_
 refine G2 ?_
 -- ret
 refine G2 ?_
 refine ⟨_, [], An J J Y228.h J Sz228 Z0 (by exact far.length (by exact ⟨lX, lY, lZ⟩)), sP, sP, ?_, rfl⟩
 rfl

end Go.Proofs.YtfcbgdkpagcbbaaGreat
end

section
namespace Go.Proofs.YtfcbgdkpagcbbaaGreat
open Go Hw

open Ed

theorem byte_plus : ∀ b : UInt8, b.toNat < 128 → b + 128 = b ||| 128 := by
  intro b hb
  have h : ∀ n, n < 128 → UInt8.ofNat n + 128 = UInt8.ofNat n ||| 128 := by decide
  have h2 := h b.toNat hb
  rwa [UInt8.ofNat_toNat] at h2
end Go.Proofs.YtfcbgdkpagcbbaaGreat
end

section
namespace Go.Proofs.YtfcbgdkpagcbbaaGreat
open Go Hw

open Ed

theorem lin_d {a b j : Nat} (hj : j < 256) : a / 2 ^ (256 - (j + 1)) = 2 * (a / 2 ^ (256 - j)) + a / 2 ^ (255 - j) % 2 := next_div a j hj
theorem frep_dbl {d : List Nat} {p : far} {P Q : Pt Fp} (hd : Fit10 d) (hdv : fe (v10 d) = fD) (hP : cv.on P) (hQ : cv.on Q) {A B : Nat} (h : FarRep p (cv.lin A B P Q)) : FarRep (frT d p p) (cv.lin (2 * A) (2 * B) P Q) := by
  rw [cv.lin_two hP hQ]
  exact FarRep.add hd hdv h h (cv.on_lin hP hQ _ _) (cv.on_lin hP hQ _ _)
theorem frep_l {d : List Nat} {p x : far} {P Q : Pt Fp} (hd : Fit10 d) (hdv : fe (v10 d) = fD) (hP : cv.on P) (hQ : cv.on Q) {A B t : Nat} (h : FarRep p (cv.lin A B P Q)) (hx : FarRep x P) (ht : t = 1) : FarRep (frT d p x) (cv.lin (A + t) B P Q) := by
  rw [ht, cv.lin_left hP hQ]
  exact FarRep.add hd hdv h hx (cv.on_lin hP hQ _ _) hP
theorem frep_r {d : List Nat} {p x : far} {P Q : Pt Fp} (hd : Fit10 d) (hdv : fe (v10 d) = fD) (hP : cv.on P) (hQ : cv.on Q) {A B t : Nat} (h : FarRep p (cv.lin A B P Q)) (hx : FarRep x Q) (ht : t = 1) : FarRep (frT d p x) (cv.lin A (B + t) P Q) := by
  rw [ht, cv.lin_right hP hQ]
  exact FarRep.add hd hdv h hx (cv.on_lin hP hQ _ _) hQ
theorem frep_first (a b : List UInt8) (ha : a.length = 32) (hb : b.length = 32) (P Q : Pt Fp) : FarRep (awT (zero : Pt Fp)) (cv.lin (le a / 2 ^ (256 - 0)) (le b / 2 ^ (256 - 0)) P Q) := by
  have h1 := le32 ha
  have h2 := le32 hb
  rw [show 256 - 0 = 256 from rfl, Nat.div_eq_of_lt h1, Nat.div_eq_of_lt h2, cv.lin_zero]
  exact awT_rep zero
theorem bit_one {E j : Nat} (h : E.testBit j = true) : E / 2 ^ j % 2 = 1 := by have := test_div E j true h; rwa [if_pos rfl] at this
theorem bit_nil {E j : Nat} (h : E.testBit j = false) : E / 2 ^ j % 2 = 0 := by have := test_div E j false h; rwa [if_neg dE] at this

theorem r5_Mul2 (a b : List UInt8) (P Q : Pt Fp) (ha : a.length = 32) (hb : b.length = 32) (hP : cv.on P) (hQ : cv.on Q) : Meets Tryz.prog 167 [agg (Aa a), agg (ptc P).cells, agg (Aa b), agg (ptc Q).cells] [] (fun _ => True) (fun v out => v = agg (ptc (cv.lin (le a) (le b) P Q)).cells ∧ out = []) := by
 intro W hW
 have hDf := dT_fit
 have hDv := dT_v
 have hod := r5_openD
 revert hDf hDv hod
 generalize dT = D
 intro hDf hDv hod
 have hDl := hDf.len
 have hAP := awT_rep P
 have hAQ := awT_rep Q
 have hAZ := frep_first a b ha hb P Q
 have cP := r5_away P
 have cQ := r5_away Q
 have cZ := r5_away (zero : Pt Fp)
 revert hAP hAQ hAZ cP cQ cZ
 generalize awT P = AP
 generalize awT Q = AQ
 generalize awT (zero : Pt Fp) = AZ
 intro hAP hAQ hAZ cP cQ cZ
 have hAPo := hAP.fit.ok
 have hAQo := hAQ.fit.ok
 have hAZo := hAZ.fit.ok
 have huo : True := trivial
 have hwo : True := trivial
 have hxo : True := trivial
 refine Ac Tryz.func167 J 55 Tryz.ntmps167 J (.sr (.boxA J J ?_))
 intro n4 hn4 hf4
 refine .boxA J J ?_
 intro n5 hn5 hf5
 refine .boxA J J ?_
 intro n6 hn6 hf6
 refine .boxA J J ?_
 intro n7 hn7 hf7
 refine .alloc (cs := Point.zero.cells) J Point.zr J ?_
 intro n8 hn8 hf8
 refine .na (.seq (.sr (.lA J J J Y127.h J Sz127 Z3 (Point.length zP) ?_)))
 refine .cV J J J J Body165 (r5_Check P hP) tV (.nei J J J J (show (!decide _) = false from congrArg not (decide_eq_true (rfl))) (.m J J J (.lA J J J Y127.h J Sz127 Z1 (Point.length zP) ?_)))
 refine .cV J J J J Body165 (r5_Check Q hQ) tV (.nei J J J J (show (!decide _) = false from congrArg not (decide_eq_true (rfl))) (.pick J J J J J J (.na (.cond_f J J (.skip (Cq (.seq (.draw [(1, 4), (1, 6), (3, 0), (3, 1), (3, 2), (3, 3), (3, 5), (3, 7), (2, 8), (2, 9), (2, 10), (2, 11), (4, 12), (4, 13), (4, 14), (4, 15)] Ap zK (.lA J J J Y127.h J Sz127 Z3 (Point.length zP) ?_)))))))))
 refine .lA J J J Y127.h J Sz127 Z1 (Point.length zP) ?_
 refine .cV J J J J Body206 (r5_D) tV (.cV J J J J Body205 (hod) tV (.cV J J J J Body168 (r5_Zero) tV (.cV J J J J Body207 (cZ) tV (.cV J J J J Body207 (cP) tV (.cV J J J J Body207 (cQ) tV (.alloc (cs := (Bu (List.replicate 10 0))) J Zr225 J ?_))))))
 intro n9 hn9 hf9
 refine .alloc (cs := far.zero.cells) J far.zr J ?_
 intro n10 hn10 hf10
 refine .alloc (cs := far.zero.cells) J far.zr J ?_
 intro n11 hn11 hf11
 refine .alloc (cs := far.zero.cells) J far.zr J ?_
 intro n12 hn12 hf12
 refine .sA J J J J (by exact Cc _) Sz225 (by (simp [Aj, hDl]; done)) Z3 sP (by exact upd3) ?_
 refine .sA J J J J (far.isCell (by exact hAZo)) Sz228 (far.length (by exact hAZo)) Z2 (far.length (by exact far.zero_ok)) (by exact upd2) ?_
 refine .sA J J J J (far.isCell (by exact hAPo)) Sz228 (far.length (by exact hAPo)) Z1 (far.length (by exact far.zero_ok)) zV ?_
 refine .sA J J J J (far.isCell (by exact hAQo)) Sz228 (far.length (by exact hAQo)) Z0 (far.length (by exact far.zero_ok)) zU ?_
 refine .na (.seq (.sr (.a J J J (.na (.block (.loop (ι := Nat × far) (fun p => ⟨[(4, ptr n4 0), (6, ptr n6 0), (8, ptr n8 0), (9, ptr n9 0), (10, ptr n10 0), (11, ptr n11 0), (12, ptr n12 0), (13, i64 (255 - (p.1 : Int)))], [⟨n12, (AQ).cells, 228, 30⟩, ⟨n11, (AP).cells, 228, 30⟩, ⟨n10, (p.2).cells, 228, 30⟩, ⟨n9, Bg D, 225, 10⟩, ⟨n8, Point.zero.cells, 127, 64⟩, ⟨n6, Aa b, 124, (Aa b).length⟩, ⟨n4, Aa a, 124, (Aa a).length⟩]⟩) (fun p => p.1 ≤ 256 ∧ FarRep p.2 (cv.lin (le a / 2 ^ (256 - p.1)) (le b / 2 ^ (256 - p.1)) P Q)) (fun p => 256 - p.1) ((0, AZ)) ?_ ?_ ?_))))))
 · exact ⟨Nat.zero_le _, hAZ⟩
 · exact Ad (wk1 rfl (wk1 rfl (wk1 rfl (wk1 rfl (wk1 rfl (wk1 rfl (wk1 rfl (wk1 rfl wk0)))))))) (wh1 Z0 (wh1 Z1 (wh1 Z2 (wh1 Z3 (wh1 Z4 (wh1 (by exact mem6) (wh1 mR wh0))))))) nD
 rintro p ⟨hj1, hw⟩
 have hwo := hw.fit.ok
 refine .seq (.sr (.m J J J (.geq J J J J J (.na (.condP J (fun hc1 => ?_) (fun hc1 => ?_))))))
 ·
  have hj3 : p.1 < 256 := by omega
  have hu := frep_dbl hDf hDv hP hQ hw
  have cd := r5_plus D p.2 p.2 hDf hw.fit hw.fit
  revert hu cd
  generalize frT D p.2 p.2 = F1
  intro hu cd
  have huo := hu.fit.ok
  rw [show (255 : Int) - (p.1 : Int) = ((255 - p.1 : Nat) : Int) by omega]
  refine .skip (Cq (.join (ι := far) (fun y => ⟨[(4, ptr n4 0), (6, ptr n6 0), (8, ptr n8 0), (9, ptr n9 0), (10, ptr n10 0), (11, ptr n11 0), (12, ptr n12 0), (13, i64 (((255 - p.1 : Nat) : Int)))], [⟨n12, (AQ).cells, 228, 30⟩, ⟨n11, (AP).cells, 228, 30⟩, ⟨n10, (y).cells, 228, 30⟩, ⟨n9, Bg D, 225, 10⟩, ⟨n8, Point.zero.cells, 127, 64⟩, ⟨n6, Aa b, 124, (Aa b).length⟩, ⟨n4, Aa a, 124, (Aa a).length⟩]⟩) (fun y => FarRep y (cv.lin (le a / 2 ^ (256 - (p.1 + 1))) (le b / 2 ^ (256 - (p.1 + 1))) P Q)) ?_ ?_))
  ·
   refine .block (.sr (.lA J J J Cb J Sz225 Z3 (by (simp [Aj, hDl]; done)) ?_))
   refine .lA J J J Y228.h J Sz228 Z2 (far.length (by exact hwo)) ?_
   refine .lA J J J Y228.h J Sz228 Z2 (far.length (by exact hwo)) ?_
   refine .cV J J J J Body208 (cd) tV (.sA J J J J (far.isCell (by exact huo)) Sz228 (far.length (by exact huo)) Z2 (far.length (by exact hwo)) (by exact upd2) ?_)
   refine .na (.join (ι := far) (fun x => ⟨[(4, ptr n4 0), (6, ptr n6 0), (8, ptr n8 0), (9, ptr n9 0), (10, ptr n10 0), (11, ptr n11 0), (12, ptr n12 0), (13, i64 (((255 - p.1 : Nat) : Int)))], [⟨n12, (AQ).cells, 228, 30⟩, ⟨n11, (AP).cells, 228, 30⟩, ⟨n10, (x).cells, 228, 30⟩, ⟨n9, Bg D, 225, 10⟩, ⟨n8, Point.zero.cells, 127, 64⟩, ⟨n6, Aa b, 124, (Aa b).length⟩, ⟨n4, Aa a, 124, (Aa a).length⟩]⟩) (fun x => FarRep x (cv.lin (2 * (le a / 2 ^ (256 - p.1)) + le a / 2 ^ (255 - p.1) % 2) (2 * (le b / 2 ^ (256 - p.1))) P Q)) ?_ ?_)
   ·
    refine .sr (.lA J J J Y124.h J Sz124 (by exact mem6) (by (simp [ha]; done)) ?_)
    refine .m J J J (.cV J J J J Body209 (ref_bit_at a ha (255 - p.1) oM) tV (.na (.cond J (fun hc2 => ?_) (fun hc2 => ?_))))
    ·
     have ca := r5_plus D F1 AP hDf hu.fit hAP.fit
     have hul := frep_l hDf hDv hP hQ hu hAP (bit_one hc2)
     revert ca hul
     generalize frT D F1 AP = F2
     intro ca hul
     have hulo := hul.fit.ok
     refine .region (.lA J J J Cb J Sz225 Z3 (by (simp [Aj, hDl]; done)) ?_)
     refine .lA J J J Y228.h J Sz228 Z2 (far.length (by exact huo)) ?_
     refine .lA J J J Y228.h J Sz228 Z1 (far.length (by exact hAPo)) ?_
     refine .cV J J J J Body208 (ca) tV (.sA J J J J (far.isCell (by exact hulo)) Sz228 (far.length (by exact hulo)) Z2 (far.length (by exact huo)) (by exact upd2) ?_)
     refine .na ?_
     exact ⟨F2, hul, Ad (wk1 rfl (wk1 rfl (wk1 rfl (wk1 rfl (wk1 rfl (wk1 rfl (wk1 rfl (wk1 rfl wk0)))))))) (wh1 Z0 (wh1 Z1 (wh1 Z2 (wh1 Z3 (wh1 Z4 (wh1 (by exact mem5) (wh1 (by exact mem6) wh0))))))) nD⟩
    refine .skip (Cq ?_)
    exact ⟨F1, (by rw [bit_nil hc2, Nat.add_zero]; exact hu), Ad (wk1 rfl (wk1 rfl (wk1 rfl (wk1 rfl (wk1 rfl (wk1 rfl (wk1 rfl (wk1 rfl wk0)))))))) (wh1 Z0 (wh1 Z1 (wh1 Z2 (wh1 Z3 (wh1 Z4 (wh1 (by exact mem5) (wh1 (by exact mem6) wh0))))))) nD⟩
   intro x hj
   have hx := hj
   have hxo := hx.fit.ok
   refine .sr (.lA J J J Y124.h J Sz124 (by exact mem5) (by (simp [hb]; done)) ?_)
   refine .m J J J (.cV J J J J Body209 (ref_bit_at b hb (255 - p.1) oM) tV (.na (.cond J (fun hc3 => ?_) (fun hc3 => ?_))))
   ·
    have cx := r5_plus D x AQ hDf hx.fit hAQ.fit
    have hxr := frep_r hDf hDv hP hQ hx hAQ (bit_one hc3)
    revert cx hxr
    generalize frT D x AQ = F3
    intro cx hxr
    have hxro := hxr.fit.ok
    refine .region (.lA J J J Cb J Sz225 Z3 (by (simp [Aj, hDl]; done)) ?_)
    refine .lA J J J Y228.h J Sz228 Z2 (far.length (by exact hxo)) ?_
    refine .lA J J J Y228.h J Sz228 Z0 (far.length (by exact hAQo)) ?_
    refine .cV J J J J Body208 (cx) tV (.sA J J J J (far.isCell (by exact hxro)) Sz228 (far.length (by exact hxro)) Z2 (far.length (by exact hxo)) (by exact upd2) ?_)
    refine .nil (bl_n (Cq ?_))
    exact ⟨F3, (by rw [lin_d (b := 0) hj3, lin_d (b := 0) hj3]; exact hxr), Ad (wk1 rfl (wk1 rfl (wk1 rfl (wk1 rfl (wk1 rfl (wk1 rfl (wk1 rfl (wk1 rfl wk0)))))))) (wh1 Z0 (wh1 Z1 (wh1 Z2 (wh1 Z3 (wh1 Z4 (wh1 (by exact mem5) (wh1 (by exact mem6) wh0))))))) nD⟩
   refine .skip (bl_n (Cq ?_))
   exact ⟨x, (by rw [lin_d (b := 0) hj3, lin_d (b := 0) hj3, bit_nil (E := le b) hc3, Nat.add_zero]; exact hx), Ad (wk1 rfl (wk1 rfl (wk1 rfl (wk1 rfl (wk1 rfl (wk1 rfl (wk1 rfl (wk1 rfl wk0)))))))) (wh1 Z0 (wh1 Z1 (wh1 Z2 (wh1 Z3 (wh1 Z4 (wh1 (by exact mem5) (wh1 (by exact mem6) wh0))))))) nD⟩
  intro y hj
  have hy := hj
  have hyo := hy.fit.ok
  refine .region (.m J J J (.sub_i64 J J J J oM (.a J J J (.na ?_))))
  exact ⟨(p.1 + 1, y), ⟨by simp only []; omega, hy⟩, by simp only []; omega, Ad (wk1 rfl (wk1 rfl (wk1 rfl (wk1 rfl (wk1 rfl (wk1 rfl (wk1 rfl (wk1 (congrArg (fun z => some (i64 z)) (show ((255 - p.1 : Nat) : Int) - 1 = 255 - ((p.1 + 1 : Nat) : Int) by omega)) wk0)))))))) (wh1 Z0 (wh1 Z1 (wh1 Z2 (wh1 Z3 (wh1 Z4 (wh1 (by exact mem5) (wh1 (by exact mem6) wh0))))))) nD⟩
 have hje : p.1 = 256 := by omega
 have hfin : FarRep p.2 (cv.lin (le a) (le b) P Q) := by rw [hje, lin_last] at hw; exact hw
 refine .exit (at_x (at_x (bl_h (Cq (.sr (.lA J J J Y228.h J Sz228 Z2 (far.length (by exact hwo)) ?_))))))
 refine .cV J J J J Body210 (r5_near p.2 _ hfin) tV (.sA J J J J (Point.isCell zP) Sz127 (Point.length zP) Z4 (Point.length zZ) (by exact upd4) ?_)
 refine .na ?_
 -- ret
 refine .ret (en_r ?_)
 refine ⟨_, [], An J J Y127.h J Sz127 Z4 (by exact Point.length zP), sP, sP, ?_, rfl⟩
 rfl
theorem r5_Mul2z (a : List UInt8) (P : Pt Fp) (ha : a.length = 32) (hP : cv.on P) : Meets Tryz.prog 167 [agg (Aa a), agg (ptc P).cells, agg (Aa (List.replicate 32 0)), agg (ptc (zero : Pt Fp)).cells] [] (fun _ => True) (fun v out => v = agg (ptc (cv.mul (le a) P)).cells ∧ out = []) := by
  have h := r5_Mul2 a (List.replicate 32 0) P zero ha rfl hP cv.on_zero
  rwa [le_zero32, lin_one] at h

theorem r5_Mul (a : List UInt8) (P : Pt Fp) (ha : a.length = 32) (hP : cv.on P) : Meets Tryz.prog 117 [agg (Aa a), agg (ptc P).cells] [] (fun _ => True) (fun v out => v = agg (ptc (cv.mul (le a) P)).cells ∧ out = []) := by
 intro W hW
 refine Ac Tryz.func117 J 10 Tryz.ntmps117 J (.sr (.boxA J J ?_))
 intro n2 hn2 hf2
 refine .boxA J J ?_
 intro n3 hn3 hf3
 refine .alloc (cs := Point.zero.cells) J Point.zr J ?_
 intro n4 hn4 hf4
 refine .na (.seq (.draw [(1, 0), (1, 1), (0, 2), (3, 3), (3, 4), (4, 5)] Ap zK (.lA J J J Y124.h J Sz124 Z2 (by (simp [ha]; done)) ?_)))
 refine .lA J J J Y127.h J Sz127 Z1 (Point.length zP) ?_
 refine .build (cs := Aa (List.replicate 32 0)) J J J (fun w => by kernel_rfl) ?_
 refine .cV J J J J Body168 (r5_Zero) tV (.cV J J J J Body167 (r5_Mul2z a P ha hP) tV (.sA J J J J (Point.isCell zP) Sz127 (Point.length zP) Z0 (Point.length zZ) zU ?_))
 refine .na ?_
 -- ret
 refine .ret (en_r ?_)
 refine ⟨_, [], An J J Y127.h J Sz127 Z0 (by exact Point.length zP), sP, sP, ?_, rfl⟩
 rfl

theorem r5_Bytes (P : Pt Fp) (hP : cv.on P) : Meets Tryz.prog 116 [agg (ptc P).cells] [] (fun _ => True) (fun v out => v = .tuple #[agg (Aa (pb P)), i64 0] ∧ out = []) := by
 intro W hW
 refine Ac Tryz.func116 J 19 Tryz.ntmps116 J (.sr (.boxA J J ?_))
 intro n1 hn1 hf1
 refine .alloc (cs := (Aa (List.replicate 32 0))) J Zr22 J ?_
 intro n2 hn2 hf2
 refine .a J J J (.na (.seq (.sr (.lA J J J Y127.h J Sz127 Z1 (Point.length zP) ?_))))
 refine .cV J J J J Body165 (r5_Check P hP) tV (.nei J J J J (show (!decide _) = false from congrArg not (decide_eq_true (rfl))) (.na (.cond_f J (rfl) (.skip (Cq (.sr (.fld J J J Y127.h J Sz124 dE _ J (.lN (Aa _) J J J Y124.h J Sz124 Z1 (Point.row_fY zP) (Point.rl_fY zP) ?_))))))))
 refine .alloc (cs := (Aa (List.replicate 32 0))) J Zr22 J ?_
 intro n4 hn4 hf4
 refine .sA J J J J zE Sz22 (by (simp [Am, ptc_y]; done)) Z0 sP zU ?_
 refine .na (.join (ι := Unit) (fun _u => ⟨[(2, ptr n2 0), (4, ptr n4 0)], [⟨n4, Aa (pb P), 22, 32⟩, ⟨n2, Aa (List.replicate 32 0), 22, 32⟩]⟩) (fun _u => True) ?_ ?_)
 ·
  refine .sr (.fld J J J Y127.h J Sz124 dE _ J (.lN (Aa _) J J J Y124.h J Sz124 Z2 (Point.row_fX zP) (Point.rl_fX zP) ?_))
  refine .cV J J J J Body166 (r_odd P.x) tV (.na (.condP J (fun hc1 => ?_) (fun hc1 => ?_)))
  ·
   refine .region (.i1 J J J J Y22.h Sz5 31 J dE (.load1 J J J Y5.h J Z0 (get_bytes (by show 31 < (fb P.y).length; rw [Am]; decide)) ?_))
   refine .add_u8 J J J (show Ag _ _ = some (u8 128) from rfl) (.i1 J J J J Y22.h Sz5 31 J dE ?_)
   rw [show ((ptc P).fY.getD 31 0 + 128 : UInt8) = (fb P.y).getD 31 0 ||| 128 from byte_plus _ (fb_top P.y)]
   refine .s1 J J J J J Sz5 Z0 (by (simp [Am, ptc_y]; done)) (by exact Be _ _ _) zU ?_
   refine .na ?_
   (rw [show pb P = (fb P.y).set 31 ((fb P.y).getD 31 0 ||| 128) from if_pos hc1]; exact ⟨(), trivial, Ad (wk1 rfl (wk1 rfl wk0)) (wh1 Z0 (wh1 Z1 wh0)) nD⟩)
  refine .skip (Cq ?_)
  (rw [show pb P = fb P.y from if_neg hc1]; exact ⟨(), trivial, Ad (wk1 rfl (wk1 rfl wk0)) (wh1 Z0 (wh1 Z1 wh0)) nD⟩)
 intro _u hj
 skip
 refine .sr (.lA J J J Y22.h J Sz22 Z0 (by (simp [Cd]; done)) ?_)
 refine .sA J J J J zE Sz22 (by (simp [Cd]; done)) Z1 sP zV ?_
 refine .a J J J (.na ?_)
 -- ret
 refine .ret (en_r ?_)
 refine ⟨_, [], Bj J J J Y22.h J Sz22 Z1 (by simp [Cd]), sP, sP, ?_, rfl⟩
 rfl
end Go.Proofs.YtfcbgdkpagcbbaaGreat
end

section
namespace Go.Proofs.YtfcbgdkpagcbbaaGreat
open Go Hw

theorem ref_mul (a b : List UInt8) (ha : a.length = 32) (hb : b.length = 32) : Meets Tryz.prog 175 [agg (Aa a), agg (Aa b)] [] (fun _ => True) (fun v out => v = agg (Aa (leb 32 (le a * le b % L))) ∧ out = []) := by
 intro W hW
 refine Ac Tryz.func175 J 58 Tryz.ntmps175 J (.sr (.boxA J J ?_))
 intro n2 hn2 hf2
 refine .boxA J J ?_
 intro n3 hn3 hf3
 refine .alloc (cs := (Aa (List.replicate 32 0))) J A4 J ?_
 intro n4 hn4 hf4
 refine .nsr (.alloc (cs := (Bu (List.replicate 64 0))) J Zr235 J ?_)
 intro n5 hn5 hf5
 refine .na (.join (ι := Unit) (fun _u => ⟨[(2, ptr n2 0), (3, ptr n3 0), (4, ptr n4 0), (5, ptr n5 0)], [⟨n5, natsV (out a b 32), 235, 64⟩, ⟨n4, Aa (List.replicate 32 0), 124, 32⟩]⟩) (fun _u => True) ?_ ?_)
 ·
  refine .sr (.a J J J (.na (.block (.loop (ι := Nat) (fun p => ⟨[(2, ptr n2 0), (3, ptr n3 0), (4, ptr n4 0), (5, ptr n5 0), (6, i64 (p : Int))], [⟨n5, natsV (out a b p), 235, 64⟩, ⟨n4, Aa (List.replicate 32 0), 124, 32⟩, ⟨n3, Aa b, 124, (Aa b).length⟩, ⟨n2, Aa a, 124, (Aa a).length⟩]⟩) (fun p => p ≤ 32) (fun p => 32 - p) (0) ?_ ?_ ?_))))
  · omega
  · exact Ad (wk1 rfl (wk1 rfl (wk1 rfl (wk1 rfl (wk1 rfl wk0))))) (wh1 (by rw [out, natsV_zeros]; exact Bx) (wh1 Z1 (wh1 Z2 (wh1 Z3 wh0)))) nD
  rintro p hp
  refine .seq (.sr (.m J J J (.lss J J J J J (.na (.condP J (fun hc0 => ?_) (fun hc0 => ?_))))))
  ·
   have hp2 : p < 32 := by omega
   refine .skip (Cq (.seq (.block (.sr (.a J J J (.na (.block (.loop (ι := Nat) (fun q => ⟨[(2, ptr n2 0), (3, ptr n3 0), (4, ptr n4 0), (5, ptr n5 0), (6, i64 (p : Int)), (7, i64 (q : Int))], [⟨n5, natsV (inn a b p (out a b p) q), 235, 64⟩, ⟨n4, Aa (List.replicate 32 0), 124, 32⟩, ⟨n3, Aa b, 124, (Aa b).length⟩, ⟨n2, Aa a, 124, (Aa a).length⟩]⟩) (fun q => q ≤ 32) (fun q => 32 - q) (0) ?_ ?_ ?_))))))))
   · omega
   · exact Ad (wk1 rfl (wk1 rfl (wk1 rfl (wk1 rfl (wk1 rfl (wk1 rfl wk0)))))) (wh1 Z0 (wh1 Z1 (wh1 Z2 (wh1 Z3 wh0)))) nD
   rintro q hq
   refine .seq (.sr (.m J J J (.lss J J J J J (.na (.condP J (fun hc1 => ?_) (fun hc1 => ?_))))))
   ·
    have hq2 : q < 32 := by omega
    obtain ⟨hm0, hm1⟩ := natCast_mul_le (a.getD p 0).toNat_lt (b.getD q 0).toNat_lt
    have hcl : (inn a b p (out a b p) q).getD (p + q) 0 ≤ 2080800 * p + 65025 * q := inn_le a b p _ _ (out_le a b p) q (p + q)
    refine .skip (Cq (.seq (.block (.draw [(0, 0), (0, 1), (0, 2), (0, 3), (0, 4), (0, 5), (0, 6), (1, 7), (0, 8), (0, 9), (1, 10), (0, 11), (0, 12), (0, 13), (1, 14), (0, 15), (0, 16), (0, 17), (0, 18), (4, 19)] Ap zK (.m J J J (.m J J J (.aI J J J J oM (.m J J J (.m J J J (.aI J J J J oM (.i1 J J J J Tryz.underlying235 Sz3 (p + q) oM oM (.load1 J J J Y3.h J Z0 (get_nats (by simp [inn_length, out_length]; omega)) ?_))))))))))))
    refine .m J J J (.i1 J J J J Y124.h Sz5 _ J oM (.load1 J J J Y5.h J Z3 zG ?_))
    refine .conv J J J Y5.h Y3.h (cv_u8_i64 _) (.m J J J (.i1 J J J J Y124.h Sz5 _ J oM (.load1 J J J Y5.h J Z2 zG ?_)))
    refine .conv J J J Y5.h Y3.h (cv_u8_i64 _) (.mul_i64 J J J J oM (.aI J J J J oM (.i1 J J J J Tryz.underlying235 Sz3 (p + q) oM oM (.s1 J J J J J Sz3 Z0 (by (simp [natsV_length, inn_length, out_length]; omega)) (by rfl) zU ?_))))
    refine .nil (bl_n (Cq (.region (.m J J J (.aI J J J J oM (.a J J J (.na ?_)))))))
    exact ⟨q + 1, by omega, by omega, Ad (wk1 rfl (wk1 rfl (wk1 rfl (wk1 rfl (wk1 rfl (wk1 rfl wk0)))))) (wh1 (by rw [inn, addC_set]; exact Bx) (wh1 Z1 (wh1 Z2 (wh1 Z3 wh0)))) nD⟩
   obtain rfl : q = 32 := by omega
   refine .exit (at_x (at_x (bl_h (bl_n (Cq (.region (.m J J J (.aI J J J J oM (.a J J J (.na ?_))))))))))
   exact ⟨p + 1, by omega, by omega, Ad (wk1 rfl (wk1 rfl (wk1 rfl (wk1 rfl (wk1 rfl wk0))))) (wh1 Z0 (wh1 Z1 (wh1 Z2 (wh1 Z3 wh0)))) nD⟩
  obtain rfl : p = 32 := by omega
  refine .exit (at_x (at_x (bl_h (Cq ?_))))
  refine ⟨(), trivial, Ad (wk1 J (wk1 J (wk1 J (wk1 J wk0)))) (wh1 Z0 (wh1 Z1 wh0)) nD⟩
 intro _u hj
 skip
 refine .sr (.mkSlice (z := u8 0) (by' := 1) 64 J J J J Y27.h Sz5 Zr5 (by unfold By; kernel_rfl) J oM oM oM ?_)
 intro n38
 refine .a J J J (.nsr (.a J J J (.na (.join (ι := Unit) (fun _u => ⟨[(4, ptr n4 0), (8, .slice (some ⟨n38, 0, none⟩) 64 64)], [⟨n38, Aa (leb 64 (le a * le b)), 5, 64⟩, ⟨n4, Aa (List.replicate 32 0), 124, 32⟩]⟩) (fun _u => True) ?_ ?_))))
 ·
  refine .sr (.a J J J (.na (.block (.loop (ι := Nat) (fun k => ⟨[(4, ptr n4 0), (5, ptr n5 0), (8, .slice (some ⟨n38, 0, none⟩) 64 64), (9, i64 ((ev ((out a b 32).take k) / 256 ^ k : Nat) : Int)), (10, i64 (k : Int))], [⟨n38, Aa (padW 64 (ev ((out a b 32).take k)) k), 5, 64⟩, ⟨n5, natsV (out a b 32), 235, 64⟩, ⟨n4, Aa (List.replicate 32 0), 124, 32⟩]⟩) (fun k => k ≤ 64) (fun k => 64 - k) (0) ?_ ?_ ?_))))
  · omega
  · exact Ad (wk1 rfl (wk1 rfl (wk1 rfl (wk1 (by rw [List.take_zero]; rfl) (wk1 rfl wk0))))) (wh1 (by rw [padW_zero]; exact Bx) (wh1 Z1 (wh1 Z2 wh0))) nD
  rintro k hk
  have hpl := padW_length 64 (ev ((out a b 32).take k)) k hk
  have hcb := ev_take_le (out a b 32) _ (out_le a b 32) k
  have hcn : (0 : Int) ≤ ((ev ((out a b 32).take k) / 256 ^ k : Nat) : Int) := Int.natCast_nonneg _
  have hcb2 : ((ev ((out a b 32).take k) / 256 ^ k : Nat) : Int) ≤ ((2080800 * 32 : Nat) : Int) := Int.ofNat_le.2 hcb
  refine .seq (.sr (.m J J J (.lss J J J J J (.na (.condP J (fun hc2 => ?_) (fun hc2 => ?_))))))
  ·
   have hk2 : k < 64 := by omega
   have hco := out_le a b 32 k
   have hs : ((ev ((out a b 32).take k) / 256 ^ k : Nat) : Int) + (((out a b 32).getD k 0 : Nat) : Int) = ((ev ((out a b 32).take k) / 256 ^ k + (out a b 32).getD k 0 : Nat) : Int) := by rw [Int.natCast_add]
   refine .skip (Cq (.seq (.block (.sr (.m J J J (.m J J J (.i1 J J J J Tryz.underlying235 Sz3 _ J oM (.load1 J J J Y3.h J Z1 (get_nats (by simp [out_length]; omega)) ?_))))))))
   refine .aI J J J J oM (.a J J J (.nsr (.m J J J (.m J J J (.m J J J (.rem_i64 J J J J oM (.conv J J J Y3.h Y5.h (cv_i64_u8 _) (.idxSl1 J J J J Y27.h Sz5 _ J oM (.s1 J J J J J Sz5 Z0 (by (simp; omega)) (by exact Be _ _ _) zU ?_)))))))))
   refine .na (.region (.m J J J (.quo_i64 J J J J oM (.a J J J (.nil (bl_n (Cq (.region (.m J J J (.aI J J J J oM (.a J J J (.na ?_))))))))))))
   have hst := ev_take_succ (out a b 32) k (by rw [out_length]; omega)
   exact ⟨k + 1, by omega, by omega, Ad (wk1 rfl (wk1 rfl (wk1 rfl (wk1 (by rw [hst, ← carry_step _ _ _ _ hs]; rfl) (wk1 rfl wk0))))) (wh1 (by rw [hst, ← padW_step 64 _ _ k oM _ hs, byteOf_mod]; exact Bx) (wh1 Z1 (wh1 Z2 wh0))) nD⟩
  obtain rfl : k = 64 := by omega
  refine .exit (at_x (at_x (bl_h (Cq ?_))))
  refine ⟨(), trivial, Ad (wk1 J (wk1 J wk0)) (wh1 (by rw [← padW_all, ← ev_all a b ha hb]; exact Bx) (wh1 Z2 wh0)) nD⟩
 intro _u hj
 skip
 refine .sr (.m J J J (.cV J J J J Body173 (ref_rest _ 0 _ 64 (leb 64 (le a * le b)) (by simp [Ah]) oM) (fun W h => Ar h Z0) ?_))
 refine .sA J J J J zB Sz124 (by (simp [Ah]; done)) Z1 sP zV ?_
 refine .na ?_
 -- ret
 refine .ret (en_r ?_)
 refine ⟨_, [], An J J Y124.h J Sz124 Z1 (by simp [Ah]), sP, sP, ?_, rfl⟩
 rw [le_leb, Nat.mod_eq_of_lt (le512 ha hb)]
theorem ref_muladd (a b c : List UInt8) (ha : a.length = 32) (hb : b.length = 32) (hc : c.length = 32) : Meets Tryz.prog 123 [agg (Aa a), agg (Aa b), agg (Aa c)] [] (fun _ => True) (fun v out => v = agg (Aa (leb 32 ((le a * le b + le c) % L))) ∧ out = []) := by
 intro W hW
 refine Ac Tryz.func123 J 13 Tryz.ntmps123 J (.sr (.boxA J J ?_))
 intro n3 hn3 hf3
 refine .boxA J J ?_
 intro n4 hn4 hf4
 refine .boxA J J ?_
 intro n5 hn5 hf5
 refine .alloc (cs := (Aa (List.replicate 32 0))) J A4 J ?_
 intro n6 hn6 hf6
 refine .na (.seq (.draw [(1, 0), (1, 1), (0, 3), (3, 2), (3, 4), (3, 5), (4, 6)] Ap zK (.lA J J J Y124.h J Sz124 Z3 (by (simp [ha]; done)) ?_)))
 refine .lA J J J Y124.h J Sz124 Z2 (by (simp [hb]; done)) ?_
 refine .sliceArr J J J Y124.h Sz5 (.cV J J J J Body175 (ref_mul a b ha hb) tV (.cV J J J J Body173 (ref_rest _ 0 _ 32 c (by simp [hc]) oM) (fun W h => Ar h Z1) ?_))
 refine .cV J J J J Body174 (ref_plus_n _ _ (Nat.mod_lt _ L_pos) (Nat.mod_lt _ L_pos)) tV (.sA J J J J zB Sz124 (by (simp [Ah]; done)) Z0 sP zU ?_)
 refine .na ?_
 -- ret
 refine .ret (en_r ?_)
 refine ⟨_, [], An J J Y124.h J Sz124 Z0 (by simp [Ah]), sP, sP, ?_, rfl⟩
 rw [← Nat.add_mod]


open Ed

theorem byte_8 : ∀ b : UInt8, b - UInt8.ofNat (b.toNat % 8) = b &&& 248 ∧ UInt8.ofNat (b.toNat % 64) + 64 = (b &&& 127) ||| 64 := by
  intro b
  have h : ∀ n, n < 256 → UInt8.ofNat n - UInt8.ofNat ((UInt8.ofNat n).toNat % 8) = UInt8.ofNat n &&& 248 ∧ UInt8.ofNat ((UInt8.ofNat n).toNat % 64) + 64 = (UInt8.ofNat n &&& 127) ||| 64 := by decide
  have h2 := h b.toNat b.toNat_lt
  rwa [UInt8.ofNat_toNat] at h2
theorem clamp_ref {l : List UInt8} (h : l.length = 32) : (l.set 0 (l.getD 0 0 - UInt8.ofNat ((l.getD 0 0).toNat % 8))).set 31 (UInt8.ofNat (((l.set 0 (l.getD 0 0 - UInt8.ofNat ((l.getD 0 0).toNat % 8))).getD 31 0).toNat % 64) + 64) = clampB l := by
  have g : (l.set 0 (l.getD 0 0 - UInt8.ofNat ((l.getD 0 0).toNat % 8))).getD 31 0 = l.getD 31 0 := by
    rw [List.getD_eq_getElem?_getD, List.getElem?_set_ne dE, ← List.getD_eq_getElem?_getD]
  rw [g, (byte_8 _).1, (byte_8 _).2]
  rfl
theorem upd_all {f : List UInt8} (h : f.length = 32) : upd (Aa (List.replicate 32 0)) 0 (Aa f) = Aa f := by simp [upd, Aa, h]
theorem sees_take {w : World} {b n : Nat} {l : List UInt8} (h : Sees w b 0 (Aa l)) : SeesP w (some ⟨b, 0, none⟩) (Aa (l.take n)) := SeesP.of (fun i v hv => h i v (take_sees hv))
theorem sees_drop {w : World} {b n : Nat} {l : List UInt8} (h : Sees w b 0 (Aa l)) : SeesP w (some ⟨b, n, none⟩) (Aa (l.drop n)) := SeesP.of (fun i v hv => by
  have e : (Aa l)[n + i]? = some v := by rw [Aa, List.map_drop, List.getElem?_drop] at hv; exact hv
  have := h _ v e
  rwa [Nat.zero_add] at this)

theorem r6_secret (seed : List UInt8) (h32 : seed.length = 32) (s : List UInt8) (hs : Hid (Bz seed = s)) : Meets Tryz.prog 120 [agg (Aa seed)] [] (fun _ => True) (fun v out => ∃ q c, v = .tuple #[agg (Aa (clampB (s.take 32))), .slice (some ⟨q, 0, none⟩) 32 c] ∧ 32 ≤ c ∧ out = [⟨q, Aa (s.drop 32), 5, c * 1⟩]) := by
 intro W hW
 have hs64 : s.length = 64 := by rw [← hs.out]; exact sha512_length seed
 have ht32 : (s.take 32).length = 32 := by rw [List.length_take, hs64]; rfl
 have hd32 : (s.drop 32).length = 32 := by rw [List.length_drop, hs64]
 have hcl := clampB_length ht32
 refine Ac Tryz.func120 J 28 Tryz.ntmps120 J (G3 ?_)
 intro n1 hn1 hf1
 refine .alloc (cs := (Aa (List.replicate 32 0))) J A4 J ?_
 intro n2 hn2 hf2
 refine G6 ?_
 refine .mkRow2 (z := .slice none 0 0) [.slice (some ⟨n1, 0, none⟩) 32 32] [.slice (some ⟨n1, 0, none⟩) 32 32] rfl J Y118.h Sz27 Zr27 J J (by intro v hv; rw [List.mem_singleton.1 hv]; rfl) dE J ?_
 intro q7
 refine .cV J J J J Body121 (r2_Sum512 (some ⟨q7, 0, none⟩) 1 1 [⟨some ⟨n1, 0, none⟩, 32, 32⟩] [seed] rfl J (fun j hj => (by
   rcases (show j = 0 by omega) with rfl
   · exact ⟨by show 32 = List.length _; exact h32.symm, fun e => by cases e⟩)) (seed) sP (by (simp [h32]; done)) dE s hs) (fun w h => ⟨SeesP.of (Ar h Z0), (fun j hj => (by
   rcases (show j = 0 by omega) with rfl
   · exact SeesP.of (Ar (cs := Aa seed) h Z2)))⟩) ?_
 refine .alloc (cs := (Aa (List.replicate 64 0))) J Zr28 J ?_
 intro n4 hn4 hf4
 refine .sA J J J J zE Sz28 (by (simp [hs64]; done)) Z0 sP zU ?_
 refine G4 ?_
 refine .alloc (cs := (Aa (List.replicate 32 0))) J A4 J ?_
 intro n5 hn5 hf5
 refine G3 ?_
 refine .draw [(0, 0), (0, 1), (4, 2)] Ap zK (G1 ?_)
 refine .sliceArrHi 32 J J J J J dE dE Y28.h Sz5 (.copyP (Aa (s.take 32)) 32 J J J J J Y27.h Sz5 (fun w h => sees_take (Ar h Z1)) (fun e => by cases e) (by rw [Aa, List.length_map]; exact ht32) J (by rw [Aa, ← List.map_take, List.take_of_length_le (Nat.le_of_eq ht32)]) (Ax _) Z0 sP (by exact upd_all ht32) zU ?_)
 refine G4 ?_
 refine .i1 J J J J Y124.h Sz5 0 J dE (G1 ?_)
 refine .i1 J J J J Y124.h Sz5 0 J dE (G1 ?_)
 refine .rem_u8 J J J J 8 J dE (.sub_u8 J J J J (.i1 J J J J Y124.h Sz5 0 J dE (.s1 J J J J J Sz5 Z0 (by (simp [hs64]; done)) (by exact Be _ _ _) zU ?_)))
 refine G4 ?_
 refine .i1 J J J J Y124.h Sz5 31 J dE (.load1 J J J Y5.h J Z0 (by exact get_bytes (by (simp [ht32]; done))) ?_)
 refine .rem_u8 J J J J 64 J dE (.add_u8 J J J (show Ag _ _ = some (u8 64) from rfl) (.i1 J J J J Y124.h Sz5 31 J dE (.s1 J J J J J Sz5 Z0 (by (simp [hs64, ht32]; done)) (by exact Be _ _ _) zU ?_)))
 refine G3 ?_
 refine .withK (sp_k (sp_v (sp_v (sp_v (sp_v sp_n))))) J (.draw [(0, 0), (0, 2), (2, 1), (4, 3), (4, 4), (0, 5)] Ap zK ?_)
 rw [clamp_ref ht32]
 refine .kloadAll J J J Y124.h J Sz124 Z0 (by (simp [hcl]; done)) ?_
 refine .sliceArrLo 32 J J J J J dE Y28.h Sz5 (.mkRow2 (z := u8 0) [] [] rfl J Y27.h Sz5 Zr5 J J (by intro v hv; cases hv) dE J ?_)
 intro q25
 refine .appendSl (z := u8 0) (by' := 1) (Aa (s.drop 32)) J J J J J Y27.h Y27.h Sz5 Zr5 (by unfold By; kernel_rfl) J (fun w h => sees_drop (Ar h Z1)) (fun e => by cases e) (Ax _) rM J J oM oM oM (by rw [Aa, List.length_map]; exact hd32) ?_
 intro q27 c27 hq27
 refine .sA J J J J zE Sz124 (by (simp [hcl]; done)) Z3 sP (by exact upd3) ?_
 refine G3 ?_
 -- ret
 refine G2 ?_
 simp only [List.cons_append, List.nil_append, List.append_nil]
 refine Az (out := (⟨q27, [] ++ Aa (s.drop 32), 5, c27 * 1⟩ :: [])) (Bj J J J Y124.h J Sz124 Z3 (by simp [hcl])) (Ab rM Ak) ?_
 exact ⟨q27, c27, rfl, by omega, rfl⟩

theorem r6_Secret (seed : List UInt8) (h32 : seed.length = 32) (s : List UInt8) (hs : Hid (Bz seed = s)) : Meets Tryz.prog 118 [agg (Aa seed)] [] (fun _ => True) (fun v out => v = agg (Aa (clampB (s.take 32))) ∧ out = []) := by
 intro W hW
 have hs64 : s.length = 64 := by rw [← hs.out]; exact sha512_length seed
 have ht32 : (s.take 32).length = 32 := by rw [List.length_take, hs64]; rfl
 have hd32 : (s.drop 32).length = 32 := by rw [List.length_drop, hs64]
 have hcl := clampB_length ht32
 revert hcl
 have hsec := r6_secret seed h32 s hs
 revert hsec
 generalize clampB (s.take 32) = N
 intro hsec hcl
 refine Ac Tryz.func118 J 11 Tryz.ntmps118 J (G3 ?_)
 intro n1 hn1 hf1
 refine .alloc (cs := (Aa (List.replicate 32 0))) J A4 J ?_
 intro n2 hn2 hf2
 refine G4 ?_
 refine .lA J J J Y22.h J Sz22 Z1 (by (simp [h32]; done)) ?_
 refine .call4 J J J J J Body120 (hsec) tV ?_
 rintro v7 out7 ⟨q7, c7, rfl, hc7, rfl⟩
 simp only [List.cons_append, List.nil_append]
 refine G3 ?_
 refine .alloc (cs := (Aa (List.replicate 32 0))) J A4 J ?_
 intro n3 hn3 hf3
 refine .sA J J J J zE Sz124 (by (simp [hcl]; done)) Z0 sP zU ?_
 refine G5 ?_
 refine .lA J J J Y124.h J Sz124 Z0 (by (simp [hcl]; done)) ?_
 refine .sA J J J J zE Sz124 (by (simp [hcl]; done)) Z2 sP (by exact upd2) ?_
 refine G2 ?_
 -- ret
 refine G2 ?_
 refine ⟨_, [], An J J Y124.h J Sz124 Z2 (by simp [hcl]), sP, sP, ?_, rfl⟩
 rfl

theorem r6_KeyQ (N : List UInt8) (hN : N.length = 32) (Q : Pt Fp) (hQ : cv.mul (le N) bP = Q) : cv.on Q ∧ Meets Tryz.prog 117 [agg (Aa N), agg (ptc bP).cells] [] (fun _ => True) (fun v out => v = agg (ptc Q).cells ∧ out = []) := by
  rw [← hQ]; exact ⟨cv.on_mul bP_on _, r5_Mul N bP hN bP_on⟩

theorem r6_Key (seed : List UInt8) (h32 : seed.length = 32) (s : List UInt8) (hs : Hid (Bz seed = s)) : Meets Tryz.prog 76 [agg (Aa seed)] [] (fun _ => True) (fun v out => v = agg (Aa (sgK s)) ∧ out = []) := by
 intro W hW
 have hs64 : s.length = 64 := by rw [← hs.out]; exact sha512_length seed
 have ht32 : (s.take 32).length = 32 := by rw [List.length_take, hs64]; rfl
 have hd32 : (s.drop 32).length = 32 := by rw [List.length_drop, hs64]
 have hcl := clampB_length ht32
 obtain ⟨Q, hQ⟩ : ∃ Q, cv.mul (le (clampB (s.take 32))) bP = Q := ⟨_, rfl⟩
 have hsec := r6_Secret seed h32 s hs
 have hkq := r6_KeyQ (clampB (s.take 32)) hcl Q hQ
 rw [show sgK s = pb Q from by rw [sgK, hQ]]
 clear hQ
 revert hcl hsec hkq
 generalize clampB (s.take 32) = N
 intro hcl hsec hkq
 obtain ⟨hQo, hmul⟩ := hkq
 refine Ac Tryz.func76 J 14 Tryz.ntmps76 J (G3 ?_)
 intro n1 hn1 hf1
 refine .alloc (cs := (Aa (List.replicate 32 0))) J Zr23 J ?_
 intro n2 hn2 hf2
 refine G4 ?_
 refine .lA J J J Y22.h J Sz22 Z1 (by (simp [h32]; done)) ?_
 refine .cV J J J J Body118 (hsec) tV (.cV J J J J Body119 (r5_Base) tV (.cV J J J J Body117 (hmul) tV (.cV J J J J Body116 (r5_Bytes Q hQo) tV (G3 ?_))))
 refine .alloc (cs := (Aa (List.replicate 32 0))) J Zr22 J ?_
 intro n3 hn3 hf3
 refine .sA J J J J zE Sz22 (by (simp [Cd]; done)) Z0 sP zU ?_
 refine G5 ?_
 refine .lA J J J Y22.h J Sz22 Z0 (by (simp [Cd]; done)) ?_
 refine .sA J J J J zE Sz23 (by (simp [Cd]; done)) Z1 sP zV ?_
 refine G2 ?_
 -- ret
 refine G2 ?_
 refine ⟨_, [], An J J Y23.h J Sz23 Z1 (by simp [Cd]), sP, sP, ?_, rfl⟩
 rfl

theorem r6_challenge (r k : List UInt8) (hr : r.length = 32) (hk : k.length = 32) (sb : Sl) (bb : List UInt8) (hbn : bb.length ≤ 80000) (s : List UInt8) (hs : Hid (Bz (r ++ (k ++ bb)) = s)) : Meets Tryz.prog 124 [agg (Aa r), agg (Aa k), sb.v] [] (fun W => BytesAt W sb bb) (fun v out => v = agg (Aa (sgR s)) ∧ out = []) := by
 intro W hW
 have hs64 : s.length = 64 := by rw [← hs.out]; exact sha512_length _
 obtain ⟨R, hR⟩ : ∃ R, Hid (sgR s = R) := ⟨_, ⟨rfl⟩⟩
 have hRl : R.length = 32 := by rw [← hR.out]; exact sgR_length s
 have hres := fun b => ref_Rest b 0 64 64 s hs64 dE
 rw [show leb 32 (le s % L) = R from hR.out] at hres
 rw [hR.out]
 refine Ac Tryz.func124 J 21 Tryz.ntmps124 J (G3 ?_)
 intro n3 hn3 hf3
 refine G1 ?_
 intro n4 hn4 hf4
 refine .alloc (cs := (Aa (List.replicate 32 0))) J A4 J ?_
 intro n6 hn6 hf6
 refine G3 ?_
 refine .draw [(0, 0), (0, 1), (0, 2), (2, 3), (3, 4), (2, 5), (4, 6)] Ap zK (G3 ?_)
 refine .mkRow2 (z := .slice none 0 0) [.slice (some ⟨n3, 0, none⟩) 32 32, .slice (some ⟨n4, 0, none⟩) 32 32, sb.v] [.slice (some ⟨n3, 0, none⟩) 32 32, .slice (some ⟨n4, 0, none⟩) 32 32, sb.v] rfl J Y118.h Sz27 Zr27 J J (by intro v hv; simp only [List.mem_cons, List.not_mem_nil, or_false] at hv; rcases hv with rfl | rfl | rfl <;> rfl) dE J ?_
 intro q13
 refine .cV J J J J Body121 (r2_Sum512 (some ⟨q13, 0, none⟩) 3 3 [⟨some ⟨n3, 0, none⟩, 32, 32⟩, ⟨some ⟨n4, 0, none⟩, 32, 32⟩, sb] [r, k, bb] rfl J (fun j hj => (by
   rcases (show j = 0 ∨ j = 1 ∨ j = 2 by omega) with rfl | rfl | rfl
   · exact ⟨by show 32 = List.length _; exact hr.symm, fun e => by cases e⟩
   · exact ⟨by show 32 = List.length _; exact hk.symm, fun e => by cases e⟩
   · exact ⟨by show sb.n = bb.length; exact hW.len.symm, fun e => by have h1 := hW.nil e; have h2 := hW.cap; show sb.n = 0; omega⟩)) (r ++ (k ++ bb)) sP (by (simp [hr, hk]; omega)) dE s hs) (fun w h => ⟨SeesP.of (Ar h Z0), (fun j hj => (by
   rcases (show j = 0 ∨ j = 1 ∨ j = 2 by omega) with rfl | rfl | rfl
   · exact SeesP.of (Ar (cs := Aa r) h Z3)
   · exact SeesP.of (Ar (cs := Aa k) h Z2)
   · exact A6 h rfl hW.see))⟩) ?_
 refine .alloc (cs := (Aa (List.replicate 64 0))) J Zr28 J ?_
 intro n7 hn7 hf7
 refine .sA J J J J zE Sz28 (by (simp [hs64]; done)) Z0 sP zU ?_
 refine G5 ?_
 refine .cV J J J J Body122 (hres n7) (fun w h => Ar h Z0) ?_
 refine G3 ?_
 refine .alloc (cs := (Aa (List.replicate 32 0))) J A4 J ?_
 intro n8 hn8 hf8
 refine .sA J J J J zE Sz124 (by (simp [hRl]; done)) Z0 sP zU ?_
 refine G5 ?_
 refine .lA J J J Y124.h J Sz124 Z0 (by (simp [hRl]; done)) ?_
 refine .sA J J J J zE Sz124 (by (simp [hRl]; done)) Z3 sP (by exact upd3) ?_
 refine G2 ?_
 -- ret
 refine G2 ?_
 refine ⟨_, [], An J J Y124.h J Sz124 Z3 (by simp [hRl]), sP, sP, ?_, rfl⟩
 rfl

theorem r6_Sign (seed : List UInt8) (h32 : seed.length = 32) (sb : Sl) (bb : List UInt8) (hbn : bb.length ≤ 80000) (s s1 s2 : List UInt8) (hs : Hid (Bz seed = s)) (hs1 : Hid (Bz (s.drop 32 ++ bb) = s1)) (hs2 : Hid (Bz (sgF s1 ++ (sgK s ++ bb)) = s2)) : Meets Tryz.prog 78 [agg (Aa seed), sb.v] [] (fun W => BytesAt W sb bb) (fun v out => v = agg (Aa (sgF s1 ++ sgS s s1 s2)) ∧ out = []) := by
 intro W hW
 have hs64 : s.length = 64 := by rw [← hs.out]; exact sha512_length seed
 have ht32 : (s.take 32).length = 32 := by rw [List.length_take, hs64]; rfl
 have hd32 : (s.drop 32).length = 32 := by rw [List.length_drop, hs64]
 have hcl := clampB_length ht32
 have h64 : s1.length = 64 := by rw [← hs1.out]; exact sha512_length _
 have csec := r6_secret seed h32 s hs
 have ckey := r6_Key seed h32 s hs
 have cch := r6_challenge (sgF s1) (sgK s) (sgF_length s1) (sgK_length s) sb bb hbn s2 hs2
 have cma := ref_muladd (sgR s2) (clampB (s.take 32)) (sgR s1) (sgR_length s2) hcl (sgR_length s1)
 rw [show leb 32 ((le (sgR s2) * le (clampB (s.take 32)) + le (sgR s1)) % L) = sgS s s1 s2 from rfl] at cma
 obtain ⟨Q, hQ⟩ : ∃ Q, cv.mul (le (sgR s1)) bP = Q := ⟨_, rfl⟩
 have hkq := r6_KeyQ (sgR s1) (sgR_length s1) Q hQ
 have hF : sgF s1 = pb Q := by rw [sgF, hQ]
 rw [hF] at cch ⊢
 clear hQ hs2 hF
 have hres := fun b => ref_Rest b 0 64 64 s1 h64 dE
 rw [show leb 32 (le s1 % L) = sgR s1 from rfl] at hres
 have lK := sgK_length s
 have lS := sgS_length s s1 s2
 have lR1 := sgR_length s1
 have lR2 := sgR_length s2
 revert hcl csec ckey cch cma hkq hres lK lS lR1 lR2
 generalize sgS s s1 s2 = S3
 generalize sgK s = K
 generalize sgR s1 = r1
 generalize sgR s2 = r2
 generalize clampB (s.take 32) = N
 intro hcl csec ckey cma cch hkq hres lK lS lR1 lR2
 obtain ⟨hQo, hmul⟩ := hkq
 have hpq := Cd Q
 refine Ac Tryz.func78 J 50 Tryz.ntmps78 J (G3 ?_)
 intro n2 hn2 hf2
 refine .alloc (cs := (Aa (List.replicate 64 0))) J Zr29 J ?_
 intro n4 hn4 hf4
 refine G4 ?_
 refine .lA J J J Y22.h J Sz22 Z1 (by (simp [h32]; done)) ?_
 refine .call4 J J J J J Body120 (csec) tV ?_
 rintro v7 out7 ⟨q7, c7, rfl, hc7, rfl⟩
 simp only [List.cons_append, List.nil_append]
 refine G3 ?_
 refine .alloc (cs := (Aa (List.replicate 32 0))) J A4 J ?_
 intro n5 hn5 hf5
 refine .sA J J J J zE Sz124 (by (simp [hcl]; done)) Z0 sP zU ?_
 refine G7 ?_
 refine .mkRow2 (z := .slice none 0 0) [.slice (some ⟨q7, 0, none⟩) 32 c7, sb.v] [.slice (some ⟨q7, 0, none⟩) 32 c7, sb.v] rfl J Y118.h Sz27 Zr27 J J (by intro v hv; simp only [List.mem_cons, List.not_mem_nil, or_false] at hv; rcases hv with rfl | rfl <;> rfl) dE J ?_
 intro q21
 refine .cV J J J J Body121 (r2_Sum512 (some ⟨q21, 0, none⟩) 2 2 [⟨some ⟨q7, 0, none⟩, 32, c7⟩, sb] [s.drop 32, bb] rfl J (fun j hj => (by
   rcases (show j = 0 ∨ j = 1 by omega) with rfl | rfl
   · exact ⟨by show 32 = List.length _; exact hd32.symm, fun e => by cases e⟩
   · exact ⟨by show sb.n = bb.length; exact hW.len.symm, fun e => by have h1 := hW.nil e; have h2 := hW.cap; show sb.n = 0; omega⟩)) (s.drop 32 ++ bb) sP (by (simp [hd32]; omega)) dE s1 hs1) (fun w h => ⟨SeesP.of (Ar h Z0), (fun j hj => (by
   rcases (show j = 0 ∨ j = 1 by omega) with rfl | rfl
   · exact SeesP.of (Ar (cs := Aa (s.drop 32)) h Z2)
   · exact A6 h rfl hW.see))⟩) ?_
 refine .alloc (cs := (Aa (List.replicate 64 0))) J Zr28 J ?_
 intro n7 hn7 hf7
 refine .sA J J J J zE Sz28 (by (simp [h64]; done)) Z0 sP zU ?_
 refine G5 ?_
 refine .cV J J J J Body122 (hres n7) (fun w h => Ar h Z0) ?_
 refine G3 ?_
 refine .alloc (cs := (Aa (List.replicate 32 0))) J A4 J ?_
 intro n8 hn8 hf8
 refine .sA J J J J zE Sz124 (by (simp [lR1]; done)) Z0 sP zU ?_
 refine G4 ?_
 refine .draw [(1, 0), (3, 1), (3, 2), (3, 3), (0, 4), (0, 5), (0, 6), (2, 7), (4, 8), (0, 9)] Ap zK (.lA J J J Y124.h J Sz124 Z0 (by (simp [lR1]; done)) ?_)
 refine .cV J J J J Body119 (r5_Base) tV (.cV J J J J Body117 (hmul) tV (.cV J J J J Body116 (r5_Bytes Q hQo) tV (G3 ?_)))
 refine .alloc (cs := (Aa (List.replicate 32 0))) J Zr22 J ?_
 intro n10 hn10 hf10
 refine .sA J J J J zE Sz22 (by (simp [Cd]; done)) Z0 sP zU ?_
 refine G4 ?_
 refine .draw [(1, 0), (1, 1), (0, 3), (1, 5), (1, 6), (3, 2), (3, 4), (3, 7), (2, 8), (4, 9)] Ap zK (.lA J J J Y22.h J Sz22 Z0 (by (simp [Cd]; done)) ?_)
 refine .lA J J J Y22.h J Sz22 (by exact mem7) (by (simp [h32]; done)) ?_
 refine G1 ?_
 refine .lA J J J Y124.h J Sz124 Z4 (by (simp [hcl]; done)) ?_
 refine .lA J J J Y124.h J Sz124 Z1 (by (simp [lR1]; done)) ?_
 refine .cV J J J J Body76 (ckey) tV (.cV J J J J Body124 (cch) (fun w h => bytes_ext h J hW) (.cV J J J J Body123 (cma) tV (.alloc (cs := (Aa (List.replicate 32 0))) J A4 J ?_)))
 intro n12 hn12 hf12
 refine .sA J J J J zE Sz124 (by (simp [lS]; done)) Z0 sP zU ?_
 refine G4 ?_
 refine .alloc (cs := (Aa (List.replicate 64 0))) J Zr29 J ?_
 intro n13 hn13 hf13
 refine G3 ?_
 refine .draw [(0, 0), (0, 1), (4, 2)] Ap zK (G2 ?_)
 refine .copyP (Aa (pb Q)) 32 J J J J J Y27.h Sz5 (fun w h => SeesP.of (Ar h Z2)) (fun e => by cases e) (by rw [Aa, List.length_map]; exact (Cd Q)) J (by rw [Aa, ← List.map_take, List.take_of_length_le (Nat.le_of_eq (Cd Q))]) (Ax _) Z0 sP (by exact upd_first (Cd Q)) zU ?_
 refine G3 ?_
 refine .draw [(0, 0), (0, 1), (4, 2)] Ap zK (.sliceArrLo 32 J J J J J dE Y29.h Sz5 (G1 ?_))
 refine .copyP (Aa S3) 32 J J J J J Y27.h Sz5 (fun w h => SeesP.of (Ar h Z1)) (fun e => by cases e) (by rw [Aa, List.length_map]; exact lS) J (by rw [Aa, ← List.map_take, List.take_of_length_le (Nat.le_of_eq lS)]) (Ax _) Z0 (by (simp; omega)) (by exact upd_last (Cd Q) lS) zU ?_
 refine G4 ?_
 refine .lA J J J Y29.h J Sz29 Z0 (by (simp [Cd, lS]; done)) ?_
 refine .sA J J J J zE Sz29 (by (simp [Cd, lS]; done)) mR sP (by (repeat (first | exact upd0 | apply Upd.tail))) ?_
 refine G2 ?_
 -- ret
 refine G2 ?_
 refine ⟨_, [], An J J Y29.h J Sz29 mR (by simp [Cd, lS]), sP, sP, ?_, rfl⟩
 rfl

end Go.Proofs.YtfcbgdkpagcbbaaGreat
end

section
namespace Go.Proofs.YtfcbgdkpagcbbaaGreat
open Go Hw

open Ed

def btag : List UInt8 := [98, 108, 111, 99, 107]
def btxt (D : DB) : List UInt8 := btag ++ D.body
def bsg (D : DB) (K G : List UInt8) : DB := { D with w := K, sg := G }
theorem DB.body_small {D : DB} (hd : D.ok) (h1 : D.ls.length ≤ 40) (h2 : D.ds.length ≤ 2000) : (btxt D).length ≤ 4005 := by
  have hz1 := Cp D.seq.toNat
  have hz2 := Cp (UInt64.ofNat D.ls.length).toNat
  have hz3 := Cp (UInt64.ofNat D.ds.length).toNat
  have hfl := Cj hd.ls (Nat.le_refl D.ls.length)
  rw [List.take_length] at hfl
  simp only [btxt, btag, DB.body, List.length_append, Bk, hd.w, hd.prev, hfl, List.length_cons, List.length_nil]
  omega
noncomputable def dgood (D : DB) : Int := if D.check = 0 then (if goodB D.w (btxt D) D.sg = true then 0 else 9) else D.check
theorem cell_lt' {w : World} {c o : Nat} {v : Value} (h : w.cell? ⟨c, o, none⟩ = some v) : c < w.heap.size := by
  rcases Nat.lt_or_ge c w.heap.size with h1 | h1
  · exact h1
  · simp [World.cell?, Array.getElem?_eq_none h1] at h
theorem acc_loose (cells : List Value) (E : TypeId) (n size : Nat) (hl : cells.length = n * size) : Loose fun v out => ∃ s : Sl, v = s.v ∧ Hw.Acc s out cells E n size := fun l h => by
  obtain ⟨v, out, ⟨q, c, h1, h2, h3⟩, h4⟩ := FreshRow.loose cells E n size l h
  exact ⟨v, out, ⟨⟨some ⟨q, 0, none⟩, n, c⟩, h1, by rw [h3]; exact Acc.some h2 hl⟩, h4⟩
theorem lie_none {n : Nat} {v : Value} {T : TypeId} {W : World} (h : Lies [⟨n, [v], T, 0⟩] W) : False := by
  obtain ⟨full, fr, hb⟩ := h _ (List.mem_singleton.2 rfl)
  have h1 := hb.pre.length_le
  have h2 := hb.size
  simp at h1
  simp only at h2
  omega
structure SameB (B : Block) (D : DB) : Prop where
  ok : B.ok
  w : B.fWriter = D.w
  seq : B.fSeq = D.seq
  prev : B.fPrev = D.prev
  sg : B.fSig = D.sg
  ln : B.fLinks.n = D.ls.length
  dn : B.fData.n = D.ds.length
theorem some_same {D : DB} (h : D.ok) : SameB ⟨D.w, D.seq, D.prev, ⟨none, D.ls.length, 0⟩, ⟨none, D.ds.length, 0⟩, D.sg⟩ D := ⟨⟨h.w, h.prev, h.sg⟩, rfl, rfl, rfl, rfl, rfl, rfl⟩
def BlkR (e : Int) (D : DB) (v : Value) (out : List Blk) : Prop := ∃ B : Block, SameB B D ∧ v = .tuple #[agg B.cells, i64 e] ∧ ∀ W2, Lies out W2 → BlockIs W2 B D
def BlkV (D : DB) (v : Value) (out : List Blk) : Prop := ∃ B : Block, SameB B D ∧ v = agg B.cells ∧ ∀ W2, Lies out W2 → BlockIs W2 B D
theorem none_nodup {l : List Blk} {n : Nat} (hl : (l.map (·.n)).Nodup) (hn : ∀ b ∈ l, b.n ≠ n) (v : Value) : ((([⟨n, [v], 0, 0⟩] : List Blk) ++ l).map (·.n)).Nodup := by
  simp only [List.singleton_append, List.map_cons, List.nodup_cons]
  exact ⟨fun h2 => by obtain ⟨b, hb, e⟩ := List.mem_map.1 h2; exact hn b hb e, hl⟩
theorem BlkR.loose (e : Int) (D : DB) (hD : D.ok) : Loose (BlkR e D) := fun l hl => by
  obtain ⟨n, _, hn⟩ := fresh_is 0 l
  exact ⟨_, [⟨n, [undef], 0, 0⟩], ⟨_, some_same hD, rfl, fun W2 h => (lie_none h).elim⟩, none_nodup hl hn _⟩
theorem BlkV.loose (D : DB) (hD : D.ok) : Loose (BlkV D) := fun l hl => by
  obtain ⟨n, _, hn⟩ := fresh_is 0 l
  exact ⟨_, [⟨n, [undef], 0, 0⟩], ⟨_, some_same hD, rfl, fun W2 h => (lie_none h).elim⟩, none_nodup hl hn _⟩
theorem own_btxt {W : World} {q c : Nat} {D : DB} (hs : SeesP W (some ⟨q, 0, none⟩) (Aa (btxt D))) (hc : (btxt D).length ≤ c) (hn : (btxt D).length ≤ 4005) : BytesAt W ⟨some ⟨q, 0, none⟩, (btxt D).length, c⟩ (btxt D) := own_bytes hs rfl hc (by unfold maxLen; omega)
theorem db_text (B : Block) (D : DB) (hB : B.ok) (h1 : D.ls.length ≤ 40) (h2 : D.ds.length ≤ 2000) : Meets Tryz.prog 62 [agg B.cells] [] (fun W => BlockIs W B D) (fun v out => FreshRow v out (Aa (btxt D)) 5 (btxt D).length 1) := by
 intro W hW
 have hbs := DB.body_small hW.dok h1 h2
 have e1 := hW.ls.len
 have e2 := hW.ds.len
 have hbl : (btxt D).length = 5 + D.body.length := by rw [btxt, List.length_append]; rfl
 refine Ac Tryz.func62 J 8 Tryz.ntmps62 J (G3 ?_)
 intro n1 hn1 hf1
 refine G5 ?_
 refine .mkRow (z := u8 0) [u8 98, u8 108, u8 111, u8 99, u8 107] (Aa btag) J J J Y27.h Sz5 Zr5 J J (by intro v hv; simp only [List.mem_cons, List.not_mem_nil, or_false] at hv; rcases hv with rfl | rfl | rfl | rfl | rfl <;> rfl) dE J ?_
 intro q3
 refine .constB J J J J Y27.h Y5.h Z0 ?_
 refine G1 ?_
 refine .call4 J J J J J Body90 (block_body B hB D.ls D.ds oM oM) (fun w h => ⟨rows_ext h J hW.ls, bytes_ext h J hW.ds⟩) ?_
 rintro v6 out6 ⟨N6, hN6, hN62, q6, c6, rfl, hc6, rfl⟩
 rw [hW.body] at hN6 ⊢
 subst hN6
 refine .appendSl (z := u8 0) (by' := 1) (Aa D.body) J J J J J Y27.h Y27.h Sz5 Zr5 (by unfold By; kernel_rfl) J (fun w h => SeesP.of (Ar (cs := Aa D.body) h Z0)) (fun e => by cases e) (Ax _) rM J J dE oM oM (by rw [Aa, List.length_map, Nat.mul_one]) ?_
 intro q7 c7 hq7
 rw [← bytesV_app]
 refine G3 ?_
 -- ret
 refine G2 ?_
 refine Az (out := (⟨q7, Aa (btag ++ D.body), 5, c7 * 1⟩ :: [])) (Al J J) (Ab rM Ak) ?_
 exact ⟨q7, c7, (by (rw [hbl]; done)), (by rw [hbl]; exact hq7), rfl⟩

theorem cl_digs_nil  : Meets Tryz.prog 42 [.slice none 0 0] [] (fun _ => True) (fun v out => v = .slice none 0 0 ∧ out = []) := by
 intro W hW
 refine Ac Tryz.func42 J 8 Tryz.ntmps42 J (G9 ?_)
 refine .eqNilS (r := true) J J J J Y26.h J (G2 ?_)
 refine .cond_t J (rfl) (G5 ?_)
 -- ret
 refine G3 ?_
 refine Az (out := []) (Al J J) Ak ?_
 exact ⟨rfl, rfl⟩

theorem cl_digs_some (a : Addr) (n c : Nat) (ls : List (List UInt8)) (hl : ls.length = n) (hr : ∀ l ∈ ls, l.length = 32) (hn : n ≤ 90000) : Meets Tryz.prog 42 [.slice (some a) n c] [] (fun W => SeesP W (some a) (A1 ls)) (fun v out => FreshRow v out (A1 ls) 25 n 32) := by
 intro W hW
 refine Ac Tryz.func42 J 8 Tryz.ntmps42 J (G9 ?_)
 refine .eqNilS (r := false) J J J J Y26.h J (G2 ?_)
 refine .cond_f J (rfl) (G4 ?_)
 refine .mkRow (z := agg (Aa (List.replicate 32 0))) [] [] rfl J J Y26.h Sz25 Zr25 J J (by intro v hv; cases hv) dE J ?_
 intro q0
 refine G1 ?_
 refine .appendSl (z := agg (Aa (List.replicate 32 0))) (by' := 32) (A1 ls) J J J J J Y26.h Y26.h Sz25 Zr25 (by unfold By; kernel_rfl) J (fun w h => A6 h J hW) (fun e => by cases e) (flatB_cell ls) A5 J J oM oM oM (by rw [A7 hr, hl]) ?_
 intro q1 c1 hq1
 refine G3 ?_
 -- ret
 refine G2 ?_
 refine ⟨_, [⟨q1, [] ++ A1 ls, 25, c1 * 32⟩], Al J J, (by intro b hb; rw [List.mem_singleton.1 hb]; exact Bx), nodup1, ⟨q1, c1, by rw [Nat.zero_add], by omega, rfl⟩⟩

theorem cl_byte_nil  : Meets Tryz.prog 65 [.slice none 0 0] [] (fun _ => True) (fun v out => v = .slice none 0 0 ∧ out = []) := by
 intro W hW
 refine Ac Tryz.func65 J 8 Tryz.ntmps65 J (G9 ?_)
 refine .eqNilS (r := true) J J J J Y27.h J (G2 ?_)
 refine .cond_t J (rfl) (G5 ?_)
 -- ret
 refine G3 ?_
 refine Az (out := []) (Al J J) Ak ?_
 exact ⟨rfl, rfl⟩

theorem cl_digs (s : Sl) (ls : List (List UInt8)) (hn : s.n ≤ 90000) : Meets Tryz.prog 42 [s.v] [] (fun W => RowsAt W s 32 ls) (fun v out => ∃ s' : Sl, v = s'.v ∧ Hw.Acc s' out (A1 ls) 25 s.n 32) := fun W hW => by
  obtain ⟨p, n, c⟩ := s
  cases p with
  | none =>
    obtain rfl : c = 0 := hW.nil rfl
    obtain rfl : n = 0 := Nat.le_zero.1 hW.cap
    obtain rfl : ls = [] := List.length_eq_zero_iff.1 hW.len
    exact (cl_digs_nil W trivial).mono fun e W' ⟨v, out, h1, ⟨h2, h3⟩, h4⟩ => ⟨v, out, h1, ⟨Sl.nil, h2, by subst h3; exact Acc.none⟩, h4⟩
  | some a => exact (cl_digs_some a n c ls hW.len hW.row hn W hW.see).mono fun e W' ⟨v, out, h1, ⟨q, c', h2, h3, h5⟩, h4⟩ => ⟨v, out, h1, ⟨⟨some ⟨q, 0, none⟩, n, c'⟩, h2, by rw [h5]; exact Acc.some h3 (by rw [A7 hW.row, hW.len])⟩, h4⟩
theorem cl_byte (s : Sl) (l : List UInt8) (hn : s.n ≤ 90000) : Meets Tryz.prog 65 [s.v] [] (fun W => BytesAt W s l) (fun v out => ∃ s' : Sl, v = s'.v ∧ Hw.Acc s' out (Aa l) 5 s.n 1) := fun W hW => by
  obtain ⟨p, n, c⟩ := s
  cases p with
  | none =>
    obtain rfl : c = 0 := hW.nil rfl
    obtain rfl : n = 0 := Nat.le_zero.1 hW.cap
    obtain rfl : l = [] := List.length_eq_zero_iff.1 hW.len
    exact (cl_byte_nil W trivial).mono fun e W' ⟨v, out, h1, ⟨h2, h3⟩, h4⟩ => ⟨v, out, h1, ⟨Sl.nil, h2, by subst h3; exact Acc.none⟩, h4⟩
  | some a => exact (clone_bytes a n c l hW.len hn W hW.see).mono fun e W' ⟨v, out, h1, ⟨q, c', h2, h3, h5⟩, h4⟩ => ⟨v, out, h1, ⟨⟨some ⟨q, 0, none⟩, n, c'⟩, h2, by rw [h5]; exact Acc.some h3 (by rw [Aa, List.length_map]; exact hW.len.trans (Nat.mul_one _).symm)⟩, h4⟩

end Go.Proofs.YtfcbgdkpagcbbaaGreat
end
