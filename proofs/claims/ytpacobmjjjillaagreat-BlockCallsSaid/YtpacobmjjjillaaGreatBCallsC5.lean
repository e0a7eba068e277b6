/- Contracts of functions of the loaded program, and the lemmas that they need (part 5). It proves no statement by itself; it has no conditions. -/
import Derived.WalkKit
import Derived.Orders
import Derived.Deep.LoopGhost
import Derived.IntWalk
import Derived.Laws.StructEq
import Derived.Test.YtpacobmjjjillaaGreatRows
import Derived.KernelRfl
import Derived.ArgAppend
import Derived.Deep.AppendSrc
import Derived.Lib.Bytealg
import Derived.Lib.BytesEntry
import Derived.Laws.IdiomStrings
import Derived.Laws.Externs
import Derived.WideKeyArr2
import Derived.ProofKit
import Derived.OpenShut
import Derived.Deep.Slices
import Derived.Laws.Pointers
import Derived.Laws.Cover3
import Derived.LaidEqlPtr
import Derived.LoopN
import Derived.RangeFuncLeaves
import Derived.RangeFuncSeq
import Derived.OrdersIn
import Derived.Defers
import Derived.Laws.MathBits
import Derived.ChangeOld
import Derived.Below
import Derived.Test.YtpacobmjjjillaaGreatBCallsC4
set_option maxRecDepth 100000
set_option maxHeartbeats 8000000
set_option linter.unusedVariables false
set_option linter.unusedSimpArgs false
section
namespace Go.Proofs.YtpacobmjjjillaaGreat
open Go Hw

open Ed

theorem bits_even {i : Nat} (h : (i : Int).tmod 2 = 0) : A5 i = 26 := by 
  unfold A5
  have e : (i : Int).tmod 2 = ((i % 2 : Nat) : Int) := rfl
  rw [if_pos oM]
theorem bits_odd {i : Nat} (h : ¬ (i : Int).tmod 2 = 0) : A5 i = 25 := by 
  unfold A5
  have e : (i : Int).tmod 2 = ((i % 2 : Nat) : Int) := rfl
  rw [if_neg oM]
theorem bits_w (i : Nat) : ((UInt64.ofNat (A5 i)).toNat : Int) = ((A5 i : Nat) : Int) := by
  have := bits_26 i
  rw [UInt64.toNat_ofNat', Nat.mod_eq_of_lt oM]
theorem bits_wn (i : Nat) : (UInt64.ofNat (A5 i)).toNat = A5 i := by
  have := bits_26 i
  rw [UInt64.toNat_ofNat', Nat.mod_eq_of_lt oM]
theorem carAt_nine {w : List Nat} {k : Nat} (h : (k : Int) = 9) : C1 w (k + 1) = ((C1 w k).set k ((C1 w k).getD k 0 % 2 ^ A5 k)).set 0 (((C1 w k).set k ((C1 w k).getD k 0 % 2 ^ A5 k)).getD 0 0 + 19 * ((C1 w k).getD k 0 / 2 ^ A5 k)) := stepC_nine oM
theorem carAt_low {w : List Nat} {k : Nat} (h : ¬ (k : Int) = 9) : C1 w (k + 1) = ((C1 w k).set k ((C1 w k).getD k 0 % 2 ^ A5 k)).set (k + 1) (((C1 w k).set k ((C1 w k).getD k 0 % 2 ^ A5 k)).getD (k + 1) 0 + (C1 w k).getD k 0 / 2 ^ A5 k) := stepC_low oM
theorem opB_nine {i : Nat} (h : (i : Int) = 9) : opB i = 26 := if_pos oM
theorem opB_low {i : Nat} (h : ¬ (i : Int) = 9) : opB i = A5 i := if_neg oM
theorem natc {a b : Nat} (h : a = b) : some (i64 (a : Int)) = some (i64 (b : Int)) := by rw [h]

theorem r3_bits (i : Nat) (hi : i < 10) : Meets Tryz.prog 229 [i64 (i : Int)] [] (fun _ => True) (fun v out => v = u64 (UInt64.ofNat (A5 i)) ∧ out = []) := by
 intro W hW
 refine Ab Tryz.func229 J 6 Tryz.ntmps229 J (.sr (.a J J (show Ah _ _ = some (u64 0) from rfl) (.na (.seq (.sr (.m J J J (.rem_i64 J J J J oM (.eqi J J J J J (.na (.condP J (fun hc0 => ?_) (fun hc0 => ?_)))))))))))
 ·
  rw [bits_even hc0]
  refine .sr (.a J J (show Ah _ _ = some (u64 26) from rfl) (.na (.ret (Bg (An ?_)))))
  refine ⟨_, [], Ag J J, sP, sP, ?_, rfl⟩
  rfl
 ·
  rw [bits_odd hc0]
  refine .skip (Ae (.sr (.a J J (show Ah _ _ = some (u64 25) from rfl) (.na (.ret (An ?_))))))
  refine ⟨_, [], Ag J J, sP, sP, ?_, rfl⟩
  rfl

theorem r3_carry (w : List Nat) (h : Mid10 w) : Meets Tryz.prog 230 [agg (Bq w)] [] (fun _ => True) (fun v out => v = agg (Bq (C2 w)) ∧ out = []) := by
 intro W hW
 have hlw := h.len
 obtain ⟨u, hu0⟩ : ∃ u, Hid (C2 w = u) := ⟨_, ⟨rfl⟩⟩
 have hul : u.length = 10 := by rw [← hu0.out]; exact car10_length w
 rw [hu0.out]
 refine Ab Tryz.func230 J 43 Tryz.ntmps230 J (.sr (.boxA J J ?_))
 intro n1 hn1 hf1
 refine .alloc (cs := (Ca (List.replicate 10 0))) J Zr177 J ?_
 intro n2 hn2 hf2
 refine .na (.seq (.sr (.a J J J (.na (.block (.loop (ι := Nat) (fun k => ⟨[(1, ptr n1 0), (2, ptr n2 0), (3, i64 (k : Int))], [⟨n2, (Ca (List.replicate 10 0)), 177, 10⟩, ⟨n1, Bq (C1 w k), 177, (Bq w).length⟩]⟩) (fun k => k ≤ 10) (fun k => 10 - k) (0) ?_ ?_ ?_))))))
 · omega
 · exact Ac (wk1 rfl (wk1 rfl (wk1 rfl wk0))) (wh1 Z0 (wh1 Z1 wh0)) nD
 ·
  rintro k hi
  have hlc := carAt_length h.len k
  refine .seq (.sr (.m J J J (.lss J J J J J (.na (.condP J (fun hc0 => ?_) (fun hc0 => ?_))))))
  ·
   have hk2 : k < 10 := by omega
   have ck := carK h hk2
   have hb26 := bits_26 k
   have hcut := car_cut ((C1 w k).getD k 0) (A5 k)
   have hx := ck.x
   have hq := ck.q
   have hsl : ((C1 w k).set k ((C1 w k).getD k 0 % 2 ^ A5 k)).length = 10 := by rw [List.length_set]; exact hlc
   refine .skip (Ae (.seq (.block (.seq (.draw [(0, 0), (0, 1), (1, 2), (0, 3), (3, 4), (0, 5), (0, 6)] Ar zK (.m J J J (.i1 J J J J Cr Sz2 _ J oM (.load1 J J J Y2 J Z1 (by exact get_wds oM) ?_))))))))
   refine .m J J J (.cV J J J J Body229 (r3_bits k hk2) tV (.shrN ((C1 w k).getD k 0) (A5 k) J J J J (bits_w k) oM (.a J J J (.na (.seq (.draw [(0, 0), (0, 1), (0, 2), (1, 3), (0, 4), (0, 5), (3, 6), (0, 7), (0, 8), (0, 9), (4, 10)] Ar zK (.m J J J (.m J J J (.i1 J J J J Cr Sz2 _ J oM (.load1 J J J Y2 J Z1 (by exact get_wds oM) ?_))))))))))
   refine .m J J J (.m J J J (.cV J J J J Body229 (r3_bits k hk2) tV (.shlN ((C1 w k).getD k 0 / 2 ^ A5 k) (A5 k) J J J J (bits_w k) oM oM (.subN ((C1 w k).getD k 0) ((C1 w k).getD k 0 / 2 ^ A5 k * 2 ^ A5 k) J J J J oM (.i1 J J J J Cr Sz2 _ J oM ?_)))))
   rw [hcut.2]
   refine .s1 J J J J J Sz2 Z1 (by (simp [Al]; omega)) (by exact set_wds _ _ _) zV ?_
   refine .nsr (.m J J J (.eqi J J J J J (.na (.condP J (fun hc1 => ?_) (fun hc1 => ?_)))))
   ·
    have hfs := ck.fs oM
    refine .region (.i1 J J J J Cr Sz2 0 J dE (.load1 J J J Y2 J Z1 (by exact get_wds oM) ?_))
    refine .m J J J (.mulN (19) ((C1 w k).getD k 0 / 2 ^ A5 k) J J J J oM (.addN (((C1 w k).set k ((C1 w k).getD k 0 % 2 ^ A5 k)).getD 0 0) (19 * ((C1 w k).getD k 0 / 2 ^ A5 k)) J J J J oM (.i1 J J J J Cr Sz2 0 J dE (.s1 J J J J J Sz2 Z1 (by (simp [Al]; omega)) (by exact set_wds _ _ _) zV ?_))))
    refine .nil (Bj (Ae (.region (.m J J J (.aI J J J J oM (.a J J J (.na ?_)))))))
    exact ⟨k + 1, by omega, by omega, Ac (wk1 rfl (wk1 rfl (wk1 rfl wk0))) (wh1 Z0 (wh1 (by (rw [carAt_nine hc1]; exact mem1)) wh0)) nD⟩
   ·
    have hnx := ck.nx oM
    refine .region (.m J J J (.addN (k) (1) J J J J oM (.m J J J (.addN (k) (1) J J J J oM (.i1 J J J J Cr Sz2 _ J oM (.load1 J J J Y2 J Z1 (by exact get_wds oM) ?_))))))
    refine .m J J J (.addN (((C1 w k).set k ((C1 w k).getD k 0 % 2 ^ A5 k)).getD (k + 1) 0) ((C1 w k).getD k 0 / 2 ^ A5 k) J J J J oM (.i1 J J J J Cr Sz2 _ J oM (.s1 J J J J J Sz2 Z1 (by (simp [Al]; omega)) (by exact set_wds _ _ _) zV ?_)))
    refine .nil (Bj (Ae (.region (.m J J J (.aI J J J J oM (.a J J J (.na ?_)))))))
    exact ⟨k + 1, by omega, by omega, Ac (wk1 rfl (wk1 rfl (wk1 rfl wk0))) (wh1 Z0 (wh1 (by (rw [carAt_low hc1]; exact mem1)) wh0)) nD⟩
  ·
   rw [show C1 w k = u from by rw [show k = 10 by omega, carAt_eq h.len, hu0.out]]
   refine .exit (A1 (A1 (B5 (Ae (.sr (.lA J J J Cr J Bf Z1 (by (simp [Al, hul]; done)) ?_))))))
   refine .sA J J J J (by exact Cs _) Bf (by (simp [Al, hul]; done)) Z0 sP zU ?_
   refine .na (.ret (An ?_))
   refine ⟨_, [], Ao J J Cr J Bf Z0 (by simp [Al, hul]), sP, sP, ?_, rfl⟩
   rfl

theorem op_on {N i k : Nat} (hi : i < 10) (hb : N.testBit (B4 i + k) = true) : ((opAt N i).set i (N / 2 ^ B4 i % 2 ^ k)).set i (((opAt N i).set i (N / 2 ^ B4 i % 2 ^ k)).getD i 0 + 1 * 2 ^ k) = (opAt N i).set i (N / 2 ^ B4 i % 2 ^ (k + 1)) := by
  have hl := opAt_length N i oM
  rw [getD_set' oM, if_pos rfl, List.set_set, op_bit, hb, if_pos rfl, Nat.one_mul]
theorem op_off {N i k : Nat} (hb : N.testBit (B4 i + k) = false) : (opAt N i).set i (N / 2 ^ B4 i % 2 ^ k) = (opAt N i).set i (N / 2 ^ B4 i % 2 ^ (k + 1)) := by
  rw [op_bit, hb, if_neg dE, Nat.add_zero]
theorem op_val {N i k : Nat} (hi : i < 10) (hk : k ≤ 26) : ((opAt N i).set i (N / 2 ^ B4 i % 2 ^ k)).getD i 0 ≤ 67108864 ∧ 2 ^ k ≤ 67108864 := by
  have hl := opAt_length N i oM
  have h1 : 2 ^ k ≤ 2 ^ 26 := Nat.pow_le_pow_right dE hk
  have h2 : N / 2 ^ B4 i % 2 ^ k < 2 ^ k := Nat.mod_lt _ (Nat.pow_pos dE)
  rw [getD_set' oM, if_pos rfl]
  omega
theorem bit_is {a : List UInt8} {m : Nat} (h : (((UInt8.ofNat ((shr8 (a.getD (m / 8) 0) (m % 8)).toNat % 2)).toNat : Int) = 1)) : (le a).testBit m = true := by rw [← bit_rem]; exact decide_eq_true h
theorem bit_isn {a : List UInt8} {m : Nat} (h : ¬ (((UInt8.ofNat ((shr8 (a.getD (m / 8) 0) (m % 8)).toNat % 2)).toNat : Int) = 1)) : (le a).testBit m = false := by rw [← bit_rem]; exact decide_eq_false h

theorem r3_Open (a : List UInt8) (ha : a.length = 32) : Meets Tryz.prog 188 [agg (Aa a)] [] (fun _ => True) (fun v out => v = agg (Bq (openT (le a))) ∧ out = []) := by
 intro W hW
 obtain ⟨u, hu⟩ : ∃ u, Hid (openT (le a) = u) := ⟨_, ⟨rfl⟩⟩
 obtain ⟨D, hD⟩ : ∃ D, Hid (opD (le a) = D) := ⟨_, ⟨rfl⟩⟩
 have hu10 : u.length = 10 := by rw [← hu.out]; exact openT_length _
 have hd10 : D.length = 10 := by rw [← hD.out]; exact opD_length _
 have hc := r3_carry D (by rw [← hD.out]; exact opD_mid _)
 rw [show C2 D = u from by rw [← hD.out]; exact hu.out] at hc
 rw [hu.out]
 have hsl := hd10
 refine Ab Tryz.func188 J 58 Tryz.ntmps188 J (.sr (.boxA J J ?_))
 intro n1 hn1 hf1
 refine .alloc (cs := (Ca (List.replicate 10 0))) J Zr177 J ?_
 intro n2 hn2 hf2
 refine .nsr (.alloc (cs := (Ca (List.replicate 10 0))) J Zr177 J ?_)
 intro n3 hn3 hf3
 refine .nsr (.a J J J (.na (.seq (.sr (.a J J J (.na (.block (.loop (ι := Nat) (fun i => ⟨[(1, ptr n1 0), (2, ptr n2 0), (3, ptr n3 0), (4, i64 ((B4 i : Nat) : Int)), (5, i64 (i : Int))], [⟨n3, Bq (opAt (le a) i), 177, 10⟩, ⟨n2, (Ca (List.replicate 10 0)), 177, 10⟩, ⟨n1, Aa a, 77, (Aa a).length⟩]⟩) (fun i => i ≤ 10) (fun i => 10 - i) (0) ?_ ?_ ?_))))))))
 · omega
 · exact Ac (wk1 rfl (wk1 rfl (wk1 rfl (wk1 rfl (wk1 rfl wk0))))) (wh1 (by rw [show Bq (opAt (le a) 0) = Ca (List.replicate 10 0) from rfl]; exact Bo) (wh1 Z1 (wh1 Z2 wh0))) nD
 ·
  rintro i hi
  refine .seq (.sr (.m J J J (.lss J J J J J (.na (.condP J (fun hc0 => ?_) (fun hc0 => ?_))))))
  ·
   have hi2 : i < 10 := by omega
   have hb26 := bits_26 i
   have hbw := bits_wn i
   have hop := at_op hi2
   have hopl := op_le i
   have hat := at_le hi2
   refine .skip (Ae (.seq (.block (.sr (.m J J J (.cV J J J J Body229 (r3_bits i hi2) tV (.conv J J J Y35 Y3 (cv_u64_i64 oM) ?_)))))))
   rw [bits_wn]
   refine .a J J J (.na (.join (ι := Unit) (fun _u => ⟨[(1, ptr n1 0), (2, ptr n2 0), (3, ptr n3 0), (4, i64 ((B4 i : Nat) : Int)), (5, i64 (i : Int)), (6, i64 ((opB i : Nat) : Int))], [⟨n3, Bq (opAt (le a) i), 177, 10⟩, ⟨n2, (Ca (List.replicate 10 0)), 177, 10⟩, ⟨n1, Aa a, 77, (Aa a).length⟩]⟩) (fun _u => True) ?_ ?_))
   ·
    refine .sr (.m J J J (.eqi J J J J J (.na (.condP J (fun hc1 => ?_) (fun hc1 => ?_)))))
    ·
     refine .region (.a J J J (.na ?_))
     (rw [opB_nine hc1]; exact ⟨(), trivial, Ac (wk1 rfl (wk1 rfl (wk1 rfl (wk1 rfl (wk1 rfl (wk1 rfl wk0)))))) (wh1 Z0 (wh1 Z1 (wh1 Z2 wh0))) nD⟩)
    ·
     refine .skip (Ae ?_)
     (rw [opB_low hc1]; exact ⟨(), trivial, Ac (wk1 rfl (wk1 rfl (wk1 rfl (wk1 rfl (wk1 rfl (wk1 rfl wk0)))))) (wh1 Z0 (wh1 Z1 (wh1 Z2 wh0))) nD⟩)
   ·
    intro _u hj
    skip
    refine .seq (.sr (.a J J J (.na (.block (.loop (ι := Nat) (fun k => ⟨[(1, ptr n1 0), (2, ptr n2 0), (3, ptr n3 0), (4, i64 ((B4 i : Nat) : Int)), (5, i64 (i : Int)), (6, i64 ((opB i : Nat) : Int)), (7, i64 (k : Int))], [⟨n3, Bq ((opAt (le a) i).set i (le a / 2 ^ B4 i % 2 ^ k)), 177, 10⟩, ⟨n2, (Ca (List.replicate 10 0)), 177, 10⟩, ⟨n1, Aa a, 77, (Aa a).length⟩]⟩) (fun k => k ≤ opB i) (fun k => opB i - k) (0) ?_ ?_ ?_)))))
    · exact Nat.zero_le _
    · exact Ac (wk1 rfl (wk1 rfl (wk1 rfl (wk1 rfl (wk1 rfl (wk1 rfl (wk1 rfl wk0))))))) (wh1 (by rw [opAt_first _ hi2]; exact Bo) (wh1 Z1 (wh1 Z2 wh0))) nD
    ·
     rintro k hk
     have hsl : ((opAt (le a) i).set i (le a / 2 ^ B4 i % 2 ^ k)).length = 10 := by rw [List.length_set]; exact opAt_length _ i oM
     refine .seq (.sr (.m J J J (.m J J J (two (fun r hr k => Tr.lss J J J J hr k) (fun hs10_20 => ?_) (fun hs10_20 => ?_)))))
     ·
      have hs10_2 := of_decide_eq_true hs10_20
      skip
      refine .m J J J (.m J J J (.m J J J (.addN (B4 i) (k) J J J J oM (.lss J J J J (decide_eq_true oM) (.pick J J J J J J (.na (.cond_t J J (.skip (Ae (.seq (.block (.sr (.m J J J (.m J J J (.addN (B4 i) (k) J J J J oM (.quoN (B4 i + k) (8) J J J J ⟨by decide, by omega⟩ ?_))))))))))))))))
      refine .i1 J J J J Y77 Sz5 _ J oM (.load1 J J J Y5 J Z2 zG ?_)
      refine .m J J J (.m J J J (.addN (B4 i) (k) J J J J oM (.remN (B4 i + k) (8) J J J J dE (.conv J J J Y3 Y35 (A4 _) (.shr_u8 J J J J ((B4 i + k) % 8) (by rw [Ck _ oM]) oM ?_)))))
      refine .rem_u8 J J J J 2 J dE (.eqi J J J J J (.na (.condP J (fun hc3 => ?_) (fun hc3 => ?_))))
      ·
       have hbt := bit_is hc3
       have hov := op_val (N := le a) hi2 (show k ≤ 26 by omega)
       refine .region (.m J J J (.m J J J (.i1 J J J J Cr Sz2 _ J oM (.load1 J J J Y2 J Z0 (by exact get_wds oM) ?_))))
       refine .m J J J (.conv J J J Y3 Y35 (A4 _) (.shlN 1 k J J J J (Ck _ oM) oM oM (.addN (((opAt (le a) i).set i (le a / 2 ^ B4 i % 2 ^ k)).getD i 0) (1 * 2 ^ k) J J J J oM (.i1 J J J J Cr Sz2 _ J oM (.s1 J J J J J Sz2 Z0 (by (simp [Al, hsl]; omega)) (by exact set_wds _ _ _) zU ?_)))))
       refine .nil (Bj (Ae (.region (.m J J J (.aI J J J J oM (.a J J J (.na ?_)))))))
       exact ⟨k + 1, by omega, by omega, Ac (wk1 rfl (wk1 rfl (wk1 rfl (wk1 rfl (wk1 rfl (wk1 rfl (wk1 rfl wk0))))))) (wh1 (by (rw [← op_on hi2 hbt]; exact Bo)) (wh1 Z1 (wh1 Z2 wh0))) nD⟩
      ·
       have hbf := bit_isn hc3
       refine .skip (Bj (Ae (.region (.m J J J (.aI J J J J oM (.a J J J (.na ?_)))))))
       exact ⟨k + 1, by omega, by omega, Ac (wk1 rfl (wk1 rfl (wk1 rfl (wk1 rfl (wk1 rfl (wk1 rfl (wk1 rfl wk0))))))) (wh1 (by (rw [← op_off hbf]; exact Bo)) (wh1 Z1 (wh1 Z2 wh0))) nD⟩
     ·
      have hs10_2 := of_decide_eq_false hs10_20
      skip
      refine .m J J J (.skp J J (.skp J J (.skp J J (.skp J J (.pick J J J J J J (.na (.cond_f J J (.exit (A1 (A1 (B5 (Ae (.region (.m J J J (.m J J J (.cV J J J J Body229 (r3_bits i hi2) tV (.conv J J J Y35 Y3 (cv_u64_i64 oM) ?_)))))))))))))))))
      rw [bits_wn]
      refine .addN (B4 i) (A5 i) J J J J oM (.a J J J (.nil (Bj (Ae (.region (.m J J J (.aI J J J J oM (.a J J J (.na ?_)))))))))
      exact ⟨i + 1, by omega, by omega, Ac (wk1 rfl (wk1 rfl (wk1 rfl (wk1 (natc (at_succ hi2)) (wk1 rfl wk0))))) (wh1 (by rw [← opAt_set (le a) hi2, show opB i = k by omega]; exact Bo) (wh1 Z1 (wh1 Z2 wh0))) nD⟩
  ·
   rw [show opAt (le a) i = D from by rw [show i = 10 by omega, opAt_ten]; exact hD.out]
   refine .exit (A1 (A1 (B5 (Ae (.sr (.lA J J J Cr J Bf Z0 (by (simp [Al, hd10]; done)) ?_))))))
   refine .cV J J J J Body230 (hc) tV (.sA J J J J (by exact Cs _) Bf (by (simp [Al, hu10]; done)) Z1 sP zV ?_)
   refine .na (.ret (An ?_))
   refine ⟨_, [], Ao J J Cr J Bf Z1 (by simp [Al, hu10]), sP, sP, ?_, rfl⟩
   rfl

theorem close_first (X : Nat) : leb 32 (X % 2 ^ B4 0) = List.replicate 32 0 := by
  rw [show B4 0 = 0 from rfl, Nat.pow_zero, Nat.mod_one, leb_zero32]

theorem r3_Close (w : List Nat) (hw : Fit10 w) : Meets Tryz.prog 196 [agg (Bq w)] [] (fun _ => True) (fun v out => v = agg (Aa (fb (fe (v10 w)))) ∧ out = []) := by
 intro W hW
 have hlw := hw.len
 obtain ⟨X, hX⟩ : ∃ X, Hid (low10 w = X) := ⟨_, ⟨rfl⟩⟩
 have hX255 : X < 2 ^ 255 := by rw [← hX.out]; exact low10_lt hw
 have h4 := car10_four hw
 rw [hX.out] at h4
 have hfx : fe (v10 w) = fe X := by rw [← hX.out]; exact (low10_fe w).symm
 rw [hfx]
 have f1 : Fit10 (C2 w) := car10_fit (by have := hw.v; omega)
 have f2 : Fit10 (C2 (C2 w)) := car10_fit (by have := f1.v; omega)
 have f3 : Fit10 (C2 (C2 (C2 w))) := car10_fit (by have := f2.v; omega)
 have c1 := r3_carry w hw.mid
 have c2 := r3_carry _ f1.mid
 have c3 := r3_carry _ f2.mid
 have c4 := r3_carry _ f3.mid
 rw [h4] at c4
 have hl1 := f1.len
 have hl2 := f2.len
 have hl3 := f3.len
 have hDl : (dg X b10).length = 10 := by rw [dg_length]; rfl
 have hDb : ∀ i k, i < 10 → k < A5 i → (((((dg X b10).getD i 0 / 2 ^ k % 2 : Nat) : Int) = 1) ↔ X.testBit (B4 i + k) = true) := fun i k h1 h2 => dg_bit_dec X h1 h2
 have ht := fun h => not_top hX255 h
 have hm := fun i h1 h2 h => not_mid (i := i) hX255 h1 h2 h
 have htop := fun h1 h2 h3 => is_top hX255 h1 h2 h3
 obtain ⟨O, hO⟩ : ∃ O, Hid (leb 32 X = O) := ⟨_, ⟨rfl⟩⟩
 have hOl : O.length = 32 := by rw [← hO.out]; exact Aj _ _
 rw [hO.out] at ht hm htop
 clear f1 f2 f3 h4
 revert c1 c2 c3 c4 hl1 hl2 hl3 hDl hDb
 generalize C2 (C2 (C2 w)) = w3
 generalize C2 (C2 w) = w2
 generalize C2 w = w1
 generalize dg X b10 = D
 intro c1 c2 c3 c4 hl1 hl2 hl3 hDl hDb
 generalize hFB : fb (fe X) = FB at ht hm htop ⊢
 refine Ab Tryz.func196 J 77 Tryz.ntmps196 J (.sr (.boxA J J ?_))
 intro n1 hn1 hf1
 refine .alloc (cs := (Aa (List.replicate 32 0))) J Bs J ?_
 intro n2 hn2 hf2
 refine .nsr (.lA J J J Cr J Bf Z1 (by (simp [Al, hlw]; done)) ?_)
 refine .cV J J J J Body230 (c1) tV (.cV J J J J Body230 (c2) tV (.cV J J J J Body230 (c3) tV (.cV J J J J Body230 (c4) tV (.sA J J J J (by exact Cs _) Bf (by (simp [Al, hDl]; done)) Z1 (by (simp [Al, hlw]; done)) zV ?_))))
 refine .nsr (.alloc (cs := (Aa (List.replicate 32 0))) J Bs J ?_)
 intro n3 hn3 hf3
 refine .nsr (.a J J J (.na (.seq (.sr (.a J J J (.na (.block (.loop (ι := Nat) (fun i => ⟨[(1, ptr n1 0), (2, ptr n2 0), (3, ptr n3 0), (4, i64 ((B4 i : Nat) : Int)), (5, i64 (i : Int))], [⟨n3, Aa (leb 32 (X % 2 ^ B4 i)), 77, 32⟩, ⟨n2, Aa (List.replicate 32 0), 77, 32⟩, ⟨n1, Bq D, 177, (Bq w).length⟩]⟩) (fun i => i ≤ 10) (fun i => 10 - i) (0) ?_ ?_ ?_))))))))
 · omega
 · exact Ac (wk1 rfl (wk1 rfl (wk1 rfl (wk1 rfl (wk1 rfl wk0))))) (wh1 (by rw [close_first]; exact Bo) (wh1 Z1 (wh1 Z2 wh0))) nD
 ·
  rintro i hi
  refine .seq (.sr (.m J J J (.lss J J J J J (.na (.condP J (fun hc0 => ?_) (fun hc0 => ?_))))))
  ·
   have hi2 : i < 10 := by omega
   have hb26 := bits_26 i
   have hbw := bits_wn i
   have hat := at_le hi2
   have hat2 := at_succ hi2
   have hat3 : B4 (i + 1) ≤ 255 := by unfold B4; omega
   refine .skip (Ae (.seq (.block (.seq (.sr (.a J J J (.na (.block (.loop (ι := Nat) (fun k => ⟨[(1, ptr n1 0), (2, ptr n2 0), (3, ptr n3 0), (4, i64 ((B4 i : Nat) : Int)), (5, i64 (i : Int)), (6, i64 (k : Int))], [⟨n3, Aa (leb 32 (X % 2 ^ (B4 i + k))), 77, 32⟩, ⟨n2, Aa (List.replicate 32 0), 77, 32⟩, ⟨n1, Bq D, 177, (Bq w).length⟩]⟩) (fun k => k ≤ A5 i) (fun k => A5 i - k) (0) ?_ ?_ ?_)))))))))
   · exact Nat.zero_le _
   · exact Ac (wk1 rfl (wk1 rfl (wk1 rfl (wk1 rfl (wk1 rfl (wk1 rfl wk0)))))) (wh1 (by rw [Nat.add_zero]; exact Bo) (wh1 Z1 (wh1 Z2 wh0))) nD
   ·
    rintro k hk
    refine .seq (.sr (.m J J J (.m J J J (.cV J J J J Body229 (r3_bits i hi2) tV (.conv J J J Y35 Y3 (cv_u64_i64 oM) ?_)))))
    rw [bits_wn]
    refine .lss J J J J J (.na (.condP J (fun hc1 => ?_) (fun hc1 => ?_)))
    ·
     refine .skip (Ae (.seq (.block (.sr (.m J J J (.i1 J J J J Cr Sz2 _ J oM (.load1 J J J Y2 J Z2 (by exact get_wds oM) ?_)))))))
     refine .m J J J (.conv J J J Y3 Y35 (A4 _) (.shrN (D.getD i 0) (k) J J J J (Ck _ oM) oM (.remN (D.getD i 0 / 2 ^ k) (2) J J J J dE (.eqi J J J J J (.na (.condP J (fun hc2 => ?_) (fun hc2 => ?_)))))))
     ·
      have hbt := (hDb i k hi2 oM).1 hc2
      have hbs : leb 32 (X % 2 ^ (B4 i + (k + 1))) = _ := (bit_set X (m := B4 i + k) oM hbt).symm
      refine .region (.m J J J (.m J J J (.addN (B4 i) (k) J J J J oM (.quoN (B4 i + k) (8) J J J J ⟨by decide, by omega⟩ ?_))))
      refine .m J J J (.m J J J (.addN (B4 i) (k) J J J J oM (.quoN (B4 i + k) (8) J J J J ⟨by decide, by omega⟩ ?_)))
      refine .i1 J J J J Y77 Sz5 _ J oM (.load1 J J J Y5 J Z0 (by exact B0 (by (simp [Aj]; omega))) ?_)
      refine .m J J J (.m J J J (.addN (B4 i) (k) J J J J oM (.remN (B4 i + k) (8) J J J J dE (.conv J J J Y3 Y35 (A4 _) (.shl_u8 J J (show Ah _ _ = some (u8 1) from rfl) J ((B4 i + k) % 8) (by rw [Ck _ oM]) oM ?_)))))
      refine .add_u8 J J J J (.i1 J J J J Y77 Sz5 _ J oM (.s1 J J J J J Sz5 Z0 (by (simp [Aj]; omega)) (by exact Bb _ _ _) zU ?_))
      refine .nil (Bj (Ae (.region (.m J J J (.aI J J J J oM (.a J J J (.na ?_)))))))
      exact ⟨k + 1, by omega, by omega, Ac (wk1 rfl (wk1 rfl (wk1 rfl (wk1 rfl (wk1 rfl (wk1 rfl wk0)))))) (wh1 (by rw [hbs]; exact Bo) (wh1 Z1 (wh1 Z2 wh0))) nD⟩
     ·
      have hbf : X.testBit (B4 i + k) = false := Bool.eq_false_iff.2 (fun e => hc2 ((hDb i k hi2 oM).2 e))
      have hbs : leb 32 (X % 2 ^ (B4 i + (k + 1))) = leb 32 (X % 2 ^ (B4 i + k)) := (bit_off X (B4 i + k) hbf).symm
      refine .skip (Bj (Ae (.region (.m J J J (.aI J J J J oM (.a J J J (.na ?_)))))))
      exact ⟨k + 1, by omega, by omega, Ac (wk1 rfl (wk1 rfl (wk1 rfl (wk1 rfl (wk1 rfl (wk1 rfl wk0)))))) (wh1 (by rw [hbs]; exact Bo) (wh1 Z1 (wh1 Z2 wh0))) nD⟩
    ·
     refine .exit (A1 (A1 (B5 (Ae (.region (.m J J J (.m J J J (.cV J J J J Body229 (r3_bits i hi2) tV (.conv J J J Y35 Y3 (cv_u64_i64 oM) ?_)))))))))
     rw [bits_wn]
     refine .addN (B4 i) (A5 i) J J J J oM (.a J J J (.nil (Bj (Ae (.region (.m J J J (.aI J J J J oM (.a J J J (.na ?_)))))))))
     exact ⟨i + 1, by omega, by omega, Ac (wk1 rfl (wk1 rfl (wk1 rfl (wk1 (natc (at_succ hi2)) (wk1 rfl wk0))))) (wh1 (by rw [← at_succ hi2, show A5 i = k by omega]; exact Bo) (wh1 Z1 (wh1 Z2 wh0))) nD⟩
  ·
   rw [show leb 32 (X % 2 ^ B4 i) = O from by rw [show B4 i = 255 from by rw [show i = 10 by omega]; rfl, Nat.mod_eq_of_lt hX255]; exact hO.out]
   refine .exit (A1 (A1 (B5 (Ae (.seq (.sr (.i1 J J J J Y77 Sz5 0 J dE (.load1 J J J Y5 J Z0 zG ?_))))))))
   refine two (fun r hr k => Tr.lss J J J J hr k) (fun hs13_20 => ?_) (fun hs13_20 => ?_)
   ·
    have hs13_2 := of_decide_eq_true hs13_20
    refine .m J J J (.skp J J (.skp J J (.skp J J (.pick J J J J J J (.na (.cond_t J J (.sr (.lA J J J Y77 J Ad Z0 (by (simp [hOl]; done)) ?_))))))))
    refine .sA J J J J zE Ad (by (simp [hOl]; done)) Z1 sP zV ?_
    refine .na (.ret (Bg (An ?_)))
    refine ⟨_, [], Ao J J Y77 J Ad Z1 (by simp [hOl]), sP, sP, ?_, rfl⟩
    exact congrArg (fun l => agg (Aa l)) (ht oM)
   ·
    have hs13_2 := of_decide_eq_false hs13_20
    refine .m J J J (.i1 J J J J Y77 Sz5 31 J dE (.load1 J J J Y5 J Z0 zG ?_))
    refine two (fun r hr k => Tr.nei J J J J hr k) (fun hs13_60 => ?_) (fun hs13_60 => ?_)
    ·
     have hs13_6 := nd_t hs13_60
     refine .pick J J J J J J (.na (.cond_t J J (.sr (.lA J J J Y77 J Ad Z0 (by (simp [hOl]; done)) ?_))))
     refine .sA J J J J zE Ad (by (simp [hOl]; done)) Z1 sP zV ?_
     refine .na (.ret (Bg (An ?_)))
     refine ⟨_, [], Ao J J Y77 J Ad Z1 (by simp [hOl]), sP, sP, ?_, rfl⟩
     exact congrArg (fun l => agg (Aa l)) (ht oM)
    ·
     have hs13_6 := nd_f hs13_60
     refine .pick J J J J J J (.na (.cond_f J J (.skip (Ae (.seq (.sr (.a J J J (.na (.block (.loop (ι := Nat) (fun j => ⟨[(2, ptr n2 0), (3, ptr n3 0), (7, i64 (j : Int))], [⟨n3, Aa O, 77, 32⟩, ⟨n2, Aa (List.replicate 32 0), 77, 32⟩]⟩) (fun j => 1 ≤ j ∧ j ≤ 31 ∧ ∀ m, 0 < m → m < j → (O.getD m 0).toNat = 255) (fun j => 31 - j) (1) ?_ ?_ ?_))))))))))
     · exact ⟨Nat.le_refl _, by omega, fun m h1 h2 => by omega⟩
     · exact Ac (wk1 rfl (wk1 rfl (wk1 rfl wk0))) (wh1 Z0 (wh1 Z1 wh0)) nD
     ·
      rintro j ⟨hj1, hj2, hj3⟩
      refine .seq (.sr (.m J J J (.lss J J J J J (.na (.condP J (fun hc4 => ?_) (fun hc4 => ?_))))))
      ·
       refine .skip (Ae (.seq (.block (.sr (.m J J J (.i1 J J J J Y77 Sz5 _ J oM (.load1 J J J Y5 J Z0 zG ?_)))))))
       refine .nei J J J J J (.na (.condNP J (fun hc5 => ?_) (fun hc5 => ?_)))
       ·
        refine .sr (.lA J J J Y77 J Ad Z0 (by (simp [hOl]; done)) ?_)
        refine .sA J J J J zE Ad (by (simp [hOl]; done)) Z1 sP zV ?_
        refine .na (.ret (bl_r (Bg (Bg (bl_r (Bg (An ?_)))))))
        refine ⟨_, [], Ao J J Y77 J Ad Z1 (by simp [hOl]), sP, sP, ?_, rfl⟩
        exact congrArg (fun l => agg (Aa l)) (hm j oM oM oM)
       ·
        refine .skip (Bj (Ae (.region (.m J J J (.aI J J J J oM (.a J J J (.na ?_)))))))
        exact ⟨j + 1, ⟨by omega, by omega, fun m h1 h2 => by
          by_cases e : m = j
          · rw [e]; omega
          · exact hj3 m h1 oM⟩, by omega, Ac (wk1 rfl (wk1 rfl (wk1 rfl wk0))) (wh1 Z0 (wh1 Z1 wh0)) nD⟩
      ·
       refine .exit (A1 (A1 (B5 (Ae (.sr (.i1 J J J J Y77 Sz5 0 J dE (.load1 J J J Y5 J Z0 zG ?_)))))))
       refine .sub_u8 J J J (show Ah _ _ = some (u8 237) from rfl) (.build (cs := Aa ((O.getD 0 0 - 237) :: List.replicate 31 0)) J J J (fun w => by kernel_rfl) ?_)
       refine .sA J J J J zE Ad (by (simp [hOl]; done)) Z1 sP zV ?_
       refine .na (.ret (An ?_))
       refine ⟨_, [], Ao J J Y77 J Ad Z1 (by simp [hOl]), sP, sP, ?_, rfl⟩
       exact congrArg (fun l => agg (Aa l)) (htop oM oM (fun m h1 h2 => hj3 m h1 oM))

def p1 (i : Nat) : Nat := 2 ^ A5 i - 1 - (if i = 0 then 18 else 0)
theorem p1_z {i : Nat} (h : (i : Int) = 0) : p1 i = 1 * 2 ^ A5 i - 1 - 18 := by rw [p1, if_pos oM, Nat.one_mul]
theorem p1_n {i : Nat} (h : ¬ (i : Int) = 0) : p1 i = 1 * 2 ^ A5 i - 1 := by rw [p1, if_neg oM, Nat.one_mul, Nat.sub_zero]
theorem p4_p1 (i : Nat) : p4 i = 4 * p1 i := rfl
def cf2 (i k : Nat) : Nat := if i % 2 = 1 ∧ k % 2 = 1 then 2 else 1
theorem cf2_t {i k : Nat} (P : Nat) (h : ((i % 2 : Nat) : Int) = 1) (h2 : ((k % 2 : Nat) : Int) = 1) : cf2 i k * P = 2 * P := by rw [cf2, if_pos ⟨by omega, by omega⟩]
theorem cf2_a {i k : Nat} (P : Nat) (h : ¬ ((i % 2 : Nat) : Int) = 1) : cf2 i k * P = P := by rw [cf2, if_neg (fun e => h oM), Nat.one_mul]
theorem cf2_b {i k : Nat} (P : Nat) (h : ¬ ((k % 2 : Nat) : Int) = 1) : cf2 i k * P = P := by rw [cf2, if_neg (fun e => h oM), Nat.one_mul]
theorem cf2_le (i k : Nat) : cf2 i k ≤ 2 := by unfold cf2; split <;> omega
theorem coef_hi {i k : Nat} (P : Nat) (h : (9 : Int) < ((i + k : Nat) : Int)) : coef i k * P = 19 * (cf2 i k * P) := by
  rw [coef, if_pos oM, Nat.mul_assoc]; rfl
theorem coef_lo {i k : Nat} (P : Nat) (h : ¬ (9 : Int) < ((i + k : Nat) : Int)) : coef i k * P = cf2 i k * P := by
  rw [coef, if_neg oM, Nat.one_mul]; rfl
theorem tRow_bd {x y : List Nat} (hx : Fit10 x) (hy : Fit10 y) {i k m : Nat} (hi : i < 10) (hk : k ≤ 10) (hm : m < 10) : (tRow x y i (tAll x y i) k).getD m 0 ≤ 6845471433603153920 := by
  have h1 := tRow_le hi (fun k hk => term_le hx hy i k hi hk) (tAll_length x y i) k hk m hm
  have h2 := tAll_le (term_le hx hy) i oM m hm
  have h3 : (if (m + 10 - i) % 10 < k then 38 * (2 ^ 27 * 2 ^ 27) else 0) ≤ 38 * (2 ^ 27 * 2 ^ 27) := by split <;> omega
  omega
theorem prod_le {x y : List Nat} (hx : Fit10 x) (hy : Fit10 y) {i k : Nat} (hi : i < 10) (hk : k < 10) : x.getD i 0 * y.getD k 0 ≤ 18014398509481984 :=
  Nat.le_trans (Nat.mul_le_mul (Nat.le_of_lt (hx.all hi)) (Nat.le_of_lt (hy.all hk))) dE

theorem r3_Plus (x y : List Nat) (hx : Fit10 x) (hy : Fit10 y) : Meets Tryz.prog 232 [agg (Bq x), agg (Bq y)] [] (fun _ => True) (fun v out => v = agg (Bq (plusT x y)) ∧ out = []) := by
 intro W hW
 have hxl := hx.len
 have hyl := hy.len
 obtain ⟨A, hA⟩ : ∃ A, Hid (addAt x y 10 = A) := ⟨_, ⟨rfl⟩⟩
 obtain ⟨U, hU⟩ : ∃ U, Hid (plusT x y = U) := ⟨_, ⟨rfl⟩⟩
 have hAl : A.length = 10 := by rw [← hA.out]; exact addAt_length y hx.len 10
 have hUl : U.length = 10 := by rw [← hU.out]; exact car10_length _
 have hc := r3_carry A (by rw [← hA.out]; exact addAt_mid hx hy)
 rw [show C2 A = U from by rw [← hA.out]; exact hU.out] at hc
 rw [hU.out]
 have hal := hAl
 refine Ab Tryz.func232 J 21 Tryz.ntmps232 J (.sr (.boxA J J ?_))
 intro n2 hn2 hf2
 refine .boxA J J ?_
 intro n3 hn3 hf3
 refine .alloc (cs := (Ca (List.replicate 10 0))) J Zr177 J ?_
 intro n4 hn4 hf4
 refine .na (.seq (.sr (.a J J J (.na (.block (.loop (ι := Nat) (fun i => ⟨[(2, ptr n2 0), (3, ptr n3 0), (4, ptr n4 0), (5, i64 (i : Int))], [⟨n4, (Ca (List.replicate 10 0)), 177, 10⟩, ⟨n3, Bq y, 177, (Bq y).length⟩, ⟨n2, Bq (addAt x y i), 177, (Bq x).length⟩]⟩) (fun i => i ≤ 10) (fun i => 10 - i) (0) ?_ ?_ ?_))))))
 · omega
 · exact Ac (wk1 rfl (wk1 rfl (wk1 rfl (wk1 rfl wk0)))) (wh1 Z0 (wh1 Z1 (wh1 Z2 wh0))) nD
 ·
  rintro i hi
  have hal := addAt_length y hxl i
  refine .seq (.sr (.m J J J (.lss J J J J J (.na (.condP J (fun hc0 => ?_) (fun hc0 => ?_))))))
  ·
   have hi2 : i < 10 := by omega
   have hxi : (addAt x y i).getD i 0 = x.getD i 0 + 0 := by rw [addAt_get hx.len i oM i hi2, if_neg oM]
   have hx2 := hx.all hi2
   have hy2 := hy.all hi2
   refine .skip (Ae (.seq (.block (.draw [(0, 0), (0, 1), (0, 2), (1, 3), (0, 4), (0, 5), (1, 6), (0, 7), (0, 8), (4, 9)] Ar zK (.m J J J (.m J J J (.i1 J J J J Cr Sz2 _ J oM (.load1 J J J Y2 J Z2 (by exact get_wds oM) ?_))))))))
   refine .m J J J (.i1 J J J J Cr Sz2 _ J oM (.load1 J J J Y2 J Z1 (by exact get_wds oM) ?_))
   refine .addN ((addAt x y i).getD i 0) (y.getD i 0) J J J J oM (.i1 J J J J Cr Sz2 _ J oM (.s1 J J J J J Sz2 Z2 (by (simp [Al, hal]; omega)) (by exact set_wds _ _ _) (by exact upd2) ?_))
   refine .nil (Bj (Ae (.region (.m J J J (.aI J J J J oM (.a J J J (.na ?_)))))))
   exact ⟨i + 1, by omega, by omega, Ac (wk1 rfl (wk1 rfl (wk1 rfl (wk1 rfl wk0)))) (wh1 Z0 (wh1 Z1 (wh1 Z2 wh0))) nD⟩
  ·
   rw [show addAt x y i = A from by rw [show i = 10 by omega]; exact hA.out]
   refine .exit (A1 (A1 (B5 (Ae (.sr (.lA J J J Cr J Bf Z2 (by (simp [Al, hAl]; done)) ?_))))))
   refine .cV J J J J Body230 (hc) tV (.sA J J J J (by exact Cs _) Bf (by (simp [Al, hUl]; done)) Z0 sP zU ?_)
   refine .na (.ret (An ?_))
   refine ⟨_, [], Ao J J Cr J Bf Z0 (by simp [Al, hUl]), sP, sP, ?_, rfl⟩
   rfl

theorem r3_Minus (x y : List Nat) (hx : Fit10 x) (hy : Fit10 y) : Meets Tryz.prog 231 [agg (Bq x), agg (Bq y)] [] (fun _ => True) (fun v out => v = agg (Bq (minusT x y)) ∧ out = []) := by
 intro W hW
 have hxl := hx.len
 have hyl := hy.len
 obtain ⟨A, hA⟩ : ∃ A, Hid (subAt x y 10 = A) := ⟨_, ⟨rfl⟩⟩
 obtain ⟨U, hU⟩ : ∃ U, Hid (minusT x y = U) := ⟨_, ⟨rfl⟩⟩
 have hAl : A.length = 10 := by rw [← hA.out]; exact subAt_length y hx.len 10
 have hUl : U.length = 10 := by rw [← hU.out]; exact car10_length _
 have hc := r3_carry A (by rw [← hA.out]; exact subAt_mid hx)
 rw [show C2 A = U from by rw [← hA.out]; exact hU.out] at hc
 rw [hU.out]
 have hal := hAl
 refine Ab Tryz.func231 J 33 Tryz.ntmps231 J (.sr (.boxA J J ?_))
 intro n2 hn2 hf2
 refine .boxA J J ?_
 intro n3 hn3 hf3
 refine .alloc (cs := (Ca (List.replicate 10 0))) J Zr177 J ?_
 intro n4 hn4 hf4
 refine .na (.seq (.sr (.a J J J (.na (.block (.loop (ι := Nat) (fun i => ⟨[(2, ptr n2 0), (3, ptr n3 0), (4, ptr n4 0), (5, i64 (i : Int))], [⟨n4, (Ca (List.replicate 10 0)), 177, 10⟩, ⟨n3, Bq y, 177, (Bq y).length⟩, ⟨n2, Bq (subAt x y i), 177, (Bq x).length⟩]⟩) (fun i => i ≤ 10) (fun i => 10 - i) (0) ?_ ?_ ?_))))))
 · omega
 · exact Ac (wk1 rfl (wk1 rfl (wk1 rfl (wk1 rfl wk0)))) (wh1 Z0 (wh1 Z1 (wh1 Z2 wh0))) nD
 ·
  rintro i hi
  have hal := subAt_length y hxl i
  refine .seq (.sr (.m J J J (.lss J J J J J (.na (.condP J (fun hc0 => ?_) (fun hc0 => ?_))))))
  ·
   have hi2 : i < 10 := by omega
   have hxi : (subAt x y i).getD i 0 = x.getD i 0 + 0 := by rw [subAt_get hx.len i oM i hi2, if_neg oM]
   have hx2 := hx.all hi2
   have hy2 := hy.all hi2
   have hpg := p4_ge hy hi2
   have hpl := p4_le i
   rw [p4_p1] at hpg hpl
   have hbg := bits_ge i
   have hbl := bits_le i
   have hb26 := bits_26 i
   have hsub : (subAt x y i).getD i 0 + 4 * p1 i - y.getD i 0 = (subAt x y i).getD i 0 + (p4 i - y.getD i 0) := by rw [p4_p1]; omega
   refine .skip (Ae (.seq (.block (.sr (.m J J J (.cV J J J J Body229 (r3_bits i hi2) tV (.shlN (1) (A5 i) J J J J (bits_w i) oM oM (.subN (1 * 2 ^ A5 i) (1) J J J J oM (.a J J J (.na (.join (ι := Unit) (fun _u => ⟨[(2, ptr n2 0), (3, ptr n3 0), (4, ptr n4 0), (5, i64 (i : Int)), (6, i64 ((p1 i : Nat) : Int))], [⟨n4, (Ca (List.replicate 10 0)), 177, 10⟩, ⟨n3, Bq y, 177, (Bq y).length⟩, ⟨n2, Bq (subAt x y i), 177, (Bq x).length⟩]⟩) (fun _u => True) ?_ ?_)))))))))))
   ·
    refine .sr (.m J J J (.eqi J J J J J (.na (.condP J (fun hc1 => ?_) (fun hc1 => ?_)))))
    ·
     refine .region (.m J J J (.subN (1 * 2 ^ A5 i - 1) (18) J J J J oM (.a J J J (.na ?_))))
     (rw [p1_z hc1]; exact ⟨(), trivial, Ac (wk1 rfl (wk1 rfl (wk1 rfl (wk1 rfl (wk1 rfl wk0))))) (wh1 Z0 (wh1 Z1 (wh1 Z2 wh0))) nD⟩)
    ·
     refine .skip (Ae ?_)
     (rw [p1_n hc1]; exact ⟨(), trivial, Ac (wk1 rfl (wk1 rfl (wk1 rfl (wk1 rfl (wk1 rfl wk0))))) (wh1 Z0 (wh1 Z1 (wh1 Z2 wh0))) nD⟩)
   ·
    intro _u hj
    skip
    refine .draw [(0, 0), (0, 1), (0, 2), (1, 3), (0, 4), (0, 5), (0, 6), (0, 7), (0, 8), (1, 9), (0, 10), (0, 11), (4, 12)] Ar zK (.m J J J (.m J J J (.i1 J J J J Cr Sz2 _ J oM (.load1 J J J Y2 J Z2 (by exact get_wds oM) ?_))))
    refine .m J J J (.mulN (4) (p1 i) J J J J oM (.addN ((subAt x y i).getD i 0) (4 * p1 i) J J J J oM (.m J J J (.i1 J J J J Cr Sz2 _ J oM (.load1 J J J Y2 J Z1 (by exact get_wds oM) ?_)))))
    refine .subN ((subAt x y i).getD i 0 + 4 * p1 i) (y.getD i 0) J J J J oM (.i1 J J J J Cr Sz2 _ J oM ?_)
    rw [hsub]
    refine .s1 J J J J J Sz2 Z2 (by (simp [Al, hal]; omega)) (by exact set_wds _ _ _) (by exact upd2) ?_
    refine .nil (Bj (Ae (.region (.m J J J (.aI J J J J oM (.a J J J (.na ?_)))))))
    exact ⟨i + 1, by omega, by omega, Ac (wk1 rfl (wk1 rfl (wk1 rfl (wk1 rfl wk0)))) (wh1 Z0 (wh1 Z1 (wh1 Z2 wh0))) nD⟩
  ·
   rw [show subAt x y i = A from by rw [show i = 10 by omega]; exact hA.out]
   refine .exit (A1 (A1 (B5 (Ae (.sr (.lA J J J Cr J Bf Z2 (by (simp [Al, hAl]; done)) ?_))))))
   refine .cV J J J J Body230 (hc) tV (.sA J J J J (by exact Cs _) Bf (by (simp [Al, hUl]; done)) Z0 sP zU ?_)
   refine .na (.ret (An ?_))
   refine ⟨_, [], Ao J J Cr J Bf Z0 (by simp [Al, hUl]), sP, sP, ?_, rfl⟩
   rfl

theorem r3_Times (x y : List Nat) (hx : Fit10 x) (hy : Fit10 y) : Meets Tryz.prog 197 [agg (Bq x), agg (Bq y)] [] (fun _ => True) (fun v out => v = agg (Bq (mulT x y)) ∧ out = []) := by
 intro W hW
 have hxl := hx.len
 have hyl := hy.len
 obtain ⟨A, hA⟩ : ∃ A, Hid (tAll x y 10 = A) := ⟨_, ⟨rfl⟩⟩
 obtain ⟨U, hU⟩ : ∃ U, Hid (C2 (tAll x y 10) = U) := ⟨_, ⟨rfl⟩⟩
 have hAl : A.length = 10 := by rw [← hA.out]; exact tAll_length x y 10
 have hUl : U.length = 10 := by rw [← hU.out]; exact car10_length _
 have hc := r3_carry A (by rw [← hA.out]; exact tAll_mid hx hy)
 rw [show C2 A = U from by rw [← hA.out]; exact hU.out] at hc
 have hcc := r3_carry U (by rw [← hU.out]; exact car10_mid (tAll_v10 hx hy))
 obtain ⟨V, hV⟩ : ∃ V, Hid (mulT x y = V) := ⟨_, ⟨rfl⟩⟩
 have hVl : V.length = 10 := by rw [← hV.out]; exact car10_length _
 rw [show C2 U = V from by rw [← hU.out]; exact hV.out] at hcc
 rw [hV.out]
 have hal := hAl
 refine Ab Tryz.func197 J 56 Tryz.ntmps197 J (.sr (.boxA J J ?_))
 intro n2 hn2 hf2
 refine .boxA J J ?_
 intro n3 hn3 hf3
 refine .alloc (cs := (Ca (List.replicate 10 0))) J Zr177 J ?_
 intro n4 hn4 hf4
 refine .nsr (.alloc (cs := (Ca (List.replicate 10 0))) J Zr177 J ?_)
 intro n5 hn5 hf5
 refine .na (.seq (.sr (.a J J J (.na (.block (.loop (ι := Nat) (fun i => ⟨[(2, ptr n2 0), (3, ptr n3 0), (4, ptr n4 0), (5, ptr n5 0), (6, i64 (i : Int))], [⟨n5, Bq (tAll x y i), 177, 10⟩, ⟨n4, (Ca (List.replicate 10 0)), 177, 10⟩, ⟨n3, Bq y, 177, (Bq y).length⟩, ⟨n2, Bq x, 177, (Bq x).length⟩]⟩) (fun i => i ≤ 10) (fun i => 10 - i) (0) ?_ ?_ ?_))))))
 · omega
 · exact Ac (wk1 rfl (wk1 rfl (wk1 rfl (wk1 rfl (wk1 rfl wk0))))) (wh1 (by rw [show Bq (tAll x y 0) = Ca (List.replicate 10 0) from rfl]; exact Bo) (wh1 Z1 (wh1 Z2 (wh1 Z3 wh0)))) nD
 ·
  rintro i hi
  refine .seq (.sr (.m J J J (.lss J J J J J (.na (.condP J (fun hc0 => ?_) (fun hc0 => ?_))))))
  ·
   have hi2 : i < 10 := by omega
   refine .skip (Ae (.seq (.block (.sr (.a J J J (.na (.block (.loop (ι := Nat) (fun k => ⟨[(2, ptr n2 0), (3, ptr n3 0), (4, ptr n4 0), (5, ptr n5 0), (6, i64 (i : Int)), (7, i64 (k : Int))], [⟨n5, Bq (tRow x y i (tAll x y i) k), 177, 10⟩, ⟨n4, (Ca (List.replicate 10 0)), 177, 10⟩, ⟨n3, Bq y, 177, (Bq y).length⟩, ⟨n2, Bq x, 177, (Bq x).length⟩]⟩) (fun k => k ≤ 10) (fun k => 10 - k) (0) ?_ ?_ ?_))))))))
   · omega
   · exact Ac (wk1 rfl (wk1 rfl (wk1 rfl (wk1 rfl (wk1 rfl (wk1 rfl wk0)))))) (wh1 Z0 (wh1 Z1 (wh1 Z2 (wh1 Z3 wh0)))) nD
   ·
    rintro k hk
    have hal := tRow_length x y i (tAll_length x y i) k
    refine .seq (.sr (.m J J J (.lss J J J J J (.na (.condP J (fun hc1 => ?_) (fun hc1 => ?_))))))
    ·
     have hk2 : k < 10 := by omega
     have hxy := prod_le hx hy hi2 hk2
     have hcf : cf2 i k * (x.getD i 0 * y.getD k 0) ≤ 2 * 18014398509481984 := Nat.mul_le_mul (cf2_le i k) hxy
     have hco := term_le hx hy i k hi2 hk2
     have hbd := tRow_bd hx hy (m := (i + k) % 10) hi2 (show k ≤ 10 by omega) (Nat.mod_lt _ dE)
     refine .skip (Ae (.seq (.block (.seq (.draw [(0, 0), (0, 1), (1, 2), (0, 3), (0, 4), (1, 5), (0, 6), (0, 7)] Ar zK (.m J J J (.i1 J J J J Cr Sz2 _ J oM (.load1 J J J Y2 J Z3 (by exact get_wds oM) ?_))))))))
     refine .m J J J (.i1 J J J J Cr Sz2 _ J oM (.load1 J J J Y2 J Z2 (by exact get_wds oM) ?_))
     refine .mulN (x.getD i 0) (y.getD k 0) J J J J oM (.a J J J (.na (.join (ι := Unit) (fun _u => ⟨[(2, ptr n2 0), (3, ptr n3 0), (4, ptr n4 0), (5, ptr n5 0), (6, i64 (i : Int)), (7, i64 (k : Int)), (8, i64 ((cf2 i k * (x.getD i 0 * y.getD k 0) : Nat) : Int))], [⟨n5, Bq (tRow x y i (tAll x y i) k), 177, 10⟩, ⟨n4, (Ca (List.replicate 10 0)), 177, 10⟩, ⟨n3, Bq y, 177, (Bq y).length⟩, ⟨n2, Bq x, 177, (Bq x).length⟩]⟩) (fun _u => True) ?_ ?_)))
     ·
      refine .sr (.m J J J (.remN (i) (2) J J J J dE (two (fun r hr k => Tr.eqi J J J J hr k) (fun hs9_20 => ?_) (fun hs9_20 => ?_))))
      ·
       have hs9_2 := of_decide_eq_true hs9_20
       refine .m J J J (.m J J J (.remN (k) (2) J J J J dE (two (fun r hr k => Tr.eqi J J J J hr k) (fun hs9_60 => ?_) (fun hs9_60 => ?_))))
       ·
        have hs9_6 := of_decide_eq_true hs9_60
        refine .pick J J J J J J (.na (.cond_t J J (.region (.m J J J (.mulN (2) (x.getD i 0 * y.getD k 0) J J J J oM (.a J J J (.na ?_)))))))
        (rw [cf2_t _ hs9_2 hs9_6]; exact ⟨(), trivial, Ac (wk1 rfl (wk1 rfl (wk1 rfl (wk1 rfl (wk1 rfl (wk1 rfl (wk1 rfl wk0))))))) (wh1 Z0 (wh1 Z1 (wh1 Z2 (wh1 Z3 wh0)))) nD⟩)
       ·
        have hs9_6 := of_decide_eq_false hs9_60
        refine .pick J J J J J J (.na (.cond_f J J (.skip (Ae ?_))))
        (rw [cf2_b _ hs9_6]; exact ⟨(), trivial, Ac (wk1 rfl (wk1 rfl (wk1 rfl (wk1 rfl (wk1 rfl (wk1 rfl (wk1 rfl wk0))))))) (wh1 Z0 (wh1 Z1 (wh1 Z2 (wh1 Z3 wh0)))) nD⟩)
      ·
       have hs9_2 := of_decide_eq_false hs9_20
       refine .m J J J (.skp J J (.skp J J (.skp J J (.pick J J J J J J (.na (.cond_f J J (.skip (Ae ?_))))))))
       (rw [cf2_a _ hs9_2]; exact ⟨(), trivial, Ac (wk1 rfl (wk1 rfl (wk1 rfl (wk1 rfl (wk1 rfl (wk1 rfl (wk1 rfl wk0))))))) (wh1 Z0 (wh1 Z1 (wh1 Z2 (wh1 Z3 wh0)))) nD⟩)
     ·
      intro _u hj
      skip
      refine .join (ι := Unit) (fun _u => ⟨[(2, ptr n2 0), (3, ptr n3 0), (4, ptr n4 0), (5, ptr n5 0), (6, i64 (i : Int)), (7, i64 (k : Int)), (8, i64 ((coef i k * (x.getD i 0 * y.getD k 0) : Nat) : Int))], [⟨n5, Bq (tRow x y i (tAll x y i) k), 177, 10⟩, ⟨n4, (Ca (List.replicate 10 0)), 177, 10⟩, ⟨n3, Bq y, 177, (Bq y).length⟩, ⟨n2, Bq x, 177, (Bq x).length⟩]⟩) (fun _u => True) ?_ ?_
      ·
       refine .sr (.m J J J (.m J J J (.addN (i) (k) J J J J oM (.gtr J J J J J (.na (.condP J (fun hc3 => ?_) (fun hc3 => ?_)))))))
       ·
        refine .region (.m J J J (.mulN (19) (cf2 i k * (x.getD i 0 * y.getD k 0)) J J J J oM (.a J J J (.na ?_))))
        (rw [coef_hi _ hc3]; exact ⟨(), trivial, Ac (wk1 rfl (wk1 rfl (wk1 rfl (wk1 rfl (wk1 rfl (wk1 rfl (wk1 rfl wk0))))))) (wh1 Z0 (wh1 Z1 (wh1 Z2 (wh1 Z3 wh0)))) nD⟩)
       ·
        refine .skip (Ae ?_)
        (rw [coef_lo _ hc3]; exact ⟨(), trivial, Ac (wk1 rfl (wk1 rfl (wk1 rfl (wk1 rfl (wk1 rfl (wk1 rfl (wk1 rfl wk0))))))) (wh1 Z0 (wh1 Z1 (wh1 Z2 (wh1 Z3 wh0)))) nD⟩)
      ·
       intro _u hj
       skip
       refine .region (.m J J J (.m J J J (.addN (i) (k) J J J J oM (.remN (i + k) (10) J J J J dE (.m J J J (.m J J J (.addN (i) (k) J J J J oM (.remN (i + k) (10) J J J J dE (.i1 J J J J Cr Sz2 _ J oM (.load1 J J J Y2 J Z0 (by exact get_wds oM) ?_))))))))))
       refine .m J J J (.addN ((tRow x y i (tAll x y i) k).getD ((i + k) % 10) 0) (coef i k * (x.getD i 0 * y.getD k 0)) J J J J oM (.i1 J J J J Cr Sz2 _ J oM (.s1 J J J J J Sz2 Z0 (by (simp [Al, hal]; omega)) (by exact set_wds _ _ _) zU ?_)))
       refine .nil (Bj (Ae (.region (.m J J J (.aI J J J J oM (.a J J J (.na ?_)))))))
       exact ⟨k + 1, by omega, by omega, Ac (wk1 rfl (wk1 rfl (wk1 rfl (wk1 rfl (wk1 rfl (wk1 rfl wk0)))))) (wh1 Z0 (wh1 Z1 (wh1 Z2 (wh1 Z3 wh0)))) nD⟩
    ·
     refine .exit (A1 (A1 (B5 (Bj (Ae (.region (.m J J J (.aI J J J J oM (.a J J J (.na ?_))))))))))
     exact ⟨i + 1, by omega, by omega, Ac (wk1 rfl (wk1 rfl (wk1 rfl (wk1 rfl (wk1 rfl wk0))))) (wh1 (by rw [show tAll x y (i + 1) = (tRow x y i (tAll x y i) k) from by rw [show k = 10 by omega]; rfl]; exact Bo) (wh1 Z1 (wh1 Z2 (wh1 Z3 wh0)))) nD⟩
  ·
   rw [show tAll x y i = A from by rw [show i = 10 by omega]; exact hA.out]
   refine .exit (A1 (A1 (B5 (Ae (.sr (.lA J J J Cr J Bf Z0 (by (simp [Al, hAl]; done)) ?_))))))
   refine .cV J J J J Body230 (hc) tV (.cV J J J J Body230 (hcc) tV (.sA J J J J (by exact Cs _) Bf (by (simp [Al, hVl]; done)) Z1 sP zV ?_))
   refine .na (.ret (An ?_))
   refine ⟨_, [], Ao J J Cr J Bf Z1 (by simp [Al, hVl]), sP, sP, ?_, rfl⟩
   rfl

end Go.Proofs.YtpacobmjjjillaaGreat
end

section
namespace Ed
open Hw Go

def oneT : List Nat := 1 :: List.replicate 9 0
def powT (x : List Nat) (E : Nat) : Nat → List Nat
  | 0 => oneT
  | j + 1 => if E.testBit (255 - j) = true then mulT (mulT (powT x E j) (powT x E j)) x else mulT (powT x E j) (powT x E j)
theorem oneT_v : fe (v10 oneT) = 1 := by kernel_rfl
theorem oneT_fit : Fit10 oneT := ⟨rfl, by decide, fun i h1 h2 => by
  have : ∀ i : _root_.Fin 10, oneT.getD i.val 0 < 2 ^ A5 i.val := by decide
  exact this ⟨i, h2⟩⟩
theorem test_div (E j : Nat) (b : Bool) (h : E.testBit j = b) : E / 2 ^ j % 2 = (if b = true then 1 else 0) := by
  rw [← h, Nat.testBit_eq_decide_div_mod_eq]
  simp only [decide_eq_true_eq]
  split <;> omega
theorem powT_ok {x : List Nat} (hx : Fit10 x) {E : Nat} (hE : E < 2 ^ 256) : ∀ j, j ≤ 256 → Fit10 (powT x E j) ∧ fe (v10 (powT x E j)) = C0 (fe (v10 x)) (E / 2 ^ (256 - j))
  | 0, _ => ⟨oneT_fit, by rw [powT, oneT_v, show 256 - 0 = 256 from rfl, Nat.div_eq_of_lt hE, fpow_zero]⟩
  | j + 1, hj => by
    obtain ⟨h1, h2⟩ := powT_ok hx hE j oM
    have h3 : E / 2 ^ (256 - (j + 1)) ≤ E := Nat.div_le_self _ _
    rw [next_div E j oM] at h3 ⊢
    rw [powT]
    cases hb : E.testBit (255 - j) with
    | true =>
      have h4 := test_div E (255 - j) true hb
      rw [if_pos rfl] at h4
      rw [h4] at h3 ⊢
      rw [if_pos rfl]
      refine ⟨Bk (Bk h1 h1) hx, ?_⟩
      rw [mulT_v (mulT_length _ _) hx.len, mulT_v h1.len h1.len, h2, fpow_succ oM, fpow_two oM]
    | false =>
      have h4 := test_div E (255 - j) false hb
      rw [if_neg dE] at h4
      rw [h4] at h3 ⊢
      rw [if_neg dE]
      refine ⟨Bk h1 h1, ?_⟩
      rw [mulT_v h1.len h1.len, h2, Nat.add_zero, fpow_two oM]
theorem powT_all {x : List Nat} (hx : Fit10 x) {E : Nat} (hE : E < 2 ^ 256) : fe (v10 (powT x E 256)) = C0 (fe (v10 x)) E := by
  have h := (powT_ok hx hE 256 (Nat.le_refl _)).2
  rwa [Nat.sub_self, Nat.pow_zero, Nat.div_one] at h
theorem powT_t {x : List Nat} {E j : Nat} (h : E.testBit (255 - j) = true) : powT x E (j + 1) = mulT (mulT (powT x E j) (powT x E j)) x := if_pos h
theorem powT_f {x : List Nat} {E j : Nat} (h : E.testBit (255 - j) = false) : powT x E (j + 1) = mulT (powT x E j) (powT x E j) := if_neg (by rw [h]; decide)
def Cn (M i : Nat) : List UInt8 := (leb 32 (M / 2)).take i ++ (leb 32 M).drop i
theorem halfAt_length (M i : Nat) (h : i ≤ 32) : (Cn M i).length = 32 := by
  rw [Cn, List.length_append, List.length_take, List.length_drop, Aj, Aj]; omega
theorem halfAt_zero (M : Nat) : Cn M 0 = leb 32 M := rfl
theorem halfAt_end (M : Nat) : Cn M 32 = leb 32 (M / 2) := by
  rw [Cn, List.take_of_length_le (by rw [Aj]; exact Nat.le_refl _), List.drop_of_length_le (by rw [Aj]; exact Nat.le_refl _), List.append_nil]
theorem halfAt_get (M : Nat) {i j : Nat} (hi : i ≤ j) (hj : j < 32) : (Cn M i).getD j 0 = UInt8.ofNat (M / 256 ^ j) := by
  rw [Cn, List.getD_eq_getElem?_getD, List.getElem?_append_right (by rw [List.length_take, Aj]; omega), List.length_take, Aj, List.getElem?_drop, show i + (j - min i 32) = j by omega, leb_get 32 M j hj]
  rfl
theorem half_byte (M i : Nat) : M / 2 / 256 ^ i % 256 = M / 256 ^ i % 256 / 2 + 128 * (M / 256 ^ (i + 1) % 2) := by
  have e1 : M / 2 / 256 ^ i = M / 256 ^ i / 2 := by rw [Nat.div_div_eq_div_mul, Nat.div_div_eq_div_mul, Nat.mul_comm]
  have e2 : M / 256 ^ (i + 1) = M / 256 ^ i / 256 := by rw [Nat.div_div_eq_div_mul, Nat.pow_succ]
  rw [e1, e2]
  generalize M / 256 ^ i = x
  omega
theorem halfAt_next (M : Nat) {i : Nat} (h : i < 32) (v : UInt8) (hv : v = UInt8.ofNat (M / 2 / 256 ^ i)) : (Cn M i).set i v = Cn M (i + 1) := by
  have hl : (leb 32 (M / 2)).length = 32 := Aj _ _
  have hl2 : (leb 32 M).length = 32 := Aj _ _
  have e : (leb 32 (M / 2)).take (i + 1) = (leb 32 (M / 2)).take i ++ [v] := by
    have e3 : (leb 32 (M / 2))[i]'oM = v := by
      have := leb_get 32 (M / 2) i h
      rw [List.getElem?_eq_getElem oM] at this
      rw [hv]
      exact Option.some.inj this
    rw [← e3]
    exact List.take_succ_eq_append_getElem oM
  have e2 : (leb 32 M).drop i = (leb 32 M)[i]'oM :: (leb 32 M).drop (i + 1) := List.drop_eq_getElem_cons oM
  rw [Cn, Cn, e, e2, List.set_append_right _ _ (by rw [List.length_take, hl]; omega), List.length_take, hl, show i - min i 32 = 0 by omega, List.set_cons_zero, List.append_assoc]
  rfl
theorem half_odd (M : Nat) {i : Nat} (h : i < 31) (hb : (((Cn M i).set i (UInt8.ofNat (((Cn M i).getD i 0).toNat / 2))).getD (i + 1) 0).toNat % 2 = 1) :
    ((Cn M i).set i (UInt8.ofNat (((Cn M i).getD i 0).toNat / 2))).set i (((Cn M i).set i (UInt8.ofNat (((Cn M i).getD i 0).toNat / 2))).getD i 0 + 128) = Cn M (i + 1) := by
  have hl := halfAt_length M i oM
  have g1 : ((Cn M i).set i (UInt8.ofNat (((Cn M i).getD i 0).toNat / 2))).getD i 0 = UInt8.ofNat (((Cn M i).getD i 0).toNat / 2) := by
    rw [List.getD_eq_getElem?_getD, List.getElem?_set_self oM]; rfl
  have g2 : ((Cn M i).set i (UInt8.ofNat (((Cn M i).getD i 0).toNat / 2))).getD (i + 1) 0 = UInt8.ofNat (M / 256 ^ (i + 1)) := by
    rw [List.getD_eq_getElem?_getD, List.getElem?_set_ne oM, ← List.getD_eq_getElem?_getD, halfAt_get M oM oM]
  rw [g2, UInt8.toNat_ofNat'] at hb
  rw [g1, List.set_set]
  refine halfAt_next M oM _ ?_
  rw [halfAt_get M (Nat.le_refl _) oM, show (128 : UInt8) = UInt8.ofNat 128 from rfl, ← UInt8.ofNat_add, UInt8.toNat_ofNat']
  apply ofNat8
  have := half_byte M i
  omega
theorem half_even (M : Nat) {i : Nat} (h : i < 31) (hb : ¬ (((Cn M i).set i (UInt8.ofNat (((Cn M i).getD i 0).toNat / 2))).getD (i + 1) 0).toNat % 2 = 1) :
    (Cn M i).set i (UInt8.ofNat (((Cn M i).getD i 0).toNat / 2)) = Cn M (i + 1) := by
  have hl := halfAt_length M i oM
  have g2 : ((Cn M i).set i (UInt8.ofNat (((Cn M i).getD i 0).toNat / 2))).getD (i + 1) 0 = UInt8.ofNat (M / 256 ^ (i + 1)) := by
    rw [List.getD_eq_getElem?_getD, List.getElem?_set_ne oM, ← List.getD_eq_getElem?_getD, halfAt_get M oM oM]
  rw [g2, UInt8.toNat_ofNat'] at hb
  refine halfAt_next M oM _ ?_
  rw [halfAt_get M (Nat.le_refl _) oM, UInt8.toNat_ofNat']
  apply ofNat8
  have := half_byte M i
  omega
theorem half_last (M : Nat) (hM : M < 2 ^ 256) : (Cn M 31).set 31 (UInt8.ofNat (((Cn M 31).getD 31 0).toNat / 2)) = Cn M 32 := by
  refine halfAt_next M oM _ ?_
  rw [halfAt_get M (Nat.le_refl _) oM, UInt8.toNat_ofNat']
  apply ofNat8
  have := half_byte M 31
  have h2 : M / 256 ^ (31 + 1) = 0 := Nat.div_eq_of_lt (Nat.lt_of_lt_of_le hM dE)
  omega
theorem ones_leb (f l : UInt8) : leb 32 (le (onesB f l)) = onesB f l := by
  have := leb_le (onesB f l)
  rwa [onesB_length] at this
def expT (n k : Nat) : List UInt8 := leb 32 (le (onesB (UInt8.ofNat (237 - n)) 127) / 2 ^ k)
theorem expT_length (n k : Nat) : (expT n k).length = 32 := Aj _ _
theorem expT_inv : le (expT 2 0) = PF - 2 := by kernel_rfl
theorem expT_root : le (expT 5 3) = (PF - 5) / 8 := by kernel_rfl
theorem expT_unit : le (expT 1 2) = (PF - 1) / 4 := by kernel_rfl
theorem root_step (X : Fp) : C0 X ((PF - 5) / 8) * X = C0 X ((PF + 3) / 8) := by
  rw [← fpow_succ dE]
  rfl
end Ed
end

section
namespace Go.Proofs.YtpacobmjjjillaaGreat
open Go Hw

open Ed

theorem o_fit {a : List UInt8} (ha : a.length = 32) : Fit10 (openT (le a)) := openT_fit (le32 ha)
theorem o_v {a : List UInt8} (ha : a.length = 32) : fe (v10 (openT (le a))) = fe (le a) := openT_v (le32 ha)
theorem r3_Close_v (w : List Nat) (hw : Fit10 w) (X : Fp) (h : fe (v10 w) = X) : Meets Tryz.prog 196 [agg (Bq w)] [] (fun _ => True) (fun v out => v = agg (Aa (fb X)) ∧ out = []) := by
  rw [← h]; exact r3_Close w hw

theorem r3_Rest (a : List UInt8) (ha : a.length = 32) : Meets Tryz.prog 195 [agg (Aa a)] [] (fun _ => True) (fun v out => v = agg (Aa (fb (fe (le a)))) ∧ out = []) := by
 intro W hW
 refine Ab Tryz.func195 J 6 Tryz.ntmps195 J (.sr (.boxA J J ?_))
 intro n1 hn1 hf1
 refine .alloc (cs := (Aa (List.replicate 32 0))) J Bs J ?_
 intro n2 hn2 hf2
 refine .nsr (.lA J J J Y77 J Ad Z1 (by (simp [ha]; done)) ?_)
 refine .cV J J J J Body188 (r3_Open (a) (ha)) tV (.cV J J J J Body196 (r3_Close_v (_) (o_fit ha) (_) (o_v ha)) tV (.sA J J J J zE Ad zF Z0 sP zU ?_))
 refine .na (.ret (An ?_))
 refine ⟨_, [], Ao J J Y77 J Ad Z0 (by simp [Aq]), sP, sP, ?_, rfl⟩
 rfl

theorem r3_Canon (a : List UInt8) (ha : a.length = 32) : Meets Tryz.prog 184 [agg (Aa a)] [] (fun _ => True) (fun v out => v = .bool (decide (fb (fe (le a)) = a)) ∧ out = []) := by
 intro W hW
 refine Ab Tryz.func184 J 7 Tryz.ntmps184 J (.sr (.boxA J J ?_))
 intro n1 hn1 hf1
 refine .a J J J (.na (.seq (.draw [(1, 0), (1, 2), (3, 1), (0, 3), (0, 4)] Ar zK (.lA J J J Y77 J Ad Z0 (by (simp [ha]; done)) ?_))))
 refine .lA J J J Y77 J Ad Z0 (by (simp [ha]; done)) ?_
 refine .cV J J J J Body195 (r3_Rest (a) (ha)) tV (.eql_bytes J J J J Tryz.eqGuardType77 Y77 Y5 Sz5 zF (by (simp [ha]; done)) J ?_)
 refine .a J J J (.na (.ret (An ?_)))
 refine ⟨_, [], Ag J J, sP, sP, ?_, rfl⟩
 rfl

theorem r3_Same (a b : List UInt8) (ha : a.length = 32) (hb : b.length = 32) : Meets Tryz.prog 234 [agg (Aa a), agg (Aa b)] [] (fun _ => True) (fun v out => v = .bool (decide (fe (le a) = fe (le b))) ∧ out = []) := by
 intro W hW
 refine Ab Tryz.func234 J 10 Tryz.ntmps234 J (.sr (.boxA J J ?_))
 intro n2 hn2 hf2
 refine .boxA J J ?_
 intro n3 hn3 hf3
 refine .a J J J (.na (.seq (.draw [(1, 0), (1, 2), (3, 1), (3, 3), (0, 4), (0, 5)] Ar zK (.lA J J J Y77 J Ad Z1 (by (simp [ha]; done)) ?_))))
 refine .lA J J J Y77 J Ad Z0 (by (simp [hb]; done)) ?_
 refine .cV J J J J Body195 (r3_Rest (a) (ha)) tV (.cV J J J J Body195 (r3_Rest (b) (hb)) tV (.eql_bytes J J J J Tryz.eqGuardType77 Y77 Y5 Sz5 zF zF J (.a J J J (.na (.ret (An ?_))))))
 refine ⟨_, [], Ag J J, sP, sP, ?_, rfl⟩
 rw [fb_dec]

theorem odd_byte2 (x : Fp) : decide (((UInt8.ofNat (((fb x).getD 0 0).toNat % 2)).toNat : Int) = 1) = decide (x.val % 2 = 1) := by
  have e : (UInt8.ofNat (((fb x).getD 0 0).toNat % 2)).toNat = x.val % 2 := by
    rw [fb_head, UInt8.toNat_ofNat', UInt8.toNat_ofNat']
    omega
  rw [e]
  congr 1
  exact propext ⟨fun h => by omega, fun h => by omega⟩

theorem r3_Odd (a : List UInt8) (ha : a.length = 32) : Meets Tryz.prog 119 [agg (Aa a)] [] (fun _ => True) (fun v out => v = .bool (decide ((fe (le a)).val % 2 = 1)) ∧ out = []) := by
 intro W hW
 refine Ab Tryz.func119 J 8 Tryz.ntmps119 J (.sr (.boxA J J ?_))
 intro n1 hn1 hf1
 refine .a J J J (.nsr (.lA J J J Y77 J Ad Z0 (by (simp [ha]; done)) ?_))
 refine .cV J J J J Body195 (r3_Rest (a) (ha)) tV (.idxA1 J J J J Y77 Sz5 Y5 J 0 J oM (by rfl) ?_)
 refine .rem_u8 J J J J 2 J dE (.eqi J J J J J (.a J J J (.na (.ret (An ?_)))))
 refine ⟨_, [], Ag J J, sP, sP, ?_, rfl⟩
 exact congrArg Value.bool (odd_byte2 _)

theorem r3_Of (x : UInt64) : Meets Tryz.prog 123 [u64 x] [] (fun _ => True) (fun v out => v = agg (Aa (fb (fe x.toNat))) ∧ out = []) := by
 intro W hW
 have hpl : True := trivial
 refine Ab Tryz.func123 J 18 Tryz.ntmps123 J (.sr (.alloc (cs := (Aa (List.replicate 32 0))) J Bs J ?_))
 intro n2 hn2 hf2
 refine .nsr (.alloc (cs := (Aa (List.replicate 32 0))) J Bs J ?_)
 intro n3 hn3 hf3
 refine .na (.seq (.sr (.a J J J (.na (.block (.loop (ι := Nat) (fun k => ⟨[(0, u64 x), (2, ptr n2 0), (3, ptr n3 0), (4, i64 (k : Int))], [⟨n3, Aa (padW 32 x.toNat k), 77, 32⟩, ⟨n2, Aa (List.replicate 32 0), 77, 32⟩]⟩) (fun k => k ≤ 8) (fun k => 8 - k) (0) ?_ ?_ ?_))))))
 · omega
 · exact Ac (wk1 rfl (wk1 rfl (wk1 rfl (wk1 rfl wk0)))) (wh1 (by rw [padW_zero]; exact Bo) (wh1 Z1 wh0)) nD
 ·
  rintro k hi
  have hpl := padW_length 32 x.toNat k oM
  refine .seq (.sr (.m J J J (.lss J J J J J (.na (.condP J (fun hc0 => ?_) (fun hc0 => ?_))))))
  ·
   refine .skip (Ae (.seq (.block (.region (.m J J J (.m J J J (.m J J J (.mul_i64 J J J J oM (.conv J J J Y3 Y35 (A4 _) (.shr_u64 J J J J (8 * k) (by rw [Ck _ oM]; omega) oM ?_))))))))))
   refine .conv J J J Y22 Y5 (Cm _) (.i1 J J J J Y77 Sz5 _ J oM (.s1 J J J J J Sz5 Z0 (by (simp [hpl]; omega)) (by exact Bb _ _ _) zU ?_))
   refine .nil (Bj (Ae (.region (.m J J J (.aI J J J J oM (.a J J J (.na ?_)))))))
   exact ⟨k + 1, by omega, by omega, Ac (wk1 rfl (wk1 rfl (wk1 rfl (wk1 rfl wk0)))) (wh1 (by rw [← zero_set x k oM]; exact Bo) (wh1 Z1 wh0)) nD⟩
  ·
   obtain rfl : k = 8 := by omega
   rw [pad_small] at *
   refine .exit (A1 (A1 (B5 (Ae (.sr (.lA J J J Y77 J Ad Z0 (by (simp [hpl]; done)) ?_))))))
   refine .sA J J J J zE Ad (by (simp [hpl]; done)) Z1 sP zV ?_
   refine .na (.ret (An ?_))
   refine ⟨_, [], Ao J J Y77 J Ad Z1 (by simp [hpl]), sP, sP, ?_, rfl⟩
   rw [fe_small]

theorem mul_ab {a b : List UInt8} (ha : a.length = 32) (hb : b.length = 32) : fe (v10 (mulT (openT (le a)) (openT (le b)))) = fe (le a) * fe (le b) := by rw [mulT_v (o_fit ha).len (o_fit hb).len, o_v ha, o_v hb]
theorem sub_ab {a b : List UInt8} (ha : a.length = 32) (hb : b.length = 32) : fe (v10 (minusT (openT (le a)) (openT (le b)))) = fe (le a) - fe (le b) := by rw [minusT_v (o_fit ha).len (o_fit hb), o_v ha, o_v hb]

theorem r3_Mul (a b : List UInt8) (ha : a.length = 32) (hb : b.length = 32) : Meets Tryz.prog 122 [agg (Aa a), agg (Aa b)] [] (fun _ => True) (fun v out => v = agg (Aa (fb (fe (le a) * fe (le b)))) ∧ out = []) := by
 intro W hW
 refine Ab Tryz.func122 J 11 Tryz.ntmps122 J (.sr (.boxA J J ?_))
 intro n2 hn2 hf2
 refine .boxA J J ?_
 intro n3 hn3 hf3
 refine .alloc (cs := (Aa (List.replicate 32 0))) J Bs J ?_
 intro n4 hn4 hf4
 refine .na (.seq (.draw [(1, 0), (1, 2), (3, 1), (3, 3), (3, 4), (3, 5), (4, 6)] Ar zK (.lA J J J Y77 J Ad Z2 (by (simp [ha]; done)) ?_)))
 refine .lA J J J Y77 J Ad Z1 (by (simp [hb]; done)) ?_
 refine .cV J J J J Body188 (r3_Open (a) (ha)) tV (.cV J J J J Body188 (r3_Open (b) (hb)) tV (.cV J J J J Body197 (r3_Times (_) (_) (o_fit ha) (o_fit hb)) tV (.cV J J J J Body196 (r3_Close_v (_) (Bk (o_fit ha) (o_fit hb)) (_) (mul_ab ha hb)) tV (.sA J J J J zE Ad zF Z0 sP zU ?_))))
 refine .na (.ret (An ?_))
 refine ⟨_, [], Ao J J Y77 J Ad Z0 (by simp [Aq]), sP, sP, ?_, rfl⟩
 rfl

theorem r3_Sub (a b : List UInt8) (ha : a.length = 32) (hb : b.length = 32) : Meets Tryz.prog 194 [agg (Aa a), agg (Aa b)] [] (fun _ => True) (fun v out => v = agg (Aa (fb (fe (le a) - fe (le b)))) ∧ out = []) := by
 intro W hW
 refine Ab Tryz.func194 J 11 Tryz.ntmps194 J (.sr (.boxA J J ?_))
 intro n2 hn2 hf2
 refine .boxA J J ?_
 intro n3 hn3 hf3
 refine .alloc (cs := (Aa (List.replicate 32 0))) J Bs J ?_
 intro n4 hn4 hf4
 refine .na (.seq (.draw [(1, 0), (1, 2), (3, 1), (3, 3), (3, 4), (3, 5), (4, 6)] Ar zK (.lA J J J Y77 J Ad Z2 (by (simp [ha]; done)) ?_)))
 refine .lA J J J Y77 J Ad Z1 (by (simp [hb]; done)) ?_
 refine .cV J J J J Body188 (r3_Open (a) (ha)) tV (.cV J J J J Body188 (r3_Open (b) (hb)) tV (.cV J J J J Body231 (r3_Minus (_) (_) (o_fit ha) (o_fit hb)) tV (.cV J J J J Body196 (r3_Close_v (_) (minusT_fit (o_fit ha) (o_fit hb)) (_) (sub_ab ha hb)) tV (.sA J J J J zE Ad zF Z0 sP zU ?_))))
 refine .na (.ret (An ?_))
 refine ⟨_, [], Ao J J Y77 J Ad Z0 (by simp [Aq]), sP, sP, ?_, rfl⟩
 rfl

theorem r3_Neg (a : List UInt8) (ha : a.length = 32) : Meets Tryz.prog 185 [agg (Aa a)] [] (fun _ => True) (fun v out => v = agg (Aa (fb (- fe (le a)))) ∧ out = []) := by
 intro W hW
 refine Ab Tryz.func185 J 6 Tryz.ntmps185 J (.sr (.boxA J J ?_))
 intro n1 hn1 hf1
 refine .alloc (cs := (Aa (List.replicate 32 0))) J Bs J ?_
 intro n2 hn2 hf2
 refine .nsr (.build (cs := Aa (List.replicate 32 0)) J J J (fun w => by kernel_rfl) ?_)
 refine .lA J J J Y77 J Ad Z1 (by (simp [ha]; done)) ?_
 refine .cV J J J J Body194 (r3_Sub (List.replicate 32 0) (a) (rfl) (ha)) tV (.sA J J J J zE Ad zF Z0 sP zU ?_)
 refine .na (.ret (An ?_))
 refine ⟨_, [], Ao J J Y77 J Ad Z0 (by simp [Aq]), sP, sP, ?_, rfl⟩
 rw [show fe (le (List.replicate 32 0)) - fe (le a) = - fe (le a) from by rw [show fe (le (List.replicate 32 0)) = 0 by kernel_rfl]; grind]

theorem oneT_l : oneT.length = 10 := rfl

theorem r3_Power (x : List Nat) (e : List UInt8) (hx : Fit10 x) (he : e.length = 32) : Meets Tryz.prog 233 [agg (Bq x), agg (Aa e)] [] (fun _ => True) (fun v out => v = agg (Bq (powT x (le e) 256)) ∧ out = []) := by
 intro W hW
 have hxl := hx.len
 have hE := le32 he
 obtain ⟨U, hU⟩ : ∃ U, Hid (powT x (le e) 256 = U) := ⟨_, ⟨rfl⟩⟩
 have hUl : U.length = 10 := by rw [← hU.out]; exact (powT_ok hx hE 256 (Nat.le_refl _)).1.len
 rw [hU.out]
 have hpl := hUl
 refine Ab Tryz.func233 J 29 Tryz.ntmps233 J (.sr (.boxA J J ?_))
 intro n2 hn2 hf2
 refine .boxA J J ?_
 intro n3 hn3 hf3
 refine .alloc (cs := (Ca (List.replicate 10 0))) J Zr177 J ?_
 intro n4 hn4 hf4
 refine .nsr (.build (cs := Bq oneT) J J J (fun w => by kernel_rfl) ?_)
 refine .alloc (cs := (Ca (List.replicate 10 0))) J Zr177 J ?_
 intro n5 hn5 hf5
 refine .sA J J J J (by exact Cs _) Bf (by (simp [Al, oneT_l]; done)) Z0 sP zU ?_
 refine .na (.seq (.sr (.a J J J (.na (.block (.loop (ι := Nat) (fun j => ⟨[(2, ptr n2 0), (3, ptr n3 0), (4, ptr n4 0), (5, ptr n5 0), (6, i64 (255 - (j : Int)))], [⟨n5, Bq (powT x (le e) j), 177, 10⟩, ⟨n4, (Ca (List.replicate 10 0)), 177, 10⟩, ⟨n3, Aa e, 77, (Aa e).length⟩, ⟨n2, Bq x, 177, (Bq x).length⟩]⟩) (fun j => j ≤ 256) (fun j => 256 - j) (0) ?_ ?_ ?_))))))
 · omega
 · exact Ac (wk1 rfl (wk1 rfl (wk1 rfl (wk1 rfl (wk1 rfl wk0))))) (wh1 (by rw [show powT x (le e) 0 = oneT from rfl]; exact Bo) (wh1 Z1 (wh1 Z2 (wh1 Z3 wh0)))) nD
 ·
  rintro j hj
  obtain ⟨hfit, hfv⟩ := powT_ok hx hE j hj
  have hpl := hfit.len
  have hml : (mulT (powT x (le e) j) (powT x (le e) j)).length = 10 := mulT_length _ _
  refine .seq (.sr (.m J J J (.geq J J J J J (.na (.condP J (fun hc0 => ?_) (fun hc0 => ?_))))))
  ·
   have hj2 : j < 256 := by omega
   rw [show (255 : Int) - (j : Int) = ((255 - j : Nat) : Int) by omega]
   refine .skip (Ae (.seq (.block (.sr (.lA J J J Cr J Bf Z0 (by (simp [Al, hpl]; done)) ?_)))))
   refine .lA J J J Cr J Bf Z0 (by (simp [Al, hpl]; done)) ?_
   refine .cV J J J J Body197 (r3_Times _ _ hfit hfit) tV (.sA J J J J (by exact Cs _) Bf (by (simp [Al, mulT_length]; done)) Z0 (by (simp [Al, hpl]; done)) zU ?_)
   refine .nsr (.m J J J (.quoN (255 - j) (8) J J J J ⟨by decide, by omega⟩ ?_))
   refine .i1 J J J J Y77 Sz5 _ J oM (.load1 J J J Y5 J Z2 zG ?_)
   refine .m J J J (.remN (255 - j) (8) J J J J dE (.conv J J J Y3 Y35 (A4 _) (.shr_u8 J J J J ((255 - j) % 8) (by rw [Ck _ oM]) oM ?_)))
   refine .rem_u8 J J J J 2 J dE (.eqi J J J J J (.na (.condP J (fun hc1 => ?_) (fun hc1 => ?_))))
   ·
    have hbt := bit_is hc1
    refine .region (.lA J J J Cr J Bf Z0 (by (simp [Al, mulT_length]; done)) ?_)
    refine .lA J J J Cr J Bf Z3 (by (simp [Al, hxl]; done)) ?_
    refine .cV J J J J Body197 (r3_Times _ _ (Bk hfit hfit) hx) tV (.sA J J J J (by exact Cs _) Bf (by (simp [Al, mulT_length]; done)) Z0 (by (simp [Al, mulT_length]; done)) zU ?_)
    refine .nil (Bj (Ae (.region (.m J J J (.sub_i64 J J J J oM (.a J J J (.na ?_)))))))
    exact ⟨j + 1, by omega, by omega, Ac (wk1 rfl (wk1 rfl (wk1 rfl (wk1 rfl (wk1 (congrArg (fun z => some (i64 z)) (show ((255 - j : Nat) : Int) - 1 = 255 - ((j + 1 : Nat) : Int) by omega)) wk0))))) (wh1 (by (rw [powT_t hbt]; exact Bo)) (wh1 Z1 (wh1 Z2 (wh1 Z3 wh0)))) nD⟩
   ·
    have hbf := bit_isn hc1
    refine .skip (Bj (Ae (.region (.m J J J (.sub_i64 J J J J oM (.a J J J (.na ?_)))))))
    exact ⟨j + 1, by omega, by omega, Ac (wk1 rfl (wk1 rfl (wk1 rfl (wk1 rfl (wk1 (congrArg (fun z => some (i64 z)) (show ((255 - j : Nat) : Int) - 1 = 255 - ((j + 1 : Nat) : Int) by omega)) wk0))))) (wh1 (by (rw [powT_f hbf]; exact Bo)) (wh1 Z1 (wh1 Z2 (wh1 Z3 wh0)))) nD⟩
  ·
   rw [show powT x (le e) j = U from by rw [show j = 256 by omega]; exact hU.out]
   refine .exit (A1 (A1 (B5 (Ae (.sr (.lA J J J Cr J Bf Z0 (by (simp [Al, hUl]; done)) ?_))))))
   refine .sA J J J J (by exact Cs _) Bf (by (simp [Al, hUl]; done)) Z1 sP zV ?_
   refine .na (.ret (An ?_))
   refine ⟨_, [], Ao J J Cr J Bf Z1 (by simp [Al, hUl]), sP, sP, ?_, rfl⟩
   rfl

theorem pow_ab {a e : List UInt8} (ha : a.length = 32) (he : e.length = 32) : fe (v10 (powT (openT (le a)) (le e) 256)) = C0 (fe (le a)) (le e) := by rw [powT_all (o_fit ha) (le32 he), o_v ha]

theorem r3_Pow (a e : List UInt8) (ha : a.length = 32) (he : e.length = 32) : Meets Tryz.prog 198 [agg (Aa a), agg (Aa e)] [] (fun _ => True) (fun v out => v = agg (Aa (fb (C0 (fe (le a)) (le e)))) ∧ out = []) := by
 intro W hW
 refine Ab Tryz.func198 J 10 Tryz.ntmps198 J (.sr (.boxA J J ?_))
 intro n2 hn2 hf2
 refine .boxA J J ?_
 intro n3 hn3 hf3
 refine .alloc (cs := (Aa (List.replicate 32 0))) J Bs J ?_
 intro n4 hn4 hf4
 refine .na (.seq (.draw [(1, 0), (1, 2), (3, 1), (3, 3), (3, 4), (4, 5)] Ar zK (.lA J J J Y77 J Ad Z2 (by (simp [ha]; done)) ?_)))
 refine .lA J J J Y77 J Ad Z1 (by (simp [he]; done)) ?_
 refine .cV J J J J Body188 (r3_Open (a) (ha)) tV (.cV J J J J Body233 (r3_Power (_) (e) (o_fit ha) (he)) tV (.cV J J J J Body196 (r3_Close_v (_) ((powT_ok (o_fit ha) (le32 he) 256 (Nat.le_refl _)).1) (_) (pow_ab ha he)) tV (.sA J J J J zE Ad zF Z0 sP zU ?_)))
 refine .na (.ret (An ?_))
 refine ⟨_, [], Ao J J Y77 J Ad Z0 (by simp [Aq]), sP, sP, ?_, rfl⟩
 rfl

theorem half_rem {p : UInt8} : ((UInt8.ofNat (p.toNat % 2)).toNat : Int) = 1 ↔ p.toNat % 2 = 1 := by
  rw [UInt8.toNat_ofNat']
  omega
theorem ones_three (n : Nat) : ((List.replicate 32 (255 : UInt8)).set 0 (UInt8.ofNat (237 - n))).set 31 127 = leb 32 (le (onesB (UInt8.ofNat (237 - n)) 127) / 2 ^ 0) := by
  rw [Nat.pow_zero, Nat.div_one, ones_leb]; rfl
theorem half_pow (V j : Nat) : leb 32 (V / 2 ^ (j + 1)) = Cn (V / 2 ^ j) 32 := by
  rw [halfAt_end, Nat.div_div_eq_div_mul, ← Nat.pow_succ]

theorem r3_shifted (n k : Nat) (hn : n ≤ 237) (hk : k ≤ 9) : Meets Tryz.prog 199 [i64 (n : Int), i64 (k : Int)] [] (fun _ => True) (fun v out => v = agg (Aa (expT n k)) ∧ out = []) := by
 intro W hW
 obtain ⟨V, hV⟩ : ∃ V, Hid (le (onesB (UInt8.ofNat (237 - n)) 127) = V) := ⟨_, ⟨rfl⟩⟩
 have hV2 : V < 2 ^ 256 := by rw [← hV.out]; exact le32 (onesB_length _ _)
 have hx : expT n k = leb 32 (V / 2 ^ k) := by rw [expT, hV.out]
 rw [hx]
 have hon := ones_three n
 rw [hV.out] at hon
 have hhl : True := trivial
 have hsl : True := trivial
 refine Ab Tryz.func199 J 50 Tryz.ntmps199 J (.sr (.alloc (cs := (Aa (List.replicate 32 0))) J Bs J ?_))
 intro n4 hn4 hf4
 refine .nsr (.alloc (cs := (Aa (List.replicate 32 0))) J Bs J ?_)
 intro n5 hn5 hf5
 refine .na (.seq (.sr (.a J J J (.na (.block (.loop (ι := Nat) (fun i => ⟨[(0, i64 (n : Int)), (1, i64 (k : Int)), (4, ptr n4 0), (5, ptr n5 0), (6, i64 (i : Int))], [⟨n5, Aa (List.replicate i 255 ++ List.replicate (32 - i) 0), 77, 32⟩, ⟨n4, Aa (List.replicate 32 0), 77, 32⟩]⟩) (fun i => i ≤ 32) (fun i => 32 - i) (0) ?_ ?_ ?_))))))
 · omega
 · exact Ac (wk1 rfl (wk1 rfl (wk1 rfl (wk1 rfl (wk1 rfl wk0))))) (wh1 Z0 (wh1 Z1 wh0)) nD
 ·
  rintro i hi
  refine .seq (.sr (.m J J J (.lss J J J J J (.na (.condP J (fun hc0 => ?_) (fun hc0 => ?_))))))
  ·
   have hi2 : i < 32 := by omega
   refine .skip (Ae (.seq (.block (.region (.m J J J (.i1 J J J J Y77 Sz5 _ J oM (.s1 J J J (show Ah _ _ = some (u8 255) from rfl) J Sz5 Z0 (by (simp; omega)) (by exact Bb _ _ _) zU ?_)))))))
   refine .nil (Bj (Ae (.region (.m J J J (.aI J J J J oM (.a J J J (.na ?_)))))))
   exact ⟨i + 1, by omega, by omega, Ac (wk1 rfl (wk1 rfl (wk1 rfl (wk1 rfl (wk1 rfl wk0))))) (wh1 (by rw [← ones_step hi2]; exact Bo) (wh1 Z1 wh0)) nD⟩
  ·
   obtain rfl : i = 32 := by omega
   rw [show ((List.replicate 32 255 ++ List.replicate (32 - 32) 0) : List UInt8) = List.replicate 32 255 from rfl]
   refine .exit (A1 (A1 (B5 (Ae (.sr (.m J J J (.subN (237) (n) J J J J oM (.conv J J J Y3 Y5 (cv_i64_u8 _) (.i1 J J J J Y77 Sz5 0 J dE ?_)))))))))
   rw [byteOf_nat]
   refine .s1 J J J J J Sz5 Z0 sP (by exact Bb _ _ _) zU ?_
   refine .i1 J J J J Y77 Sz5 31 J dE (.s1 J J J (show Ah _ _ = some (u8 127) from rfl) J Sz5 Z0 sP (by exact Bb _ _ _) zU ?_)
   refine .na (.seq (.block (.loop (ι := Nat) (fun j => ⟨[(1, i64 ((k : Int) - (j : Int))), (4, ptr n4 0), (5, ptr n5 0)], [⟨n5, Aa (leb 32 (V / 2 ^ j)), 77, 32⟩, ⟨n4, Aa (List.replicate 32 0), 77, 32⟩]⟩) (fun j => j ≤ k) (fun j => k - j) (0) ?_ ?_ ?_)))
   · exact Nat.zero_le _
   · exact Ac (wk1 (congrArg (fun z => some (i64 z)) (show (k : Int) = (k : Int) - ((0 : Nat) : Int) by omega)) (wk1 rfl (wk1 rfl wk0))) (wh1 (by rw [← hon]; exact Bo) (wh1 Z1 wh0)) nD
   ·
    rintro j hj
    refine .seq (.sr (.m J J J (.gtr J J J J J (.na (.condP J (fun hc1 => ?_) (fun hc1 => ?_))))))
    ·
     have hVj : V / 2 ^ j < 2 ^ 256 := Nat.lt_of_le_of_lt (Nat.div_le_self _ _) hV2
     refine .skip (Ae (.seq (.block (.sr (.a J J J (.na (.block (.loop (ι := Nat) (fun i => ⟨[(1, i64 ((k : Int) - (j : Int))), (4, ptr n4 0), (5, ptr n5 0), (7, i64 (i : Int))], [⟨n5, Aa (Cn (V / 2 ^ j) i), 77, 32⟩, ⟨n4, Aa (List.replicate 32 0), 77, 32⟩]⟩) (fun i => i ≤ 32) (fun i => 32 - i) (0) ?_ ?_ ?_))))))))
     · omega
     · exact Ac (wk1 rfl (wk1 rfl (wk1 rfl (wk1 rfl wk0)))) (wh1 (by rw [halfAt_zero]; exact Bo) (wh1 Z1 wh0)) nD
     ·
      rintro i hi
      have hhl := halfAt_length (V / 2 ^ j) i hi
      have hsl : ((Cn (V / 2 ^ j) i).set i (UInt8.ofNat (((Cn (V / 2 ^ j) i).getD i 0).toNat / 2))).length = 32 := by rw [List.length_set]; exact hhl
      refine .seq (.sr (.m J J J (.lss J J J J J (.na (.condP J (fun hc2 => ?_) (fun hc2 => ?_))))))
      ·
       have hi2 : i < 32 := by omega
       refine .skip (Ae (.seq (.block (.sr (.m J J J (.m J J J (.i1 J J J J Y77 Sz5 _ J oM (.load1 J J J Y5 J Z0 zG ?_))))))))
       refine .quo_u8 J J J J 2 J dE (.i1 J J J J Y77 Sz5 _ J oM (.s1 J J J J J Sz5 Z0 (by (simp [hhl]; omega)) (by exact Bb _ _ _) zU ?_))
       refine .nsr (.m J J J (two (fun r hr k => Tr.lss J J J J hr k) (fun hs13_10 => ?_) (fun hs13_10 => ?_)))
       ·
        have hs13_1 := of_decide_eq_true hs13_10
        refine .m J J J (.m J J J (.addN (i) (1) J J J J oM (.i1 J J J J Y77 Sz5 _ J oM (.load1 J J J Y5 J Z0 zG ?_))))
        refine .rem_u8 J J J J 2 J dE (two (fun r hr k => Tr.eqi J J J J hr k) (fun hs13_80 => ?_) (fun hs13_80 => ?_))
        ·
         have hs13_8 := of_decide_eq_true hs13_80
         refine .pick J J J J J J (.na (.cond_t J J (.region (.m J J J (.m J J J (.i1 J J J J Y77 Sz5 _ J oM (.load1 J J J Y5 J Z0 zG ?_)))))))
         refine .add_u8 J J J (show Ah _ _ = some (u8 128) from rfl) (.i1 J J J J Y77 Sz5 _ J oM (.s1 J J J J J Sz5 Z0 (by (simp [hhl]; omega)) (by exact Bb _ _ _) zU ?_))
         refine .nil (Bj (Ae (.region (.m J J J (.aI J J J J oM (.a J J J (.na ?_)))))))
         exact ⟨i + 1, by omega, by omega, Ac (wk1 rfl (wk1 rfl (wk1 rfl (wk1 rfl wk0)))) (wh1 (by (rw [← half_odd (V / 2 ^ j) oM (half_rem.1 hs13_8)]; exact Bo)) (wh1 Z1 wh0)) nD⟩
        ·
         have hs13_8 := of_decide_eq_false hs13_80
         refine .pick J J J J J J (.na (.cond_f J J (.skip (Bj (Ae (.region (.m J J J (.aI J J J J oM (.a J J J (.na ?_))))))))))
         exact ⟨i + 1, by omega, by omega, Ac (wk1 rfl (wk1 rfl (wk1 rfl (wk1 rfl wk0)))) (wh1 (by (rw [← half_even (V / 2 ^ j) oM (fun e => hs13_8 (half_rem.2 e))]; exact Bo)) (wh1 Z1 wh0)) nD⟩
       ·
        have hs13_1 := of_decide_eq_false hs13_10
        refine .m J J J (.skp J J (.skp J J (.skp J J (.skp J J (.skp J J (.skp J J (.pick J J J J J J (.na (.cond_f J J (.skip (Bj (Ae (.region (.m J J J (.aI J J J J oM (.a J J J (.na ?_)))))))))))))))))
        exact ⟨i + 1, by omega, by omega, Ac (wk1 rfl (wk1 rfl (wk1 rfl (wk1 rfl wk0)))) (wh1 (by (rw [show i = 31 by omega, ← half_last _ hVj]; exact Bo)) (wh1 Z1 wh0)) nD⟩
      ·
       refine .exit (A1 (A1 (B5 (Bj (Ae (.region (.m J J J (.sub_i64 J J J J oM (.a J J J (.na ?_))))))))))
       exact ⟨j + 1, by omega, by omega, Ac (wk1 (congrArg (fun z => some (i64 z)) (show (k : Int) - (j : Int) - 1 = (k : Int) - ((j + 1 : Nat) : Int) by omega)) (wk1 rfl (wk1 rfl wk0))) (wh1 (by rw [half_pow, show (32 : Nat) = i by omega]; exact Bo) (wh1 Z1 wh0)) nD⟩
    ·
     obtain rfl : j = k := by omega
     refine .exit (A1 (A1 (B5 (Ae (.sr (.lA J J J Y77 J Ad Z0 (by (simp [Aj]; done)) ?_))))))
     refine .sA J J J J zE Ad (by (simp [Aj]; done)) Z1 sP zV ?_
     refine .na (.ret (An ?_))
     refine ⟨_, [], Ao J J Y77 J Ad Z1 (by simp [Aj]), sP, sP, ?_, rfl⟩
     rfl

theorem r3_Pow_e (a e : List UInt8) (ha : a.length = 32) (he : e.length = 32) (N : Nat) (X : Fp) (hN : le e = N) (hX : fe (le a) = X) : Meets Tryz.prog 198 [agg (Aa a), agg (Aa e)] [] (fun _ => True) (fun v out => v = agg (Aa (fb (C0 X N))) ∧ out = []) := by
  rw [← hN, ← hX]; exact r3_Pow a e ha he

theorem r3_Inv (a : List UInt8) (ha : a.length = 32) : Meets Tryz.prog 124 [agg (Aa a)] [] (fun _ => True) (fun v out => v = agg (Aa (fb (finv (fe (le a))))) ∧ out = []) := by
 intro W hW
 obtain ⟨E, hE⟩ : ∃ E, Hid (expT 2 0 = E) := ⟨_, ⟨rfl⟩⟩
 have hEl : E.length = 32 := by rw [← hE.out]; exact expT_length _ _
 have hs := r3_shifted 2 0 dE dE
 rw [hE.out] at hs
 have hp := r3_Pow_e a E ha hEl (PF - 2) _ (by rw [← hE.out]; exact expT_inv) rfl
 rw [show C0 (fe (le a)) (PF - 2) = finv (fe (le a)) from rfl] at hp
 obtain ⟨R, hR⟩ : ∃ R, Hid (finv (fe (le a)) = R) := ⟨_, ⟨rfl⟩⟩
 rw [hR.out] at hp ⊢
 refine Ab Tryz.func124 J 6 Tryz.ntmps124 J (.sr (.boxA J J ?_))
 intro n1 hn1 hf1
 refine .alloc (cs := (Aa (List.replicate 32 0))) J Bs J ?_
 intro n2 hn2 hf2
 refine .na (.seq (.draw [(1, 0), (3, 1), (3, 2), (4, 3)] Ar zK (.lA J J J Y77 J Ad Z1 (by (simp [ha]; done)) ?_)))
 refine .cV J J J J Body199 (hs) tV (.cV J J J J Body198 (hp) tV (.sA J J J J zE Ad zF Z0 sP zU ?_))
 refine .na (.ret (An ?_))
 refine ⟨_, [], Ao J J Y77 J Ad Z0 (by simp [Aq]), sP, sP, ?_, rfl⟩
 rfl

end Go.Proofs.YtpacobmjjjillaaGreat
end

section
namespace Go.Proofs.YtpacobmjjjillaaGreat
open Go Hw
set_option maxRecDepth 100000
structure far where
  fX : List Nat
  fY : List Nat
  fZ : List Nat
def far.cells (x : far) : List Value := Bq x.fX ++ (Bq x.fY ++ (Bq x.fZ))
structure far.ok (x : far) : Prop where
  l_fX : x.fX.length = 10
  l_fY : x.fY.length = 10
  l_fZ : x.fZ.length = 10
theorem far.length {x : far} (h : x.ok) : x.cells.length = 30 := by simp [far.cells, Aa, Bq, Ca, h.l_fX, h.l_fY, h.l_fZ]
theorem far.isCell {x : far} (h : x.ok) : ∀ u ∈ x.cells, isCell u = true := by
  intro u hu
  simp only [far.cells, List.mem_append, List.mem_singleton, Aa, Bq, Ca, List.mem_map] at hu
  rcases hu with ⟨_, _, rfl⟩ | ⟨_, _, rfl⟩ | ⟨_, _, rfl⟩ <;> rfl
theorem far.row_fX {x : far} (h : x.ok) : (x.cells.drop 0).take 10 = Bq x.fX := by simp [far.cells, Aa, Bq, Ca, h.l_fX, h.l_fY, h.l_fZ, List.drop_append, List.take_append, List.drop_of_length_le, List.take_of_length_le]
theorem far.rl_fX {x : far} (h : x.ok) : (Bq x.fX).length = 10 := by simp [Aa, Bq, Ca, h.l_fX]
theorem far.upd_fX {x : far} (h : x.ok) (l : List Nat) (hl : l.length = 10) : upd x.cells 0 (Bq l) = ({ x with fX := l }).cells := by
  simp [upd, far.cells, Aa, Bq, Ca, h.l_fX, h.l_fY, h.l_fZ, hl, List.drop_append, List.take_append, List.drop_of_length_le, List.take_of_length_le]
theorem far.see_fX {x : far} (h : x.ok) : ∀ (j : Nat) (v : Value), (Bq x.fX)[j]? = some v → x.cells[0 + j]? = some v := fun j v hj => by
  rw [← far.row_fX h, List.getElem?_take] at hj
  split at hj
  · rwa [List.getElem?_drop] at hj
  · cases hj
theorem far.row_fY {x : far} (h : x.ok) : (x.cells.drop 10).take 10 = Bq x.fY := by simp [far.cells, Aa, Bq, Ca, h.l_fX, h.l_fY, h.l_fZ, List.drop_append, List.take_append, List.drop_of_length_le, List.take_of_length_le]
theorem far.rl_fY {x : far} (h : x.ok) : (Bq x.fY).length = 10 := by simp [Aa, Bq, Ca, h.l_fY]
theorem far.upd_fY {x : far} (h : x.ok) (l : List Nat) (hl : l.length = 10) : upd x.cells 10 (Bq l) = ({ x with fY := l }).cells := by
  simp [upd, far.cells, Aa, Bq, Ca, h.l_fX, h.l_fY, h.l_fZ, hl, List.drop_append, List.take_append, List.drop_of_length_le, List.take_of_length_le]
theorem far.see_fY {x : far} (h : x.ok) : ∀ (j : Nat) (v : Value), (Bq x.fY)[j]? = some v → x.cells[10 + j]? = some v := fun j v hj => by
  rw [← far.row_fY h, List.getElem?_take] at hj
  split at hj
  · rwa [List.getElem?_drop] at hj
  · cases hj
theorem far.row_fZ {x : far} (h : x.ok) : (x.cells.drop 20).take 10 = Bq x.fZ := by simp [far.cells, Aa, Bq, Ca, h.l_fX, h.l_fY, h.l_fZ, List.drop_append, List.take_append, List.drop_of_length_le, List.take_of_length_le]
theorem far.rl_fZ {x : far} (h : x.ok) : (Bq x.fZ).length = 10 := by simp [Aa, Bq, Ca, h.l_fZ]
theorem far.upd_fZ {x : far} (h : x.ok) (l : List Nat) (hl : l.length = 10) : upd x.cells 20 (Bq l) = ({ x with fZ := l }).cells := by
  simp [upd, far.cells, Aa, Bq, Ca, h.l_fX, h.l_fY, h.l_fZ, hl, List.drop_append, List.take_append, List.drop_of_length_le, List.take_of_length_le]
theorem far.see_fZ {x : far} (h : x.ok) : ∀ (j : Nat) (v : Value), (Bq x.fZ)[j]? = some v → x.cells[20 + j]? = some v := fun j v hj => by
  rw [← far.row_fZ h, List.getElem?_take] at hj
  split at hj
  · rwa [List.getElem?_drop] at hj
  · cases hj
def far.zero : far := ⟨List.replicate 10 0, List.replicate 10 0, List.replicate 10 0⟩
theorem far.zero_ok : far.zero.ok := by constructor <;> simp [far.zero]
theorem far.zr : Zr Tryz.prog 180 (agg far.zero.cells) := by unfold Zr; kernel_rfl
structure Rdr where
  fB : Sl
  fE : Int
def Rdr.cells (x : Rdr) : List Value := [x.fB.v] ++ ([i64 x.fE])
structure Rdr.ok (x : Rdr) : Prop where
  t : True
theorem Rdr.length {x : Rdr} (h : x.ok) : x.cells.length = 2 := by simp [Rdr.cells, Aa]
theorem Rdr.isCell {x : Rdr} (h : x.ok) : ∀ u ∈ x.cells, isCell u = true := by
  intro u hu
  simp only [Rdr.cells, List.mem_append, List.mem_singleton, Aa, List.mem_map] at hu
  rcases hu with rfl | rfl <;> first | rfl
theorem Rdr.get_fB {x : Rdr} (h : x.ok) : x.cells[0]? = some (x.fB.v) := by simp [Rdr.cells, Aa, List.getElem?_append]
theorem Rdr.set_fB {x : Rdr} (h : x.ok) (v : Sl) : x.cells.set 0 (v.v) = ({ x with fB := v }).cells := by simp [Rdr.cells, Aa, List.set_append]
theorem Rdr.setS_fB {x : Rdr} (h : x.ok) (p : Option Addr) (n c : Nat) : x.cells.set 0 (.slice p n c) = ({ x with fB := ⟨p, n, c⟩ }).cells := Rdr.set_fB h ⟨p, n, c⟩
theorem Rdr.get_fE {x : Rdr} (h : x.ok) : x.cells[1]? = some (i64 x.fE) := by simp [Rdr.cells, Aa, List.getElem?_append]
theorem Rdr.set_fE {x : Rdr} (h : x.ok) (v : Int) : x.cells.set 1 (i64 v) = ({ x with fE := v }).cells := by simp [Rdr.cells, Aa, List.set_append]
def Rdr.zero : Rdr := ⟨Sl.nil, 0⟩
theorem Rdr.zero_ok : Rdr.zero.ok := by constructor <;> first | exact trivial | simp [Rdr.zero]
theorem Rdr.zr : Zr Tryz.prog 108 (agg Rdr.zero.cells) := by unfold Zr; kernel_rfl
end Go.Proofs.YtpacobmjjjillaaGreat
end

section
namespace Go.Proofs.YtpacobmjjjillaaGreat
open Go Hw

theorem ref_L  : Meets Tryz.prog 187 [] [] (fun _ => True) (fun v out => v = agg (Aa (leb 32 L)) ∧ out = []) := by
 intro W hW
 refine Ab Tryz.func187 J 2 Tryz.ntmps187 J (.sr (.alloc (cs := (Aa (List.replicate 32 0))) J Bs J ?_))
 intro n0 hn0 hf0
 refine .nsr (.build (cs := Aa (leb 32 L)) J J J (fun w => by kernel_rfl) ?_)
 refine .sA J J J J zB Ad (by (simp [Aj]; done)) Z0 sP zU ?_
 refine .na (.ret (An ?_))
 refine ⟨_, [], Ao J J Y77 J Ad Z0 (by simp [Aj]), sP, sP, ?_, rfl⟩
 rfl

theorem ref_below (a b : List UInt8) (ha : a.length = 32) (hb : b.length = 32) : Meets Tryz.prog 186 [agg (Aa a), agg (Aa b)] [] (fun _ => True) (fun v out => v = .bool (decide (le a < le b)) ∧ out = []) := by
  intro W hW
  refine Ab Tryz.func186 J 24 Tryz.ntmps186 J (.sr (.boxA J J ?_))
  intro n2 hn2 hf2
  refine .boxA J J ?_
  intro n3 hn3 hf3
  refine .a J J J (.na (.seq (.sr (.a J J J (.na (.block (.loop (ι := Nat) (fun k => ⟨[(2, ptr n2 0), (3, ptr n3 0), (5, i64 (31 - (k : Int)))], [⟨n3, Aa b, 77, (Aa b).length⟩, ⟨n2, Aa a, 77, (Aa a).length⟩]⟩) (fun k => k ≤ 32 ∧ a.drop (32 - k) = b.drop (32 - k)) (fun k => 32 - k) (0) ?_ ?_ ?_)))))))
  · exact ⟨by omega, by rw [List.drop_of_length_le oM, List.drop_of_length_le oM]⟩
  · exact Ac (wk1 rfl (wk1 rfl (wk1 rfl wk0))) (wh1 Z0 (wh1 Z1 wh0)) nD
  ·
    rintro k ⟨hk, hd⟩
    refine .seq (.sr (.m J J J (.geq J J J J J (.na (.condP J (fun hc0 => ?_) (fun hc0 => ?_))))))
    ·
      have hk2 : k < 32 := by omega
      refine .skip (Ae (.seq (.block (.seq (.draw [(0, 0), (0, 1), (1, 2), (0, 3), (0, 4), (1, 5), (0, 6)] Ar zK (.m J J J (.i1 J J J J Y77 Sz5 (31 - k) oM oM (.load1 J J J Y5 J Z1 zG ?_))))))))
      refine .m J J J (.i1 J J J J Y77 Sz5 (31 - k) oM oM (.load1 J J J Y5 J Z0 zG ?_))
      refine .nei J J J J J (.na (.condNP J (fun hc1 => ?_) (fun hc1 => ?_)))
      ·
        have hlt := le_lt_at ha hb (i := 31 - k) oM (by rw [show 31 - k + 1 = 32 - k by omega]; exact hd) oM
        refine .seq (.draw [(0, 0), (0, 1), (1, 2), (0, 3), (0, 4), (1, 5), (0, 6), (0, 7)] Ar zK (.m J J J (.i1 J J J J Y77 Sz5 (31 - k) oM oM (.load1 J J J Y5 J Z1 zG ?_))))
        refine .m J J J (.i1 J J J J Y77 Sz5 (31 - k) oM oM (.load1 J J J Y5 J Z0 zG ?_))
        refine .lss J J J J J (.a J J J (.na (.ret (bl_r (Bg (Bg (bl_r (Bg (An ?_)))))))))
        refine ⟨_, [], Ag J J, sP, sP, ?_, rfl⟩
        first
          | (rw [show decide (le a < le b) = decide (((a.getD (31 - k) 0).toNat : Int) < ((b.getD (31 - k) 0).toNat : Int)) from decide_eq_decide.2 (hlt.symm.trans oM)])
          | (have he : a = b := by simpa using hd
             rw [he, decide_eq_false (Nat.lt_irrefl _)])
      ·
        refine .skip (Bj (Ae (.region (.m J J J (.sub_i64 J J J J oM (.a J J J (.na ?_)))))))
        exact ⟨k + 1, ⟨by omega, drop_step ha hb oM (by rw [show 32 - (k + 1) + 1 = 32 - k by omega]; exact hd) (by rw [show 32 - (k + 1) = 31 - k by omega]; omega)⟩, by omega, Ac (wk1 rfl (wk1 rfl (wk1 (by rw [show (31 - ((k + 1 : Nat) : Int)) = 31 - (k : Int) - 1 by omega]; rfl) wk0))) (wh1 Z0 (wh1 Z1 wh0)) nD⟩
    ·
      obtain rfl : k = 32 := by omega
      refine .exit (A1 (A1 (B5 (Ae (.sr (.a J J J (.na (.ret (An ?_)))))))))
      refine ⟨_, [], Ag J J, sP, sP, ?_, rfl⟩
      first
        | (rw [show decide (le a < le b) = decide (((a.getD (31 - k) 0).toNat : Int) < ((b.getD (31 - k) 0).toNat : Int)) from decide_eq_decide.2 (hlt.symm.trans oM)])
        | (have he : a = b := by simpa using hd
           rw [he, decide_eq_false (Nat.lt_irrefl _)])

theorem ref_plus (a b : List UInt8) (ha : a.length = 32) (hb : b.length = 32) (hla : le a < L) (hlb : le b < L) : Meets Tryz.prog 210 [agg (Aa a), agg (Aa b)] [] (fun _ => True) (fun v out => v = agg (Aa (leb 32 ((le a + le b) % L))) ∧ out = []) := by
 intro W hW
 have hL : L < 2 ^ 253 := by decide
 refine Ab Tryz.func210 J 61 Tryz.ntmps210 J (.sr (.boxA J J ?_))
 intro n2 hn2 hf2
 refine .boxA J J ?_
 intro n3 hn3 hf3
 refine .alloc (cs := (Aa (List.replicate 32 0))) J Bs J ?_
 intro n4 hn4 hf4
 refine .nsr (.alloc (cs := (Aa (List.replicate 32 0))) J Bs J ?_)
 intro n5 hn5 hf5
 refine .nsr (.a J J J (.na (.join (ι := Unit) (fun _u => ⟨[(4, ptr n4 0), (5, ptr n5 0)], [⟨n5, Aa (leb 32 (le a + le b)), 77, 32⟩, ⟨n4, Aa (List.replicate 32 0), 77, 32⟩]⟩) (fun _u => True) ?_ ?_)))
 ·
  refine .sr (.a J J J (.na (.block (.loop (ι := Nat) (fun k => ⟨[(2, ptr n2 0), (3, ptr n3 0), (4, ptr n4 0), (5, ptr n5 0), (6, i64 (((le (a.take k) + le (b.take k)) / 256 ^ k : Nat) : Int)), (7, i64 (k : Int))], [⟨n5, Aa (padW 32 (le (a.take k) + le (b.take k)) k), 77, 32⟩, ⟨n4, Aa (List.replicate 32 0), 77, 32⟩, ⟨n3, Aa b, 77, (Aa b).length⟩, ⟨n2, Aa a, 77, (Aa a).length⟩]⟩) (fun k => k ≤ 32) (fun k => 32 - k) (0) ?_ ?_ ?_))))
  · omega
  · exact Ac (wk1 rfl (wk1 rfl (wk1 rfl (wk1 rfl (wk1 (by rw [List.take_zero, List.take_zero]; rfl) (wk1 rfl wk0)))))) (wh1 (by rw [padW_zero]; exact Bo) (wh1 Z1 (wh1 Z2 (wh1 Z3 wh0)))) nD
  ·
   rintro k hk
   have hpl := padW_length 32 (le (a.take k) + le (b.take k)) k hk
   have hcb : (le (a.take k) + le (b.take k)) / 256 ^ k ≤ 1 := by
    have h1 := le_take_lt a k
    have h2 := le_take_lt b k
    rw [← Nat.lt_succ_iff, Nat.div_lt_iff_lt_mul (Nat.pow_pos dE)]
    omega
   have hcn : (0 : Int) ≤ (((le (a.take k) + le (b.take k)) / 256 ^ k : Nat) : Int) := Int.natCast_nonneg _
   have hcb2 : (((le (a.take k) + le (b.take k)) / 256 ^ k : Nat) : Int) ≤ 1 := Int.ofNat_le.2 hcb
   refine .seq (.sr (.m J J J (.lss J J J J J (.na (.condP J (fun hc0 => ?_) (fun hc0 => ?_))))))
   ·
    have hk2 : k < 32 := by omega
    have ha8 := (a.getD k 0).toNat_lt
    have hb8 := (b.getD k 0).toNat_lt
    have hs : (((le (a.take k) + le (b.take k)) / 256 ^ k : Nat) : Int) + ((a.getD k 0).toNat : Int) + ((b.getD k 0).toNat : Int) = (((le (a.take k) + le (b.take k)) / 256 ^ k + ((a.getD k 0).toNat + (b.getD k 0).toNat) : Nat) : Int) := by rw [Int.natCast_add, Int.natCast_add, Int.add_assoc]
    refine .skip (Ae (.seq (.block (.seq (.draw [(0, 0), (0, 1), (0, 2), (1, 3), (0, 4), (0, 5), (0, 6), (0, 7), (1, 8), (0, 9), (0, 10), (0, 11)] Ar zK (.m J J J (.m J J J (.i1 J J J J Y77 Sz5 _ J oM (.load1 J J J Y5 J Z3 zG ?_)))))))))
    refine .conv J J J Y5 Y3 (cv_u8_i64 _) (.aI J J J J oM (.m J J J (.i1 J J J J Y77 Sz5 _ J oM (.load1 J J J Y5 J Z2 zG ?_))))
    refine .conv J J J Y5 Y3 (cv_u8_i64 _) (.aI J J J J oM (.a J J J (.nsr (.m J J J (.m J J J (.rem_i64 J J J J oM (.conv J J J Y3 Y5 (cv_i64_u8 _) (.i1 J J J J Y77 Sz5 _ J oM (.s1 J J J J J Sz5 Z0 (by (simp; omega)) (by exact Bb _ _ _) zU ?_)))))))))
    refine .na (.region (.m J J J (.quo_i64 J J J J oM (.a J J J (.nil (Bj (Ae (.region (.m J J J (.aI J J J J oM (.a J J J (.na ?_))))))))))))
    have hst : le (a.take (k + 1)) + le (b.take (k + 1)) = (le (a.take k) + le (b.take k)) + 256 ^ k * ((a.getD k 0).toNat + (b.getD k 0).toNat) := by
     rw [le_take_succ a k oM, le_take_succ b k oM, Nat.mul_add]; omega
    exact ⟨k + 1, by omega, by omega, Ac (wk1 rfl (wk1 rfl (wk1 rfl (wk1 rfl (wk1 (by rw [hst, ← carry_step _ _ _ _ hs]; rfl) (wk1 rfl wk0)))))) (wh1 (by rw [hst, ← padW_step 32 _ _ k oM _ hs, byteOf_mod]; exact Bo) (wh1 Z1 (wh1 Z2 (wh1 Z3 wh0)))) nD⟩
   ·
    obtain rfl : k = 32 := by omega
    have hta : le (a.take 32) = le a := by rw [List.take_of_length_le oM]
    have htb : le (b.take 32) = le b := by rw [List.take_of_length_le oM]
    refine .exit (A1 (A1 (B5 (Ae ?_))))
    refine ⟨(), trivial, Ac (wk1 J (wk1 J wk0)) (wh1 (by rw [← padW_all, ← hta, ← htb]; exact Bo) (wh1 Z1 wh0)) nD⟩
 ·
  intro _u hj
  skip
  refine .seq (.seq (.draw [(1, 0), (3, 1), (3, 2)] Ar zK (.lA J J J Y77 J Ad Z0 (by (simp [Aj]; done)) ?_)))
  refine .cV J J J J Body187 (ref_L) tV (.cV J J J J Body186 (ref_below _ _ (by simp [Aj]) (by simp [Aj])) tV ?_)
  refine .na (.condP J (fun hc1 => ?_) (fun hc1 => ?_))
  ·
   have hS : le a + le b < L := by rw [le_leb32 oM, le_leb32 L_lt] at hc1; exact hc1
   refine .sr (.lA J J J Y77 J Ad Z0 (by (simp [Aj]; done)) ?_)
   refine .sA J J J J zB Ad (by (simp [Aj]; done)) Z1 sP zV ?_
   refine .na (.ret (Bg (An ?_)))
   refine ⟨_, [], Ao J J Y77 J Ad Z1 (by simp [Aj]), sP, sP, ?_, rfl⟩
   (rw [Nat.mod_eq_of_lt hS]; done)
  ·
   have hge : L ≤ le a + le b := by rw [le_leb32 oM, le_leb32 L_lt] at hc1; exact Nat.le_of_not_lt hc1
   refine .skip (Ae (.sr (.cV J J J J Body187 (ref_L) tV (.alloc (cs := (Aa (List.replicate 32 0))) J Bs J ?_))))
   intro n8 hn8 hf8
   refine .sA J J J J zB Ad (by (simp [Aj]; done)) Z0 sP zU ?_
   refine .nsr (.a J J J (.na (.seq (.sr (.a J J J (.na (.block (.loop (ι := Nat) (fun k => ⟨[(4, ptr n4 0), (5, ptr n5 0), (8, ptr n8 0), (6, i64 (-((bor (le a + le b - L) L k : Nat) : Int))), (9, i64 (k : Int))], [⟨n8, Aa (leb 32 L), 77, 32⟩, ⟨n5, Aa (subB (le a + le b - L) L k), 77, 32⟩, ⟨n4, Aa (List.replicate 32 0), 77, 32⟩]⟩) (fun k => k ≤ 32) (fun k => 32 - k) (0) ?_ ?_ ?_))))))))
   · omega
   · exact Ac (wk1 rfl (wk1 rfl (wk1 rfl (wk1 (by rw [bor_zero]; rfl) (wk1 rfl wk0))))) (wh1 Z0 (wh1 (by rw [subB_zero, Nat.sub_add_cancel hge]; exact mem1) (wh1 Z2 wh0))) nD
   ·
    rintro k hk
    have hpl := subB_length (le a + le b - L) L k hk
    have hbl := bor_le (le a + le b - L) L k
    refine .seq (.sr (.m J J J (.lss J J J J J (.na (.condP J (fun hc2 => ?_) (fun hc2 => ?_))))))
    ·
     have hk3 : k < 32 := by omega
     have hx8 := ((subB (le a + le b - L) L k).getD k 0).toNat_lt
     have hy8 := ((leb 32 L).getD k 0).toNat_lt
     have hJ : (((subB (le a + le b - L) L k).getD k 0).toNat : Int) - (((leb 32 L).getD k 0).toNat : Int) + -((bor (le a + le b - L) L k : Nat) : Int) = (((le a + le b - L + L) / 256 ^ k % 256 : Nat) : Int) - ((L / 256 ^ k % 256 : Nat) : Int) + -((bor (le a + le b - L) L k : Nat) : Int) := by rw [subB_get _ _ k hk3, leb_getD 32 L k hk3, ofNat8_toNat, ofNat8_toNat]
     have hbn := bor_next _ _ k _ hJ
     refine .skip (Ae (.join (ι := Unit) (fun _u => ⟨[(4, ptr n4 0), (5, ptr n5 0), (8, ptr n8 0), (6, i64 (-((bor (le a + le b - L) L (k + 1) : Nat) : Int))), (9, i64 (k : Int))], [⟨n8, Aa (leb 32 L), 77, 32⟩, ⟨n5, Aa (subB (le a + le b - L) L (k + 1)), 77, 32⟩, ⟨n4, Aa (List.replicate 32 0), 77, 32⟩]⟩) (fun _u => True) ?_ ?_))
     ·
      refine .block (.seq (.draw [(0, 0), (0, 1), (1, 2), (0, 3), (0, 4), (0, 5), (1, 6), (0, 7), (0, 8), (0, 9), (0, 10), (0, 11)] Ar zK (.m J J J (.i1 J J J J Y77 Sz5 _ J oM (.load1 J J J Y5 J Z1 zG ?_)))))
      refine .conv J J J Y5 Y3 (cv_u8_i64 _) (.m J J J (.i1 J J J J Y77 Sz5 _ J oM (.load1 J J J Y5 J Z0 (by exact B0 (by (simp [Aj]; omega))) ?_)))
      refine .conv J J J Y5 Y3 (cv_u8_i64 _) (.sub_i64 J J J J oM (.m J J J (.aI J J J J oM (.a J J J (.nsr (.m J J J (.m J J J (.aI J J J J oM (.rem_i64 J J J J oM (.conv J J J Y3 Y5 (cv_i64_u8 _) (.i1 J J J J Y77 Sz5 _ J oM (.s1 J J J J J Sz5 Z1 (by (simp; omega)) (by exact Bb _ _ _) zV ?_))))))))))))
      refine .nsr (.m J J J (.lss J J J J J (.na (.condP J (fun hc3 => ?_) (fun hc3 => ?_)))))
      ·
       have hn3 := hbn.1 hc3
       refine .region (.a J J J (.nil (Bj (Ae ?_))))
       refine ⟨(), trivial, Ac (wk1 J (wk1 J (wk1 J (wk1 (by rw [hn3]; rfl) (wk1 J wk0))))) (wh1 Z0 (wh1 (by rw [← subB_step _ _ k hk3 _ hJ, byteOf_mod]; exact mem1) (wh1 Z2 wh0))) nD⟩
      ·
       have hn3 := hbn.2 hc3
       refine .region (.a J J J (.nil (Bj (Ae ?_))))
       refine ⟨(), trivial, Ac (wk1 J (wk1 J (wk1 J (wk1 (by rw [hn3]; rfl) (wk1 J wk0))))) (wh1 Z0 (wh1 (by rw [← subB_step _ _ k hk3 _ hJ, byteOf_mod]; exact mem1) (wh1 Z2 wh0))) nD⟩
     ·
      intro _u hj
      skip
      refine .region (.m J J J (.aI J J J J oM (.a J J J (.na ?_))))
      exact ⟨k + 1, by omega, by omega, Ac (wk1 rfl (wk1 rfl (wk1 rfl (wk1 rfl (wk1 rfl wk0))))) (wh1 Z0 (wh1 Z1 (wh1 Z2 wh0))) nD⟩
    ·
     obtain rfl : k = 32 := by omega
     refine .exit (A1 (A1 (B5 (Ae (.sr (.lA J J J Y77 J Ad Z1 (by (simp [Aj, subB_all]; done)) ?_))))))
     refine .sA J J J J zB Ad (by (simp [Aj, subB_all]; done)) Z2 sP (by exact upd2) ?_
     refine .na (.ret (An ?_))
     refine ⟨_, [], Ao J J Y77 J Ad Z2 (by simp [Aj, subB_all]), sP, sP, ?_, rfl⟩
     (rw [subB_all, Nat.mod_eq_sub_mod hge, Nat.mod_eq_of_lt (a := le a + le b - L) oM])

theorem ref_plus_n (x y : Nat) (hx : x < L) (hy : y < L) : Meets Tryz.prog 210 [agg (Aa (leb 32 x)), agg (Aa (leb 32 y))] [] (fun _ => True) (fun v out => v = agg (Aa (leb 32 ((x + y) % L))) ∧ out = []) := by
  have e1 := le_leb32 (Nat.lt_trans hx L_lt)
  have e2 := le_leb32 (Nat.lt_trans hy L_lt)
  have := ref_plus (leb 32 x) (leb 32 y) (Aj 32 x) (Aj 32 y) (by rw [e1]; exact hx) (by rw [e2]; exact hy)
  rw [e1, e2] at this
  exact this
theorem ref_plus_one (x : Nat) (hx : x < L) : Meets Tryz.prog 210 [agg (Aa (leb 32 x)), agg (Aa ((List.replicate 32 0).set 0 1))] [] (fun _ => True) (fun v out => v = agg (Aa (leb 32 ((x + 1) % L))) ∧ out = []) := by
  have e1 := le_leb32 (Nat.lt_trans hx L_lt)
  have := ref_plus (leb 32 x) ((List.replicate 32 0).set 0 1) (Aj 32 x) sP (by rw [e1]; exact hx) (by rw [le_one']; decide)
  rw [e1, le_one'] at this
  exact this

theorem ref_rest (b o c n : Nat) (xs : List UInt8) (hx : xs.length = n) (hn : n ≤ 1000000) : Meets Tryz.prog 209 [.slice (some ⟨b, o, none⟩) n c] [] (fun W => Cc W b o (Aa xs)) (fun v out => v = agg (Aa (leb 32 (le xs % L))) ∧ out = []) := by
 intro W hW
 refine Ab Tryz.func209 J 33 Tryz.ntmps209 J (.sr (.alloc (cs := (Aa (List.replicate 32 0))) J Bs J ?_))
 intro n2 hn2 hf2
 refine .nsr (.alloc (cs := (Aa (List.replicate 32 0))) J Bs J ?_)
 intro n3 hn3 hf3
 refine .alloc (cs := (Aa (List.replicate 32 0))) J Bs J ?_
 intro n4 hn4 hf4
 refine .nsr (.i1 J J J J Y77 Sz5 0 J dE (.s1 J J J (show Ah _ _ = some (u8 1) from rfl) J Sz5 Z0 sP (by exact Bb _ _ _) zU ?_))
 refine .na (.seq (.sr (.m J J J (.lenSl J J J Y39 (.mul_i64 J J J J oM (.sub_i64 J J J J oM (.a J J J (.na (.block (.loop (ι := Nat) (fun k => ⟨[(0, .slice (some ⟨b, o, none⟩) n c), (2, ptr n2 0), (3, ptr n3 0), (4, ptr n4 0), (5, i64 (8 * (n : Int) - 1 - (k : Int)))], [⟨n4, Aa ((List.replicate 32 0).set 0 1), 77, 32⟩, ⟨n3, Aa (leb 32 ((le xs / 2 ^ (8 * n - k)) % L)), 77, 32⟩, ⟨n2, Aa (List.replicate 32 0), 77, 32⟩]⟩) (fun k => k ≤ 8 * n) (fun k => 8 * n - k) (0) ?_ ?_ ?_))))))))))
 · omega
 · exact Ac (wk1 rfl (wk1 rfl (wk1 rfl (wk1 rfl (wk1 (by rw [show (8 * (n : Int) - 1 - ((0 : Nat) : Int)) = 8 * (n : Int) - 1 by omega]; rfl) wk0))))) (wh1 Z0 (wh1 (by rw [Nat.sub_zero, le_zero_div xs n hx, zero_modL, leb_zero32]; exact mem1) (wh1 Z2 wh0))) nD
 ·
  rintro k hk
  refine .seq (.sr (.m J J J (.geq J J J J J (.na (.condP J (fun hc0 => ?_) (fun hc0 => ?_))))))
  ·
   have hk2 : k < 8 * n := by omega
   have hdv := div_bit (le xs) (8 * n - (k + 1))
   rw [show 8 * n - (k + 1) + 1 = 8 * n - k by omega] at hdv
   have hbr := bit_rem xs (8 * n - (k + 1))
   rw [show 8 * n - (k + 1) = 8 * n - 1 - k by omega] at hbr hdv
   refine .skip (Ae (.join (ι := Unit) (fun _u => ⟨[(0, .slice (some ⟨b, o, none⟩) n c), (2, ptr n2 0), (3, ptr n3 0), (4, ptr n4 0), (5, i64 (8 * (n : Int) - 1 - (k : Int)))], [⟨n4, Aa ((List.replicate 32 0).set 0 1), 77, 32⟩, ⟨n3, Aa (leb 32 ((le xs / 2 ^ (8 * n - (k + 1))) % L)), 77, 32⟩, ⟨n2, Aa (List.replicate 32 0), 77, 32⟩]⟩) (fun _u => True) ?_ ?_))
   ·
    refine .block (.sr (.lA J J J Y77 J Ad Z1 (by (simp [Aj]; done)) ?_))
    refine .lA J J J Y77 J Ad Z1 (by (simp [Aj]; done)) ?_
    refine .cV J J J J Body210 (ref_plus_n _ _ (Nat.mod_lt _ L_pos) (Nat.mod_lt _ L_pos)) tV (.sA J J J J zB Ad (by (simp [Aj]; done)) Z1 (by (simp [Aj]; done)) zV ?_)
    refine .nsr (.m J J J (.m J J J (.quo_i64 J J J J oM (.idxSlO J J J J Y39 Sz5 ((8 * n - 1 - k) / 8) oM oM (.loadE J J J Y5 J sP (hW _ _ (B0 oM)) (.m J J J (.rem_i64 J J J J oM (.conv J J J Y3 Y35 (A4 _) (.shr_u8 J J J J ((8 * n - 1 - k) % 8) (by rw [Ck _ oM]; omega) oM ?_)))))))))
    refine .rem_u8 J J J J 2 J dE (.eqi J J J J J (.na (.condP J (fun hc1 => ?_) (fun hc1 => ?_))))
    ·
     have hdb : le xs / 2 ^ (8 * n - (k + 1)) = 2 * (le xs / 2 ^ (8 * n - k)) + 1 := by rw [show 8 * n - (k + 1) = 8 * n - 1 - k by omega, hdv, ← hbr, if_pos (decide_eq_true hc1)]
     refine .region (.lA J J J Y77 J Ad Z1 (by (simp [Aj]; done)) ?_)
     refine .lA J J J Y77 J Ad Z0 sP ?_
     refine .cV J J J J Body210 (ref_plus_one _ (Nat.mod_lt _ L_pos)) tV (.sA J J J J zB Ad (by (simp [Aj]; done)) Z1 (by (simp [Aj]; done)) zV ?_)
     refine .nil (Bj (Ae ?_))
     refine ⟨(), trivial, Ac (wk1 J (wk1 J (wk1 J (wk1 J (wk1 J wk0))))) (wh1 Z0 (wh1 (by (rw [hdb, ← dbl_mod1]; exact mem1)) (wh1 Z2 wh0))) nD⟩
    ·
     have hdb : le xs / 2 ^ (8 * n - (k + 1)) = 2 * (le xs / 2 ^ (8 * n - k)) := by rw [show 8 * n - (k + 1) = 8 * n - 1 - k by omega, hdv, ← hbr, if_neg (by simpa using hc1), Nat.add_zero]
     refine .skip (Bj (Ae ?_))
     refine ⟨(), trivial, Ac (wk1 J (wk1 J (wk1 J (wk1 J (wk1 J wk0))))) (wh1 Z0 (wh1 (by (rw [hdb, ← dbl_mod]; exact mem1)) (wh1 Z2 wh0))) nD⟩
   ·
    intro _u hj
    skip
    refine .region (.m J J J (.sub_i64 J J J J oM (.a J J J (.na ?_))))
    exact ⟨k + 1, by omega, by omega, Ac (wk1 rfl (wk1 rfl (wk1 rfl (wk1 rfl (wk1 (by rw [show (8 * (n : Int) - 1 - ((k + 1 : Nat) : Int)) = 8 * (n : Int) - 1 - (k : Int) - 1 by omega]; rfl) wk0))))) (wh1 Z0 (wh1 Z1 (wh1 Z2 wh0))) nD⟩
  ·
   obtain rfl : k = 8 * n := by omega
   refine .exit (A1 (A1 (B5 (Ae (.sr (.lA J J J Y77 J Ad Z1 (by (simp [Aj]; done)) ?_))))))
   refine .sA J J J J zB Ad (by (simp [Aj]; done)) Z2 sP (by exact upd2) ?_
   refine .na (.ret (An ?_))
   refine ⟨_, [], Ao J J Y77 J Ad Z2 (by simp [Aj]), sP, sP, ?_, rfl⟩
   rw [Nat.sub_self, Nat.pow_zero, Nat.div_one]

theorem ref_Rest (b o c n : Nat) (xs : List UInt8) (hx : xs.length = n) (hn : n ≤ 64) : Meets Tryz.prog 137 [.slice (some ⟨b, o, none⟩) n c] [] (fun W => Cc W b o (Aa xs)) (fun v out => v = .tuple #[agg (Aa (leb 32 (le xs % L))), i64 0] ∧ out = []) := by
 intro W hW
 refine Ab Tryz.func137 J 10 Tryz.ntmps137 J (.sr (.alloc (cs := (Aa (List.replicate 32 0))) J Bs J ?_))
 intro n2 hn2 hf2
 refine .a J J J (.na (.seq (.sr (.m J J J (.lenSl J J J Y39 (.gtr J J J J (decide_eq_false oM) (.na (.cond_f J (rfl) (.skip (Ae (.sr (.m J J J (.cV J J J J Body209 (ref_rest _ _ _ n xs hx oM) (fun W h => Ci h sP hW) (.sA J J J J zB Ad (by (simp [Aj]; done)) Z0 sP zU ?_))))))))))))))
 refine .a J J J (.na (.ret (An ?_)))
 refine ⟨_, [], A0 J J J Y77 J Ad Z0 (by simp [Aj]), sP, sP, ?_, rfl⟩
 rfl

theorem ref_canon (a : List UInt8) (ha : a.length = 32)  : Meets Tryz.prog 113 [agg (Aa a)] [] (fun _ => True) (fun v out => v = .bool (decide (le a < L)) ∧ out = []) := by
 intro W hW
 refine Ab Tryz.func113 J 6 Tryz.ntmps113 J (.sr (.boxA J J ?_))
 intro n1 hn1 hf1
 refine .a J J J (.na (.seq (.draw [(1, 0), (3, 1), (3, 2), (0, 3)] Ar zK (.lA J J J Y77 J Ad Z0 (by (simp [ha]; done)) ?_))))
 refine .cV J J J J Body187 (ref_L) tV (.cV J J J J Body186 (ref_below _ _ (by simp [ha]) (by simp [Aj])) tV ?_)
 refine .a J J J (.na (.ret (An ?_)))
 refine ⟨_, [], Ag J J, sP, sP, ?_, rfl⟩
 rw [le_leb32 L_lt]

theorem ref_bit_at (a : List UInt8) (ha : a.length = 32) (k : Nat) (hk : k < 256) : Meets Tryz.prog 192 [agg (Aa a), i64 (k : Int)] [] (fun _ => True) (fun v out => v = .bool ((le a).testBit k) ∧ out = []) := by
 intro W hW
 refine Ab Tryz.func192 J 23 Tryz.ntmps192 J (.sr (.boxA J J ?_))
 intro n2 hn2 hf2
 refine .a J J J (.nsr (.m J J J (.geq J J J J (decide_eq_true oM) (.m J J J (.m J J J (.lss J J J J (decide_eq_true oM) (.pick J J J J J J (.m J J J (.m J J J (.quo_i64 J J J J oM (.i1 J J J J Y77 Sz5 (k / 8) oM oM (.load1 J J J Y5 J Z0 zG ?_))))))))))))
 refine .m J J J (.rem_i64 J J J J oM (.conv J J J Y3 Y35 (A4 _) (.shr_u8 J J J J (k % 8) (by rw [Ck _ oM]; omega) oM ?_)))
 refine .rem_u8 J J J J 2 J dE (.eqi J J J J J (.pick J J J J J J (.a J J J (.na (.ret (An ?_))))))
 refine ⟨_, [], Ag J J, sP, sP, ?_, rfl⟩
 rw [← bit_rem a k]; rfl

end Go.Proofs.YtpacobmjjjillaaGreat
end

section
namespace Go.Proofs.YtpacobmjjjillaaGreat
open Go Hw

open Ed

theorem r_mul (x y : Fp) : Meets Tryz.prog 122 [agg (Aa (fb x)), agg (Aa (fb y))] [] (fun _ => True) (fun v out => v = agg (Aa (fb (x * y))) ∧ out = []) := by
  have h := r3_Mul (fb x) (fb y) (Aq x) (Aq y)
  rwa [fe_fb x, fe_fb y] at h

theorem r_sub (x y : Fp) : Meets Tryz.prog 194 [agg (Aa (fb x)), agg (Aa (fb y))] [] (fun _ => True) (fun v out => v = agg (Aa (fb (x - y))) ∧ out = []) := by
  have h := r3_Sub (fb x) (fb y) (Aq x) (Aq y)
  rwa [fe_fb x, fe_fb y] at h

theorem r_neg (x : Fp) : Meets Tryz.prog 185 [agg (Aa (fb x))] [] (fun _ => True) (fun v out => v = agg (Aa (fb (-x))) ∧ out = []) := by
  have h := r3_Neg (fb x) (Aq x)
  rwa [fe_fb x] at h

theorem r_inv (x : Fp) : Meets Tryz.prog 124 [agg (Aa (fb x))] [] (fun _ => True) (fun v out => v = agg (Aa (fb (finv x))) ∧ out = []) := by
  have h := r3_Inv (fb x) (Aq x)
  rwa [fe_fb x] at h

theorem r_odd (x : Fp) : Meets Tryz.prog 119 [agg (Aa (fb x))] [] (fun _ => True) (fun v out => v = .bool (decide (x.val % 2 = 1)) ∧ out = []) := by
  have h := r3_Odd (fb x) (Aq x)
  rwa [fe_fb x] at h

theorem r_canon (x : Fp) : Meets Tryz.prog 184 [agg (Aa (fb x))] [] (fun _ => True) (fun v out => v = .bool true ∧ out = []) := by
  have h := r3_Canon (fb x) (Aq x)
  rw [fe_fb x] at h
  rwa [decide_eq_true rfl] at h
theorem r_same_raw (x : Fp) (a : List UInt8) (ha : a.length = 32) : Meets Tryz.prog 234 [agg (Aa (fb x)), agg (Aa a)] [] (fun _ => True) (fun v out => v = .bool (decide (x = fe (le a))) ∧ out = []) := by
  have h := r3_Same (fb x) a (Aq x) ha
  rwa [fe_fb x] at h
theorem r_of (x : UInt64) (X : Fp) (h : fe x.toNat = X) : Meets Tryz.prog 123 [u64 x] [] (fun _ => True) (fun v out => v = agg (Aa (fb X)) ∧ out = []) := by
  rw [← h]; exact r3_Of x
theorem r_one : Meets Tryz.prog 123 [u64 1] [] (fun _ => True) (fun v out => v = agg (Aa (fb 1)) ∧ out = []) := r_of 1 1 rfl
theorem r_cA : Meets Tryz.prog 123 [u64 121666] [] (fun _ => True) (fun v out => v = agg (Aa (fb cA)) ∧ out = []) := r_of 121666 cA rfl
theorem r_cB : Meets Tryz.prog 123 [u64 121665] [] (fun _ => True) (fun v out => v = agg (Aa (fb cB)) ∧ out = []) := r_of 121665 cB rfl
theorem r_pow_root (a : List UInt8) (ha : a.length = 32) (X : Fp) (hX : fe (le a) = X) : Meets Tryz.prog 198 [agg (Aa a), agg (Aa (expT 5 3))] [] (fun _ => True) (fun v out => v = agg (Aa (fb (C0 X ((PF - 5) / 8)))) ∧ out = []) := r3_Pow_e a _ ha (expT_length _ _) _ X expT_root hX
theorem r_pow_unit : Meets Tryz.prog 198 [agg (Aa (fb (fe 2))), agg (Aa (expT 1 2))] [] (fun _ => True) (fun v out => v = agg (Aa (fb (C0 (fe 2) ((PF - 1) / 4)))) ∧ out = []) := r3_Pow_e _ _ (Aq _) (expT_length _ _) _ _ expT_unit (fe_fb _)
theorem r_mul_a (p r : Fp) (a : List UInt8) (ha : a.length = 32) (h : p * fe (le a) = r) : Meets Tryz.prog 122 [agg (Aa (fb p)), agg (Aa a)] [] (fun _ => True) (fun v out => v = agg (Aa (fb r)) ∧ out = []) := by
  have h1 := r3_Mul (fb p) a (Aq p) ha
  rwa [fe_fb p, h] at h1

theorem r3_Root (a : List UInt8) (X : Fp) (ha : a.length = 32) (hX : fe (le a) = X) : Meets Tryz.prog 200 [agg (Aa a)] [] (fun _ => True) (fun v out => v = .tuple #[agg (Aa (fb (fRoot X).1)), .bool (fRoot X).2] ∧ out = []) := by
 intro W hW
 obtain ⟨r0, hr0⟩ : ∃ r, C0 X ((PF + 3) / 8) = r := ⟨_, rfl⟩
 obtain ⟨un, hun⟩ : ∃ r, C0 (fe 2) ((PF - 1) / 4) = r := ⟨_, rfl⟩
 obtain ⟨r1, hr1⟩ : ∃ r, fRoot1 X = r := ⟨_, rfl⟩
 have hp0 := r_pow_root a ha X hX
 have hstep := root_step X
 obtain ⟨p0, hpp⟩ : ∃ r, C0 X ((PF - 5) / 8) = r := ⟨_, rfl⟩
 rw [hpp] at hp0 hstep
 rw [hr0] at hstep
 have hm0 := r_mul_a p0 r0 a ha (by rw [hX]; exact hstep)
 have hpu := r_pow_unit
 rw [hun] at hpu
 have hm := fun y => r_same_raw y a ha
 rw [hX] at hm
 have hr1' : r1 = if r0 * r0 = X then r0 else r0 * un := by rw [← hr1, fRoot1, hr0, hun]
 have hR : fRoot X = if r1 * r1 = X then ((if r1.val % 2 = 1 then -r1 else r1), true) else (0, false) := by rw [fRoot, hr1]
 clear hr1 hstep
 have hs53 := r3_shifted 5 3 dE dE
 have hs12 := r3_shifted 1 2 dE dE
 obtain ⟨E, hE⟩ : ∃ E, Hid (expT 5 3 = E) := ⟨_, ⟨rfl⟩⟩
 obtain ⟨G, hG⟩ : ∃ E, Hid (expT 1 2 = E) := ⟨_, ⟨rfl⟩⟩
 have hEl : E.length = 32 := by rw [← hE.out]; exact expT_length _ _
 have hGl : G.length = 32 := by rw [← hG.out]; exact expT_length _ _
 rw [hE.out] at hs53 hp0
 rw [hG.out] at hs12 hpu
 refine Ab Tryz.func200 J 33 Tryz.ntmps200 J (.sr (.boxA J J ?_))
 intro n1 hn1 hf1
 refine .alloc (cs := (Aa (List.replicate 32 0))) J Bs J ?_
 intro n2 hn2 hf2
 refine .a J J J (.na (.seq (.draw [(1, 0), (1, 3), (3, 1), (3, 2), (3, 4), (2, 5), (4, 6)] Ar zK (.lA J J J Y77 J Ad Z1 (by (simp [ha]; done)) ?_))))
 refine .lA J J J Y77 J Ad Z1 (by (simp [ha]; done)) ?_
 refine .cV J J J J Body199 (hs53) tV (.cV J J J J Body198 (hp0) tV (.cV J J J J Body122 (hm0) tV (.alloc (cs := (Aa (List.replicate 32 0))) J Bs J ?_)))
 intro n4 hn4 hf4
 refine .sA J J J J zE Ad zF Z0 sP zU ?_
 refine .na (.join (ι := Unit) (fun _u => ⟨[(1, ptr n1 0), (2, ptr n2 0), (4, ptr n4 0)], [⟨n4, Aa (fb r1), 77, 32⟩, ⟨n2, Aa (List.replicate 32 0), 77, 32⟩, ⟨n1, Aa a, 77, (Aa a).length⟩]⟩) (fun _u => True) ?_ ?_)
 ·
  refine .seq (.draw [(1, 0), (1, 1), (1, 3), (3, 2), (3, 4), (0, 5)] Ar zK (.lA J J J Y77 J Ad Z0 zF ?_))
  refine .lA J J J Y77 J Ad Z0 zF ?_
  refine .lA J J J Y77 J Ad Z2 (by (simp [ha]; done)) ?_
  refine .cV J J J J Body122 (r_mul r0 r0) tV (.cV J J J J Body234 (hm (r0 * r0)) tV (.not J J J (.na (.condNP J (fun hc0 => ?_) (fun hc0 => ?_)))))
  ·
   refine .draw [(1, 0), (3, 1), (3, 2), (3, 3), (3, 4), (4, 5)] Ar zK (.lA J J J Y77 J Ad Z0 zF ?_)
   refine .cV J J J J Body123 (r_of 2 (fe 2) J) tV (.cV J J J J Body199 (hs12) tV (.cV J J J J Body198 (hpu) tV (.cV J J J J Body122 (r_mul r0 un) tV (.sA J J J J zE Ad zF Z0 zF zU ?_))))
   refine .na ?_
   (rw [hr1', if_neg hc0]; exact ⟨(), trivial, Ac (wk1 rfl (wk1 rfl (wk1 rfl wk0))) (wh1 Z0 (wh1 Z1 (wh1 Z2 wh0))) nD⟩)
  ·
   refine .skip (Ae ?_)
   (rw [hr1', if_pos hc0]; exact ⟨(), trivial, Ac (wk1 rfl (wk1 rfl (wk1 rfl wk0))) (wh1 Z0 (wh1 Z1 (wh1 Z2 wh0))) nD⟩)
 ·
  intro _u hj
  skip
  refine .seq (.seq (.draw [(1, 0), (1, 1), (1, 3), (3, 2), (3, 4), (0, 5)] Ar zK (.lA J J J Y77 J Ad Z0 zF ?_)))
  refine .lA J J J Y77 J Ad Z0 zF ?_
  refine .lA J J J Y77 J Ad Z2 (by (simp [ha]; done)) ?_
  refine .cV J J J J Body122 (r_mul r1 r1) tV (.cV J J J J Body234 (hm (r1 * r1)) tV (.not J J J (.na (.condNP J (fun hc1 => ?_) (fun hc1 => ?_)))))
  ·
   refine .sr (.build (cs := Aa (List.replicate 32 0)) J J J (fun w => by kernel_rfl) ?_)
   refine .sA J J J J zE Ad sP Z1 sP zV ?_
   refine .a J J J (.na (.ret (Bg (An ?_))))
   refine ⟨_, [], A0 J J J Y77 J Ad Z1 sP, sP, sP, ?_, rfl⟩
   (rw [hR, if_neg hc1, fb_zero]; done)
  ·
   refine .skip (Ae (.join (ι := Unit) (fun _u => ⟨[(2, ptr n2 0), (4, ptr n4 0)], [⟨n4, Aa (fb (if r1.val % 2 = 1 then -r1 else r1)), 77, 32⟩, ⟨n2, Aa (List.replicate 32 0), 77, 32⟩]⟩) (fun _u => True) ?_ ?_))
   ·
    refine .sr (.lA J J J Y77 J Ad Z0 zF ?_)
    refine .cV J J J J Body119 (r_odd r1) tV (.na (.condP J (fun hc2 => ?_) (fun hc2 => ?_)))
    ·
     refine .region (.lA J J J Y77 J Ad Z0 zF ?_)
     refine .cV J J J J Body185 (r_neg r1) tV (.sA J J J J zE Ad zF Z0 zF zU ?_)
     refine .na ?_
     (rw [if_pos hc2]; exact ⟨(), trivial, Ac (wk1 rfl (wk1 rfl wk0)) (wh1 Z0 (wh1 Z1 wh0)) nD⟩)
    ·
     refine .skip (Ae ?_)
     (rw [if_neg hc2]; exact ⟨(), trivial, Ac (wk1 rfl (wk1 rfl wk0)) (wh1 Z0 (wh1 Z1 wh0)) nD⟩)
   ·
    intro _u hj
    skip
    refine .sr (.lA J J J Y77 J Ad Z0 zF ?_)
    refine .sA J J J J zE Ad zF Z1 sP zV ?_
    refine .a J J J (.na (.ret (An ?_)))
    refine ⟨_, [], A0 J J J Y77 J Ad Z1 (by simp [Aq]), sP, sP, ?_, rfl⟩
    (rw [hR, if_pos hc1]; done)

theorem check_eq {P : Pt Fp} (h : cv.on P) : cA * (P.y * P.y - P.x * P.x - 1) = -(cB * (P.x * P.x * (P.y * P.y))) := by
  have h1 := (cv.on_iff P).1 h
  have h2 : P.y * P.y - P.x * P.x = 1 + fD * (P.x * P.x * (P.y * P.y)) := h1
  have h3 := fD_cA
  rw [h2]
  generalize P.x * P.x * (P.y * P.y) = q at *
  generalize cA = a at *
  generalize cB = b at *
  generalize fD = d at *
  grind

theorem r5_D  : Meets Tryz.prog 189 [] [] (fun _ => True) (fun v out => v = agg (Aa (fb fD)) ∧ out = []) := by
 intro W hW
 have hm := r_mul (-cB) (finv cA)
 rw [ref_D] at hm
 have hi := r_inv cA
 revert hm hi
 generalize finv cA = ia
 intro hm hi
 refine Ab Tryz.func189 J 6 Tryz.ntmps189 J (.sr (.alloc (cs := (Aa (List.replicate 32 0))) J Bs J ?_))
 intro n0 hn0 hf0
 refine .nsr (.cV J J J J Body123 (r_cB) tV (.cV J J J J Body185 (r_neg cB) tV ?_))
 refine .cV J J J J Body123 (r_cA) tV (.cV J J J J Body124 (hi) tV (.cV J J J J Body122 (hm) tV (.sA J J J J zE Ad zF Z0 sP zU ?_)))
 refine .na (.ret (An ?_))
 refine ⟨_, [], Ao J J Y77 J Ad Z0 (by simp [Aq]), sP, sP, ?_, rfl⟩
 rfl

theorem r5_Zero  : Meets Tryz.prog 120 [] [] (fun _ => True) (fun v out => v = agg (ptc (zero : Pt Fp)).cells ∧ out = []) := by
 intro W hW
 refine Ab Tryz.func120 J 3 Tryz.ntmps120 J (.sr (.alloc (cs := Point.zero.cells) J Point.zr J ?_))
 intro n0 hn0 hf0
 refine .nsr (.cV J J J J Body123 (r_one) tV (.build (cs := (⟨fb 0, fb 1⟩ : Point).cells) J J J (fun w => by kernel_rfl) ?_))
 refine .sA J J J J (Point.isCell (by exact ⟨C3 _, C3 _⟩)) B9 (Point.length (by exact ⟨C3 _, C3 _⟩)) Z0 (Point.length zZ) zU ?_
 refine .na (.ret (An ?_))
 refine ⟨_, [], Ao J J Y79 J B9 Z0 (by exact Point.length (by exact ⟨C3 _, C3 _⟩)), sP, sP, ?_, rfl⟩
 rfl

theorem r5_root (Y : Fp) : Meets Tryz.prog 125 [agg (Aa (fb Y))] [] (fun _ => True) (fun v out => v = .tuple #[agg (Aa (fb (xOf Y).1)), .bool (xOf Y).2] ∧ out = []) := by
 intro W hW
 have hq := ref_quot Y
 have hxo : xOf Y = fRoot ((Y * Y - 1) * finv (fD * (Y * Y) + 1)) := rfl
 rw [← hq] at hxo
 have hinv := r_inv (cA - cB * (Y * Y))
 revert hinv hxo
 clear hq
 generalize finv (cA - cB * (Y * Y)) = iz
 intro hxo hinv
 have hroot := r3_Root (fb (cA * (Y * Y - 1) * iz)) (cA * (Y * Y - 1) * iz) (Aq _) (fe_fb _)
 rw [← hxo] at hroot
 clear hxo
 revert hroot
 generalize xOf Y = xr
 intro hroot
 refine Ab Tryz.func125 J 27 Tryz.ntmps125 J (.sr (.boxA J J ?_))
 intro n1 hn1 hf1
 refine .alloc (cs := (Aa (List.replicate 32 0))) J Bs J ?_
 intro n2 hn2 hf2
 refine .a J J J (.nsr (.lA J J J Y77 J Ad Z1 zF ?_))
 refine .lA J J J Y77 J Ad Z1 zF ?_
 refine .cV J J J J Body122 (r_mul Y Y) tV (.alloc (cs := (Aa (List.replicate 32 0))) J Bs J ?_)
 intro n4 hn4 hf4
 refine .sA J J J J zE Ad zF Z0 sP zU ?_
 refine .na (.seq (.draw [(1, 1), (3, 0), (3, 2), (3, 3), (3, 4), (2, 5), (4, 6)] Ar zK (.lA J J J Y77 J Ad Z0 zF ?_)))
 refine .cV J J J J Body123 (r_cA) tV (.cV J J J J Body123 (r_one) tV (.cV J J J J Body194 (r_sub (Y * Y) 1) tV (.cV J J J J Body122 (r_mul cA (Y * Y - 1)) tV (.alloc (cs := (Aa (List.replicate 32 0))) J Bs J ?_))))
 intro n5 hn5 hf5
 refine .sA J J J J zE Ad zF Z0 sP zU ?_
 refine .na (.seq (.draw [(1, 2), (3, 0), (3, 1), (3, 3), (3, 4), (2, 5), (4, 6)] Ar zK (.lA J J J Y77 J Ad Z1 zF ?_)))
 refine .cV J J J J Body123 (r_cA) tV (.cV J J J J Body123 (r_cB) tV (.cV J J J J Body122 (r_mul cB (Y * Y)) tV ?_))
 refine .cV J J J J Body194 (r_sub cA (cB * (Y * Y))) tV ?_
 refine .alloc (cs := (Aa (List.replicate 32 0))) J Bs J ?_
 intro n6 hn6 hf6
 refine .sA J J J J zE Ad zF Z0 sP zU ?_
 refine .na (.seq (.draw [(1, 0), (1, 1), (3, 2), (3, 3), (3, 4), (0, 5), (0, 6), (4, 7), (0, 8)] Ar zK (.lA J J J Y77 J Ad Z1 zF ?_)))
 refine .lA J J J Y77 J Ad Z0 zF ?_
 refine .cV J J J J Body124 (hinv) tV (.cV J J J J Body122 (r_mul (cA * (Y * Y - 1)) iz) tV (.cV J J J J Body200 (hroot) tV (.eX J J J J (.eX J J J J (.sA J J J J zE Ad zF Z3 sP (by exact upd3) ?_)))))
 refine .a J J J (.na (.ret (An ?_)))
 refine ⟨_, [], A0 J J J Y77 J Ad Z3 (by simp [Aq]), sP, sP, ?_, rfl⟩
 rfl

theorem bP_four : fe 4 * finv (fe 5) = bP.y := by
  have h1 : bP.y * fe 5 = fe 4 := by kernel_rfl
  have h2 : fe 5 * finv (fe 5) = 1 := finv_mul (by
    intro h
    have := congrArg Fin.val h
    revert this
    decide)
  generalize finv (fe 5) = v at *
  generalize fe 5 = f at *
  rw [← h1]
  generalize bP.y = y at *
  grind
theorem bP_even : (decide (bP.x.val % 2 = 1)) = false := by kernel_rfl
theorem bP_root : xOf bP.y = (bP.x, true) := by
  have h := xOf_eq (x := bP.x) (y := bP.y) bP_on
  rw [h, if_neg (of_decide_eq_false bP_even)]

theorem r5_Base  : Meets Tryz.prog 67 [] [] (fun _ => True) (fun v out => v = agg (ptc bP).cells ∧ out = []) := by
 intro W hW
 have hm := r_mul (fe 4) (finv (fe 5))
 rw [bP_four] at hm
 have hi := r_inv (fe 5)
 have hr := r5_root bP.y
 rw [bP_root] at hr
 have hb : bP = ⟨bP.x, bP.y⟩ := rfl
 rw [hb]
 clear hb
 revert hm hi hr
 generalize finv (fe 5) = iv
 generalize bP.x = bx
 generalize bP.y = bY
 intro hm hi hr
 refine Ab Tryz.func67 J 16 Tryz.ntmps67 J (.sr (.alloc (cs := Point.zero.cells) J Point.zr J ?_))
 intro n0 hn0 hf0
 refine .nsr (.cV J J J J Body123 (r_of 4 (fe 4) J) tV (.cV J J J J Body123 (r_of 5 (fe 5) J) tV (.cV J J J J Body124 (hi) tV (.cV J J J J Body122 (hm) tV (.alloc (cs := (Aa (List.replicate 32 0))) J Bs J ?_)))))
 intro n1 hn1 hf1
 refine .sA J J J J zE Ad zF Z0 sP zU ?_
 refine .nsr (.lA J J J Y77 J Ad Z0 zF ?_)
 refine .cV J J J J Body125 (hr) tV (.m J J J (.eX J J J J (.eX J J J J (.alloc (cs := (Aa (List.replicate 32 0))) J Bs J ?_))))
 intro n2 hn2 hf2
 refine .sA J J J J zE Ad zF Z0 sP zU ?_
 refine .a J J J (.nsr (.lA J J J Y77 J Ad Z0 zF ?_))
 refine .lA J J J Y77 J Ad Z1 zF ?_
 refine .build (cs := (ptc (⟨bx, bY⟩ : Pt Fp)).cells) J J J (fun w => by kernel_rfl) ?_
 refine .sA J J J J (Point.isCell zP) B9 (Point.length zP) Z2 (Point.length zZ) (by exact upd2) ?_
 refine .na (.ret (An ?_))
 refine ⟨_, [], Ao J J Y79 J B9 Z2 (by exact Point.length zP), sP, sP, ?_, rfl⟩
 rfl

theorem r5_Check (P : Pt Fp) (hP : cv.on P) : Meets Tryz.prog 118 [agg (ptc P).cells] [] (fun _ => True) (fun v out => v = i64 0 ∧ out = []) := by
 intro W hW
 refine Ab Tryz.func118 J 41 Tryz.ntmps118 J (.sr (.boxA J J ?_))
 intro n1 hn1 hf1
 refine .a J J J (.na (.seq (.sr (.fld J J J Y79 J Ad dE _ J (.lN (Aa _) J J J Y77 J Ad Z0 (Point.row_fX zP) (Point.rl_fX zP) ?_)))))
 refine .cV J J J J Body184 (r_canon P.x) tV (.not J J J (.m J J J (.fld J J J Y79 J Ad dE _ J (.lN (Aa _) J J J Y77 J Ad Z0 (Point.row_fY zP) (Point.rl_fY zP) ?_))))
 refine .cV J J J J Body184 (r_canon P.y) tV (.not J J J (.pick J J J J J J (.na (.cond_f J J (.skip (Ae (.seq (.draw [(0, 0), (1, 1), (0, 2), (1, 3), (0, 5), (1, 6), (0, 7), (1, 8), (3, 4), (3, 9), (2, 10), (2, 11), (4, 12), (4, 13)] Ar zK (.fld J J J Y79 J Ad dE _ J (.lN (Aa _) J J J Y77 J Ad Z0 (Point.row_fX zP) (Point.rl_fX zP) ?_))))))))))
 refine .fld J J J Y79 J Ad dE _ J (.lN (Aa _) J J J Y77 J Ad Z0 (Point.row_fX zP) (Point.rl_fX zP) ?_)
 refine .fld J J J Y79 J Ad dE _ J (.lN (Aa _) J J J Y77 J Ad Z0 (Point.row_fY zP) (Point.rl_fY zP) ?_)
 refine .fld J J J Y79 J Ad dE _ J (.lN (Aa _) J J J Y77 J Ad Z0 (Point.row_fY zP) (Point.rl_fY zP) ?_)
 refine .cV J J J J Body122 (r_mul P.x P.x) tV (.cV J J J J Body122 (r_mul P.y P.y) tV (.alloc (cs := (Aa (List.replicate 32 0))) J Bs J ?_))
 intro n3 hn3 hf3
 refine .alloc (cs := (Aa (List.replicate 32 0))) J Bs J ?_
 intro n4 hn4 hf4
 refine .sA J J J J zE Ad zF Z1 sP zV ?_
 refine .sA J J J J zE Ad zF Z0 sP zU ?_
 refine .na (.seq (.draw [(1, 1), (1, 2), (3, 0), (3, 3), (3, 4), (3, 5), (3, 6), (2, 7), (4, 8)] Ar zK (.lA J J J Y77 J Ad Z0 zF ?_)))
 refine .lA J J J Y77 J Ad Z1 zF ?_
 refine .cV J J J J Body123 (r_cA) tV (.cV J J J J Body194 (r_sub (P.y * P.y) (P.x * P.x)) tV (.cV J J J J Body123 (r_one) tV (.cV J J J J Body194 (r_sub (P.y * P.y - P.x * P.x) 1) tV (.cV J J J J Body122 (r_mul cA (P.y * P.y - P.x * P.x - 1)) tV (.alloc (cs := (Aa (List.replicate 32 0))) J Bs J ?_)))))
 intro n5 hn5 hf5
 refine .sA J J J J zE Ad zF Z0 sP zU ?_
 refine .na (.seq (.seq (.draw [(1, 0), (1, 2), (1, 3), (3, 1), (3, 4), (3, 5), (3, 6), (0, 7)] Ar zK (.lA J J J Y77 J Ad Z0 zF ?_))))
 refine .lA J J J Y77 J Ad Z2 zF ?_
 refine .lA J J J Y77 J Ad Z1 zF ?_
 refine .cV J J J J Body123 (r_cB) tV (.cV J J J J Body122 (r_mul (P.x * P.x) (P.y * P.y)) tV (.cV J J J J Body122 (r_mul cB (P.x * P.x * (P.y * P.y))) tV ?_))
 refine .cV J J J J Body185 (r_neg (cB * (P.x * P.x * (P.y * P.y)))) tV ?_
 refine .neq_bytes J J J J Tryz.eqGuardType77 Y77 Y5 Sz5 zF zF (show (!decide _) = false from congrArg not (decide_eq_true (congrArg fb (check_eq hP)))) (.na (.cond_f J (rfl) (.skip (Ae (.sr (.a J J J (.na (.ret (An ?_)))))))))
 refine ⟨_, [], Ag J J, sP, sP, ?_, rfl⟩
 rfl

end Go.Proofs.YtpacobmjjjillaaGreat
end

section
namespace Go.Proofs.YtpacobmjjjillaaGreat
open Go Hw

open Ed

structure FarFit (u : far) : Prop where
  x : Fit10 u.fX
  y : Fit10 u.fY
  z : Fit10 u.fZ
theorem FarFit.ok {x : far} (h : FarFit x) : x.ok := ⟨h.x.len, h.y.len, h.z.len⟩
def farV (x : far) : Fr Fp := ⟨fe (v10 x.fX), fe (v10 x.fY), fe (v10 x.fZ)⟩
structure FarRep (x : far) (P : Pt Fp) : Prop where
  fit : FarFit x
  rep : (farV x).rep P
def frA (p q : far) : List Nat := mulT p.fZ q.fZ
def frM (d : List Nat) (p q : far) : List Nat := mulT d (mulT (mulT p.fX q.fX) (mulT p.fY q.fY))
def frB (p q : far) : List Nat := plusT (mulT p.fX q.fX) (mulT p.fY q.fY)
def frC (p q : far) : List Nat := minusT (mulT (plusT p.fX p.fY) (plusT q.fX q.fY)) (frB p q)
def frF (d : List Nat) (p q : far) : List Nat := minusT (mulT (frA p q) (frA p q)) (frM d p q)
def frG (d : List Nat) (p q : far) : List Nat := plusT (mulT (frA p q) (frA p q)) (frM d p q)
def frT (d : List Nat) (p q : far) : far := ⟨mulT (frA p q) (mulT (frF d p q) (frC p q)), mulT (frA p q) (mulT (frG d p q) (frB p q)), mulT (frF d p q) (frG d p q)⟩
section
variable {d : List Nat} {p q : far}
theorem frA_fit (hp : FarFit p) (hq : FarFit q) : Fit10 (frA p q) := Bk hp.z hq.z
theorem frM_fit (hd : Fit10 d) (hp : FarFit p) (hq : FarFit q) : Fit10 (frM d p q) := Bk hd (Bk (Bk hp.x hq.x) (Bk hp.y hq.y))
theorem frB_fit (hp : FarFit p) (hq : FarFit q) : Fit10 (frB p q) := plusT_fit (Bk hp.x hq.x) (Bk hp.y hq.y)
theorem frC_fit (hp : FarFit p) (hq : FarFit q) : Fit10 (frC p q) := minusT_fit (Bk (plusT_fit hp.x hp.y) (plusT_fit hq.x hq.y)) (frB_fit hp hq)
theorem frF_fit (hd : Fit10 d) (hp : FarFit p) (hq : FarFit q) : Fit10 (frF d p q) := minusT_fit (Bk (frA_fit hp hq) (frA_fit hp hq)) (frM_fit hd hp hq)
theorem frG_fit (hd : Fit10 d) (hp : FarFit p) (hq : FarFit q) : Fit10 (frG d p q) := plusT_fit (Bk (frA_fit hp hq) (frA_fit hp hq)) (frM_fit hd hp hq)
theorem frT_fit (hd : Fit10 d) (hp : FarFit p) (hq : FarFit q) : FarFit (frT d p q) :=
  ⟨Bk (frA_fit hp hq) (Bk (frF_fit hd hp hq) (frC_fit hp hq)), Bk (frA_fit hp hq) (Bk (frG_fit hd hp hq) (frB_fit hp hq)), Bk (frF_fit hd hp hq) (frG_fit hd hp hq)⟩
theorem mv {x y : List Nat} (hx : Fit10 x) (hy : Fit10 y) : fe (v10 (mulT x y)) = fe (v10 x) * fe (v10 y) := mulT_v hx.len hy.len
theorem pv' {x y : List Nat} (hx : Fit10 x) (hy : Fit10 y) : fe (v10 (plusT x y)) = fe (v10 x) + fe (v10 y) := plusT_v hx.len hy.len
theorem nv {x y : List Nat} (hx : Fit10 x) (hy : Fit10 y) : fe (v10 (minusT x y)) = fe (v10 x) - fe (v10 y) := minusT_v hx.len hy
theorem frT_v (hd : Fit10 d) (hp : FarFit p) (hq : FarFit q) : farV (frT d p q) = Fr.add (fe (v10 d)) (farV p) (farV q) := by
  have a := frA_fit hp hq
  have m := frM_fit hd hp hq
  have b := frB_fit hp hq
  have c := frC_fit hp hq
  have f := frF_fit hd hp hq
  have g := frG_fit hd hp hq
  have c1 := Bk hp.x hq.x
  have c2 := Bk hp.y hq.y
  have va : fe (v10 (frA p q)) = fe (v10 p.fZ) * fe (v10 q.fZ) := mv hp.z hq.z
  have vm : fe (v10 (frM d p q)) = fe (v10 d) * (fe (v10 p.fX) * fe (v10 q.fX) * (fe (v10 p.fY) * fe (v10 q.fY))) := by rw [frM, mv hd (Bk c1 c2), mv c1 c2, mv hp.x hq.x, mv hp.y hq.y]
  have vb : fe (v10 (frB p q)) = fe (v10 p.fX) * fe (v10 q.fX) + fe (v10 p.fY) * fe (v10 q.fY) := by rw [frB, pv' c1 c2, mv hp.x hq.x, mv hp.y hq.y]
  have vc : fe (v10 (frC p q)) = (fe (v10 p.fX) + fe (v10 p.fY)) * (fe (v10 q.fX) + fe (v10 q.fY)) - (fe (v10 p.fX) * fe (v10 q.fX) + fe (v10 p.fY) * fe (v10 q.fY)) := by
    rw [frC, nv (Bk (plusT_fit hp.x hp.y) (plusT_fit hq.x hq.y)) b, mv (plusT_fit hp.x hp.y) (plusT_fit hq.x hq.y), pv' hp.x hp.y, pv' hq.x hq.y, vb]
  have vf : fe (v10 (frF d p q)) = fe (v10 (frA p q)) * fe (v10 (frA p q)) - fe (v10 (frM d p q)) := by rw [frF, nv (Bk a a) m, mv a a]
  have vg : fe (v10 (frG d p q)) = fe (v10 (frA p q)) * fe (v10 (frA p q)) + fe (v10 (frM d p q)) := by rw [frG, pv' (Bk a a) m, mv a a]
  unfold farV frT Fr.add
  simp only [mv a (Bk f c), mv f c, mv a (Bk g b), mv g b, mv f g, vf, vg, va, vm, vb, vc]
end
theorem FarRep.add {d : List Nat} {p q : far} {P Q : Pt Fp} (hd : Fit10 d) (hdv : fe (v10 d) = fD) (hp : FarRep p P) (hq : FarRep q Q) (hP : cv.on P) (hQ : cv.on Q) : FarRep (frT d p q) (cv.add P Q) := by
  refine ⟨frT_fit hd hp.fit hq.fit, ?_⟩
  rw [frT_v hd hp.fit hq.fit, hdv]
  exact cv.far_add hp.rep hq.rep hP hQ
def awT (P : Pt Fp) : far := ⟨openT (le (fb P.x)), openT (le (fb P.y)), openT (le (fb (1 : Fp)))⟩
theorem awT_fit (P : Pt Fp) : FarFit (awT P) := ⟨o_fit (Aq _), o_fit (Aq _), o_fit (Aq _)⟩
theorem awT_rep (P : Pt Fp) : FarRep (awT P) P := by
  refine ⟨awT_fit P, ?_⟩
  have h : farV (awT P) = Fr.of P := by
    unfold farV awT Fr.of
    simp only [o_v (Aq _), fe_fb]
  rw [h]
  exact cv.far_of P
def dT : List Nat := openT (le (fb fD))
theorem dT_fit : Fit10 dT := o_fit (Aq _)
theorem dT_v : fe (v10 dT) = fD := by
  have h := o_v (Aq fD)
  rw [fe_fb] at h
  exact h
theorem r5_openD : Meets Tryz.prog 188 [agg (Aa (fb fD))] [] (fun _ => True) (fun v out => v = agg (Bq dT) ∧ out = []) := r3_Open (fb fD) (Aq _)

theorem r5_plus (d : List Nat) (p q : far) (hd : Fit10 d) (hp : FarFit p) (hq : FarFit q) : Meets Tryz.prog 191 [agg (Bq d), agg (p).cells, agg (q).cells] [] (fun _ => True) (fun v out => v = agg (frT d p q).cells ∧ out = []) := by
 intro W hW
 have ldd := hd.len
 have hpo := hp.ok
 have hqo := hq.ok
 unfold frT frF frG frC frM frB frA
 have fa := Bk hp.z hq.z
 have ca := r3_Times _ _ hp.z hq.z
 revert fa ca
 generalize mulT p.fZ q.fZ = a
 intro fa ca
 have la := fa.len
 have fb2 := Bk fa fa
 have cb := r3_Times _ _ fa fa
 revert fb2 cb
 generalize mulT a a = b
 intro fb2 cb
 have lb := fb2.len
 have fc := Bk hp.x hq.x
 have cc := r3_Times _ _ hp.x hq.x
 revert fc cc
 generalize mulT p.fX q.fX = c
 intro fc cc
 have lc := fc.len
 have fe2 := Bk hp.y hq.y
 have ce := r3_Times _ _ hp.y hq.y
 revert fe2 ce
 generalize mulT p.fY q.fY = e
 intro fe2 ce
 have le := fe2.len
 have fce := Bk fc fe2
 have cce := r3_Times _ _ fc fe2
 revert fce cce
 generalize mulT c e = ce2
 intro fce cce
 have lce2 := fce.len
 have fm := Bk hd fce
 have cm := r3_Times _ _ hd fce
 revert fm cm
 generalize mulT d ce2 = m
 intro fm cm
 have lm := fm.len
 have ff := minusT_fit fb2 fm
 have cf := r3_Minus _ _ fb2 fm
 revert ff cf
 generalize minusT b m = f
 intro ff cf
 have lf := ff.len
 have fg := plusT_fit fb2 fm
 have cg := r3_Plus _ _ fb2 fm
 revert fg cg
 generalize plusT b m = g
 intro fg cg
 have lg := fg.len
 have fbo := plusT_fit fc fe2
 have cbo := r3_Plus _ _ fc fe2
 revert fbo cbo
 generalize plusT c e = both
 intro fbo cbo
 have lboth := fbo.len
 have fpp := plusT_fit hp.x hp.y
 have cpp := r3_Plus _ _ hp.x hp.y
 revert fpp cpp
 generalize plusT p.fX p.fY = pp
 intro fpp cpp
 have lpp := fpp.len
 have fqq := plusT_fit hq.x hq.y
 have cqq := r3_Plus _ _ hq.x hq.y
 revert fqq cqq
 generalize plusT q.fX q.fY = qq
 intro fqq cqq
 have lqq := fqq.len
 have fpq := Bk fpp fqq
 have cpq := r3_Times _ _ fpp fqq
 revert fpq cpq
 generalize mulT pp qq = pq
 intro fpq cpq
 have lpq := fpq.len
 have fcr := minusT_fit fpq fbo
 have ccr := r3_Minus _ _ fpq fbo
 revert fcr ccr
 generalize minusT pq both = cr
 intro fcr ccr
 have lcr := fcr.len
 have ffc := Bk ff fcr
 have cfc := r3_Times _ _ ff fcr
 revert ffc cfc
 generalize mulT f cr = fcr2
 intro ffc cfc
 have lfcr2 := ffc.len
 have fgb := Bk fg fbo
 have cgb := r3_Times _ _ fg fbo
 revert fgb cgb
 generalize mulT g both = gb
 intro fgb cgb
 have lgb := fgb.len
 have fX := Bk fa ffc
 have cX := r3_Times _ _ fa ffc
 revert fX cX
 generalize mulT a fcr2 = X
 intro fX cX
 have lX := fX.len
 have fY := Bk fa fgb
 have cY := r3_Times _ _ fa fgb
 revert fY cY
 generalize mulT a gb = Y
 intro fY cY
 have lY := fY.len
 have fZ := Bk ff fg
 have cZ := r3_Times _ _ ff fg
 revert fZ cZ
 generalize mulT f g = Z
 intro fZ cZ
 have lZ := fZ.len
 refine Ab Tryz.func191 J 75 Tryz.ntmps191 J (.sr (.boxA J J ?_))
 intro n3 hn3 hf3
 refine .boxA J J ?_
 intro n4 hn4 hf4
 refine .boxA J J ?_
 intro n5 hn5 hf5
 refine .alloc (cs := far.zero.cells) J far.zr J ?_
 intro n6 hn6 hf6
 refine .nsr (.fld J J J Tryz.underlying180 J Bf dE _ J (.lN (Bq _) J J J Cr J Bf Z2 (far.row_fZ (by exact hpo)) (far.rl_fZ (by exact hpo)) ?_))
 refine .fld J J J Tryz.underlying180 J Bf dE _ J (.lN (Bq _) J J J Cr J Bf Z1 (far.row_fZ (by exact hqo)) (far.rl_fZ (by exact hqo)) ?_)
 refine .cV J J J J Body197 (ca) tV (.alloc (cs := (Ca (List.replicate 10 0))) J Zr177 J ?_)
 intro n7 hn7 hf7
 refine .sA J J J J (by exact Cs _) Bf (by (simp [Al, la]; done)) Z0 sP zU ?_
 refine .nsr (.lA J J J Cr J Bf Z0 (by (simp [Al, la]; done)) ?_)
 refine .lA J J J Cr J Bf Z0 (by (simp [Al, la]; done)) ?_
 refine .cV J J J J Body197 (cb) tV (.alloc (cs := (Ca (List.replicate 10 0))) J Zr177 J ?_)
 intro n8 hn8 hf8
 refine .sA J J J J (by exact Cs _) Bf (by (simp [Al, lb]; done)) Z0 sP zU ?_
 refine .na (.seq (.draw [(0, 0), (1, 1), (0, 2), (1, 3), (0, 5), (1, 6), (0, 7), (1, 8), (3, 4), (3, 9), (2, 10), (2, 11), (4, 12), (4, 13)] Ar zK (.fld J J J Tryz.underlying180 J Bf dE _ J (.lN (Bq _) J J J Cr J Bf Z4 (far.row_fX (by exact hpo)) (far.rl_fX (by exact hpo)) ?_))))
 refine .fld J J J Tryz.underlying180 J Bf dE _ J (.lN (Bq _) J J J Cr J Bf Z3 (far.row_fX (by exact hqo)) (far.rl_fX (by exact hqo)) ?_)
 refine .fld J J J Tryz.underlying180 J Bf dE _ J (.lN (Bq _) J J J Cr J Bf Z4 (far.row_fY (by exact hpo)) (far.rl_fY (by exact hpo)) ?_)
 refine .fld J J J Tryz.underlying180 J Bf dE _ J (.lN (Bq _) J J J Cr J Bf Z3 (far.row_fY (by exact hqo)) (far.rl_fY (by exact hqo)) ?_)
 refine .cV J J J J Body197 (cc) tV (.cV J J J J Body197 (ce) tV (.alloc (cs := (Ca (List.replicate 10 0))) J Zr177 J ?_))
 intro n9 hn9 hf9
 refine .alloc (cs := (Ca (List.replicate 10 0))) J Zr177 J ?_
 intro n10 hn10 hf10
 refine .sA J J J J (by exact Cs _) Bf (by (simp [Al, lc]; done)) Z1 sP zV ?_
 refine .sA J J J J (by exact Cs _) Bf (by (simp [Al, le]; done)) Z0 sP zU ?_
 refine .na (.seq (.draw [(1, 0), (1, 1), (1, 2), (3, 3), (3, 4), (2, 5), (4, 6)] Ar zK (.lA J J J Cr J Bf (by exact mem7) (by (simp [Al, ldd]; done)) ?_)))
 refine .lA J J J Cr J Bf Z1 (by (simp [Al, lc]; done)) ?_
 refine .lA J J J Cr J Bf Z0 (by (simp [Al, le]; done)) ?_
 refine .cV J J J J Body197 (cce) tV (.cV J J J J Body197 (cm) tV (.alloc (cs := (Ca (List.replicate 10 0))) J Zr177 J ?_))
 intro n11 hn11 hf11
 refine .sA J J J J (by exact Cs _) Bf (by (simp [Al, lm]; done)) Z0 sP zU ?_
 refine .na (.seq (.draw [(1, 0), (1, 1), (1, 3), (1, 4), (3, 2), (3, 5), (2, 6), (2, 7), (4, 8), (4, 9)] Ar zK (.lA J J J Cr J Bf Z3 (by (simp [Al, lb]; done)) ?_)))
 refine .lA J J J Cr J Bf Z0 (by (simp [Al, lm]; done)) ?_
 refine .lA J J J Cr J Bf Z3 (by (simp [Al, lb]; done)) ?_
 refine .lA J J J Cr J Bf Z0 (by (simp [Al, lm]; done)) ?_
 refine .cV J J J J Body231 (cf) tV (.cV J J J J Body232 (cg) tV (.alloc (cs := (Ca (List.replicate 10 0))) J Zr177 J ?_))
 intro n12 hn12 hf12
 refine .alloc (cs := (Ca (List.replicate 10 0))) J Zr177 J ?_
 intro n13 hn13 hf13
 refine .sA J J J J (by exact Cs _) Bf (by (simp [Al, lf]; done)) Z1 sP zV ?_
 refine .sA J J J J (by exact Cs _) Bf (by (simp [Al, lg]; done)) Z0 sP zU ?_
 refine .nsr (.lA J J J Cr J Bf Z4 (by (simp [Al, lc]; done)) ?_)
 refine .lA J J J Cr J Bf Z3 (by (simp [Al, le]; done)) ?_
 refine .cV J J J J Body232 (cbo) tV (.alloc (cs := (Ca (List.replicate 10 0))) J Zr177 J ?_)
 intro n14 hn14 hf14
 refine .sA J J J J (by exact Cs _) Bf (by (simp [Al, lboth]; done)) Z0 sP zU ?_
 refine .na (.seq (.draw [(0, 0), (1, 1), (0, 2), (1, 3), (0, 5), (1, 6), (0, 7), (1, 8), (1, 11), (3, 4), (3, 9), (3, 10), (3, 12), (2, 13), (4, 14)] Ar zK (.fld J J J Tryz.underlying180 J Bf dE _ J (.lN (Bq _) J J J Cr J Bf mR (far.row_fX (by exact hpo)) (far.rl_fX (by exact hpo)) ?_))))
 refine .fld J J J Tryz.underlying180 J Bf dE _ J (.lN (Bq _) J J J Cr J Bf mR (far.row_fY (by exact hpo)) (far.rl_fY (by exact hpo)) ?_)
 refine .fld J J J Tryz.underlying180 J Bf dE _ J (.lN (Bq _) J J J Cr J Bf mR (far.row_fX (by exact hqo)) (far.rl_fX (by exact hqo)) ?_)
 refine .fld J J J Tryz.underlying180 J Bf dE _ J (.lN (Bq _) J J J Cr J Bf mR (far.row_fY (by exact hqo)) (far.rl_fY (by exact hqo)) ?_)
 refine .lA J J J Cr J Bf Z0 (by (simp [Al, lboth]; done)) ?_
 refine .cV J J J J Body232 (cpp) tV (.cV J J J J Body232 (cqq) tV (.cV J J J J Body197 (cpq) tV (.cV J J J J Body231 (ccr) tV (.alloc (cs := (Ca (List.replicate 10 0))) J Zr177 J ?_))))
 intro n15 hn15 hf15
 refine .sA J J J J (by exact Cs _) Bf (by (simp [Al, lcr]; done)) Z0 sP zU ?_
 refine .na (.seq (.draw [(1, 0), (1, 1), (1, 2), (1, 5), (1, 6), (1, 7), (1, 10), (1, 11), (3, 3), (3, 4), (3, 8), (3, 9), (3, 12), (0, 13), (4, 14)] Ar zK (.lA J J J Cr J Bf mR (by (simp [Al, la]; done)) ?_)))
 refine .lA J J J Cr J Bf Z3 (by (simp [Al, lf]; done)) ?_
 refine .lA J J J Cr J Bf Z0 (by (simp [Al, lcr]; done)) ?_
 refine .lA J J J Cr J Bf mR (by (simp [Al, la]; done)) ?_
 refine .lA J J J Cr J Bf Z2 (by (simp [Al, lg]; done)) ?_
 refine .lA J J J Cr J Bf Z1 (by (simp [Al, lboth]; done)) ?_
 refine .lA J J J Cr J Bf Z3 (by (simp [Al, lf]; done)) ?_
 refine .lA J J J Cr J Bf Z2 (by (simp [Al, lg]; done)) ?_
 refine .cV J J J J Body197 (cfc) tV (.cV J J J J Body197 (cX) tV (.cV J J J J Body197 (cgb) tV (.cV J J J J Body197 (cY) tV (.cV J J J J Body197 (cZ) tV (.build (cs := (⟨X, Y, Z⟩ : far).cells) J J J (fun w => by kernel_rfl) ?_)))))
 refine .sA J J J J (far.isCell (by exact ⟨lX, lY, lZ⟩)) Sz180 (far.length (by exact ⟨lX, lY, lZ⟩)) mR (far.length (by exact far.zero_ok)) (by (repeat (first | exact upd0 | apply Upd.tail))) ?_
 refine .na (.ret (An ?_))
 refine ⟨_, [], Ao J J Tryz.underlying180 J Sz180 mR (by exact far.length (by exact ⟨lX, lY, lZ⟩)), sP, sP, ?_, rfl⟩
 rfl

theorem r5_near (p : far) (P : Pt Fp) (hp : FarRep p P) : Meets Tryz.prog 193 [agg (p).cells] [] (fun _ => True) (fun v out => v = agg (ptc P).cells ∧ out = []) := by
 intro W hW
 have hpo := hp.fit.ok
 have hpt := cv.far_pt hp.rep
 have h1 := r3_Close_v p.fZ hp.fit.z _ rfl
 have h2 := r3_Close_v p.fX hp.fit.x _ rfl
 have h3 := r3_Close_v p.fY hp.fit.y _ rfl
 have hi := r_inv (fe (v10 p.fZ))
 have e : P = ⟨fe (v10 p.fX) * finv (fe (v10 p.fZ)), fe (v10 p.fY) * finv (fe (v10 p.fZ))⟩ := hpt.symm
 rw [e]
 clear e hpt
 revert h1 h2 h3 hi
 generalize finv (fe (v10 p.fZ)) = iz
 generalize fe (v10 p.fZ) = z
 generalize fe (v10 p.fX) = x
 generalize fe (v10 p.fY) = y
 intro h1 h2 h3 hi
 refine Ab Tryz.func193 J 19 Tryz.ntmps193 J (.sr (.boxA J J ?_))
 intro n1 hn1 hf1
 refine .alloc (cs := Point.zero.cells) J Point.zr J ?_
 intro n2 hn2 hf2
 refine .nsr (.fld J J J Tryz.underlying180 J Bf dE _ J (.lN (Bq _) J J J Cr J Bf Z1 (far.row_fZ (by exact hpo)) (far.rl_fZ (by exact hpo)) ?_))
 refine .cV J J J J Body196 (h1) tV (.cV J J J J Body124 (hi) tV (.alloc (cs := (Aa (List.replicate 32 0))) J Bs J ?_))
 intro n3 hn3 hf3
 refine .sA J J J J zE Ad zF Z0 sP zU ?_
 refine .na (.seq (.draw [(0, 0), (1, 1), (1, 3), (0, 5), (1, 6), (1, 8), (3, 2), (3, 4), (3, 7), (3, 9), (0, 10), (4, 11)] Ar zK (.fld J J J Tryz.underlying180 J Bf dE _ J (.lN (Bq _) J J J Cr J Bf Z2 (far.row_fX (by exact hpo)) (far.rl_fX (by exact hpo)) ?_))))
 refine .lA J J J Y77 J Ad Z0 zF ?_
 refine .fld J J J Tryz.underlying180 J Bf dE _ J (.lN (Bq _) J J J Cr J Bf Z2 (far.row_fY (by exact hpo)) (far.rl_fY (by exact hpo)) ?_)
 refine .lA J J J Y77 J Ad Z0 zF ?_
 refine .cV J J J J Body196 (h2) tV (.cV J J J J Body122 (r_mul x iz) tV (.cV J J J J Body196 (h3) tV (.cV J J J J Body122 (r_mul y iz) tV (.build (cs := (ptc (⟨x * iz, y * iz⟩ : Pt Fp)).cells) J J J (fun w => by kernel_rfl) ?_))))
 refine .sA J J J J (Point.isCell zP) B9 (Point.length zP) Z1 (Point.length zZ) zV ?_
 refine .na (.ret (An ?_))
 refine ⟨_, [], Ao J J Y79 J B9 Z1 (by exact Point.length zP), sP, sP, ?_, rfl⟩
 rfl

theorem r5_away (P : Pt Fp) : Meets Tryz.prog 190 [agg (ptc P).cells] [] (fun _ => True) (fun v out => v = agg (awT P).cells ∧ out = []) := by
 intro W hW
 have h1 := r3_Open (fb P.x) (Aq _)
 have h2 := r3_Open (fb P.y) (Aq _)
 have h3 := r3_Open (fb 1) (Aq _)
 have lX := openT_length (le (fb P.x))
 have lY := openT_length (le (fb P.y))
 have lZ := openT_length (le (fb 1))
 unfold awT
 revert h1 h2 h3 lX lY lZ
 generalize openT (le (fb P.x)) = X
 generalize openT (le (fb P.y)) = Y
 generalize openT (le (fb 1)) = Z
 intro h1 h2 h3 lX lY lZ
 refine Ab Tryz.func190 J 12 Tryz.ntmps190 J (.sr (.boxA J J ?_))
 intro n1 hn1 hf1
 refine .alloc (cs := far.zero.cells) J far.zr J ?_
 intro n2 hn2 hf2
 refine .na (.seq (.draw [(0, 0), (1, 1), (0, 3), (1, 4), (3, 2), (3, 5), (3, 6), (3, 7), (0, 8), (4, 9)] Ar zK (.fld J J J Y79 J Ad dE _ J (.lN (Aa _) J J J Y77 J Ad Z1 (Point.row_fX zP) (Point.rl_fX zP) ?_))))
 refine .fld J J J Y79 J Ad dE _ J (.lN (Aa _) J J J Y77 J Ad Z1 (Point.row_fY zP) (Point.rl_fY zP) ?_)
 refine .cV J J J J Body188 (h1) tV (.cV J J J J Body188 (h2) tV (.cV J J J J Body123 (r_one) tV (.cV J J J J Body188 (h3) tV (.build (cs := (⟨X, Y, Z⟩ : far).cells) J J J (fun w => by kernel_rfl) ?_))))
 refine .sA J J J J (far.isCell (by exact ⟨lX, lY, lZ⟩)) Sz180 (far.length (by exact ⟨lX, lY, lZ⟩)) Z0 (far.length (by exact far.zero_ok)) zU ?_
 refine .na (.ret (An ?_))
 refine ⟨_, [], Ao J J Tryz.underlying180 J Sz180 Z0 (by exact far.length (by exact ⟨lX, lY, lZ⟩)), sP, sP, ?_, rfl⟩
 rfl

theorem r5_Neg (P : Pt Fp) (hP : cv.on P) : Meets Tryz.prog 116 [agg (ptc P).cells] [] (fun _ => True) (fun v out => v = agg (ptc (neg P)).cells ∧ out = []) := by
 intro W hW
 refine Ab Tryz.func116 J 13 Tryz.ntmps116 J (.sr (.boxA J J ?_))
 intro n1 hn1 hf1
 refine .alloc (cs := Point.zero.cells) J Point.zr J ?_
 intro n2 hn2 hf2
 refine .na (.seq (.sr (.lA J J J Y79 J B9 Z1 (Point.length zP) ?_)))
 refine .cV J J J J Body118 (r5_Check P hP) tV (.nei J J J J (show (!decide _) = false from congrArg not (decide_eq_true (rfl))) (.na (.cond_f J (rfl) (.skip (Ae (.seq (.draw [(0, 0), (1, 1), (0, 3), (1, 4), (3, 2), (0, 5), (4, 6)] Ar zK (.fld J J J Y79 J Ad dE _ J (.lN (Aa _) J J J Y77 J Ad Z1 (Point.row_fX zP) (Point.rl_fX zP) ?_)))))))))
 refine .fld J J J Y79 J Ad dE _ J (.lN (Aa _) J J J Y77 J Ad Z1 (Point.row_fY zP) (Point.rl_fY zP) ?_)
 refine .cV J J J J Body185 (r_neg P.x) tV (.build (cs := (ptc (neg P)).cells) J J J (fun w => by kernel_rfl) ?_)
 refine .sA J J J J (Point.isCell zP) B9 (Point.length zP) Z0 (Point.length zZ) zU ?_
 refine .na (.ret (An ?_))
 refine ⟨_, [], Ao J J Y79 J B9 Z0 (by exact Point.length zP), sP, sP, ?_, rfl⟩
 rfl

end Go.Proofs.YtpacobmjjjillaaGreat
end

section
namespace Go.Proofs.YtpacobmjjjillaaGreat
open Go Hw

open Ed

theorem byte_low : ∀ b : UInt8, UInt8.ofNat (b.toNat % 128) = b &&& 127 ∧ ((128 ≤ b.toNat) ↔ ¬ ((b &&& 128).toNat : Int) = 0) := by
  intro b
  have h : ∀ n, n < 256 → UInt8.ofNat ((UInt8.ofNat n).toNat % 128) = UInt8.ofNat n &&& 127 ∧ ((128 ≤ (UInt8.ofNat n).toNat) ↔ ¬ ((UInt8.ofNat n &&& 128).toNat : Int) = 0) := by decide
  have h2 := h b.toNat b.toNat_lt
  rwa [UInt8.ofNat_toNat] at h2
theorem byte_plus : ∀ b : UInt8, b.toNat < 128 → b + 128 = b ||| 128 := by
  intro b hb
  have h : ∀ n, n < 128 → UInt8.ofNat n + 128 = UInt8.ofNat n ||| 128 := by decide
  have h2 := h b.toNat hb
  rwa [UInt8.ofNat_toNat] at h2
theorem top_t5 {b : List UInt8} (h : (128 : Int) ≤ ((b.getD 31 0).toNat : Int)) : topB b = true := by
  have h1 := (byte_low (b.getD 31 0)).2.1 oM
  rw [topB, decide_eq_false h1]; rfl
theorem top_f5 {b : List UInt8} (h : ¬ (128 : Int) ≤ ((b.getD 31 0).toNat : Int)) : topB b = false := by
  have h1 : ((b.getD 31 0 &&& 128).toNat : Int) = 0 := by
    by_cases e : ((b.getD 31 0 &&& 128).toNat : Int) = 0
    · exact e
    · exact absurd ((byte_low (b.getD 31 0)).2.2 e) oM
  rw [topB, decide_eq_true h1]; rfl

theorem r5_Read (b : List UInt8) (hb : b.length = 32) : Meets Tryz.prog 112 [agg (Aa b)] [] (fun _ => True) (fun v out => v = rdV b ∧ out = []) := by
 intro W hW
 have hll := lowB_length hb
 obtain ⟨Y, hY⟩ : ∃ Y, fe (le (lowB b)) = Y := ⟨_, rfl⟩
 have hcan := r3_Canon (lowB b) hll
 have hroot := r5_root Y
 obtain ⟨xr, hxo⟩ : ∃ xr, xOf Y = xr := ⟨_, rfl⟩
 rw [hxo] at hroot
 rw [← hY] at hxo
 rw [hY] at hcan
 refine Ab Tryz.func112 J 42 Tryz.ntmps112 J (.sr (.boxA J J ?_))
 intro n1 hn1 hf1
 refine .alloc (cs := Point.zero.cells) J Point.zr J ?_
 intro n2 hn2 hf2
 refine .a J J J (.nsr (.lA J J J Y23 J Sz23 Z1 (by (simp [hb]; done)) ?_))
 refine .alloc (cs := (Aa (List.replicate 32 0))) J Bs J ?_
 intro n4 hn4 hf4
 refine .sA J J J J zE Ad (by (simp [hb]; done)) Z0 sP zU ?_
 refine .nsr (.i1 J J J J Y77 Sz5 31 J dE (.load1 J J J Y5 J Z0 zG ?_))
 refine two (fun r hr k => Tr.geq J J J J hr k) (fun hs2_20 => ?_) (fun hs2_20 => ?_)
 ·
  have hs2_2 := of_decide_eq_true hs2_20
  refine .a J J J (.nsr (.i1 J J J J Y77 Sz5 31 J dE (.load1 J J J Y5 J Z0 zG ?_)))
  refine .rem_u8 J J J J 128 J dE (.i1 J J J J Y77 Sz5 31 J dE ?_)
  rw [(byte_low _).1]
  refine .s1 J J J J J Sz5 Z0 (by (simp [hb]; done)) (by exact Bb _ _ _) zU ?_
  refine .na (.seq (.sr (.lA J J J Y77 J Ad Z0 (by (simp [hb]; done)) ?_)))
  refine .cV J J J J Body184 (hcan) tV (.not J J J (.na (.cond J (fun hc0 => ?_) (fun hc0 => ?_))))
  ·
   have hcn : ¬ fb Y = lowB b := of_decide_eq_false (by simpa using hc0)
   refine .sr (.build (cs := Point.zero.cells) J J J (fun w => by kernel_rfl) ?_)
   refine .sA J J J J (Point.isCell zZ) B9 (Point.length zZ) Z1 (Point.length zZ) zV ?_
   refine .a J J J (.na (.ret (Bg (An ?_))))
   refine ⟨_, [], A0 J J J Y79 J B9 Z1 (by exact Point.length zZ), sP, sP, ?_, rfl⟩
   exact (rdV_none (rd_n1 (by rw [hY]; exact hcn))).symm
  ·
   have hcy : fb Y = lowB b := of_decide_eq_true (by simpa using hc0)
   rw [show b.set 31 (b.getD 31 0 &&& 127) = fb Y from hcy.symm]
   refine .skip (Ae (.sr (.lA J J J Y77 J Ad Z0 zF ?_)))
   refine .cV J J J J Body125 (hroot) tV (.m J J J (.eX J J J J (.extractB J J J J (fun hs6_40 => ?_) (fun hs6_40 => ?_))))
   ·
    have hs6_4 := hs6_40
    refine .alloc (cs := (Aa (List.replicate 32 0))) J Bs J ?_
    intro n6 hn6 hf6
    refine .sA J J J J zE Ad zF Z0 sP zU ?_
    refine .a J J J (.na (.seq (.sr (.m J J J (.not J J J (.m J J J (.m J J J (.m J J J (.lA J J J Y77 J Ad Z0 zF ?_)))))))))
    refine .build (cs := Aa (List.replicate 32 0)) J J J (fun w => by kernel_rfl) ?_
    refine two (fun r hr k => Tr.eql_bytes J J J J Tryz.eqGuardType77 Y77 Y5 Sz5 zF sP hr k) (fun hs7_70 => ?_) (fun hs7_70 => ?_)
    ·
     have hs7_7 := of_decide_eq_true hs7_70
     refine .pick J J J J J J (.pick J J J J J J (.na (.cond_t J J (.sr (.build (cs := Point.zero.cells) J J J (fun w => by kernel_rfl) ?_)))))
     refine .sA J J J J (Point.isCell zZ) B9 (Point.length zZ) Z2 (Point.length zZ) (by exact upd2) ?_
     refine .a J J J (.na (.ret (Bg (An ?_))))
     refine ⟨_, [], A0 J J J Y79 J B9 Z2 (by exact Point.length zZ), sP, sP, ?_, rfl⟩
     exact (rdV_none (rd_n3 hxo (top_t5 hs2_2) hs7_7)).symm
    ·
     have hs7_7 := of_decide_eq_false hs7_70
     refine .pick J J J J J J (.pick J J J J J J (.na (.cond_f J J (.skip (Ae (.seq (.sr (.m J J J (.na (.cond_t J J (.region (.lA J J J Y77 J Ad Z0 zF ?_))))))))))))
     refine .cV J J J J Body185 (r_neg xr.1) tV (.sA J J J J zE Ad zF Z0 zF zU ?_)
     refine .nsr (.lA J J J Y77 J Ad Z0 zF ?_)
     refine .lA J J J Y77 J Ad Z1 zF ?_
     refine .build (cs := (⟨fb (-xr.1), fb Y⟩ : Point).cells) J J J (fun w => by kernel_rfl) ?_
     refine .sA J J J J (Point.isCell (by exact ⟨C3 _, C3 _⟩)) B9 (Point.length (by exact ⟨C3 _, C3 _⟩)) Z2 (Point.length zZ) (by exact upd2) ?_
     refine .a J J J (.na (.ret (An ?_)))
     refine ⟨_, [], A0 J J J Y79 J B9 Z2 (by exact Point.length (by exact ⟨C3 _, C3 _⟩)), sP, sP, ?_, rfl⟩
     (rw [rdV_some (rd_s1 (by rw [hY]; exact hcy) hxo hs6_4 (top_t5 hs2_2) hs7_7), hY]; rfl)
   ·
    have hs6_4 := hs6_40
    refine .alloc (cs := (Aa (List.replicate 32 0))) J Bs J ?_
    intro n6 hn6 hf6
    refine .sA J J J J zE Ad zF Z0 sP zU ?_
    refine .a J J J (.na (.seq (.sr (.m J J J (.not J J J (.m J J J (.skp J J (.skp J J (.skp J J (.skp J J (.skp J J (.skp J J (.pick J J J J J J (.na (.cond_t J J (.sr (.build (cs := Point.zero.cells) J J J (fun w => by kernel_rfl) ?_)))))))))))))))))
    refine .sA J J J J (Point.isCell zZ) B9 (Point.length zZ) Z2 (Point.length zZ) (by exact upd2) ?_
    refine .a J J J (.na (.ret (Bg (An ?_))))
    refine ⟨_, [], A0 J J J Y79 J B9 Z2 (by exact Point.length zZ), sP, sP, ?_, rfl⟩
    exact (rdV_none (rd_n2 hxo hs6_4)).symm
 ·
  have hs2_2 := of_decide_eq_false hs2_20
  refine .a J J J (.nsr (.i1 J J J J Y77 Sz5 31 J dE (.load1 J J J Y5 J Z0 zG ?_)))
  refine .rem_u8 J J J J 128 J dE (.i1 J J J J Y77 Sz5 31 J dE ?_)
  rw [(byte_low _).1]
  refine .s1 J J J J J Sz5 Z0 (by (simp [hb]; done)) (by exact Bb _ _ _) zU ?_
  refine .na (.seq (.sr (.lA J J J Y77 J Ad Z0 (by (simp [hb]; done)) ?_)))
  refine .cV J J J J Body184 (hcan) tV (.not J J J (.na (.cond J (fun hc0 => ?_) (fun hc0 => ?_))))
  ·
   have hcn : ¬ fb Y = lowB b := of_decide_eq_false (by simpa using hc0)
   refine .sr (.build (cs := Point.zero.cells) J J J (fun w => by kernel_rfl) ?_)
   refine .sA J J J J (Point.isCell zZ) B9 (Point.length zZ) Z1 (Point.length zZ) zV ?_
   refine .a J J J (.na (.ret (Bg (An ?_))))
   refine ⟨_, [], A0 J J J Y79 J B9 Z1 (by exact Point.length zZ), sP, sP, ?_, rfl⟩
   exact (rdV_none (rd_n1 (by rw [hY]; exact hcn))).symm
  ·
   have hcy : fb Y = lowB b := of_decide_eq_true (by simpa using hc0)
   rw [show b.set 31 (b.getD 31 0 &&& 127) = fb Y from hcy.symm]
   refine .skip (Ae (.sr (.lA J J J Y77 J Ad Z0 zF ?_)))
   refine .cV J J J J Body125 (hroot) tV (.m J J J (.eX J J J J (.extractB J J J J (fun hs6_40 => ?_) (fun hs6_40 => ?_))))
   ·
    have hs6_4 := hs6_40
    refine .alloc (cs := (Aa (List.replicate 32 0))) J Bs J ?_
    intro n6 hn6 hf6
    refine .sA J J J J zE Ad zF Z0 sP zU ?_
    refine .a J J J (.na (.seq (.sr (.m J J J (.not J J J (.m J J J (.m J J J (.m J J J (.skp J J (.skp J J (.skp J J (.pick J J J J J J (.pick J J J J J J (.na (.cond_f J J (.skip (Ae (.seq (.sr (.m J J J (.na (.cond_f J J (.skip (Ae (.sr (.lA J J J Y77 J Ad Z0 zF ?_))))))))))))))))))))))))))
    refine .lA J J J Y77 J Ad Z1 zF ?_
    refine .build (cs := (⟨fb xr.1, fb Y⟩ : Point).cells) J J J (fun w => by kernel_rfl) ?_
    refine .sA J J J J (Point.isCell (by exact ⟨C3 _, C3 _⟩)) B9 (Point.length (by exact ⟨C3 _, C3 _⟩)) Z2 (Point.length zZ) (by exact upd2) ?_
    refine .a J J J (.na (.ret (An ?_)))
    refine ⟨_, [], A0 J J J Y79 J B9 Z2 (by exact Point.length (by exact ⟨C3 _, C3 _⟩)), sP, sP, ?_, rfl⟩
    (rw [rdV_some (rd_s2 (by rw [hY]; exact hcy) hxo hs6_4 (top_f5 hs2_2)), hY]; rfl)
   ·
    have hs6_4 := hs6_40
    refine .alloc (cs := (Aa (List.replicate 32 0))) J Bs J ?_
    intro n6 hn6 hf6
    refine .sA J J J J zE Ad zF Z0 sP zU ?_
    refine .a J J J (.na (.seq (.sr (.m J J J (.not J J J (.m J J J (.skp J J (.skp J J (.skp J J (.skp J J (.skp J J (.skp J J (.pick J J J J J J (.na (.cond_t J J (.sr (.build (cs := Point.zero.cells) J J J (fun w => by kernel_rfl) ?_)))))))))))))))))
    refine .sA J J J J (Point.isCell zZ) B9 (Point.length zZ) Z2 (Point.length zZ) (by exact upd2) ?_
    refine .a J J J (.na (.ret (Bg (An ?_))))
    refine ⟨_, [], A0 J J J Y79 J B9 Z2 (by exact Point.length zZ), sP, sP, ?_, rfl⟩
    exact (rdV_none (rd_n2 hxo hs6_4)).symm

end Go.Proofs.YtpacobmjjjillaaGreat
end

section
namespace Go.Proofs.YtpacobmjjjillaaGreat
open Go Hw

open Ed

theorem lin_d {a b j : Nat} (hj : j < 256) : a / 2 ^ (256 - (j + 1)) = 2 * (a / 2 ^ (256 - j)) + a / 2 ^ (255 - j) % 2 := next_div a j hj
theorem frep_dbl {d : List Nat} {p : far} {P Q : Pt Fp} (hd : Fit10 d) (hdv : fe (v10 d) = fD) (hP : cv.on P) (hQ : cv.on Q) {A B : Nat} (h : FarRep p (cv.lin A B P Q)) : FarRep (frT d p p) (cv.lin (2 * A) (2 * B) P Q) := by
  rw [cv.lin_two hP hQ]
  exact FarRep.add hd hdv h h (cv.on_lin hP hQ _ _) (cv.on_lin hP hQ _ _)
theorem frep_l {d : List Nat} {p x : far} {P Q : Pt Fp} (hd : Fit10 d) (hdv : fe (v10 d) = fD) (hP : cv.on P) (hQ : cv.on Q) {A B t : Nat} (h : FarRep p (cv.lin A B P Q)) (hx : FarRep x P) (ht : t = 1) : FarRep (frT d p x) (cv.lin (A + t) B P Q) := by
  rw [ht, cv.lin_left hP hQ]
  exact FarRep.add hd hdv h hx (cv.on_lin hP hQ _ _) hP
theorem frep_r {d : List Nat} {p x : far} {P Q : Pt Fp} (hd : Fit10 d) (hdv : fe (v10 d) = fD) (hP : cv.on P) (hQ : cv.on Q) {A B t : Nat} (h : FarRep p (cv.lin A B P Q)) (hx : FarRep x Q) (ht : t = 1) : FarRep (frT d p x) (cv.lin A (B + t) P Q) := by
  rw [ht, cv.lin_right hP hQ]
  exact FarRep.add hd hdv h hx (cv.on_lin hP hQ _ _) hQ
theorem frep_first (a b : List UInt8) (ha : a.length = 32) (hb : b.length = 32) (P Q : Pt Fp) : FarRep (awT (zero : Pt Fp)) (cv.lin (le a / 2 ^ (256 - 0)) (le b / 2 ^ (256 - 0)) P Q) := by
  have h1 := le32 ha
  have h2 := le32 hb
  rw [show 256 - 0 = 256 from rfl, Nat.div_eq_of_lt h1, Nat.div_eq_of_lt h2, cv.lin_zero]
  exact awT_rep zero
theorem bit_one {E j : Nat} (h : E.testBit j = true) : E / 2 ^ j % 2 = 1 := by have := test_div E j true h; rwa [if_pos rfl] at this
theorem bit_nil {E j : Nat} (h : E.testBit j = false) : E / 2 ^ j % 2 = 0 := by have := test_div E j false h; rwa [if_neg dE] at this

theorem r5_Mul2 (a b : List UInt8) (P Q : Pt Fp) (ha : a.length = 32) (hb : b.length = 32) (hP : cv.on P) (hQ : cv.on Q) : Meets Tryz.prog 114 [agg (Aa a), agg (ptc P).cells, agg (Aa b), agg (ptc Q).cells] [] (fun _ => True) (fun v out => v = agg (ptc (cv.lin (le a) (le b) P Q)).cells ∧ out = []) := by
 intro W hW
 have hDf := dT_fit
 have hDv := dT_v
 have hod := r5_openD
 revert hDf hDv hod
 generalize dT = D
 intro hDf hDv hod
 have hDl := hDf.len
 have hAP := awT_rep P
 have hAQ := awT_rep Q
 have hAZ := frep_first a b ha hb P Q
 have cP := r5_away P
 have cQ := r5_away Q
 have cZ := r5_away (zero : Pt Fp)
 revert hAP hAQ hAZ cP cQ cZ
 generalize awT P = AP
 generalize awT Q = AQ
 generalize awT (zero : Pt Fp) = AZ
 intro hAP hAQ hAZ cP cQ cZ
 have hAPo := hAP.fit.ok
 have hAQo := hAQ.fit.ok
 have hAZo := hAZ.fit.ok
 have huo : True := trivial
 have hwo : True := trivial
 have hxo : True := trivial
 refine Ab Tryz.func114 J 55 Tryz.ntmps114 J (.sr (.boxA J J ?_))
 intro n4 hn4 hf4
 refine .boxA J J ?_
 intro n5 hn5 hf5
 refine .boxA J J ?_
 intro n6 hn6 hf6
 refine .boxA J J ?_
 intro n7 hn7 hf7
 refine .alloc (cs := Point.zero.cells) J Point.zr J ?_
 intro n8 hn8 hf8
 refine .na (.seq (.sr (.lA J J J Y79 J B9 Z3 (Point.length zP) ?_)))
 refine .cV J J J J Body118 (r5_Check P hP) tV (.nei J J J J (show (!decide _) = false from congrArg not (decide_eq_true (rfl))) (.m J J J (.lA J J J Y79 J B9 Z1 (Point.length zP) ?_)))
 refine .cV J J J J Body118 (r5_Check Q hQ) tV (.nei J J J J (show (!decide _) = false from congrArg not (decide_eq_true (rfl))) (.pick J J J J J J (.na (.cond_f J J (.skip (Ae (.seq (.draw [(1, 4), (1, 6), (3, 0), (3, 1), (3, 2), (3, 3), (3, 5), (3, 7), (2, 8), (2, 9), (2, 10), (2, 11), (4, 12), (4, 13), (4, 14), (4, 15)] Ar zK (.lA J J J Y79 J B9 Z3 (Point.length zP) ?_)))))))))
 refine .lA J J J Y79 J B9 Z1 (Point.length zP) ?_
 refine .cV J J J J Body189 (r5_D) tV (.cV J J J J Body188 (hod) tV (.cV J J J J Body120 (r5_Zero) tV (.cV J J J J Body190 (cZ) tV (.cV J J J J Body190 (cP) tV (.cV J J J J Body190 (cQ) tV (.alloc (cs := (Ca (List.replicate 10 0))) J Zr177 J ?_))))))
 intro n9 hn9 hf9
 refine .alloc (cs := far.zero.cells) J far.zr J ?_
 intro n10 hn10 hf10
 refine .alloc (cs := far.zero.cells) J far.zr J ?_
 intro n11 hn11 hf11
 refine .alloc (cs := far.zero.cells) J far.zr J ?_
 intro n12 hn12 hf12
 refine .sA J J J J (by exact Cs _) Bf (by (simp [Al, hDl]; done)) Z3 sP (by exact upd3) ?_
 refine .sA J J J J (far.isCell (by exact hAZo)) Sz180 (far.length (by exact hAZo)) Z2 (far.length (by exact far.zero_ok)) (by exact upd2) ?_
 refine .sA J J J J (far.isCell (by exact hAPo)) Sz180 (far.length (by exact hAPo)) Z1 (far.length (by exact far.zero_ok)) zV ?_
 refine .sA J J J J (far.isCell (by exact hAQo)) Sz180 (far.length (by exact hAQo)) Z0 (far.length (by exact far.zero_ok)) zU ?_
 refine .na (.seq (.sr (.a J J J (.na (.block (.loop (ι := Nat × far) (fun p => ⟨[(4, ptr n4 0), (6, ptr n6 0), (8, ptr n8 0), (9, ptr n9 0), (10, ptr n10 0), (11, ptr n11 0), (12, ptr n12 0), (13, i64 (255 - (p.1 : Int)))], [⟨n12, (AQ).cells, 180, 30⟩, ⟨n11, (AP).cells, 180, 30⟩, ⟨n10, (p.2).cells, 180, 30⟩, ⟨n9, Bq D, 177, 10⟩, ⟨n8, Point.zero.cells, 79, 64⟩, ⟨n6, Aa b, 77, (Aa b).length⟩, ⟨n4, Aa a, 77, (Aa a).length⟩]⟩) (fun p => p.1 ≤ 256 ∧ FarRep p.2 (cv.lin (le a / 2 ^ (256 - p.1)) (le b / 2 ^ (256 - p.1)) P Q)) (fun p => 256 - p.1) ((0, AZ)) ?_ ?_ ?_))))))
 · exact ⟨Nat.zero_le _, hAZ⟩
 · exact Ac (wk1 rfl (wk1 rfl (wk1 rfl (wk1 rfl (wk1 rfl (wk1 rfl (wk1 rfl (wk1 rfl wk0)))))))) (wh1 Z0 (wh1 Z1 (wh1 Z2 (wh1 Z3 (wh1 Z4 (wh1 (by exact mem6) (wh1 mR wh0))))))) nD
 ·
  rintro p ⟨hj1, hw⟩
  have hwo := hw.fit.ok
  refine .seq (.sr (.m J J J (.geq J J J J J (.na (.condP J (fun hc1 => ?_) (fun hc1 => ?_))))))
  ·
   have hj3 : p.1 < 256 := by omega
   have hu := frep_dbl hDf hDv hP hQ hw
   have cd := r5_plus D p.2 p.2 hDf hw.fit hw.fit
   revert hu cd
   generalize frT D p.2 p.2 = F1
   intro hu cd
   have huo := hu.fit.ok
   rw [show (255 : Int) - (p.1 : Int) = ((255 - p.1 : Nat) : Int) by omega]
   refine .skip (Ae (.join (ι := far) (fun y => ⟨[(4, ptr n4 0), (6, ptr n6 0), (8, ptr n8 0), (9, ptr n9 0), (10, ptr n10 0), (11, ptr n11 0), (12, ptr n12 0), (13, i64 (((255 - p.1 : Nat) : Int)))], [⟨n12, (AQ).cells, 180, 30⟩, ⟨n11, (AP).cells, 180, 30⟩, ⟨n10, (y).cells, 180, 30⟩, ⟨n9, Bq D, 177, 10⟩, ⟨n8, Point.zero.cells, 79, 64⟩, ⟨n6, Aa b, 77, (Aa b).length⟩, ⟨n4, Aa a, 77, (Aa a).length⟩]⟩) (fun y => FarRep y (cv.lin (le a / 2 ^ (256 - (p.1 + 1))) (le b / 2 ^ (256 - (p.1 + 1))) P Q)) ?_ ?_))
   ·
    refine .block (.sr (.lA J J J Cr J Bf Z3 (by (simp [Al, hDl]; done)) ?_))
    refine .lA J J J Tryz.underlying180 J Sz180 Z2 (far.length (by exact hwo)) ?_
    refine .lA J J J Tryz.underlying180 J Sz180 Z2 (far.length (by exact hwo)) ?_
    refine .cV J J J J Body191 (cd) tV (.sA J J J J (far.isCell (by exact huo)) Sz180 (far.length (by exact huo)) Z2 (far.length (by exact hwo)) (by exact upd2) ?_)
    refine .na (.join (ι := far) (fun x => ⟨[(4, ptr n4 0), (6, ptr n6 0), (8, ptr n8 0), (9, ptr n9 0), (10, ptr n10 0), (11, ptr n11 0), (12, ptr n12 0), (13, i64 (((255 - p.1 : Nat) : Int)))], [⟨n12, (AQ).cells, 180, 30⟩, ⟨n11, (AP).cells, 180, 30⟩, ⟨n10, (x).cells, 180, 30⟩, ⟨n9, Bq D, 177, 10⟩, ⟨n8, Point.zero.cells, 79, 64⟩, ⟨n6, Aa b, 77, (Aa b).length⟩, ⟨n4, Aa a, 77, (Aa a).length⟩]⟩) (fun x => FarRep x (cv.lin (2 * (le a / 2 ^ (256 - p.1)) + le a / 2 ^ (255 - p.1) % 2) (2 * (le b / 2 ^ (256 - p.1))) P Q)) ?_ ?_)
    ·
     refine .sr (.lA J J J Y77 J Ad (by exact mem6) (by (simp [ha]; done)) ?_)
     refine .m J J J (.cV J J J J Body192 (ref_bit_at a ha (255 - p.1) oM) tV (.na (.cond J (fun hc2 => ?_) (fun hc2 => ?_))))
     ·
      have ca := r5_plus D F1 AP hDf hu.fit hAP.fit
      have hul := frep_l hDf hDv hP hQ hu hAP (bit_one hc2)
      revert ca hul
      generalize frT D F1 AP = F2
      intro ca hul
      have hulo := hul.fit.ok
      refine .region (.lA J J J Cr J Bf Z3 (by (simp [Al, hDl]; done)) ?_)
      refine .lA J J J Tryz.underlying180 J Sz180 Z2 (far.length (by exact huo)) ?_
      refine .lA J J J Tryz.underlying180 J Sz180 Z1 (far.length (by exact hAPo)) ?_
      refine .cV J J J J Body191 (ca) tV (.sA J J J J (far.isCell (by exact hulo)) Sz180 (far.length (by exact hulo)) Z2 (far.length (by exact huo)) (by exact upd2) ?_)
      refine .na ?_
      exact ⟨F2, hul, Ac (wk1 rfl (wk1 rfl (wk1 rfl (wk1 rfl (wk1 rfl (wk1 rfl (wk1 rfl (wk1 rfl wk0)))))))) (wh1 Z0 (wh1 Z1 (wh1 Z2 (wh1 Z3 (wh1 Z4 (wh1 (by exact mem5) (wh1 (by exact mem6) wh0))))))) nD⟩
     ·
      refine .skip (Ae ?_)
      exact ⟨F1, (by rw [bit_nil hc2, Nat.add_zero]; exact hu), Ac (wk1 rfl (wk1 rfl (wk1 rfl (wk1 rfl (wk1 rfl (wk1 rfl (wk1 rfl (wk1 rfl wk0)))))))) (wh1 Z0 (wh1 Z1 (wh1 Z2 (wh1 Z3 (wh1 Z4 (wh1 (by exact mem5) (wh1 (by exact mem6) wh0))))))) nD⟩
    ·
     intro x hj
     have hx := hj
     have hxo := hx.fit.ok
     refine .sr (.lA J J J Y77 J Ad (by exact mem5) (by (simp [hb]; done)) ?_)
     refine .m J J J (.cV J J J J Body192 (ref_bit_at b hb (255 - p.1) oM) tV (.na (.cond J (fun hc3 => ?_) (fun hc3 => ?_))))
     ·
      have cx := r5_plus D x AQ hDf hx.fit hAQ.fit
      have hxr := frep_r hDf hDv hP hQ hx hAQ (bit_one hc3)
      revert cx hxr
      generalize frT D x AQ = F3
      intro cx hxr
      have hxro := hxr.fit.ok
      refine .region (.lA J J J Cr J Bf Z3 (by (simp [Al, hDl]; done)) ?_)
      refine .lA J J J Tryz.underlying180 J Sz180 Z2 (far.length (by exact hxo)) ?_
      refine .lA J J J Tryz.underlying180 J Sz180 Z0 (far.length (by exact hAQo)) ?_
      refine .cV J J J J Body191 (cx) tV (.sA J J J J (far.isCell (by exact hxro)) Sz180 (far.length (by exact hxro)) Z2 (far.length (by exact hxo)) (by exact upd2) ?_)
      refine .nil (Bj (Ae ?_))
      exact ⟨F3, (by rw [lin_d (b := 0) hj3, lin_d (b := 0) hj3]; exact hxr), Ac (wk1 rfl (wk1 rfl (wk1 rfl (wk1 rfl (wk1 rfl (wk1 rfl (wk1 rfl (wk1 rfl wk0)))))))) (wh1 Z0 (wh1 Z1 (wh1 Z2 (wh1 Z3 (wh1 Z4 (wh1 (by exact mem5) (wh1 (by exact mem6) wh0))))))) nD⟩
     ·
      refine .skip (Bj (Ae ?_))
      exact ⟨x, (by rw [lin_d (b := 0) hj3, lin_d (b := 0) hj3, bit_nil (E := le b) hc3, Nat.add_zero]; exact hx), Ac (wk1 rfl (wk1 rfl (wk1 rfl (wk1 rfl (wk1 rfl (wk1 rfl (wk1 rfl (wk1 rfl wk0)))))))) (wh1 Z0 (wh1 Z1 (wh1 Z2 (wh1 Z3 (wh1 Z4 (wh1 (by exact mem5) (wh1 (by exact mem6) wh0))))))) nD⟩
   ·
    intro y hj
    have hy := hj
    have hyo := hy.fit.ok
    refine .region (.m J J J (.sub_i64 J J J J oM (.a J J J (.na ?_))))
    exact ⟨(p.1 + 1, y), ⟨by simp only []; omega, hy⟩, by simp only []; omega, Ac (wk1 rfl (wk1 rfl (wk1 rfl (wk1 rfl (wk1 rfl (wk1 rfl (wk1 rfl (wk1 (congrArg (fun z => some (i64 z)) (show ((255 - p.1 : Nat) : Int) - 1 = 255 - ((p.1 + 1 : Nat) : Int) by omega)) wk0)))))))) (wh1 Z0 (wh1 Z1 (wh1 Z2 (wh1 Z3 (wh1 Z4 (wh1 (by exact mem5) (wh1 (by exact mem6) wh0))))))) nD⟩
  ·
   have hje : p.1 = 256 := by omega
   have hfin : FarRep p.2 (cv.lin (le a) (le b) P Q) := by rw [hje, lin_last] at hw; exact hw
   refine .exit (A1 (A1 (B5 (Ae (.sr (.lA J J J Tryz.underlying180 J Sz180 Z2 (far.length (by exact hwo)) ?_))))))
   refine .cV J J J J Body193 (r5_near p.2 _ hfin) tV (.sA J J J J (Point.isCell zP) B9 (Point.length zP) Z4 (Point.length zZ) (by exact upd4) ?_)
   refine .na (.ret (An ?_))
   refine ⟨_, [], Ao J J Y79 J B9 Z4 (by exact Point.length zP), sP, sP, ?_, rfl⟩
   rfl

theorem r5_Mul2z (a : List UInt8) (P : Pt Fp) (ha : a.length = 32) (hP : cv.on P) : Meets Tryz.prog 114 [agg (Aa a), agg (ptc P).cells, agg (Aa (List.replicate 32 0)), agg (ptc (zero : Pt Fp)).cells] [] (fun _ => True) (fun v out => v = agg (ptc (cv.mul (le a) P)).cells ∧ out = []) := by
  have h := r5_Mul2 a (List.replicate 32 0) P zero ha rfl hP cv.on_zero
  rwa [le_zero32, lin_one] at h

theorem r5_Mul (a : List UInt8) (P : Pt Fp) (ha : a.length = 32) (hP : cv.on P) : Meets Tryz.prog 65 [agg (Aa a), agg (ptc P).cells] [] (fun _ => True) (fun v out => v = agg (ptc (cv.mul (le a) P)).cells ∧ out = []) := by
 intro W hW
 refine Ab Tryz.func65 J 10 Tryz.ntmps65 J (.sr (.boxA J J ?_))
 intro n2 hn2 hf2
 refine .boxA J J ?_
 intro n3 hn3 hf3
 refine .alloc (cs := Point.zero.cells) J Point.zr J ?_
 intro n4 hn4 hf4
 refine .na (.seq (.draw [(1, 0), (1, 1), (0, 2), (3, 3), (3, 4), (4, 5)] Ar zK (.lA J J J Y77 J Ad Z2 (by (simp [ha]; done)) ?_)))
 refine .lA J J J Y79 J B9 Z1 (Point.length zP) ?_
 refine .build (cs := Aa (List.replicate 32 0)) J J J (fun w => by kernel_rfl) ?_
 refine .cV J J J J Body120 (r5_Zero) tV (.cV J J J J Body114 (r5_Mul2z a P ha hP) tV (.sA J J J J (Point.isCell zP) B9 (Point.length zP) Z0 (Point.length zZ) zU ?_))
 refine .na (.ret (An ?_))
 refine ⟨_, [], Ao J J Y79 J B9 Z0 (by exact Point.length zP), sP, sP, ?_, rfl⟩
 rfl

theorem r5_Bytes (P : Pt Fp) (hP : cv.on P) : Meets Tryz.prog 64 [agg (ptc P).cells] [] (fun _ => True) (fun v out => v = .tuple #[agg (Aa (pb P)), i64 0] ∧ out = []) := by
 intro W hW
 refine Ab Tryz.func64 J 19 Tryz.ntmps64 J (.sr (.boxA J J ?_))
 intro n1 hn1 hf1
 refine .alloc (cs := (Aa (List.replicate 32 0))) J Zr23 J ?_
 intro n2 hn2 hf2
 refine .a J J J (.na (.seq (.sr (.lA J J J Y79 J B9 Z1 (Point.length zP) ?_))))
 refine .cV J J J J Body118 (r5_Check P hP) tV (.nei J J J J (show (!decide _) = false from congrArg not (decide_eq_true (rfl))) (.na (.cond_f J (rfl) (.skip (Ae (.sr (.fld J J J Y79 J Ad dE _ J (.lN (Aa _) J J J Y77 J Ad Z1 (Point.row_fY zP) (Point.rl_fY zP) ?_))))))))
 refine .alloc (cs := (Aa (List.replicate 32 0))) J Zr23 J ?_
 intro n4 hn4 hf4
 refine .sA J J J J zE Sz23 (by (simp [Aq, ptc_y]; done)) Z0 sP zU ?_
 refine .na (.join (ι := Unit) (fun _u => ⟨[(2, ptr n2 0), (4, ptr n4 0)], [⟨n4, Aa (pb P), 23, 32⟩, ⟨n2, Aa (List.replicate 32 0), 23, 32⟩]⟩) (fun _u => True) ?_ ?_)
 ·
  refine .sr (.fld J J J Y79 J Ad dE _ J (.lN (Aa _) J J J Y77 J Ad Z2 (Point.row_fX zP) (Point.rl_fX zP) ?_))
  refine .cV J J J J Body119 (r_odd P.x) tV (.na (.condP J (fun hc1 => ?_) (fun hc1 => ?_)))
  ·
   refine .region (.i1 J J J J Y23 Sz5 31 J dE (.load1 J J J Y5 J Z0 (B0 (by show 31 < (fb P.y).length; rw [Aq]; decide)) ?_))
   refine .add_u8 J J J (show Ah _ _ = some (u8 128) from rfl) (.i1 J J J J Y23 Sz5 31 J dE ?_)
   rw [show ((ptc P).fY.getD 31 0 + 128 : UInt8) = (fb P.y).getD 31 0 ||| 128 from byte_plus _ (fb_top P.y)]
   refine .s1 J J J J J Sz5 Z0 (by (simp [Aq, ptc_y]; done)) (by exact Bb _ _ _) zU ?_
   refine .na ?_
   (rw [show pb P = (fb P.y).set 31 ((fb P.y).getD 31 0 ||| 128) from if_pos hc1]; exact ⟨(), trivial, Ac (wk1 rfl (wk1 rfl wk0)) (wh1 Z0 (wh1 Z1 wh0)) nD⟩)
  ·
   refine .skip (Ae ?_)
   (rw [show pb P = fb P.y from if_neg hc1]; exact ⟨(), trivial, Ac (wk1 rfl (wk1 rfl wk0)) (wh1 Z0 (wh1 Z1 wh0)) nD⟩)
 ·
  intro _u hj
  skip
  refine .sr (.lA J J J Y23 J Sz23 Z0 (by (simp [Bz]; done)) ?_)
  refine .sA J J J J zE Sz23 (by (simp [Bz]; done)) Z1 sP zV ?_
  refine .a J J J (.na (.ret (An ?_)))
  refine ⟨_, [], A0 J J J Y23 J Sz23 Z1 (by simp [Bz]), sP, sP, ?_, rfl⟩
  rfl

end Go.Proofs.YtpacobmjjjillaaGreat
end

section
namespace Hw
open Go
set_option maxRecDepth 100000

def ev : List Nat → Nat
  | [] => 0
  | x :: l => x + 256 * ev l
def addC (l : List Nat) (k v : Nat) : List Nat := l.set k (l.getD k 0 + v)
theorem addC_length (l : List Nat) (k v : Nat) : (addC l k v).length = l.length := by simp [addC]
theorem ev_addC : ∀ (l : List Nat) (k v : Nat), k < l.length → ev (addC l k v) = ev l + v * 256 ^ k
  | [], _, _, h => by simp at h
  | x :: l, 0, v, _ => by simp [addC, ev]; omega
  | x :: l, k + 1, v, h => by
    have := ev_addC l k v (by simpa using h)
    simp only [addC, List.set_cons_succ, List.getD_cons_succ, ev] at this ⊢
    rw [this, Nat.pow_succ, Nat.mul_add, Nat.add_assoc, ← Nat.mul_assoc v, Nat.mul_comm (v * 256 ^ k) 256]
def inn (a b : List UInt8) (i : Nat) (l : List Nat) : Nat → List Nat
  | 0 => l
  | q + 1 => addC (inn a b i l q) (i + q) ((a.getD i 0).toNat * (b.getD q 0).toNat)
theorem inn_length (a b : List UInt8) (i : Nat) (l : List Nat) : ∀ q, (inn a b i l q).length = l.length
  | 0 => rfl
  | q + 1 => by rw [inn, addC_length, inn_length a b i l q]
def out (a b : List UInt8) : Nat → List Nat
  | 0 => List.replicate 64 0
  | p + 1 => inn a b p (out a b p) 32
theorem out_length (a b : List UInt8) : ∀ p, (out a b p).length = 64
  | 0 => by simp [out]
  | p + 1 => by rw [out, inn_length, out_length a b p]
theorem ev_inn (a b : List UInt8) (i : Nat) (l : List Nat) (hb : b.length = 32) (hi : i < 32) (hl : l.length = 64) : ∀ q, q ≤ 32 → ev (inn a b i l q) = ev l + (a.getD i 0).toNat * 256 ^ i * le (b.take q)
  | 0, _ => by simp [inn, le]
  | q + 1, h => by
    rw [inn, ev_addC _ _ _ (by rw [inn_length]; omega), ev_inn a b i l hb hi hl q oM, le_take_succ b q oM, Nat.mul_add, Nat.add_assoc, Nat.pow_add]
    congr 2
    rw [Nat.mul_assoc, Nat.mul_assoc, Nat.mul_comm (b.getD q 0).toNat, Nat.mul_assoc]
theorem ev_zeros : ∀ k, ev (List.replicate k 0) = 0
  | 0 => rfl
  | k + 1 => by simp [List.replicate, ev, ev_zeros k]
theorem ev_out (a b : List UInt8) (ha : a.length = 32) (hb : b.length = 32) : ∀ p, p ≤ 32 → ev (out a b p) = le (a.take p) * le b
  | 0, _ => by rw [out, ev_zeros, List.take_zero, le, Nat.zero_mul]
  | p + 1, h => by
    rw [out, ev_inn a b p _ hb oM (out_length a b p) 32 oM, ev_out a b ha hb p oM, le_take_succ a p oM, List.take_of_length_le (l := b) oM, Nat.add_mul, Nat.mul_comm (256 ^ p)]
theorem addC_le (l : List Nat) (k v M N : Nat) (h : ∀ j, l.getD j 0 ≤ M) (hv : v ≤ N) : ∀ j, (addC l k v).getD j 0 ≤ M + N := fun j => by
  have hj := h j
  have hk := h k
  simp only [addC, List.getD_eq_getElem?_getD, List.getElem?_set] at *
  by_cases e : k = j
  · subst e
    rw [if_pos rfl]
    split
    · simp only [Option.getD_some]; omega
    · simp
  · rw [if_neg e]; omega
theorem inn_le' (a b : List UInt8) (i : Nat) (l : List Nat) (M K : Nat) (hK : K = 255 * 255) (h : ∀ j, l.getD j 0 ≤ M) : ∀ q j, (inn a b i l q).getD j 0 ≤ M + K * q
  | 0, j => by simpa [inn] using h j
  | q + 1, j => by
    have hx := (a.getD i 0).toNat_lt
    have hy := (b.getD q 0).toNat_lt
    have hm : (a.getD i 0).toNat * (b.getD q 0).toNat ≤ K := by rw [hK]; exact Nat.mul_le_mul oM oM
    have := addC_le _ (i + q) _ _ _ (inn_le' a b i l M K hK h q) hm j
    rw [inn, Nat.mul_add, Nat.mul_one, ← Nat.add_assoc]
    exact this
theorem inn_le (a b : List UInt8) (i : Nat) (l : List Nat) (M : Nat) (h : ∀ j, l.getD j 0 ≤ M) (q j : Nat) : (inn a b i l q).getD j 0 ≤ M + 65025 * q := inn_le' a b i l M 65025 rfl h q j
theorem out_le' (a b : List UInt8) (K : Nat) (hK : K = 65025 * 32) : ∀ p j, (out a b p).getD j 0 ≤ K * p
  | 0, j => by
    rw [out, List.getD_eq_getElem?_getD, List.getElem?_replicate]
    split
    · rw [Option.getD_some]; exact Nat.zero_le _
    · rw [Option.getD_none]; exact Nat.zero_le _
  | p + 1, j => by
    have := inn_le a b p (out a b p) _ (out_le' a b K hK p) 32 j
    rw [out, Nat.mul_add, Nat.mul_one]
    rw [← hK] at this
    exact this
theorem out_le (a b : List UInt8) (p j : Nat) : (out a b p).getD j 0 ≤ 2080800 * p := out_le' a b 2080800 rfl p j
theorem ev_take_succ : ∀ (l : List Nat) (k : Nat), k < l.length → ev (l.take (k + 1)) = ev (l.take k) + 256 ^ k * l.getD k 0
  | [], _, h => by simp at h
  | x :: l, 0, _ => by simp [ev]
  | x :: l, k + 1, h => by
    have := ev_take_succ l k (by simpa using h)
    simp only [List.take_succ_cons, ev, List.getD_cons_succ] at this ⊢
    rw [this, Nat.mul_add, Nat.pow_succ, Nat.add_assoc, Nat.mul_comm (256 ^ k) 256, Nat.mul_assoc]
theorem ev_take_le (l : List Nat) (M : Nat) (h : ∀ j, l.getD j 0 ≤ M) : ∀ k, ev (l.take k) / 256 ^ k ≤ M
  | 0 => by simp [ev]
  | k + 1 => by
    rcases Nat.lt_or_ge k l.length with hk | hk
    · rw [ev_take_succ l k hk, Nat.pow_succ, ← Nat.div_div_eq_div_mul, Nat.add_mul_div_left _ _ (Nat.pow_pos dE)]
      have h1 := ev_take_le l M h k
      have h2 := h k
      omega
    · have h1 := ev_take_le l M h k
      rw [List.take_of_length_le oM, Nat.pow_succ, ← Nat.div_div_eq_div_mul]
      rw [List.take_of_length_le hk] at h1
      exact Nat.le_trans (Nat.div_le_self _ _) h1
def natsV (l : List Nat) : List Value := l.map fun (n : Nat) => i64 (n : Int)
theorem natsV_length (l : List Nat) : (natsV l).length = l.length := by simp [natsV]
theorem get_nats {l : List Nat} {o : Nat} (h : o < l.length) : (natsV l)[o]? = some (i64 ((l.getD o 0 : Nat) : Int)) := by
  simp [natsV, List.getElem?_map, List.getD, h]
theorem set_nats (l : List Nat) (o v : Nat) : (natsV l).set o (i64 (v : Int)) = natsV (l.set o v) := by simp [natsV, List.map_set]
theorem addC_set (l : List Nat) (k x y : Nat) : natsV (addC l k (x * y)) = (natsV l).set k (i64 (((l.getD k 0 : Nat) : Int) + (x : Int) * (y : Int))) := by
  rw [addC, ← set_nats, Int.natCast_add, Int.natCast_mul]
theorem natsV_zeros (n : Nat) : natsV (List.replicate n 0) = Ca (List.replicate n 0) := by simp [natsV, Ca]
theorem natCast_mul_le {x y : Nat} (hx : x < 256) (hy : y < 256) : (0 : Int) ≤ (x : Int) * (y : Int) ∧ (x : Int) * (y : Int) ≤ 65025 := by
  rw [← Int.natCast_mul]
  have : x * y ≤ 255 * 255 := Nat.mul_le_mul oM oM
  omega
theorem le512 {a b : List UInt8} (ha : a.length = 32) (hb : b.length = 32) : le a * le b < 256 ^ 64 := by
  have h1 := le_lt a
  have h2 := le_lt b
  rw [ha] at h1; rw [hb] at h2
  exact Nat.lt_of_lt_of_eq (Nat.mul_lt_mul'' h1 h2) (Nat.pow_add 256 32 32).symm
theorem ev_all (a b : List UInt8) (ha : a.length = 32) (hb : b.length = 32) : ev ((out a b 32).take 64) = le a * le b := by
  rw [List.take_of_length_le (by rw [out_length]; omega), ev_out a b ha hb 32 oM, List.take_of_length_le oM]
end Hw
end

section
namespace Go.Proofs.YtpacobmjjjillaaGreat
open Go Hw

theorem ref_mul (a b : List UInt8) (ha : a.length = 32) (hb : b.length = 32) : Meets Tryz.prog 211 [agg (Aa a), agg (Aa b)] [] (fun _ => True) (fun v out => v = agg (Aa (leb 32 (le a * le b % L))) ∧ out = []) := by
 intro W hW
 refine Ab Tryz.func211 J 58 Tryz.ntmps211 J (.sr (.boxA J J ?_))
 intro n2 hn2 hf2
 refine .boxA J J ?_
 intro n3 hn3 hf3
 refine .alloc (cs := (Aa (List.replicate 32 0))) J Bs J ?_
 intro n4 hn4 hf4
 refine .nsr (.alloc (cs := (Ca (List.replicate 64 0))) J Zr213 J ?_)
 intro n5 hn5 hf5
 refine .na (.join (ι := Unit) (fun _u => ⟨[(2, ptr n2 0), (3, ptr n3 0), (4, ptr n4 0), (5, ptr n5 0)], [⟨n5, natsV (out a b 32), 213, 64⟩, ⟨n4, Aa (List.replicate 32 0), 77, 32⟩]⟩) (fun _u => True) ?_ ?_)
 ·
  refine .sr (.a J J J (.na (.block (.loop (ι := Nat) (fun p => ⟨[(2, ptr n2 0), (3, ptr n3 0), (4, ptr n4 0), (5, ptr n5 0), (6, i64 (p : Int))], [⟨n5, natsV (out a b p), 213, 64⟩, ⟨n4, Aa (List.replicate 32 0), 77, 32⟩, ⟨n3, Aa b, 77, (Aa b).length⟩, ⟨n2, Aa a, 77, (Aa a).length⟩]⟩) (fun p => p ≤ 32) (fun p => 32 - p) (0) ?_ ?_ ?_))))
  · omega
  · exact Ac (wk1 rfl (wk1 rfl (wk1 rfl (wk1 rfl (wk1 rfl wk0))))) (wh1 (by rw [out, natsV_zeros]; exact Bo) (wh1 Z1 (wh1 Z2 (wh1 Z3 wh0)))) nD
  ·
   rintro p hp
   refine .seq (.sr (.m J J J (.lss J J J J J (.na (.condP J (fun hc0 => ?_) (fun hc0 => ?_))))))
   ·
    have hp2 : p < 32 := by omega
    refine .skip (Ae (.seq (.block (.sr (.a J J J (.na (.block (.loop (ι := Nat) (fun q => ⟨[(2, ptr n2 0), (3, ptr n3 0), (4, ptr n4 0), (5, ptr n5 0), (6, i64 (p : Int)), (7, i64 (q : Int))], [⟨n5, natsV (inn a b p (out a b p) q), 213, 64⟩, ⟨n4, Aa (List.replicate 32 0), 77, 32⟩, ⟨n3, Aa b, 77, (Aa b).length⟩, ⟨n2, Aa a, 77, (Aa a).length⟩]⟩) (fun q => q ≤ 32) (fun q => 32 - q) (0) ?_ ?_ ?_))))))))
    · omega
    · exact Ac (wk1 rfl (wk1 rfl (wk1 rfl (wk1 rfl (wk1 rfl (wk1 rfl wk0)))))) (wh1 Z0 (wh1 Z1 (wh1 Z2 (wh1 Z3 wh0)))) nD
    ·
     rintro q hq
     refine .seq (.sr (.m J J J (.lss J J J J J (.na (.condP J (fun hc1 => ?_) (fun hc1 => ?_))))))
     ·
      have hq2 : q < 32 := by omega
      obtain ⟨hm0, hm1⟩ := natCast_mul_le (a.getD p 0).toNat_lt (b.getD q 0).toNat_lt
      have hcl : (inn a b p (out a b p) q).getD (p + q) 0 ≤ 2080800 * p + 65025 * q := inn_le a b p _ _ (out_le a b p) q (p + q)
      refine .skip (Ae (.seq (.block (.draw [(0, 0), (0, 1), (0, 2), (0, 3), (0, 4), (0, 5), (0, 6), (1, 7), (0, 8), (0, 9), (1, 10), (0, 11), (0, 12), (0, 13), (1, 14), (0, 15), (0, 16), (0, 17), (0, 18), (4, 19)] Ar zK (.m J J J (.m J J J (.aI J J J J oM (.m J J J (.m J J J (.aI J J J J oM (.i1 J J J J Tryz.underlying213 Sz3 (p + q) oM oM (.load1 J J J Y3 J Z0 (get_nats (by simp [inn_length, out_length]; omega)) ?_))))))))))))
      refine .m J J J (.i1 J J J J Y77 Sz5 _ J oM (.load1 J J J Y5 J Z3 zG ?_))
      refine .conv J J J Y5 Y3 (cv_u8_i64 _) (.m J J J (.i1 J J J J Y77 Sz5 _ J oM (.load1 J J J Y5 J Z2 zG ?_)))
      refine .conv J J J Y5 Y3 (cv_u8_i64 _) (.mul_i64 J J J J oM (.aI J J J J oM (.i1 J J J J Tryz.underlying213 Sz3 (p + q) oM oM (.s1 J J J J J Sz3 Z0 (by (simp [natsV_length, inn_length, out_length]; omega)) (by rfl) zU ?_))))
      refine .nil (Bj (Ae (.region (.m J J J (.aI J J J J oM (.a J J J (.na ?_)))))))
      exact ⟨q + 1, by omega, by omega, Ac (wk1 rfl (wk1 rfl (wk1 rfl (wk1 rfl (wk1 rfl (wk1 rfl wk0)))))) (wh1 (by rw [inn, addC_set]; exact Bo) (wh1 Z1 (wh1 Z2 (wh1 Z3 wh0)))) nD⟩
     ·
      obtain rfl : q = 32 := by omega
      refine .exit (A1 (A1 (B5 (Bj (Ae (.region (.m J J J (.aI J J J J oM (.a J J J (.na ?_))))))))))
      exact ⟨p + 1, by omega, by omega, Ac (wk1 rfl (wk1 rfl (wk1 rfl (wk1 rfl (wk1 rfl wk0))))) (wh1 Z0 (wh1 Z1 (wh1 Z2 (wh1 Z3 wh0)))) nD⟩
   ·
    obtain rfl : p = 32 := by omega
    refine .exit (A1 (A1 (B5 (Ae ?_))))
    refine ⟨(), trivial, Ac (wk1 J (wk1 J (wk1 J (wk1 J wk0)))) (wh1 Z0 (wh1 Z1 wh0)) nD⟩
 ·
  intro _u hj
  skip
  refine .sr (.mkSlice (z := u8 0) (by' := 1) 64 J J J J Y39 Sz5 Zr5 (by unfold By; kernel_rfl) J oM oM oM ?_)
  intro n38
  refine .a J J J (.nsr (.a J J J (.na (.join (ι := Unit) (fun _u => ⟨[(4, ptr n4 0), (8, .slice (some ⟨n38, 0, none⟩) 64 64)], [⟨n38, Aa (leb 64 (le a * le b)), 5, 64⟩, ⟨n4, Aa (List.replicate 32 0), 77, 32⟩]⟩) (fun _u => True) ?_ ?_))))
  ·
   refine .sr (.a J J J (.na (.block (.loop (ι := Nat) (fun k => ⟨[(4, ptr n4 0), (5, ptr n5 0), (8, .slice (some ⟨n38, 0, none⟩) 64 64), (9, i64 ((ev ((out a b 32).take k) / 256 ^ k : Nat) : Int)), (10, i64 (k : Int))], [⟨n38, Aa (padW 64 (ev ((out a b 32).take k)) k), 5, 64⟩, ⟨n5, natsV (out a b 32), 213, 64⟩, ⟨n4, Aa (List.replicate 32 0), 77, 32⟩]⟩) (fun k => k ≤ 64) (fun k => 64 - k) (0) ?_ ?_ ?_))))
   · omega
   · exact Ac (wk1 rfl (wk1 rfl (wk1 rfl (wk1 (by rw [List.take_zero]; rfl) (wk1 rfl wk0))))) (wh1 (by rw [padW_zero]; exact Bo) (wh1 Z1 (wh1 Z2 wh0))) nD
   ·
    rintro k hk
    have hpl := padW_length 64 (ev ((out a b 32).take k)) k hk
    have hcb := ev_take_le (out a b 32) _ (out_le a b 32) k
    have hcn : (0 : Int) ≤ ((ev ((out a b 32).take k) / 256 ^ k : Nat) : Int) := Int.natCast_nonneg _
    have hcb2 : ((ev ((out a b 32).take k) / 256 ^ k : Nat) : Int) ≤ ((2080800 * 32 : Nat) : Int) := Int.ofNat_le.2 hcb
    refine .seq (.sr (.m J J J (.lss J J J J J (.na (.condP J (fun hc2 => ?_) (fun hc2 => ?_))))))
    ·
     have hk2 : k < 64 := by omega
     have hco := out_le a b 32 k
     have hs : ((ev ((out a b 32).take k) / 256 ^ k : Nat) : Int) + (((out a b 32).getD k 0 : Nat) : Int) = ((ev ((out a b 32).take k) / 256 ^ k + (out a b 32).getD k 0 : Nat) : Int) := by rw [Int.natCast_add]
     refine .skip (Ae (.seq (.block (.sr (.m J J J (.m J J J (.i1 J J J J Tryz.underlying213 Sz3 _ J oM (.load1 J J J Y3 J Z1 (get_nats (by simp [out_length]; omega)) ?_))))))))
     refine .aI J J J J oM (.a J J J (.nsr (.m J J J (.m J J J (.m J J J (.rem_i64 J J J J oM (.conv J J J Y3 Y5 (cv_i64_u8 _) (.idxSl1 J J J J Y39 Sz5 _ J oM (.s1 J J J J J Sz5 Z0 (by (simp; omega)) (by exact Bb _ _ _) zU ?_)))))))))
     refine .na (.region (.m J J J (.quo_i64 J J J J oM (.a J J J (.nil (Bj (Ae (.region (.m J J J (.aI J J J J oM (.a J J J (.na ?_))))))))))))
     have hst := ev_take_succ (out a b 32) k (by rw [out_length]; omega)
     exact ⟨k + 1, by omega, by omega, Ac (wk1 rfl (wk1 rfl (wk1 rfl (wk1 (by rw [hst, ← carry_step _ _ _ _ hs]; rfl) (wk1 rfl wk0))))) (wh1 (by rw [hst, ← padW_step 64 _ _ k oM _ hs, byteOf_mod]; exact Bo) (wh1 Z1 (wh1 Z2 wh0))) nD⟩
    ·
     obtain rfl : k = 64 := by omega
     refine .exit (A1 (A1 (B5 (Ae ?_))))
     refine ⟨(), trivial, Ac (wk1 J (wk1 J wk0)) (wh1 (by rw [← padW_all, ← ev_all a b ha hb]; exact Bo) (wh1 Z2 wh0)) nD⟩
  ·
   intro _u hj
   skip
   refine .sr (.m J J J (.cV J J J J Body209 (ref_rest _ 0 _ 64 (leb 64 (le a * le b)) (by simp [Aj]) oM) (fun W h => Ak h Z0) ?_))
   refine .sA J J J J zB Ad (by (simp [Aj]; done)) Z1 sP zV ?_
   refine .na (.ret (An ?_))
   refine ⟨_, [], Ao J J Y77 J Ad Z1 (by simp [Aj]), sP, sP, ?_, rfl⟩
   rw [le_leb, Nat.mod_eq_of_lt (le512 ha hb)]

theorem ref_muladd (a b c : List UInt8) (ha : a.length = 32) (hb : b.length = 32) (hc : c.length = 32) : Meets Tryz.prog 138 [agg (Aa a), agg (Aa b), agg (Aa c)] [] (fun _ => True) (fun v out => v = agg (Aa (leb 32 ((le a * le b + le c) % L))) ∧ out = []) := by
 intro W hW
 refine Ab Tryz.func138 J 13 Tryz.ntmps138 J (.sr (.boxA J J ?_))
 intro n3 hn3 hf3
 refine .boxA J J ?_
 intro n4 hn4 hf4
 refine .boxA J J ?_
 intro n5 hn5 hf5
 refine .alloc (cs := (Aa (List.replicate 32 0))) J Bs J ?_
 intro n6 hn6 hf6
 refine .na (.seq (.draw [(1, 0), (1, 1), (0, 3), (3, 2), (3, 4), (3, 5), (4, 6)] Ar zK (.lA J J J Y77 J Ad Z3 (by (simp [ha]; done)) ?_)))
 refine .lA J J J Y77 J Ad Z2 (by (simp [hb]; done)) ?_
 refine .sliceArr J J J Y77 Sz5 (.cV J J J J Body211 (ref_mul a b ha hb) tV (.cV J J J J Body209 (ref_rest _ 0 _ 32 c (by simp [hc]) oM) (fun W h => Ak h Z1) ?_))
 refine .cV J J J J Body210 (ref_plus_n _ _ (Nat.mod_lt _ L_pos) (Nat.mod_lt _ L_pos)) tV (.sA J J J J zB Ad (by (simp [Aj]; done)) Z0 sP zU ?_)
 refine .na (.ret (An ?_))
 refine ⟨_, [], Ao J J Y77 J Ad Z0 (by simp [Aj]), sP, sP, ?_, rfl⟩
 rw [← Nat.add_mod]

end Go.Proofs.YtpacobmjjjillaaGreat
end

section
namespace Go.Proofs.YtpacobmjjjillaaGreat
open Go Hw

open Ed

theorem byte_8 : ∀ b : UInt8, b - UInt8.ofNat (b.toNat % 8) = b &&& 248 ∧ UInt8.ofNat (b.toNat % 64) + 64 = (b &&& 127) ||| 64 := by
  intro b
  have h : ∀ n, n < 256 → UInt8.ofNat n - UInt8.ofNat ((UInt8.ofNat n).toNat % 8) = UInt8.ofNat n &&& 248 ∧ UInt8.ofNat ((UInt8.ofNat n).toNat % 64) + 64 = (UInt8.ofNat n &&& 127) ||| 64 := by decide
  have h2 := h b.toNat b.toNat_lt
  rwa [UInt8.ofNat_toNat] at h2
theorem clamp_ref {l : List UInt8} (h : l.length = 32) : (l.set 0 (l.getD 0 0 - UInt8.ofNat ((l.getD 0 0).toNat % 8))).set 31 (UInt8.ofNat (((l.set 0 (l.getD 0 0 - UInt8.ofNat ((l.getD 0 0).toNat % 8))).getD 31 0).toNat % 64) + 64) = clampB l := by
  have g : (l.set 0 (l.getD 0 0 - UInt8.ofNat ((l.getD 0 0).toNat % 8))).getD 31 0 = l.getD 31 0 := by
    rw [List.getD_eq_getElem?_getD, List.getElem?_set_ne dE, ← List.getD_eq_getElem?_getD]
  rw [g, (byte_8 _).1, (byte_8 _).2]
  rfl
theorem upd_all {f : List UInt8} (h : f.length = 32) : upd (Aa (List.replicate 32 0)) 0 (Aa f) = Aa f := by simp [upd, Aa, h]
theorem sees_take {w : World} {b n : Nat} {l : List UInt8} (h : Cc w b 0 (Aa l)) : SeesP w (some ⟨b, 0, none⟩) (Aa (l.take n)) := SeesP.of (fun i v hv => h i v (take_sees hv))
theorem sees_drop {w : World} {b n : Nat} {l : List UInt8} (h : Cc w b 0 (Aa l)) : SeesP w (some ⟨b, n, none⟩) (Aa (l.drop n)) := SeesP.of (fun i v hv => by
  have e : (Aa l)[n + i]? = some v := by rw [Aa, List.map_drop, List.getElem?_drop] at hv; exact hv
  have := h _ v e
  rwa [Nat.zero_add] at this)

theorem r6_secret (seed : List UInt8) (h32 : seed.length = 32) (s : List UInt8) (hs : Hid (Cd seed = s)) : Meets Tryz.prog 121 [agg (Aa seed)] [] (fun _ => True) (fun v out => ∃ q c, v = .tuple #[agg (Aa (clampB (s.take 32))), .slice (some ⟨q, 0, none⟩) 32 c] ∧ 32 ≤ c ∧ out = [⟨q, Aa (s.drop 32), 5, c * 1⟩]) := by
 intro W hW
 have hs64 : s.length = 64 := by rw [← hs.out]; exact Cy seed
 have ht32 : (s.take 32).length = 32 := by rw [List.length_take, hs64]; rfl
 have hd32 : (s.drop 32).length = 32 := by rw [List.length_drop, hs64]
 have hcl := clampB_length ht32
 refine Ab Tryz.func121 J 28 Tryz.ntmps121 J (.sr (.boxA J J ?_))
 intro n1 hn1 hf1
 refine .alloc (cs := (Aa (List.replicate 32 0))) J Bs J ?_
 intro n2 hn2 hf2
 refine .a J J J (.nil (Ae (.sr (.sliceArr J J J Y23 Sz5 (.mkRow2 (z := .slice none 0 0) [.slice (some ⟨n1, 0, none⟩) 32 32] [.slice (some ⟨n1, 0, none⟩) 32 32] rfl J Y133 Co Zr39 J J (by intro v hv; rw [List.mem_singleton.1 hv]; rfl) dE J ?_)))))
 intro q7
 refine .cV J J J J Body136 (r2_Sum512 (some ⟨q7, 0, none⟩) 1 1 [⟨some ⟨n1, 0, none⟩, 32, 32⟩] [seed] rfl J (fun j hj => (by
   rcases (show j = 0 by omega) with rfl
   · exact ⟨by show 32 = List.length _; exact h32.symm, fun e => by cases e⟩)) (seed) sP (by (simp [h32]; done)) dE s hs) (fun w h => ⟨SeesP.of (Ak h Z0), (fun j hj => (by
   rcases (show j = 0 by omega) with rfl
   · exact SeesP.of (Ak (cs := Aa seed) h Z2)))⟩) ?_
 refine .alloc (cs := (Aa (List.replicate 64 0))) J Zr26 J ?_
 intro n4 hn4 hf4
 refine .sA J J J J zE Sz26 (by (simp [hs64]; done)) Z0 sP zU ?_
 refine .nil (Ae (.sr (.alloc (cs := (Aa (List.replicate 32 0))) J Bs J ?_)))
 intro n5 hn5 hf5
 refine .nil (Ae (.seq (.draw [(0, 0), (0, 1), (4, 2)] Ar zK (.sliceArr J J J Y77 Sz5 (.sliceArrHi 32 J J J J J dE dE Y26 Sz5 (.copyP (Aa (s.take 32)) 32 J J J J J Y39 Sz5 (fun w h => sees_take (Ak h Z1)) (fun e => by cases e) (by rw [Aa, List.length_map]; exact ht32) J (by rw [Aa, ← List.map_take, List.take_of_length_le (Nat.le_of_eq ht32)]) (Aw _) Z0 sP (by exact upd_all ht32) zU ?_))))))
 refine .nil (Ae (.sr (.i1 J J J J Y77 Sz5 0 J dE (.load1 J J J Y5 J Z0 zG ?_))))
 refine .i1 J J J J Y77 Sz5 0 J dE (.load1 J J J Y5 J Z0 zG ?_)
 refine .rem_u8 J J J J 8 J dE (.sub_u8 J J J J (.i1 J J J J Y77 Sz5 0 J dE (.s1 J J J J J Sz5 Z0 (by (simp [hs64]; done)) (by exact Bb _ _ _) zU ?_)))
 refine .nil (Ae (.sr (.i1 J J J J Y77 Sz5 31 J dE (.load1 J J J Y5 J Z0 (by exact B0 (by (simp [ht32]; done))) ?_))))
 refine .rem_u8 J J J J 64 J dE (.add_u8 J J J (show Ah _ _ = some (u8 64) from rfl) (.i1 J J J J Y77 Sz5 31 J dE (.s1 J J J J J Sz5 Z0 (by (simp [hs64, ht32]; done)) (by exact Bb _ _ _) zU ?_)))
 refine .nil (Ae (.seq (.withK (sp_k (sp_v (sp_v (sp_v (sp_v sp_n))))) J (.draw [(0, 0), (0, 2), (2, 1), (4, 3), (4, 4), (0, 5)] Ar zK ?_))))
 rw [clamp_ref ht32]
 refine .kloadAll J J J Y77 J Ad Z0 (by (simp [hcl]; done)) ?_
 refine .sliceArrLo 32 J J J J J dE Y26 Sz5 (.mkRow2 (z := u8 0) [] [] rfl J Y39 Sz5 Zr5 J J (by intro v hv; cases hv) dE J ?_)
 intro q25
 refine .appendSl (z := u8 0) (by' := 1) (Aa (s.drop 32)) J J J J J Y39 Y39 Sz5 Zr5 (by unfold By; kernel_rfl) J (fun w h => sees_drop (Ak h Z1)) (fun e => by cases e) (Aw _) rM J J oM oM oM (by rw [Aa, List.length_map]; exact hd32) ?_
 intro q27 c27 hq27
 refine .sA J J J J zE Ad (by (simp [hcl]; done)) Z3 sP (by exact upd3) ?_
 refine .a J J J (.nil (Ae (.ret (An ?_))))
 simp only [List.cons_append, List.nil_append, List.append_nil]
 refine Be (out := (⟨q27, [] ++ Aa (s.drop 32), 5, c27 * 1⟩ :: [])) (A0 J J J Y77 J Ad Z3 (by simp [hcl])) (Ai rM Au) ?_
 exact ⟨q27, c27, rfl, by omega, rfl⟩

theorem r6_Secret (seed : List UInt8) (h32 : seed.length = 32) (s : List UInt8) (hs : Hid (Cd seed = s)) : Meets Tryz.prog 66 [agg (Aa seed)] [] (fun _ => True) (fun v out => v = agg (Aa (clampB (s.take 32))) ∧ out = []) := by
 intro W hW
 have hs64 : s.length = 64 := by rw [← hs.out]; exact Cy seed
 have ht32 : (s.take 32).length = 32 := by rw [List.length_take, hs64]; rfl
 have hd32 : (s.drop 32).length = 32 := by rw [List.length_drop, hs64]
 have hcl := clampB_length ht32
 revert hcl
 have hsec := r6_secret seed h32 s hs
 revert hsec
 generalize clampB (s.take 32) = N
 intro hsec hcl
 refine Ab Tryz.func66 J 11 Tryz.ntmps66 J (.sr (.boxA J J ?_))
 intro n1 hn1 hf1
 refine .alloc (cs := (Aa (List.replicate 32 0))) J Bs J ?_
 intro n2 hn2 hf2
 refine .nsr (.lA J J J Y23 J Sz23 Z1 (by (simp [h32]; done)) ?_)
 refine .call4 J J J J J Body121 (hsec) tV ?_
 rintro v7 out7 ⟨q7, c7, rfl, hc7, rfl⟩
 simp only [List.cons_append, List.nil_append]
 refine .m J J J (.eX J J J J (.eX J J J J (.alloc (cs := (Aa (List.replicate 32 0))) J Bs J ?_)))
 intro n3 hn3 hf3
 refine .sA J J J J zE Ad (by (simp [hcl]; done)) Z0 sP zU ?_
 refine .a J J J (.nsr (.lA J J J Y77 J Ad Z0 (by (simp [hcl]; done)) ?_))
 refine .sA J J J J zE Ad (by (simp [hcl]; done)) Z2 sP (by exact upd2) ?_
 refine .na (.ret (An ?_))
 refine ⟨_, [], Ao J J Y77 J Ad Z2 (by simp [hcl]), sP, sP, ?_, rfl⟩
 rfl

theorem r6_KeyQ (N : List UInt8) (hN : N.length = 32) (Q : Pt Fp) (hQ : cv.mul (le N) bP = Q) : cv.on Q ∧ Meets Tryz.prog 65 [agg (Aa N), agg (ptc bP).cells] [] (fun _ => True) (fun v out => v = agg (ptc Q).cells ∧ out = []) := by
  rw [← hQ]; exact ⟨cv.on_mul bP_on _, r5_Mul N bP hN bP_on⟩

theorem r6_Key (seed : List UInt8) (h32 : seed.length = 32) (s : List UInt8) (hs : Hid (Cd seed = s)) : Meets Tryz.prog 18 [agg (Aa seed)] [] (fun _ => True) (fun v out => v = agg (Aa (sgK s)) ∧ out = []) := by
 intro W hW
 have hs64 : s.length = 64 := by rw [← hs.out]; exact Cy seed
 have ht32 : (s.take 32).length = 32 := by rw [List.length_take, hs64]; rfl
 have hd32 : (s.drop 32).length = 32 := by rw [List.length_drop, hs64]
 have hcl := clampB_length ht32
 obtain ⟨Q, hQ⟩ : ∃ Q, cv.mul (le (clampB (s.take 32))) bP = Q := ⟨_, rfl⟩
 have hsec := r6_Secret seed h32 s hs
 have hkq := r6_KeyQ (clampB (s.take 32)) hcl Q hQ
 rw [show sgK s = pb Q from by rw [sgK, hQ]]
 clear hQ
 revert hcl hsec hkq
 generalize clampB (s.take 32) = N
 intro hcl hsec hkq
 obtain ⟨hQo, hmul⟩ := hkq
 refine Ab Tryz.func18 J 14 Tryz.ntmps18 J (.sr (.boxA J J ?_))
 intro n1 hn1 hf1
 refine .alloc (cs := (Aa (List.replicate 32 0))) J Zr25 J ?_
 intro n2 hn2 hf2
 refine .nsr (.lA J J J Y23 J Sz23 Z1 (by (simp [h32]; done)) ?_)
 refine .cV J J J J Body66 (hsec) tV (.cV J J J J Body67 (r5_Base) tV (.cV J J J J Body65 (hmul) tV (.cV J J J J Body64 (r5_Bytes Q hQo) tV (.m J J J (.eX J J J J (.eX J J J J (.alloc (cs := (Aa (List.replicate 32 0))) J Zr23 J ?_)))))))
 intro n3 hn3 hf3
 refine .sA J J J J zE Sz23 (by (simp [Bz]; done)) Z0 sP zU ?_
 refine .a J J J (.nsr (.lA J J J Y23 J Sz23 Z0 (by (simp [Bz]; done)) ?_))
 refine .sA J J J J zE Sz25 (by (simp [Bz]; done)) Z1 sP zV ?_
 refine .na (.ret (An ?_))
 refine ⟨_, [], Ao J J Y25 J Sz25 Z1 (by simp [Bz]), sP, sP, ?_, rfl⟩
 rfl

theorem r6_challenge (r k : List UInt8) (hr : r.length = 32) (hk : k.length = 32) (sb : Sl) (bb : List UInt8) (hbn : bb.length ≤ 80000) (s : List UInt8) (hs : Hid (Cd (r ++ (k ++ bb)) = s)) : Meets Tryz.prog 115 [agg (Aa r), agg (Aa k), sb.v] [] (fun W => BytesAt W sb bb) (fun v out => v = agg (Aa (sgR s)) ∧ out = []) := by
 intro W hW
 have hs64 : s.length = 64 := by rw [← hs.out]; exact Cy _
 obtain ⟨R, hR⟩ : ∃ R, Hid (sgR s = R) := ⟨_, ⟨rfl⟩⟩
 have hRl : R.length = 32 := by rw [← hR.out]; exact sgR_length s
 have hres := fun b => ref_Rest b 0 64 64 s hs64 dE
 rw [show leb 32 (le s % L) = R from hR.out] at hres
 rw [hR.out]
 refine Ab Tryz.func115 J 21 Tryz.ntmps115 J (.sr (.boxA J J ?_))
 intro n3 hn3 hf3
 refine .boxA J J ?_
 intro n4 hn4 hf4
 refine .alloc (cs := (Aa (List.replicate 32 0))) J Bs J ?_
 intro n6 hn6 hf6
 refine .na (.seq (.draw [(0, 0), (0, 1), (0, 2), (2, 3), (3, 4), (2, 5), (4, 6)] Ar zK (.sliceArr J J J Y23 Sz5 (.sliceArr J J J Y25 Sz5 (.m J J J (.mkRow2 (z := .slice none 0 0) [.slice (some ⟨n3, 0, none⟩) 32 32, .slice (some ⟨n4, 0, none⟩) 32 32, sb.v] [.slice (some ⟨n3, 0, none⟩) 32 32, .slice (some ⟨n4, 0, none⟩) 32 32, sb.v] rfl J Y133 Co Zr39 J J (by intro v hv; simp only [List.mem_cons, List.not_mem_nil, or_false] at hv; rcases hv with rfl | rfl | rfl <;> rfl) dE J ?_))))))
 intro q13
 refine .cV J J J J Body136 (r2_Sum512 (some ⟨q13, 0, none⟩) 3 3 [⟨some ⟨n3, 0, none⟩, 32, 32⟩, ⟨some ⟨n4, 0, none⟩, 32, 32⟩, sb] [r, k, bb] rfl J (fun j hj => (by
   rcases (show j = 0 ∨ j = 1 ∨ j = 2 by omega) with rfl | rfl | rfl
   · exact ⟨by show 32 = List.length _; exact hr.symm, fun e => by cases e⟩
   · exact ⟨by show 32 = List.length _; exact hk.symm, fun e => by cases e⟩
   · exact ⟨by show sb.n = bb.length; exact hW.len.symm, fun e => by have h1 := hW.nil e; have h2 := hW.cap; show sb.n = 0; omega⟩)) (r ++ (k ++ bb)) sP (by (simp [hr, hk]; omega)) dE s hs) (fun w h => ⟨SeesP.of (Ak h Z0), (fun j hj => (by
   rcases (show j = 0 ∨ j = 1 ∨ j = 2 by omega) with rfl | rfl | rfl
   · exact SeesP.of (Ak (cs := Aa r) h Z3)
   · exact SeesP.of (Ak (cs := Aa k) h Z2)
   · exact Ax h rfl hW.see))⟩) ?_
 refine .alloc (cs := (Aa (List.replicate 64 0))) J Zr26 J ?_
 intro n7 hn7 hf7
 refine .sA J J J J zE Sz26 (by (simp [hs64]; done)) Z0 sP zU ?_
 refine .nsr (.sliceArr J J J Y26 Sz5 (.cV J J J J Body137 (hres n7) (fun w h => Ak h Z0) ?_))
 refine .m J J J (.eX J J J J (.eX J J J J (.alloc (cs := (Aa (List.replicate 32 0))) J Bs J ?_)))
 intro n8 hn8 hf8
 refine .sA J J J J zE Ad (by (simp [hRl]; done)) Z0 sP zU ?_
 refine .a J J J (.nsr (.lA J J J Y77 J Ad Z0 (by (simp [hRl]; done)) ?_))
 refine .sA J J J J zE Ad (by (simp [hRl]; done)) Z3 sP (by exact upd3) ?_
 refine .na (.ret (An ?_))
 refine ⟨_, [], Ao J J Y77 J Ad Z3 (by simp [hRl]), sP, sP, ?_, rfl⟩
 rfl

theorem r6_Sign (seed : List UInt8) (h32 : seed.length = 32) (sb : Sl) (bb : List UInt8) (hbn : bb.length ≤ 80000) (s s1 s2 : List UInt8) (hs : Hid (Cd seed = s)) (hs1 : Hid (Cd (s.drop 32 ++ bb) = s1)) (hs2 : Hid (Cd (sgF s1 ++ (sgK s ++ bb)) = s2)) : Meets Tryz.prog 74 [agg (Aa seed), sb.v] [] (fun W => BytesAt W sb bb) (fun v out => v = agg (Aa (sgF s1 ++ sgS s s1 s2)) ∧ out = []) := by
 intro W hW
 have hs64 : s.length = 64 := by rw [← hs.out]; exact Cy seed
 have ht32 : (s.take 32).length = 32 := by rw [List.length_take, hs64]; rfl
 have hd32 : (s.drop 32).length = 32 := by rw [List.length_drop, hs64]
 have hcl := clampB_length ht32
 have h64 : s1.length = 64 := by rw [← hs1.out]; exact Cy _
 have csec := r6_secret seed h32 s hs
 have ckey := r6_Key seed h32 s hs
 have cch := r6_challenge (sgF s1) (sgK s) (sgF_length s1) (sgK_length s) sb bb hbn s2 hs2
 have cma := ref_muladd (sgR s2) (clampB (s.take 32)) (sgR s1) (sgR_length s2) hcl (sgR_length s1)
 rw [show leb 32 ((le (sgR s2) * le (clampB (s.take 32)) + le (sgR s1)) % L) = sgS s s1 s2 from rfl] at cma
 obtain ⟨Q, hQ⟩ : ∃ Q, cv.mul (le (sgR s1)) bP = Q := ⟨_, rfl⟩
 have hkq := r6_KeyQ (sgR s1) (sgR_length s1) Q hQ
 have hF : sgF s1 = pb Q := by rw [sgF, hQ]
 rw [hF] at cch ⊢
 clear hQ hs2 hF
 have hres := fun b => ref_Rest b 0 64 64 s1 h64 dE
 rw [show leb 32 (le s1 % L) = sgR s1 from rfl] at hres
 have lK := sgK_length s
 have lS := sgS_length s s1 s2
 have lR1 := sgR_length s1
 have lR2 := sgR_length s2
 revert hcl csec ckey cch cma hkq hres lK lS lR1 lR2
 generalize sgS s s1 s2 = S3
 generalize sgK s = K
 generalize sgR s1 = r1
 generalize sgR s2 = r2
 generalize clampB (s.take 32) = N
 intro hcl csec ckey cma cch hkq hres lK lS lR1 lR2
 obtain ⟨hQo, hmul⟩ := hkq
 have hpq := Bz Q
 refine Ab Tryz.func74 J 50 Tryz.ntmps74 J (.sr (.boxA J J ?_))
 intro n2 hn2 hf2
 refine .alloc (cs := (Aa (List.replicate 64 0))) J Zr27 J ?_
 intro n4 hn4 hf4
 refine .nsr (.lA J J J Y23 J Sz23 Z1 (by (simp [h32]; done)) ?_)
 refine .call4 J J J J J Body121 (csec) tV ?_
 rintro v7 out7 ⟨q7, c7, rfl, hc7, rfl⟩
 simp only [List.cons_append, List.nil_append]
 refine .m J J J (.eX J J J J (.eX J J J J (.alloc (cs := (Aa (List.replicate 32 0))) J Bs J ?_)))
 intro n5 hn5 hf5
 refine .sA J J J J zE Ad (by (simp [hcl]; done)) Z0 sP zU ?_
 refine .a J J J (.nsr (.m J J J (.m J J J (.mkRow2 (z := .slice none 0 0) [.slice (some ⟨q7, 0, none⟩) 32 c7, sb.v] [.slice (some ⟨q7, 0, none⟩) 32 c7, sb.v] rfl J Y133 Co Zr39 J J (by intro v hv; simp only [List.mem_cons, List.not_mem_nil, or_false] at hv; rcases hv with rfl | rfl <;> rfl) dE J ?_))))
 intro q21
 refine .cV J J J J Body136 (r2_Sum512 (some ⟨q21, 0, none⟩) 2 2 [⟨some ⟨q7, 0, none⟩, 32, c7⟩, sb] [s.drop 32, bb] rfl J (fun j hj => (by
   rcases (show j = 0 ∨ j = 1 by omega) with rfl | rfl
   · exact ⟨by show 32 = List.length _; exact hd32.symm, fun e => by cases e⟩
   · exact ⟨by show sb.n = bb.length; exact hW.len.symm, fun e => by have h1 := hW.nil e; have h2 := hW.cap; show sb.n = 0; omega⟩)) (s.drop 32 ++ bb) sP (by (simp [hd32]; omega)) dE s1 hs1) (fun w h => ⟨SeesP.of (Ak h Z0), (fun j hj => (by
   rcases (show j = 0 ∨ j = 1 by omega) with rfl | rfl
   · exact SeesP.of (Ak (cs := Aa (s.drop 32)) h Z2)
   · exact Ax h rfl hW.see))⟩) ?_
 refine .alloc (cs := (Aa (List.replicate 64 0))) J Zr26 J ?_
 intro n7 hn7 hf7
 refine .sA J J J J zE Sz26 (by (simp [h64]; done)) Z0 sP zU ?_
 refine .nsr (.sliceArr J J J Y26 Sz5 (.cV J J J J Body137 (hres n7) (fun w h => Ak h Z0) ?_))
 refine .m J J J (.eX J J J J (.eX J J J J (.alloc (cs := (Aa (List.replicate 32 0))) J Bs J ?_)))
 intro n8 hn8 hf8
 refine .sA J J J J zE Ad (by (simp [lR1]; done)) Z0 sP zU ?_
 refine .a J J J (.na (.seq (.draw [(1, 0), (3, 1), (3, 2), (3, 3), (0, 4), (0, 5), (0, 6), (2, 7), (4, 8), (0, 9)] Ar zK (.lA J J J Y77 J Ad Z0 (by (simp [lR1]; done)) ?_))))
 refine .cV J J J J Body67 (r5_Base) tV (.cV J J J J Body65 (hmul) tV (.cV J J J J Body64 (r5_Bytes Q hQo) tV (.m J J J (.eX J J J J (.eX J J J J (.alloc (cs := (Aa (List.replicate 32 0))) J Zr23 J ?_))))))
 intro n10 hn10 hf10
 refine .sA J J J J zE Sz23 (by (simp [Bz]; done)) Z0 sP zU ?_
 refine .a J J J (.na (.seq (.draw [(1, 0), (1, 1), (0, 3), (1, 5), (1, 6), (3, 2), (3, 4), (3, 7), (2, 8), (4, 9)] Ar zK (.lA J J J Y23 J Sz23 Z0 (by (simp [Bz]; done)) ?_))))
 refine .lA J J J Y23 J Sz23 (by exact mem7) (by (simp [h32]; done)) ?_
 refine .m J J J (.lA J J J Y77 J Ad Z4 (by (simp [hcl]; done)) ?_)
 refine .lA J J J Y77 J Ad Z1 (by (simp [lR1]; done)) ?_
 refine .cV J J J J Body18 (ckey) tV (.cV J J J J Body115 (cch) (fun w h => bytes_ext h J hW) (.cV J J J J Body138 (cma) tV (.alloc (cs := (Aa (List.replicate 32 0))) J Bs J ?_)))
 intro n12 hn12 hf12
 refine .sA J J J J zE Ad (by (simp [lS]; done)) Z0 sP zU ?_
 refine .nsr (.alloc (cs := (Aa (List.replicate 64 0))) J Zr27 J ?_)
 intro n13 hn13 hf13
 refine .na (.seq (.draw [(0, 0), (0, 1), (4, 2)] Ar zK (.sliceArr J J J Y27 Sz5 (.sliceArr J J J Y23 Sz5 (.copyP (Aa (pb Q)) 32 J J J J J Y39 Sz5 (fun w h => SeesP.of (Ak h Z2)) (fun e => by cases e) (by rw [Aa, List.length_map]; exact (Bz Q)) J (by rw [Aa, ← List.map_take, List.take_of_length_le (Nat.le_of_eq (Bz Q))]) (Aw _) Z0 sP (by exact upd_first (Bz Q)) zU ?_)))))
 refine .na (.seq (.draw [(0, 0), (0, 1), (4, 2)] Ar zK (.sliceArrLo 32 J J J J J dE Y27 Sz5 (.sliceArr J J J Y77 Sz5 (.copyP (Aa S3) 32 J J J J J Y39 Sz5 (fun w h => SeesP.of (Ak h Z1)) (fun e => by cases e) (by rw [Aa, List.length_map]; exact lS) J (by rw [Aa, ← List.map_take, List.take_of_length_le (Nat.le_of_eq lS)]) (Aw _) Z0 (by (simp; omega)) (by exact upd_last (Bz Q) lS) zU ?_)))))
 refine .nsr (.lA J J J Y27 J Sz27 Z0 (by (simp [Bz, lS]; done)) ?_)
 refine .sA J J J J zE Sz27 (by (simp [Bz, lS]; done)) mR sP (by (repeat (first | exact upd0 | apply Upd.tail))) ?_
 refine .na (.ret (An ?_))
 refine ⟨_, [], Ao J J Y27 J Sz27 mR (by simp [Bz, lS]), sP, sP, ?_, rfl⟩
 rfl

theorem r5_Read_none (b : List UInt8) (hb : b.length = 32) (h : rdP b = none) : Meets Tryz.prog 112 [agg (Aa b)] [] (fun _ => True) (fun v out => v = .tuple #[agg Point.zero.cells, i64 4] ∧ out = []) := by
  have := r5_Read b hb
  rwa [rdV_none h] at this
theorem r5_Read_some (b : List UInt8) (P : Pt Fp) (hb : b.length = 32) (h : rdP b = some P) : Meets Tryz.prog 112 [agg (Aa b)] [] (fun _ => True) (fun v out => v = .tuple #[agg (ptc P).cells, i64 0] ∧ out = []) := by
  have := r5_Read b hb
  rwa [rdV_some h] at this
theorem r6_Good_kr (k : List UInt8) (hk : k.length = 32) (sb : Sl) (bb : List UInt8) (hbn : bb.length ≤ 80000) (sg : List UInt8) (hsg : sg.length = 64) (h1 : rdP k = none) (h2 : rdP (sg.take 32) = none) : Meets Tryz.prog 61 [agg (Aa k), sb.v, agg (Aa sg)] [] (fun W => BytesAt W sb bb) (fun v out => v = .bool false ∧ out = []) := by
 intro W hW
 have hd32 : (sg.drop 32).length = 32 := by rw [List.length_drop, hsg]
 have ht32 : (sg.take 32).length = 32 := by rw [List.length_take, hsg]; rfl
 refine Ab Tryz.func61 J 51 Tryz.ntmps61 J (.sr (.boxA J J ?_))
 intro n3 hn3 hf3
 refine .boxA J J ?_
 intro n5 hn5 hf5
 refine .a J J J (.nsr (.alloc (cs := (Aa (List.replicate 32 0))) J Zr23 J ?_))
 intro n7 hn7 hf7
 refine .nsr (.alloc (cs := (Aa (List.replicate 32 0))) J Bs J ?_)
 intro n8 hn8 hf8
 refine .na (.seq (.draw [(0, 0), (0, 1), (4, 2)] Ar zK (.sliceArr J J J Y23 Sz5 (.sliceArrHi 32 J J J J J dE dE Y27 Sz5 (.copyP (Aa (sg.take 32)) 32 J J J J J Y39 Sz5 (fun w h => sees_take (Ak h Z2)) (fun e => by cases e) (by rw [Aa, List.length_map]; exact ht32) J (by rw [Aa, ← List.map_take, List.take_of_length_le (Nat.le_of_eq ht32)]) (Aw _) Z1 sP (by exact upd_all ht32) zV ?_)))))
 refine .na (.seq (.draw [(0, 0), (0, 1), (4, 2)] Ar zK (.sliceArr J J J Y77 Sz5 (.sliceArrLo 32 J J J J J dE Y27 Sz5 (.copyP (Aa (sg.drop 32)) 32 J J J J J Y39 Sz5 (fun w h => sees_drop (Ak h Z2)) (fun e => by cases e) (by rw [Aa, List.length_map]; exact hd32) J (by rw [Aa, ← List.map_take, List.take_of_length_le (Nat.le_of_eq hd32)]) (Aw _) Z0 sP (by exact upd_all hd32) zU ?_)))))
 refine .nsr (.lA J J J Y25 J Sz25 Z3 (by (simp [hk]; done)) ?_)
 refine .cV J J J J Body112 (r5_Read_none k hk h1) tV (.m J J J (.eX J J J J (.eX J J J J (.alloc (cs := Point.zero.cells) J Point.zr J ?_))))
 intro n9 hn9 hf9
 refine .sA J J J J (Point.isCell zZ) B9 (Point.length zZ) Z0 (Point.length zZ) zU ?_
 refine .a J J J (.nsr (.lA J J J Y23 J Sz23 Z2 (by (simp [hsg]; done)) ?_))
 refine .cV J J J J Body112 (r5_Read_none (sg.take 32) ht32 h2) tV (.m J J J (.eX J J J J (.eX J J J J (.alloc (cs := Point.zero.cells) J Point.zr J ?_))))
 intro n11 hn11 hf11
 refine .sA J J J J (Point.isCell zZ) B9 (Point.length zZ) Z0 (Point.length zZ) zU ?_
 refine .a J J J (.na (.seq (.sr (.m J J J (.nei J J J J (show (!decide _) = true from congrArg not (decide_eq_false dE)) (.m J J J (.skp J J (.skp J J (.pick J J J J J J (.m J J J (.skp J J (.skp J J (.skp J J (.pick J J J J J J (.na (.cond_t J J (.sr (.a J J J (.na (.ret (Bg (An ?_))))))))))))))))))))))
 refine ⟨_, [], Ag J J, sP, sP, ?_, rfl⟩
 rfl

theorem r6_Good_k (k : List UInt8) (hk : k.length = 32) (sb : Sl) (bb : List UInt8) (hbn : bb.length ≤ 80000) (sg : List UInt8) (hsg : sg.length = 64) (R : Pt Fp) (h1 : rdP k = none) (h2 : rdP (sg.take 32) = some R) : Meets Tryz.prog 61 [agg (Aa k), sb.v, agg (Aa sg)] [] (fun W => BytesAt W sb bb) (fun v out => v = .bool false ∧ out = []) := by
 intro W hW
 have hd32 : (sg.drop 32).length = 32 := by rw [List.length_drop, hsg]
 have ht32 : (sg.take 32).length = 32 := by rw [List.length_take, hsg]; rfl
 refine Ab Tryz.func61 J 51 Tryz.ntmps61 J (.sr (.boxA J J ?_))
 intro n3 hn3 hf3
 refine .boxA J J ?_
 intro n5 hn5 hf5
 refine .a J J J (.nsr (.alloc (cs := (Aa (List.replicate 32 0))) J Zr23 J ?_))
 intro n7 hn7 hf7
 refine .nsr (.alloc (cs := (Aa (List.replicate 32 0))) J Bs J ?_)
 intro n8 hn8 hf8
 refine .na (.seq (.draw [(0, 0), (0, 1), (4, 2)] Ar zK (.sliceArr J J J Y23 Sz5 (.sliceArrHi 32 J J J J J dE dE Y27 Sz5 (.copyP (Aa (sg.take 32)) 32 J J J J J Y39 Sz5 (fun w h => sees_take (Ak h Z2)) (fun e => by cases e) (by rw [Aa, List.length_map]; exact ht32) J (by rw [Aa, ← List.map_take, List.take_of_length_le (Nat.le_of_eq ht32)]) (Aw _) Z1 sP (by exact upd_all ht32) zV ?_)))))
 refine .na (.seq (.draw [(0, 0), (0, 1), (4, 2)] Ar zK (.sliceArr J J J Y77 Sz5 (.sliceArrLo 32 J J J J J dE Y27 Sz5 (.copyP (Aa (sg.drop 32)) 32 J J J J J Y39 Sz5 (fun w h => sees_drop (Ak h Z2)) (fun e => by cases e) (by rw [Aa, List.length_map]; exact hd32) J (by rw [Aa, ← List.map_take, List.take_of_length_le (Nat.le_of_eq hd32)]) (Aw _) Z0 sP (by exact upd_all hd32) zU ?_)))))
 refine .nsr (.lA J J J Y25 J Sz25 Z3 (by (simp [hk]; done)) ?_)
 refine .cV J J J J Body112 (r5_Read_none k hk h1) tV (.m J J J (.eX J J J J (.eX J J J J (.alloc (cs := Point.zero.cells) J Point.zr J ?_))))
 intro n9 hn9 hf9
 refine .sA J J J J (Point.isCell zZ) B9 (Point.length zZ) Z0 (Point.length zZ) zU ?_
 refine .a J J J (.nsr (.lA J J J Y23 J Sz23 Z2 (by (simp [hsg]; done)) ?_))
 refine .cV J J J J Body112 (r5_Read_some (sg.take 32) R ht32 h2) tV (.m J J J (.eX J J J J (.eX J J J J (.alloc (cs := Point.zero.cells) J Point.zr J ?_))))
 intro n11 hn11 hf11
 refine .sA J J J J (Point.isCell zP) B9 (Point.length zP) Z0 (Point.length zZ) zU ?_
 refine .a J J J (.na (.seq (.sr (.m J J J (.nei J J J J (show (!decide _) = true from congrArg not (decide_eq_false dE)) (.m J J J (.skp J J (.skp J J (.pick J J J J J J (.m J J J (.skp J J (.skp J J (.skp J J (.pick J J J J J J (.na (.cond_t J J (.sr (.a J J J (.na (.ret (Bg (An ?_))))))))))))))))))))))
 refine ⟨_, [], Ag J J, sP, sP, ?_, rfl⟩
 rfl

theorem r6_Good_r (k : List UInt8) (hk : k.length = 32) (sb : Sl) (bb : List UInt8) (hbn : bb.length ≤ 80000) (sg : List UInt8) (hsg : sg.length = 64) (A : Pt Fp) (h1 : rdP k = some A) (h2 : rdP (sg.take 32) = none) : Meets Tryz.prog 61 [agg (Aa k), sb.v, agg (Aa sg)] [] (fun W => BytesAt W sb bb) (fun v out => v = .bool false ∧ out = []) := by
 intro W hW
 have hd32 : (sg.drop 32).length = 32 := by rw [List.length_drop, hsg]
 have ht32 : (sg.take 32).length = 32 := by rw [List.length_take, hsg]; rfl
 refine Ab Tryz.func61 J 51 Tryz.ntmps61 J (.sr (.boxA J J ?_))
 intro n3 hn3 hf3
 refine .boxA J J ?_
 intro n5 hn5 hf5
 refine .a J J J (.nsr (.alloc (cs := (Aa (List.replicate 32 0))) J Zr23 J ?_))
 intro n7 hn7 hf7
 refine .nsr (.alloc (cs := (Aa (List.replicate 32 0))) J Bs J ?_)
 intro n8 hn8 hf8
 refine .na (.seq (.draw [(0, 0), (0, 1), (4, 2)] Ar zK (.sliceArr J J J Y23 Sz5 (.sliceArrHi 32 J J J J J dE dE Y27 Sz5 (.copyP (Aa (sg.take 32)) 32 J J J J J Y39 Sz5 (fun w h => sees_take (Ak h Z2)) (fun e => by cases e) (by rw [Aa, List.length_map]; exact ht32) J (by rw [Aa, ← List.map_take, List.take_of_length_le (Nat.le_of_eq ht32)]) (Aw _) Z1 sP (by exact upd_all ht32) zV ?_)))))
 refine .na (.seq (.draw [(0, 0), (0, 1), (4, 2)] Ar zK (.sliceArr J J J Y77 Sz5 (.sliceArrLo 32 J J J J J dE Y27 Sz5 (.copyP (Aa (sg.drop 32)) 32 J J J J J Y39 Sz5 (fun w h => sees_drop (Ak h Z2)) (fun e => by cases e) (by rw [Aa, List.length_map]; exact hd32) J (by rw [Aa, ← List.map_take, List.take_of_length_le (Nat.le_of_eq hd32)]) (Aw _) Z0 sP (by exact upd_all hd32) zU ?_)))))
 refine .nsr (.lA J J J Y25 J Sz25 Z3 (by (simp [hk]; done)) ?_)
 refine .cV J J J J Body112 (r5_Read_some k A hk h1) tV (.m J J J (.eX J J J J (.eX J J J J (.alloc (cs := Point.zero.cells) J Point.zr J ?_))))
 intro n9 hn9 hf9
 refine .sA J J J J (Point.isCell zP) B9 (Point.length zP) Z0 (Point.length zZ) zU ?_
 refine .a J J J (.nsr (.lA J J J Y23 J Sz23 Z2 (by (simp [hsg]; done)) ?_))
 refine .cV J J J J Body112 (r5_Read_none (sg.take 32) ht32 h2) tV (.m J J J (.eX J J J J (.eX J J J J (.alloc (cs := Point.zero.cells) J Point.zr J ?_))))
 intro n11 hn11 hf11
 refine .sA J J J J (Point.isCell zZ) B9 (Point.length zZ) Z0 (Point.length zZ) zU ?_
 refine .a J J J (.na (.seq (.sr (.m J J J (.nei J J J J (show (!decide _) = false from congrArg not (decide_eq_true (rfl))) (.m J J J (.m J J J (.nei J J J J (show (!decide _) = true from congrArg not (decide_eq_false dE)) (.pick J J J J J J (.m J J J (.skp J J (.skp J J (.skp J J (.pick J J J J J J (.na (.cond_t J J (.sr (.a J J J (.na (.ret (Bg (An ?_))))))))))))))))))))))
 refine ⟨_, [], Ag J J, sP, sP, ?_, rfl⟩
 rfl

theorem r6_Good_c (k : List UInt8) (hk : k.length = 32) (sb : Sl) (bb : List UInt8) (hbn : bb.length ≤ 80000) (sg : List UInt8) (hsg : sg.length = 64) (A R : Pt Fp) (h1 : rdP k = some A) (h2 : rdP (sg.take 32) = some R) (hc : ¬ le (sg.drop 32) < L) : Meets Tryz.prog 61 [agg (Aa k), sb.v, agg (Aa sg)] [] (fun W => BytesAt W sb bb) (fun v out => v = .bool false ∧ out = []) := by
 intro W hW
 have hd32 : (sg.drop 32).length = 32 := by rw [List.length_drop, hsg]
 have ht32 : (sg.take 32).length = 32 := by rw [List.length_take, hsg]; rfl
 have hcan := ref_canon (sg.drop 32) hd32
 rw [decide_eq_false hc] at hcan
 refine Ab Tryz.func61 J 51 Tryz.ntmps61 J (.sr (.boxA J J ?_))
 intro n3 hn3 hf3
 refine .boxA J J ?_
 intro n5 hn5 hf5
 refine .a J J J (.nsr (.alloc (cs := (Aa (List.replicate 32 0))) J Zr23 J ?_))
 intro n7 hn7 hf7
 refine .nsr (.alloc (cs := (Aa (List.replicate 32 0))) J Bs J ?_)
 intro n8 hn8 hf8
 refine .na (.seq (.draw [(0, 0), (0, 1), (4, 2)] Ar zK (.sliceArr J J J Y23 Sz5 (.sliceArrHi 32 J J J J J dE dE Y27 Sz5 (.copyP (Aa (sg.take 32)) 32 J J J J J Y39 Sz5 (fun w h => sees_take (Ak h Z2)) (fun e => by cases e) (by rw [Aa, List.length_map]; exact ht32) J (by rw [Aa, ← List.map_take, List.take_of_length_le (Nat.le_of_eq ht32)]) (Aw _) Z1 sP (by exact upd_all ht32) zV ?_)))))
 refine .na (.seq (.draw [(0, 0), (0, 1), (4, 2)] Ar zK (.sliceArr J J J Y77 Sz5 (.sliceArrLo 32 J J J J J dE Y27 Sz5 (.copyP (Aa (sg.drop 32)) 32 J J J J J Y39 Sz5 (fun w h => sees_drop (Ak h Z2)) (fun e => by cases e) (by rw [Aa, List.length_map]; exact hd32) J (by rw [Aa, ← List.map_take, List.take_of_length_le (Nat.le_of_eq hd32)]) (Aw _) Z0 sP (by exact upd_all hd32) zU ?_)))))
 refine .nsr (.lA J J J Y25 J Sz25 Z3 (by (simp [hk]; done)) ?_)
 refine .cV J J J J Body112 (r5_Read_some k A hk h1) tV (.m J J J (.eX J J J J (.eX J J J J (.alloc (cs := Point.zero.cells) J Point.zr J ?_))))
 intro n9 hn9 hf9
 refine .sA J J J J (Point.isCell zP) B9 (Point.length zP) Z0 (Point.length zZ) zU ?_
 refine .a J J J (.nsr (.lA J J J Y23 J Sz23 Z2 (by (simp [hsg]; done)) ?_))
 refine .cV J J J J Body112 (r5_Read_some (sg.take 32) R ht32 h2) tV (.m J J J (.eX J J J J (.eX J J J J (.alloc (cs := Point.zero.cells) J Point.zr J ?_))))
 intro n11 hn11 hf11
 refine .sA J J J J (Point.isCell zP) B9 (Point.length zP) Z0 (Point.length zZ) zU ?_
 refine .a J J J (.na (.seq (.sr (.m J J J (.nei J J J J (show (!decide _) = false from congrArg not (decide_eq_true (rfl))) (.m J J J (.m J J J (.nei J J J J (show (!decide _) = false from congrArg not (decide_eq_true (rfl))) (.pick J J J J J J (.m J J J (.lA J J J Y77 J Ad Z2 (by (simp [hsg]; done)) ?_)))))))))))
 refine .cV J J J J Body113 (hcan) tV (.not J J J (.pick J J J J J J (.na (.cond_t J J (.sr (.a J J J (.na (.ret (Bg (An ?_))))))))))
 refine ⟨_, [], Ag J J, sP, sP, ?_, rfl⟩
 rfl

theorem r6_Good_ok (k : List UInt8) (hk : k.length = 32) (sb : Sl) (bb : List UInt8) (hbn : bb.length ≤ 80000) (sg : List UInt8) (hsg : sg.length = 64) (A R : Pt Fp) (h1 : rdP k = some A) (h2 : rdP (sg.take 32) = some R) (hc : le (sg.drop 32) < L) (s r : List UInt8) (hs : Hid (Cd (sg.take 32 ++ (k ++ bb)) = s)) (hr : Hid (sgR s = r)) (hrl : r.length = 32) : Meets Tryz.prog 61 [agg (Aa k), sb.v, agg (Aa sg)] [] (fun W => BytesAt W sb bb) (fun v out => v = .bool (goodB k bb sg) ∧ out = []) := by
 intro W hW
 have hd32 : (sg.drop 32).length = 32 := by rw [List.length_drop, hsg]
 have ht32 : (sg.take 32).length = 32 := by rw [List.length_take, hsg]; rfl
 have hcan := ref_canon (sg.drop 32) hd32
 rw [decide_eq_true hc] at hcan
 have hA := rdP_on h1
 obtain ⟨Q, hQ⟩ : ∃ Q, cv.lin (le (sg.drop 32)) (le (sgR (Cd (sg.take 32 ++ (k ++ bb))))) bP (neg A) = Q := ⟨_, rfl⟩
 have hmul := r5_Mul2 (sg.drop 32) r bP (neg A) hd32 hrl bP_on (cv.on_neg hA)
 rw [show cv.lin (le (sg.drop 32)) (le r) bP (neg A) = Q from by rw [← hr.out, ← hs.out]; exact hQ] at hmul
 have hch := r6_challenge (sg.take 32) k ht32 hk sb bb hbn s hs
 rw [hr.out] at hch
 refine Ab Tryz.func61 J 51 Tryz.ntmps61 J (.sr (.boxA J J ?_))
 intro n3 hn3 hf3
 refine .boxA J J ?_
 intro n5 hn5 hf5
 refine .a J J J (.nsr (.alloc (cs := (Aa (List.replicate 32 0))) J Zr23 J ?_))
 intro n7 hn7 hf7
 refine .nsr (.alloc (cs := (Aa (List.replicate 32 0))) J Bs J ?_)
 intro n8 hn8 hf8
 refine .na (.seq (.draw [(0, 0), (0, 1), (4, 2)] Ar zK (.sliceArr J J J Y23 Sz5 (.sliceArrHi 32 J J J J J dE dE Y27 Sz5 (.copyP (Aa (sg.take 32)) 32 J J J J J Y39 Sz5 (fun w h => sees_take (Ak h Z2)) (fun e => by cases e) (by rw [Aa, List.length_map]; exact ht32) J (by rw [Aa, ← List.map_take, List.take_of_length_le (Nat.le_of_eq ht32)]) (Aw _) Z1 sP (by exact upd_all ht32) zV ?_)))))
 refine .na (.seq (.draw [(0, 0), (0, 1), (4, 2)] Ar zK (.sliceArr J J J Y77 Sz5 (.sliceArrLo 32 J J J J J dE Y27 Sz5 (.copyP (Aa (sg.drop 32)) 32 J J J J J Y39 Sz5 (fun w h => sees_drop (Ak h Z2)) (fun e => by cases e) (by rw [Aa, List.length_map]; exact hd32) J (by rw [Aa, ← List.map_take, List.take_of_length_le (Nat.le_of_eq hd32)]) (Aw _) Z0 sP (by exact upd_all hd32) zU ?_)))))
 refine .nsr (.lA J J J Y25 J Sz25 Z3 (by (simp [hk]; done)) ?_)
 refine .cV J J J J Body112 (r5_Read_some k A hk h1) tV (.m J J J (.eX J J J J (.eX J J J J (.alloc (cs := Point.zero.cells) J Point.zr J ?_))))
 intro n9 hn9 hf9
 refine .sA J J J J (Point.isCell zP) B9 (Point.length zP) Z0 (Point.length zZ) zU ?_
 refine .a J J J (.nsr (.lA J J J Y23 J Sz23 Z2 (by (simp [hsg]; done)) ?_))
 refine .cV J J J J Body112 (r5_Read_some (sg.take 32) R ht32 h2) tV (.m J J J (.eX J J J J (.eX J J J J (.alloc (cs := Point.zero.cells) J Point.zr J ?_))))
 intro n11 hn11 hf11
 refine .sA J J J J (Point.isCell zP) B9 (Point.length zP) Z0 (Point.length zZ) zU ?_
 refine .a J J J (.na (.seq (.sr (.m J J J (.nei J J J J (show (!decide _) = false from congrArg not (decide_eq_true (rfl))) (.m J J J (.m J J J (.nei J J J J (show (!decide _) = false from congrArg not (decide_eq_true (rfl))) (.pick J J J J J J (.m J J J (.lA J J J Y77 J Ad Z2 (by (simp [hsg]; done)) ?_)))))))))))
 refine .cV J J J J Body113 (hcan) tV (.not J J J (.pick J J J J J J (.na (.cond_f J J (.skip (Ae (.seq (.draw [(1, 0), (1, 2), (1, 3), (0, 4), (1, 6), (1, 9), (3, 1), (3, 5), (3, 7), (3, 8), (0, 10), (0, 11)] Ar zK (.lA J J J Y77 J Ad Z2 (by (simp [hsg]; done)) ?_)))))))))
 refine .lA J J J Y23 J Sz23 Z3 (by (simp [hsg]; done)) ?_
 refine .lA J J J Y25 J Sz25 (by exact mem5) (by (simp [hk]; done)) ?_
 refine .m J J J (.lA J J J Y79 J B9 Z1 (Point.length zP) ?_)
 refine .lA J J J Y79 J B9 Z0 (Point.length zP) ?_
 refine .cV J J J J Body67 (r5_Base) tV (.cV J J J J Body115 (hch) (fun w h => bytes_ext h J hW) (.cV J J J J Body116 (r5_Neg A hA) tV (.cV J J J J Body114 (hmul) tV (.eql_rec J J J J Point.eg (fun w => Point.eq_runC (ptc_ok _) (ptc_ok _) w) (good_dec hc h1 h2 hQ) (.a J J J (.na (.ret (An ?_))))))))
 refine ⟨_, [], Ag J J, sP, sP, ?_, rfl⟩
 rfl

theorem r6_Good (k : List UInt8) (hk : k.length = 32) (sb : Sl) (bb : List UInt8) (hbn : bb.length ≤ 80000) (sg : List UInt8) (hsg : sg.length = 64) : Meets Tryz.prog 61 [agg (Aa k), sb.v, agg (Aa sg)] [] (fun W => BytesAt W sb bb) (fun v out => v = .bool (goodB k bb sg) ∧ out = []) := by
  cases h1 : rdP k with
  | none =>
    rw [good_no (fun e => by obtain ⟨_, ⟨A, h⟩, _⟩ := e; rw [h1] at h; cases h)]
    cases h2 : rdP (sg.take 32) with
    | none => exact r6_Good_kr k hk sb bb hbn sg hsg h1 h2
    | some R => exact r6_Good_k k hk sb bb hbn sg hsg R h1 h2
  | some A =>
    cases h2 : rdP (sg.take 32) with
    | none =>
      rw [good_no (fun e => by obtain ⟨_, _, ⟨R, h⟩⟩ := e; rw [h2] at h; cases h)]
      exact r6_Good_r k hk sb bb hbn sg hsg A h1 h2
    | some R =>
      by_cases hc : le (sg.drop 32) < L
      · exact r6_Good_ok k hk sb bb hbn sg hsg A R h1 h2 hc _ _ ⟨rfl⟩ ⟨rfl⟩ (sgR_length _)
      · rw [good_no (fun e => hc e.1)]
        exact r6_Good_c k hk sb bb hbn sg hsg A R h1 h2 hc



end Go.Proofs.YtpacobmjjjillaaGreat
end

section
namespace Go.Proofs.YtpacobmjjjillaaGreat
open Go Hw

open Ed

def btag : List UInt8 := [98, 108, 111, 99, 107]
def btxt (D : DB) : List UInt8 := btag ++ D.body
def bsg (D : DB) (K G : List UInt8) : DB := { D with w := K, sg := G }
theorem DB.body_small {D : DB} (hd : D.ok) (h1 : D.ls.length ≤ 40) (h2 : D.ds.length ≤ 2000) : (btxt D).length ≤ 4005 := by
  have hz1 := Cp D.seq.toNat
  have hz2 := Cp (UInt64.ofNat D.ls.length).toNat
  have hz3 := Cp (UInt64.ofNat D.ds.length).toNat
  have hfl := Cl hd.ls (Nat.le_refl D.ls.length)
  rw [List.take_length] at hfl
  simp only [btxt, btag, DB.body, List.length_append, Br, hd.w, hd.prev, hfl, List.length_cons, List.length_nil]
  omega
noncomputable def dgood (D : DB) : Int := if D.check = 0 then (if goodB D.w (btxt D) D.sg = true then 0 else 9) else D.check
def SeesX (W : World) (ex : List Nat) (p : Option Addr) (cs : List Value) : Prop := ∀ (j : Nat) (v : Value), cs[j]? = some v → ∃ b o, p = some ⟨b, o, none⟩ ∧ b ∉ ex ∧ W.cell? ⟨b, o + j, none⟩ = some v
theorem SeesX.ext {C : Cx} {hp : List Blk} {w : World} {p : Option Addr} {cs : List Value} (h : HRep C hp w) (hs : SeesX C.W0 C.lent p cs) : SeesP w p cs := fun j v hj => by
  obtain ⟨b, o, e, hb, hc⟩ := hs j v hj
  exact ⟨b, o, e, h.keeps.cell hb hc⟩
theorem cell_lt' {w : World} {c o : Nat} {v : Value} (h : w.cell? ⟨c, o, none⟩ = some v) : c < w.heap.size := by
  rcases Nat.lt_or_ge c w.heap.size with h1 | h1
  · exact h1
  · simp [World.cell?, Array.getElem?_eq_none h1] at h
theorem SeesX.new {C : Cx} {hp : List Blk} {w : World} {p : Option Addr} {cs : List Value} {n : Nat} (h : HRep C hp w) (hl : C.lent = []) (hn : C.W0.heap.size ≤ n) (hs : SeesP C.W0 p cs) : SeesX w [n] p cs := fun j v hj => by
  obtain ⟨b, o, e, hc⟩ := hs j v hj
  refine ⟨b, o, e, ?_, h.keeps.cell (by rw [hl]; simp) hc⟩
  have := cell_lt' hc
  simp
  omega
theorem Acc.seeX {s : Sl} {bl : List Blk} {cells : List Value} {E : TypeId} {n size m : Nat} {w : World} (h : Hw.Acc s bl cells E n size) (hw : Lies bl w) (hn : ∀ b ∈ bl, b.n ≠ m) : SeesX w [m] s.p cells := fun j v hj => by
  obtain ⟨b, o, e, hc⟩ := h.see hw j v hj
  refine ⟨b, o, e, ?_, hc⟩
  rcases h with ⟨rfl, rfl, rfl, _⟩ | ⟨q, c, rfl, _, _, rfl⟩
  · cases e
  · cases e
    have := hn _ (List.mem_singleton.2 rfl)
    simpa using this
theorem acc_loose (cells : List Value) (E : TypeId) (n size : Nat) (hl : cells.length = n * size) : Loose fun v out => ∃ s : Sl, v = s.v ∧ Hw.Acc s out cells E n size := fun l h => by
  obtain ⟨v, out, ⟨q, c, h1, h2, h3⟩, h4⟩ := FreshRow.loose cells E n size l h
  exact ⟨v, out, ⟨⟨some ⟨q, 0, none⟩, n, c⟩, h1, by rw [h3]; exact Acc.some h2 hl⟩, h4⟩
theorem ptr_loose (f : Nat → Value) (cs : List Value) (T : TypeId) (m : Nat) : Loose fun v out => ∃ c, v = f c ∧ out = [⟨c, cs, T, m⟩] := fun l h => by
  obtain ⟨q, _, hq⟩ := fresh_is 0 l
  refine ⟨_, _, ⟨q, rfl, rfl⟩, ?_⟩
  simp only [List.singleton_append, List.map_cons, List.nodup_cons]
  exact ⟨fun h2 => by obtain ⟨b, hb, e⟩ := List.mem_map.1 h2; exact hq b hb e, h⟩
theorem lie_none {n : Nat} {v : Value} {T : TypeId} {W : World} (h : Lies [⟨n, [v], T, 0⟩] W) : False := by
  obtain ⟨full, fr, hb⟩ := h _ (List.mem_singleton.2 rfl)
  have h1 := hb.pre.length_le
  have h2 := hb.size
  simp at h1
  simp only at h2
  omega
structure SameB (B : Block) (D : DB) : Prop where
  ok : B.ok
  w : B.fWriter = D.w
  seq : B.fSeq = D.seq
  prev : B.fPrev = D.prev
  sg : B.fSig = D.sg
  ln : B.fLinks.n = D.ls.length
  dn : B.fData.n = D.ds.length
theorem some_same {D : DB} (h : D.ok) : SameB ⟨D.w, D.seq, D.prev, ⟨none, D.ls.length, 0⟩, ⟨none, D.ds.length, 0⟩, D.sg⟩ D := ⟨⟨h.w, h.prev, h.sg⟩, rfl, rfl, rfl, rfl, rfl, rfl⟩
def BlkR (e : Int) (D : DB) (v : Value) (out : List Blk) : Prop := ∃ B : Block, SameB B D ∧ v = .tuple #[agg B.cells, i64 e] ∧ ∀ W2, Lies out W2 → BlockIs W2 B D
def BlkV (D : DB) (v : Value) (out : List Blk) : Prop := ∃ B : Block, SameB B D ∧ v = agg B.cells ∧ ∀ W2, Lies out W2 → BlockIs W2 B D
theorem none_nodup {l : List Blk} {n : Nat} (hl : (l.map (·.n)).Nodup) (hn : ∀ b ∈ l, b.n ≠ n) (v : Value) : ((([⟨n, [v], 0, 0⟩] : List Blk) ++ l).map (·.n)).Nodup := by
  simp only [List.singleton_append, List.map_cons, List.nodup_cons]
  exact ⟨fun h2 => by obtain ⟨b, hb, e⟩ := List.mem_map.1 h2; exact hn b hb e, hl⟩
theorem BlkR.loose (e : Int) (D : DB) (hD : D.ok) : Loose (BlkR e D) := fun l hl => by
  obtain ⟨n, _, hn⟩ := fresh_is 0 l
  exact ⟨_, [⟨n, [undef], 0, 0⟩], ⟨_, some_same hD, rfl, fun W2 h => (lie_none h).elim⟩, none_nodup hl hn _⟩
theorem BlkV.loose (D : DB) (hD : D.ok) : Loose (BlkV D) := fun l hl => by
  obtain ⟨n, _, hn⟩ := fresh_is 0 l
  exact ⟨_, [⟨n, [undef], 0, 0⟩], ⟨_, some_same hD, rfl, fun W2 h => (lie_none h).elim⟩, none_nodup hl hn _⟩
theorem rowsX {C : Cx} {hp : List Blk} {w : World} {s : Sl} {m : Nat} {ls : List (List UInt8)} (h : HRep C hp w) (hr : RowsAt C.W0 s m ls) (hx : SeesX C.W0 C.lent s.p (Bv ls)) : RowsAt w s m ls := ⟨hr.len, hr.row, hr.cap, hx.ext h, hr.max, hr.nil⟩
theorem bytesX {C : Cx} {hp : List Blk} {w : World} {s : Sl} {l : List UInt8} (h : HRep C hp w) (hr : BytesAt C.W0 s l) (hx : SeesX C.W0 C.lent s.p (Aa l)) : BytesAt w s l := ⟨hr.len, hr.cap, hx.ext h, hr.max, hr.nil⟩
theorem own_btxt {W : World} {q c : Nat} {D : DB} (hs : SeesP W (some ⟨q, 0, none⟩) (Aa (btxt D))) (hc : (btxt D).length ≤ c) (hn : (btxt D).length ≤ 4005) : BytesAt W ⟨some ⟨q, 0, none⟩, (btxt D).length, c⟩ (btxt D) := own_bytes hs rfl hc (by unfold maxLen; omega)
theorem db_text (B : Block) (D : DB) (hB : B.ok) (h1 : D.ls.length ≤ 40) (h2 : D.ds.length ≤ 2000) : Meets Tryz.prog 47 [agg B.cells] [] (fun W => BlockIs W B D) (fun v out => FreshRow v out (Aa (btxt D)) 5 (btxt D).length 1) := by
 intro W hW
 have hbs := DB.body_small hW.dok h1 h2
 have e1 := hW.ls.len
 have e2 := hW.ds.len
 have hbl : (btxt D).length = 5 + D.body.length := by rw [btxt, List.length_append]; rfl
 refine Ab Tryz.func47 J 8 Tryz.ntmps47 J (.sr (.boxA J J ?_))
 intro n1 hn1 hf1
 refine .a J J J (.nsr (.mkRow (z := u8 0) [u8 98, u8 108, u8 111, u8 99, u8 107] (Aa btag) J J J Y39 Sz5 Zr5 J J (by intro v hv; simp only [List.mem_cons, List.not_mem_nil, or_false] at hv; rcases hv with rfl | rfl | rfl | rfl | rfl <;> rfl) dE J ?_))
 intro q3
 refine .constB J J J J Y39 Y5 Z0 ?_
 refine .lA J J J Y53 J Bw Z1 (Block.length zA) ?_
 refine .call4 J J J J J Body93 (block_body B hB D.ls D.ds oM oM) (fun w h => ⟨rows_ext h J hW.ls, bytes_ext h J hW.ds⟩) ?_
 rintro v6 out6 ⟨N6, hN6, hN62, q6, c6, rfl, hc6, rfl⟩
 rw [hW.body] at hN6 ⊢
 subst hN6
 refine .appendSl (z := u8 0) (by' := 1) (Aa D.body) J J J J J Y39 Y39 Sz5 Zr5 (by unfold By; kernel_rfl) J (fun w h => SeesP.of (Ak (cs := Aa D.body) h Z0)) (fun e => by cases e) (Aw _) rM J J dE oM oM (by rw [Aa, List.length_map, Nat.mul_one]) ?_
 intro q7 c7 hq7
 rw [← bytesV_app]
 refine .a J J J (.na (.ret (An (Be (out := (⟨q7, Aa (btag ++ D.body), 5, c7 * 1⟩ :: [])) (Ag J J) (Ai rM Au) ?_))))
 exact ⟨q7, c7, (by (rw [hbl]; done)), (by rw [hbl]; exact hq7), rfl⟩

theorem cl_digs_nil  : Meets Tryz.prog 148 [.slice none 0 0] [] (fun _ => True) (fun v out => v = .slice none 0 0 ∧ out = []) := by
 intro W hW
 refine Ab Tryz.func148 J 8 Tryz.ntmps148 J (.sr (.a J J J (.na (.seq (.sr (.m J J J (.eqNilS (r := true) J J J J Y51 J (.na (.cond_t J (rfl) (.sr (.a J J J (.na (.ret (Bg (An (Be (out := []) (Ag J J) Au ?_))))))))))))))))
 exact ⟨rfl, rfl⟩

theorem cl_digs_some (a : Addr) (n c : Nat) (ls : List (List UInt8)) (hl : ls.length = n) (hr : ∀ l ∈ ls, l.length = 32) (hn : n ≤ 90000) : Meets Tryz.prog 148 [.slice (some a) n c] [] (fun W => SeesP W (some a) (Bv ls)) (fun v out => FreshRow v out (Bv ls) 24 n 32) := by
 intro W hW
 refine Ab Tryz.func148 J 8 Tryz.ntmps148 J (.sr (.a J J J (.na (.seq (.sr (.m J J J (.eqNilS (r := false) J J J J Y51 J (.na (.cond_f J (rfl) (.skip (Ae (.sr (.mkRow (z := agg (Aa (List.replicate 32 0))) [] [] rfl J J Y51 Bm Zr24 J J (by intro v hv; cases hv) dE J ?_)))))))))))))
 intro q0
 refine .m J J J (.appendSl (z := agg (Aa (List.replicate 32 0))) (by' := 32) (Bv ls) J J J J J Y51 Y51 Bm Zr24 (by unfold By; kernel_rfl) J (fun w h => Ax h J hW) (fun e => by cases e) (flatB_cell ls) Az J J oM oM oM (by rw [Bu hr, hl]) ?_)
 intro q1 c1 hq1
 refine .a J J J (.na (.ret (An ?_)))
 refine ⟨_, [⟨q1, [] ++ Bv ls, 24, c1 * 32⟩], Ag J J, (by intro b hb; rw [List.mem_singleton.1 hb]; exact Bo), Ce, ⟨q1, c1, by rw [Nat.zero_add], by omega, rfl⟩⟩

theorem cl_byte_nil  : Meets Tryz.prog 149 [.slice none 0 0] [] (fun _ => True) (fun v out => v = .slice none 0 0 ∧ out = []) := by
 intro W hW
 refine Ab Tryz.func149 J 8 Tryz.ntmps149 J (.sr (.a J J J (.na (.seq (.sr (.m J J J (.eqNilS (r := true) J J J J Y39 J (.na (.cond_t J (rfl) (.sr (.a J J J (.na (.ret (Bg (An (Be (out := []) (Ag J J) Au ?_))))))))))))))))
 exact ⟨rfl, rfl⟩

theorem cl_digs (s : Sl) (ls : List (List UInt8)) (hn : s.n ≤ 90000) : Meets Tryz.prog 148 [s.v] [] (fun W => RowsAt W s 32 ls) (fun v out => ∃ s' : Sl, v = s'.v ∧ Hw.Acc s' out (Bv ls) 24 s.n 32) := fun W hW => by
  obtain ⟨p, n, c⟩ := s
  cases p with
  | none =>
    obtain rfl : c = 0 := hW.nil rfl
    obtain rfl : n = 0 := Nat.le_zero.1 hW.cap
    obtain rfl : ls = [] := List.length_eq_zero_iff.1 hW.len
    exact (cl_digs_nil W trivial).mono fun e W' ⟨v, out, h1, ⟨h2, h3⟩, h4⟩ => ⟨v, out, h1, ⟨Sl.nil, h2, by subst h3; exact Acc.none⟩, h4⟩
  | some a => exact (cl_digs_some a n c ls hW.len hW.row hn W hW.see).mono fun e W' ⟨v, out, h1, ⟨q, c', h2, h3, h5⟩, h4⟩ => ⟨v, out, h1, ⟨⟨some ⟨q, 0, none⟩, n, c'⟩, h2, by rw [h5]; exact Acc.some h3 (by rw [Bu hW.row, hW.len])⟩, h4⟩
theorem cl_byte (s : Sl) (l : List UInt8) (hn : s.n ≤ 90000) : Meets Tryz.prog 149 [s.v] [] (fun W => BytesAt W s l) (fun v out => ∃ s' : Sl, v = s'.v ∧ Hw.Acc s' out (Aa l) 5 s.n 1) := fun W hW => by
  obtain ⟨p, n, c⟩ := s
  cases p with
  | none =>
    obtain rfl : c = 0 := hW.nil rfl
    obtain rfl : n = 0 := Nat.le_zero.1 hW.cap
    obtain rfl : l = [] := List.length_eq_zero_iff.1 hW.len
    exact (cl_byte_nil W trivial).mono fun e W' ⟨v, out, h1, ⟨h2, h3⟩, h4⟩ => ⟨v, out, h1, ⟨Sl.nil, h2, by subst h3; exact Acc.none⟩, h4⟩
  | some a => exact (clone_bytes a n c l hW.len hn W hW.see).mono fun e W' ⟨v, out, h1, ⟨q, c', h2, h3, h5⟩, h4⟩ => ⟨v, out, h1, ⟨⟨some ⟨q, 0, none⟩, n, c'⟩, h2, by rw [h5]; exact Acc.some h3 (by rw [Aa, List.length_map]; exact hW.len.trans (Nat.mul_one _).symm)⟩, h4⟩

theorem mk_like (B : Block) (hB : B.ok) : Meets Tryz.prog 89 [agg B.cells] [] (fun _ => True) (fun v out => ∃ c, v = .func (.func 147) #[] #[ptr c 0] ∧ out = [⟨c, B.cells, 53, 131⟩]) := by
 intro W hW
 refine Ab Tryz.func89 J 4 Tryz.ntmps89 J (.sr (.boxA J J ?_))
 intro n1 hn1 hf1
 refine .a J J J (.nsr (.makeFunc J J J J (.a J J J (.na (.ret (An (Be (out := (⟨n1, B.cells, 53, 131⟩ :: [])) (Ag J J) (pm_consE rM J (Block.length hB) Au) ?_)))))))
 exact ⟨n1, rfl, rfl⟩

theorem mk_by (k : List UInt8) (hk : k.length = 32) : Meets Tryz.prog 90 [agg (Aa k)] [] (fun _ => True) (fun v out => ∃ c, v = .func (.func 150) #[] #[ptr c 0] ∧ out = [⟨c, Aa k, 25, 32⟩]) := by
 intro W hW
 refine Ab Tryz.func90 J 4 Tryz.ntmps90 J (.sr (.boxA J J ?_))
 intro n1 hn1 hf1
 refine .a J J J (.nsr (.makeFunc J J J J (.a J J J (.na (.ret (An (Be (out := (⟨n1, Aa k, 25, 32⟩ :: [])) (Ag J J) (pm_consE rM J (by rw [Aa, List.length_map]; exact hk) Au) ?_)))))))
 exact ⟨n1, rfl, rfl⟩

theorem mk_signed (k : List UInt8) (hk : k.length = 32) : Meets Tryz.prog 91 [agg (Aa k)] [] (fun _ => True) (fun v out => ∃ c, v = .func (.func 151) #[] #[ptr c 0] ∧ out = [⟨c, Aa k, 23, 32⟩]) := by
 intro W hW
 refine Ab Tryz.func91 J 4 Tryz.ntmps91 J (.sr (.boxA J J ?_))
 intro n1 hn1 hf1
 refine .a J J J (.nsr (.makeFunc J J J J (.a J J J (.na (.ret (An (Be (out := (⟨n1, Aa k, 23, 32⟩ :: [])) (Ag J J) (pm_consE rM J (by rw [Aa, List.length_map]; exact hk) Au) ?_)))))))
 exact ⟨n1, rfl, rfl⟩

theorem opt_like (b c : Nat) (hcb : c ≠ b) (X B : Block) (hX : X.ok) (hB : B.ok) (D : DB) (h1 : D.ls.length ≤ 40) (h2 : D.ds.length ≤ 2000) : Meets Tryz.prog 147 [ptr b 0, ptr c 0] [b] (fun W => BlkOk W ⟨b, (X).cells, 53, 131⟩ ∧ Cc W c 0 B.cells ∧ RowsAt W B.fLinks 32 D.ls ∧ BytesAt W B.fData D.ds ∧ SeesX W [b] B.fLinks.p (Bv D.ls) ∧ SeesX W [b] B.fData.p (Aa D.ds)) (fun v out => ∃ s10 bl10 s13 bl13, v = .tuple #[] ∧ Hw.Acc s10 bl10 (Bv D.ls) 24 B.fLinks.n 32 ∧ Hw.Acc s13 bl13 (Aa D.ds) 5 B.fData.n 1 ∧ out = ⟨b, (({ B with fLinks := s10, fData := s13 } : Block)).cells, 53, 131⟩ :: (bl10 ++ bl13)) := by
 intro W hW
 have e1 := hW.2.2.1.len
 have e2 := hW.2.2.2.1.len
 have f1 : (Bv D.ls).length = B.fLinks.n * 32 := by rw [Bu hW.2.2.1.row, e1]
 have f2 : (Aa D.ds).length = B.fData.n * 1 := by rw [Aa, List.length_map, e2, Nat.mul_one]
 refine Ba (hp0 := [⟨b, (X).cells, 53, 131⟩]) Tryz.func147 J 18 Tryz.ntmps147 J (HRep.one hW.1) (.sr (.m J J J (.loadEN B.cells J J J Y53 J Bw (by simp; omega) (Block.length hB) hW.2.1 ?_)))
 refine .nC J J J (.sA J J J J (Block.isCell zA) Bw (Block.length zA) Z0 (Block.length zA) zU ?_)
 refine .na (.draw [(0, 0), (0, 1), (0, 2), (1, 3), (0, 5), (1, 6), (3, 4), (3, 7), (0, 8), (0, 9), (4, 10), (0, 11), (0, 12), (4, 13)] Ar zK (.m J J J (.m J J J (.fld J J J Y53 J Sz51 dE _ J (.loadE J J J Y51 J (by (simp; omega)) (hW.2.1 65 _ (Block.get_fLinks hB)) ?_)))))
 refine .fld J J J Y53 J Co dE _ J (.loadE J J J Y39 J (by (simp; omega)) (hW.2.1 66 _ (Block.get_fData hB)) ?_)
 refine .call J J J J Body148 (cl_digs B.fLinks D.ls oM) (acc_loose _ _ _ _ f1) (fun w h => rowsX h hW.2.2.1 hW.2.2.2.2.1) ?_
 rintro v10 out10 ⟨s10, rfl, hac10⟩
 refine .call J J J J Body149 (cl_byte B.fData D.ds oM) (acc_loose _ _ _ _ f2) (fun w h => bytesX h hW.2.2.2.1 hW.2.2.2.2.2) ?_
 rintro v13 out13 ⟨s13, rfl, hac13⟩
 refine .nC J J J (.fld J J J Y53 J Sz51 dE _ J (.s1 J J J J J Sz51 mR (by rw [Block.length zA]; decide) (by exact Block.set_fLinks zA _) (by (repeat (first | exact upd0 | apply Upd.seg))) ?_))
 refine .nC J J J (.fld J J J Y53 J Co dE _ J (.s1 J J J J J Co mR (by rw [Block.length (by exact ⟨hB.l_fWriter, hB.l_fPrev, hB.l_fSig⟩)]; decide) (by exact Block.set_fData (by exact ⟨hB.l_fWriter, hB.l_fPrev, hB.l_fSig⟩) _) (by (repeat (first | exact upd0 | apply Upd.seg))) ?_))
 refine .nil (en_n (Be (out := (⟨b, (({ B with fLinks := s10, fData := s13 } : Block)).cells, 53, 131⟩ :: (out10 ++ (out13 ++ [])))) (res_none J) (Ai (by repeat (first | exact Az | apply rem_seg)) (B6 (by repeat (first | exact sg_here | apply sg_seg)) (B6 sG Au))) ?_))
 exact ⟨s10, out10, s13, out13, rfl, hac10, hac13, by simp⟩

theorem opt_by (b c : Nat) (hcb : c ≠ b) (X : Block) (hX : X.ok) (k : List UInt8) (hk : k.length = 32) : Meets Tryz.prog 150 [ptr b 0, ptr c 0] [b] (fun W => BlkOk W ⟨b, (X).cells, 53, 131⟩ ∧ Cc W c 0 (Aa k)) (fun v out => v = .tuple #[] ∧ out = [⟨b, (({ X with fWriter := k } : Block)).cells, 53, 131⟩]) := by
 intro W hW
 refine Ba (hp0 := [⟨b, (X).cells, 53, 131⟩]) Tryz.func150 J 7 Tryz.ntmps150 J (HRep.one hW.1) (.region (.m J J J (.loadEN (Aa k) J J J Y25 J Sz25 (by simp; omega) (by rw [Aa, List.length_map]; exact hk) hW.2 ?_)))
 refine .nC J J J (.fld J J J Y53 J Sz25 dE _ J (.storeN (Aa _) J J J J J zE Sz25 (by simp [hk]) Z0 (by rw [Block.length zA]; simp [hk]) (Block.upd_fWriter zA _ (by simp [hk])) zU ?_))
 refine .nil (en_n (Be (out := (⟨b, (({ X with fWriter := k } : Block)).cells, 53, 131⟩ :: [])) (res_none J) (Ai rM Au) ?_))
 exact ⟨rfl, rfl⟩

theorem opt_signed (b c : Nat) (hcb : c ≠ b) (X : Block) (hX : X.ok) (D : DB) (h1 : D.ls.length ≤ 40) (h2 : D.ds.length ≤ 2000) (hDX : D.w = X.fWriter ∧ D.seq = X.fSeq ∧ D.prev = X.fPrev) (seed : List UInt8) (h32 : seed.length = 32) (s s1 s2 : List UInt8) (hs : Hid (Cd seed = s)) (hs1 : Hid (Cd (s.drop 32 ++ btxt D) = s1)) (hs2 : Hid (Cd (sgF s1 ++ (sgK s ++ btxt D)) = s2)) : Meets Tryz.prog 151 [ptr b 0, ptr c 0] [b] (fun W => BlkOk W ⟨b, (X).cells, 53, 131⟩ ∧ Cc W c 0 (Aa seed) ∧ RowsAt W X.fLinks 32 D.ls ∧ BytesAt W X.fData D.ds ∧ SeesX W [b] X.fLinks.p (Bv D.ls) ∧ SeesX W [b] X.fData.p (Aa D.ds)) (fun v out => v = .tuple #[] ∧ out = [⟨b, (({ X with fSig := (sgF s1 ++ sgS s s1 s2) } : Block)).cells, 53, 131⟩]) := by
 intro W hW
 have lG : (sgF s1 ++ sgS s s1 s2).length = 64 := by rw [List.length_append, sgF_length, sgS_length]
 have hIs : ∀ w, RowsAt w X.fLinks 32 D.ls → BytesAt w X.fData D.ds → BlockIs w X { D with sg := X.fSig } := fun w hr hb => ⟨hX, hDX.1.symm, hDX.2.1.symm, hDX.2.2.symm, hr, hb, rfl⟩
 have hdk := (hIs W hW.2.2.1 hW.2.2.2.1).dok
 have hvn : (btxt D).length ≤ 4005 := DB.body_small (D := { D with sg := X.fSig }) hdk h1 h2
 have cS := fun (x : Sl) => sign_Sign seed h32 x (btxt D) oM s s1 s2 hs hs1 hs2
 have cT := db_text X { D with sg := X.fSig } hX h1 h2
 rw [show btxt { D with sg := X.fSig } = btxt D from rfl] at cT
 clear hs hs1 hs2
 revert lG cS
 generalize sgF s1 ++ sgS s s1 s2 = G
 intro lG cS
 refine Ba (hp0 := [⟨b, (X).cells, 53, 131⟩]) Tryz.func151 J 12 Tryz.ntmps151 J (HRep.one hW.1) (.draw [(0, 0), (1, 1), (0, 2), (0, 3), (1, 4), (3, 5), (3, 6), (0, 7), (0, 8), (4, 9)] Ar zK (.m J J J (.loadEN (Aa seed) J J J Y23 J Sz23 (by simp; omega) (by rw [Aa, List.length_map]; exact h32) hW.2.1 ?_)))
 refine .m J J J (.nC J J J (.lA J J J Y53 J Bw Z0 (Block.length zA) ?_))
 refine .call J J J J Body47 (cT) (FreshRow.loose _ _ _ _) (fun w h => hIs w (rowsX h hW.2.2.1 hW.2.2.2.2.1) (bytesX h hW.2.2.2.1 hW.2.2.2.2.2)) ?_
 rintro v8 out8 ⟨q8, c8, rfl, hc8, rfl⟩
 refine .cV J J J J Body59 (cS ⟨some ⟨q8, 0, none⟩, _, c8⟩) (fun w h => own_btxt (SeesP.of (Ak h Z0)) hc8 hvn) ?_
 refine .nC J J J (.fld J J J Y53 J Sz27 dE _ J (.storeN (Aa _) J J J J J zE Sz27 (by simp [lG]) Z1 (by rw [Block.length zA]; simp [lG]) (Block.upd_fSig zA _ (by simp [lG])) zV ?_))
 refine .nil (en_n (Be (out := (⟨b, (({ X with fSig := G } : Block)).cells, 53, 131⟩ :: [])) (res_none J) (Ai rM Au) ?_))
 exact ⟨rfl, rfl⟩

theorem block_buildS (r c1 c2 c3 : Nat) (B : Block) (hB : B.ok) (D : DB) (h1 : D.ls.length ≤ 40) (h2 : D.ds.length ≤ 2000) (seed : List UInt8) (h32 : seed.length = 32) (s s1 s2 : List UInt8) (hs : Hid (Cd seed = s)) (hs1 : Hid (Cd (s.drop 32 ++ btxt ({ D with w := sgK s } : DB)) = s1)) (hs2 : Hid (Cd (sgF s1 ++ (sgK s ++ btxt ({ D with w := sgK s } : DB))) = s2)) : Meets Tryz.prog 88 [.slice (some ⟨r, 0, none⟩) 3 3] [] (fun W => (W.cell? ⟨r, 0, none⟩ = some (.func (.func 147) #[] #[ptr c1 0]) ∧ W.cell? ⟨r, 1, none⟩ = some (.func (.func 150) #[] #[ptr c2 0]) ∧ W.cell? ⟨r, 2, none⟩ = some (.func (.func 151) #[] #[ptr c3 0])) ∧ Cc W c1 0 B.cells ∧ Cc W c2 0 (Aa (sgK s)) ∧ Cc W c3 0 (Aa seed) ∧ BlockIs W B D ∧ c1 < W.heap.size ∧ c2 < W.heap.size ∧ c3 < W.heap.size) (fun v out => ∃ s10 bl10 s13 bl13, v = agg ({ B with fLinks := s10, fData := s13, fWriter := sgK s, fSig := (sgF s1 ++ sgS s s1 s2) } : Block).cells ∧ Hw.Acc s10 bl10 (Bv D.ls) 24 B.fLinks.n 32 ∧ Hw.Acc s13 bl13 (Aa D.ds) 5 B.fData.n 1 ∧ out = bl10 ++ bl13) := by
 intro W hW
 have lG : (sgF s1 ++ sgS s s1 s2).length = 64 := by rw [List.length_append, sgF_length, sgS_length]
 have lK := sgK_length s
 have ok1 : ∀ s10 s13, ({ B with fLinks := s10, fData := s13 } : Block).ok := fun _ _ => ⟨hB.l_fWriter, hB.l_fPrev, hB.l_fSig⟩
 have ok2 : ∀ s10 s13, ({ B with fLinks := s10, fData := s13, fWriter := sgK s } : Block).ok := fun _ _ => ⟨lK, hB.l_fPrev, hB.l_fSig⟩
 have ok3 : ∀ s10 s13, ({ B with fLinks := s10, fData := s13, fWriter := sgK s, fSig := (sgF s1 ++ sgS s s1 s2) } : Block).ok := fun _ _ => ⟨lK, hB.l_fPrev, lG⟩
 have hD := hW.2.2.2.2.1
 have hz := hW.2.2.2.2.2
 have e1 := hD.ls.len
 have e2 := hD.ds.len
 refine Ab Tryz.func88 J 16 Tryz.ntmps88 J (.sr (.alloc (cs := Block.zero.cells) J Block.zr J ?_))
 intro n2 hn2 hf2
 refine .nsr (.alloc (cs := Block.zero.cells) J Block.zr J ?_)
 intro n3 hn3 hf3
 refine .na (.seq (.sr ?_))
 have hg3 : W.heap.size ≤ n3 := hn3
 have hz1 : c1 ≠ n3 := by omega
 have hz2 : c2 ≠ n3 := by omega
 have hz3 : c3 ≠ n3 := by omega
 refine .m J J J (.lenSl J J J Y154 (.m J J J (.na (.block (.rounds 4 (SRounds.more (.sr (.lss J J J J J (.na (.seq (.cond_t J (rfl) (.skip (Ae (.seq (.block (.sr (.idxSl1 J J J J Y154 Sz100 0 J oM (.loadE J J J Tryz.underlying100 J sP (hW.1.1) (.a J J J (.na (.region (.m J J J (.callCL (L := [⟨n3, (Block.zero).cells, 53, 131⟩]) J J J J J J Body147 (opt_like n3 c1 hz1 Block.zero B Block.zero_ok hB D h1 h2) (pm_consE rM J J Au) (Bp J) (fun w h => ⟨Av h Z0, Ci h sP hW.2.1, rows_ext h J hD.ls, bytes_ext h J hD.ds, SeesX.new h J hg3 hD.ls.see, SeesX.new h J hg3 hD.ds.see⟩) ?_)))))))))))))))))))))))
 rintro v5 out5 ⟨s10, bl10, s13, bl13, rfl, hac10, hac13, rfl⟩
 refine .nd (fun hnd => ?_)
 simp only [List.cons_append, List.map_cons, List.map_append, List.nodup_cons, List.mem_append, List.mem_map, not_or, not_exists, not_and] at hnd
 have hx1 : ∀ b ∈ bl10, b.n ≠ n3 := hnd.1.1.1
 have hx2 : ∀ b ∈ bl13, b.n ≠ n3 := hnd.1.1.2
 clear hnd
 simp only [List.append_assoc, List.cons_append, List.nil_append]
 refine .nil (Bj (Ae (.region (.aI J J J J oM (.m J J J (.na (SRounds.more (.sr (.lss J J J J J (.na (.seq (.cond_t J (rfl) (.skip (Ae (.seq (.block (.sr (.idxSl1 J J J J Y154 Sz100 1 J oM (.loadE J J J Tryz.underlying100 J sP (hW.1.2.1) (.a J J J (.na (.region (.m J J J (.callCL (L := [⟨n3, (({ B with fLinks := s10, fData := s13 } : Block)).cells, 53, 131⟩]) J J J J J J Body150 (opt_by n3 c2 hz2 ({ B with fLinks := s10, fData := s13 } : Block) (ok1 _ _) (sgK s) lK) (pm_consE rM J J Au) (Bp J) (fun w h => ⟨Av h Z0, Ci h sP hW.2.2.1⟩) ?_))))))))))))))))))))))))
 rintro v6 out6 ⟨rfl, rfl⟩
 refine .nil (Bj (Ae (.region (.aI J J J J oM (.m J J J (.na (SRounds.more (.sr (.lss J J J J J (.na (.seq (.cond_t J (rfl) (.skip (Ae (.seq (.block (.sr (.idxSl1 J J J J Y154 Sz100 2 J oM (.loadE J J J Tryz.underlying100 J sP (hW.1.2.2) (.a J J J (.na (.region (.m J J J (.callCL (L := [⟨n3, (({ B with fLinks := s10, fData := s13, fWriter := sgK s } : Block)).cells, 53, 131⟩]) J J J J J J Body151 (opt_signed n3 c3 hz3 ({ B with fLinks := s10, fData := s13, fWriter := sgK s } : Block) (ok2 _ _) ({ D with w := sgK s } : DB) h1 h2 ⟨rfl, hD.seq.symm, hD.prev.symm⟩ seed h32 s s1 s2 hs hs1 hs2) (pm_consE rM J J Au) (Bp J) (fun w h => ⟨Av h Z0, Ci h sP hW.2.2.2.1, acc_rows hac10 (Lies.of h (by repeat (first | exact Bt | refine in_there ?_))) hD.ls.row oM oM, acc_bytes hac13 (Lies.of h (by repeat (first | exact Bt | refine in_there ?_ | refine in_seg ?_))) oM oM, Acc.seeX hac10 (Lies.of h (by repeat (first | exact Bt | refine in_there ?_))) hx1, Acc.seeX hac13 (Lies.of h (by repeat (first | exact Bt | refine in_there ?_ | refine in_seg ?_))) hx2⟩) ?_))))))))))))))))))))))))
 rintro v7 out7 ⟨rfl, rfl⟩
 refine .nil (Bj (Ae (.region (.aI J J J J oM (.m J J J (.na (SRounds.more (.sr (.lss J J J J J (.na (.seq (.cond_f J (rfl) (.exit (A1 (A1 (B5 (Ae (.sr ?_))))))))))))))))))
 clear hs hs1 hs2
 revert lG lK ok2 ok3
 generalize sgF s1 ++ sgS s s1 s2 = G
 generalize sgK s = K
 intro lG lK ok2 ok3
 refine .lA J J J Y53 J Bw Z0 (Block.length (by exact ok3 _ _)) ?_
 refine .sA J J J J (Block.isCell (by exact ok3 _ _)) Bw (Block.length (by exact ok3 _ _)) mR (Block.length (by exact Block.zero_ok)) uU ?_
 refine .na (.ret (An (Be (out := (bl10 ++ (bl13 ++ []))) (Ao J J Y53 J Bw mR (by exact Block.length (by exact ok3 _ _))) (B6 sG (B6 sG Au)) ?_)))
 exact ⟨s10, bl10, s13, bl13, rfl, hac10, hac13, by simp⟩

end Go.Proofs.YtpacobmjjjillaaGreat
end

section
namespace Go.Proofs.YtpacobmjjjillaaGreat
open Go Hw

open Ed

theorem db_sign_bad (B : Block) (D : DB) (hB : B.ok) (seed : List UInt8) (h32 : seed.length = 32) (hc : ¬ D.check = 0) : Meets Tryz.prog 36 [agg (Aa seed), agg B.cells] [] (fun W => BlockIs W B D) (fun v out => v = .tuple #[agg Block.zero.cells, i64 D.check] ∧ out = []) := by
 intro W hW
 refine Ab Tryz.func36 J 22 Tryz.ntmps36 J (.sr (.boxA J J ?_))
 intro n2 hn2 hf2
 refine .boxA J J ?_
 intro n3 hn3 hf3
 refine .alloc (cs := Block.zero.cells) J Block.zr J ?_
 intro n4 hn4 hf4
 refine .a J J J (.na (.seq (.sr (.lA J J J Y53 J Bw Z1 (Block.length zA) ?_))))
 refine .cV J J J J Body38 (db_check B D) (fun w h => hW.ext h J) (.a J J J (.nsr (.m J J J (.nei J J J J J (.na (.cond_t J (by simpa using hc) ?_))))))
 refine .sr (.build (cs := Block.zero.cells) J J J (fun w => by kernel_rfl) ?_)
 refine .m J J J (.sA J J J J (Block.isCell (by exact Block.zero_ok)) Bw (Block.length (by exact Block.zero_ok)) Z0 (Block.length (by exact Block.zero_ok)) zU ?_)
 refine .a J J J (.na (.ret (Bg (An ?_))))
 refine ⟨_, [], A0 J J J Y53 J Bw Z0 (by exact Block.length (by exact Block.zero_ok)), sP, sP, ?_, rfl⟩
 rfl

theorem db_sign (B : Block) (D : DB) (hB : B.ok) (seed : List UInt8) (h32 : seed.length = 32) (s s1 s2 : List UInt8) (hs : Hid (Cd seed = s)) (hs1 : Hid (Cd (s.drop 32 ++ btxt ({ D with w := sgK s } : DB)) = s1)) (hs2 : Hid (Cd (sgF s1 ++ (sgK s ++ btxt ({ D with w := sgK s } : DB))) = s2)) (hc : D.check = 0) : Meets Tryz.prog 36 [agg (Aa seed), agg B.cells] [] (fun W => BlockIs W B D) (BlkR 0 (bsg D (sgK s) (sgF s1 ++ sgS s s1 s2))) := by
 intro W hW
 obtain ⟨h1, h2⟩ := D.head_small hc
 have lG : (sgF s1 ++ sgS s s1 s2).length = 64 := by rw [List.length_append, sgF_length, sgS_length]
 have lK := sgK_length s
 have cK : Meets Tryz.prog 58 [agg (Aa seed)] [] (fun _ => True) (fun v out => v = agg (Aa (sgK s)) ∧ out = []) := sign_Key seed h32 s hs
 have cC := db_check B D
 rw [hc] at cC
 have e1 := hW.ls.len
 have e2 := hW.ds.len
 have ok3 : ∀ s10 s13, ({ B with fLinks := s10, fData := s13, fWriter := sgK s, fSig := (sgF s1 ++ sgS s s1 s2) } : Block).ok := fun _ _ => ⟨lK, hB.l_fPrev, lG⟩
 refine Ab Tryz.func36 J 22 Tryz.ntmps36 J (.sr (.boxA J J ?_))
 intro n2 hn2 hf2
 refine .boxA J J ?_
 intro n3 hn3 hf3
 refine .alloc (cs := Block.zero.cells) J Block.zr J ?_
 intro n4 hn4 hf4
 refine .a J J J (.na (.seq (.sr (.lA J J J Y53 J Bw Z1 (Block.length zA) ?_))))
 refine .cV J J J J Body38 (cC) (fun w h => hW.ext h J) (.a J J J (.nsr (.m J J J (.nei J J J J J (.na (.cond_f J (rfl) (.skip (Ae (.seq (.draw [(1, 0), (1, 2), (1, 5), (3, 1), (3, 3), (3, 4), (3, 6), (4, 7), (4, 8), (4, 9), (0, 10)] Ar zK (.lA J J J Y53 J Bw Z1 (Block.length zA) ?_)))))))))))
 refine .lA J J J Y23 J Sz23 Z2 (by (simp [h32]; done)) ?_
 refine .lA J J J Y23 J Sz23 Z2 (by (simp [h32]; done)) ?_
 refine .call J J J J Body89 (mk_like B hB) (ptr_loose _ _ _ _) tV ?_
 rintro v14 out14 ⟨c14, rfl, rfl⟩
 refine .cV J J J J Body58 (cK) tV (.call J J J J Body90 (mk_by (sgK s) lK) (ptr_loose _ _ _ _) tV ?_)
 rintro v17 out17 ⟨c17, rfl, rfl⟩
 refine .call J J J J Body91 (mk_signed seed h32) (ptr_loose _ _ _ _) tV ?_
 rintro v19 out19 ⟨c19, rfl, rfl⟩
 refine .mkRow (z := .nilFunc) [.func (.func 147) #[] #[ptr c14 0], .func (.func 150) #[] #[ptr c17 0], .func (.func 151) #[] #[ptr c19 0]] [.func (.func 147) #[] #[ptr c14 0], .func (.func 150) #[] #[ptr c17 0], .func (.func 151) #[] #[ptr c19 0]] rfl J J Y154 Sz100 Zr100 J J (by intro v hv; simp only [List.mem_cons, List.not_mem_nil, or_false] at hv; rcases hv with rfl | rfl | rfl <;> rfl) dE J ?_
 intro r20
 refine .call4 J J J J J Body88 (block_buildS r20 c14 c17 c19 B hB D oM oM seed h32 s s1 s2 hs hs1 hs2) (fun w h => ⟨⟨(Av (B := ⟨r20, [.func (.func 147) #[] #[ptr c14 0], .func (.func 150) #[] #[ptr c17 0], .func (.func 151) #[] #[ptr c19 0]], _, _⟩) h Z0).cell (o := 0) J, (Av (B := ⟨r20, [.func (.func 147) #[] #[ptr c14 0], .func (.func 150) #[] #[ptr c17 0], .func (.func 151) #[] #[ptr c19 0]], _, _⟩) h Z0).cell (o := 1) J, (Av (B := ⟨r20, [.func (.func 147) #[] #[ptr c14 0], .func (.func 150) #[] #[ptr c17 0], .func (.func 151) #[] #[ptr c19 0]], _, _⟩) h Z0).cell (o := 2) J⟩, Ak h Z3, Ak h Z2, Ak h Z1, hW.ext h J, (Av (B := ⟨c14, B.cells, _, _⟩) h Z3).lt, (Av (B := ⟨c17, Aa (sgK s), _, _⟩) h Z2).lt, (Av (B := ⟨c19, Aa seed, _, _⟩) h Z1).lt⟩) ?_
 rintro v21 out21 ⟨s10, bl10, s13, bl13, rfl, hac10, hac13, rfl⟩
 simp only [List.append_assoc, List.cons_append, List.nil_append]
 have hKs : D.ok := hW.dok
 clear hs hs1 hs2
 revert lG lK ok3
 generalize sgF s1 ++ sgS s s1 s2 = G
 generalize sgK s = K
 intro lG lK ok3
 refine .sA J J J J (Block.isCell (by exact ok3 _ _)) Bw (Block.length (by exact ok3 _ _)) mR (Block.length (by exact Block.zero_ok)) uU ?_
 refine .a J J J (.na (.ret (An (Be (out := (bl10 ++ (bl13 ++ []))) (A0 J J J Y53 J Bw mR (by exact Block.length (by exact ok3 _ _))) (B6 sG (B6 sG Au)) ?_))))
 exact ⟨({ B with fLinks := s10, fData := s13, fWriter := K, fSig := G } : Block), ⟨ok3 _ _, rfl, hW.seq, hW.prev, rfl, hac10.num.trans e1.symm, hac13.num.trans e2.symm⟩, rfl, fun W2 h2 => ⟨ok3 _ _, rfl, hW.seq, hW.prev, acc_rows hac10 (h2.sub Bt) hW.ls.row e1 oM, acc_bytes hac13 (h2.sub (in_seg Bt)) e2 oM, rfl⟩⟩

theorem db_good (B : Block) (D : DB) (hB : B.ok) : Meets Tryz.prog 40 [agg B.cells] [] (fun W => BlockIs W B D) (fun v out => v = i64 (dgood D) ∧ out = []) := by
 intro W hW
 refine Ab Tryz.func40 J 17 Tryz.ntmps40 J (.sr (.boxA J J ?_))
 intro n1 hn1 hf1
 refine .a J J J (.na (.seq (.sr (.lA J J J Y53 J Bw Z0 (Block.length zA) ?_))))
 refine .cV J J J J Body38 (db_check B D) (fun w h => hW.ext h J) (.a J J J (.nsr (.m J J J (.nei J J J J J (.na (.condNP J (fun hc0 => ?_) (fun hc0 => ?_)))))))
 ·
  have hq0 : ¬ D.check = 0 := by omega
  refine .sr (.m J J J (.a J J J (.na (.ret (Bg (An ?_))))))
  refine ⟨_, [], Ag J J, sP, sP, ?_, rfl⟩
  (unfold dgood; rw [if_neg hq0]; done)
 ·
  have hq0 : D.check = 0 := by omega
  obtain ⟨h1, h2⟩ := D.head_small hq0
  have hvn : (btxt D).length ≤ 4005 := DB.body_small hW.dok oM oM
  refine .skip (Ae (.seq (.seq (.draw [(0, 0), (1, 1), (1, 2), (0, 4), (1, 5), (3, 3), (3, 6), (0, 7)] Ar zK (.fld J J J Y53 J Sz25 dE _ J (.lN (Aa _) J J J Y25 J Sz25 Z0 (Block.row_fWriter zA) (Block.rl_fWriter zA) ?_))))))
  refine .lA J J J Y53 J Bw Z0 (Block.length zA) ?_
  refine .fld J J J Y53 J Sz27 dE _ J (.lN (Aa _) J J J Y27 J Sz27 Z0 (Block.row_fSig zA) (Block.rl_fSig zA) ?_)
  refine .call J J J J Body47 (db_text B D hB oM oM) (FreshRow.loose _ _ _ _) (fun w h => hW.ext h J) ?_
  rintro v12 out12 ⟨q12, c12, rfl, hc12, rfl⟩
  refine .cV J J J J Body60 (sign_Good B.fWriter hB.l_fWriter ⟨some ⟨q12, 0, none⟩, _, c12⟩ (btxt D) oM B.fSig hB.l_fSig) (fun w h => own_btxt (SeesP.of (Ak h Z0)) hc12 hvn) ?_
  refine .not J J J (.na (.cond J (fun hc1 => ?_) (fun hc1 => ?_)))
  ·
   refine .sr (.a J J J (.na (.ret (Bg (An ?_)))))
   refine ⟨_, [], Ag J J, sP, sP, ?_, rfl⟩
   (unfold dgood; rw [if_pos hq0, ← hW.w, ← hW.sg, if_neg (by intro e; rw [e] at hc1; cases hc1)]; done)
  ·
   refine .skip (Ae (.sr (.a J J J (.na (.ret (An ?_))))))
   refine ⟨_, [], Ag J J, sP, sP, ?_, rfl⟩
   (unfold dgood; rw [if_pos hq0, ← hW.w, ← hW.sg, if_pos (by simpa using hc1)]; done)

theorem db_own (B : Block) (D : DB) (hn : D.ls.length ≤ 500000) (hd : D.ds.length ≤ 500000) : Meets Tryz.prog 37 [agg B.cells] [] (fun W => BlockIs W B D) (BlkV D) := fun W hW => by
  have e1 := hW.ls.len
  have e2 := hW.ds.len
  refine (kit_own_block B hW.ok D.ls D.ds oM oM W ⟨hW.ls, hW.ds⟩).mono fun e W' ⟨v, out, h1, ⟨q1, c1, q2, c2, h2, h3, h4, h5⟩, h6⟩ => ⟨v, out, h1, ⟨ownB B q1 c1 q2 c2, ⟨ownB_ok hW.ok q1 c1 q2 c2, hW.w, hW.seq, hW.prev, hW.sg, e1.symm, e2.symm⟩, h2, fun W2 hl => ?_⟩, h6⟩
  subst h5
  have hf : (Bv D.ls).length = B.fLinks.n * 32 := by rw [Bu hW.ls.row, e1]
  have hb : (Aa D.ds).length = B.fData.n * 1 := by rw [Aa, List.length_map, e2, Nat.mul_one]
  refine ⟨ownB_ok hW.ok q1 c1 q2 c2, hW.w, hW.seq, hW.prev, ?_, ?_, hW.sg⟩
  · exact acc_rows (Acc.some (E := 24) h3 hf) (hl.sub (fun b hb => by rw [List.mem_singleton.1 hb]; exact mem1)) hW.ls.row e1 oM
  · exact acc_bytes (Acc.some (E := 5) h4 hb) (hl.sub (fun b hb => by rw [List.mem_singleton.1 hb]; exact Bo)) e2 oM

end Go.Proofs.YtpacobmjjjillaaGreat
end

section
namespace Hw
open Go

def headOf (s h : Nat) : UInt8 := shl8 255 (9 - s) ||| UInt8.ofNat h
theorem head_facts : ∀ s, s < 10 → 1 ≤ s → ∀ h, h < 2 ^ (8 - s) → (s = 9 → h = 0) → B1 (headOf s h) = s ∧ (headV (headOf s h)).toNat = h := by
  decide +kernel
theorem head_back : ∀ n, n < 256 → 1 ≤ B1 (UInt8.ofNat n) ∧ B1 (UInt8.ofNat n) ≤ 9 ∧ (headV (UInt8.ofNat n)).toNat < 2 ^ (8 - B1 (UInt8.ofNat n)) ∧ (B1 (UInt8.ofNat n) = 9 → (headV (UInt8.ofNat n)).toNat = 0) ∧ headOf (B1 (UInt8.ofNat n)) (headV (UInt8.ofNat n)).toNat = UInt8.ofNat n := by
  decide +kernel
theorem head_of (f : UInt8) : 1 ≤ B1 f ∧ B1 f ≤ 9 ∧ (headV f).toNat < 2 ^ (8 - B1 f) ∧ (B1 f = 9 → (headV f).toNat = 0) ∧ headOf (B1 f) (headV f).toNat = f := by
  have h := head_back f.toNat f.toNat_lt
  rwa [UInt8.ofNat_toNat] at h

def beN : List UInt8 → Nat
  | [] => 0
  | b :: l => b.toNat * 256 ^ l.length + beN l
theorem beN_tail (x : UInt64) : ∀ k, k ≤ 8 → beN (tailB x k) = x.toNat % 256 ^ k
  | 0, _ => by simp [tailB, beN, Nat.mod_one]
  | k + 1, hk => by
    have hp : 0 < 256 ^ k := Nat.pow_pos dE
    have e : (2 : Nat) ^ (8 * k) = 256 ^ k := by rw [Nat.pow_mul]
    rw [tailB, beN, tailB_length, beN_tail x k oM, UInt64.toNat_toUInt8]
    have e1 : (As x (8 * k)).toNat = x.toNat / 256 ^ k := by
      have h : x.toNat / 2 ^ (8 * k) ≤ x.toNat := Nat.div_le_self _ _
      have := x.toNat_lt
      rw [As, UInt64.toNat_ofNat', Nat.mod_eq_of_lt oM, e]
    rw [e1]
    have h3 := Nat.mod_mul (a := 256 ^ k) (b := 256) (x := x.toNat)
    have e2 : (256 : Nat) ^ (k + 1) = 256 ^ k * 256 := Nat.pow_succ ..
    have e3 : (2 : Nat) ^ 8 = 256 := by decide
    rw [e2, h3, e3, Nat.mul_comm (256 ^ k)]
    omega
theorem foldB_nat : ∀ (l : List UInt8) (a : UInt64), a.toNat * 256 ^ l.length + beN l < 2 ^ 64 → (foldB a l).toNat = a.toNat * 256 ^ l.length + beN l
  | [], a, _ => by simp [foldB, beN]
  | b :: l, a, h => by
    rw [beN, List.length_cons, Nat.pow_succ] at h
    have hb := b.toNat_lt
    have hp : 0 < 256 ^ l.length := Nat.pow_pos dE
    have e : a.toNat * (256 ^ l.length * 256) + (b.toNat * 256 ^ l.length + beN l) = (a.toNat * 256 + b.toNat) * 256 ^ l.length + beN l := by
      rw [Nat.add_mul, Nat.mul_assoc, Nat.mul_comm 256, Nat.add_assoc]
    rw [e] at h
    have h1 : a.toNat * 256 + b.toNat < 18446744073709551616 := by
      rw [show (2 : Nat) ^ 64 = 18446744073709551616 by decide] at h
      have : (a.toNat * 256 + b.toNat) * 1 ≤ (a.toNat * 256 + b.toNat) * 256 ^ l.length := Nat.mul_le_mul_left _ hp
      omega
    have hs : (A2 a 8).toNat = a.toNat * 256 := by
      have e0 : a.toNat * 2 ^ 8 = a.toNat * 256 := rfl
      rw [A2, UInt64.toNat_ofNat', e0, Nat.mod_eq_of_lt (Nat.lt_of_le_of_lt (Nat.le_add_right _ b.toNat) h1)]
    have ho : (A2 a 8 ||| b.toUInt64).toNat = a.toNat * 256 + b.toNat := by
      rw [UInt64.toNat_or, hs, show b.toUInt64.toNat = b.toNat from by simp]
      rw [show a.toNat * 256 = 2 ^ 8 * a.toNat by omega, Nat.two_pow_add_eq_or_of_lt oM]
    rw [foldB, foldB_nat l _ (by rw [ho]; exact h), ho, beN, List.length_cons, Nat.pow_succ, e]

theorem or_one (x : Nat) : x ||| 1 = if x % 2 = 0 then x + 1 else x := by
  have h := Nat.or_mod_two_pow (a := x) (b := 1) (n := 1)
  have h2 := Nat.or_div_two_pow (a := x) (b := 1) (n := 1)
  simp only [Nat.pow_one] at h h2
  have e : x % 2 = 0 ∨ x % 2 = 1 := by omega
  have hm : (x ||| 1) % 2 = 1 := by
    rw [h]
    rcases e with e | e <;> rw [e] <;> rfl
  have hd : (x ||| 1) / 2 = x / 2 := by rw [h2]; simp
  split <;> omega
theorem or_one_lt {x k : Nat} (hk : 1 ≤ k) : (x ||| 1) < 2 ^ k ↔ x < 2 ^ k := by
  rw [or_one]
  have : 2 ^ k = 2 * 2 ^ (k - 1) := by rw [← Nat.pow_succ']; congr 1; omega
  split <;> omega
theorem szN_le {x s : Nat} (hs : 1 ≤ s) (h8 : s ≤ 8) : szN x ≤ s ↔ x < 2 ^ (7 * s) := by
  rw [← or_one_lt oM, ← bLen_le]
  unfold szN
  omega
theorem szN_hi {x : Nat} (hs : szN x ≤ 8) : x < 2 ^ (7 * szN x) := (szN_le (Cp x).1 hs).1 (Nat.le_refl _)

theorem headB_of (x : UInt64) : ∃ h, headB x = headOf (szN x.toNat) h ∧ h < 2 ^ (8 - szN x.toNat) ∧ (szN x.toNat = 9 → h = 0) ∧ x.toNat = h * 256 ^ (szN x.toNat - 1) + x.toNat % 256 ^ (szN x.toNat - 1) := by
  have hp := Cp x.toNat
  have hx := x.toNat_lt
  have e : (2 : Nat) ^ (8 * (szN x.toNat - 1)) = 256 ^ (szN x.toNat - 1) := by rw [Nat.pow_mul]
  have e1 : (As x (8 * (szN x.toNat - 1))).toNat = x.toNat / 256 ^ (szN x.toNat - 1) := by
    have h : x.toNat / 2 ^ (8 * (szN x.toNat - 1)) ≤ x.toNat := Nat.div_le_self _ _
    rw [As, UInt64.toNat_ofNat', Nat.mod_eq_of_lt oM, e]
  have hlt : x.toNat / 256 ^ (szN x.toNat - 1) < 2 ^ (8 - szN x.toNat) ∧ (szN x.toNat = 9 → x.toNat / 256 ^ (szN x.toNat - 1) = 0) := by
    by_cases h9 : szN x.toNat = 9
    · rw [h9]
      have : x.toNat / 256 ^ (9 - 1) = 0 := Nat.div_eq_of_lt (by rw [show (256 : Nat) ^ (9 - 1) = 2 ^ 64 by decide]; exact hx)
      rw [this]
      exact ⟨by decide, fun _ => rfl⟩
    · refine ⟨?_, fun h => absurd h h9⟩
      rw [Nat.div_lt_iff_lt_mul (Nat.pow_pos dE), ← e, ← Nat.pow_add]
      have := szN_hi (x := x.toNat) oM
      rwa [show 8 - szN x.toNat + 8 * (szN x.toNat - 1) = 7 * szN x.toNat by omega]
  refine ⟨x.toNat / 256 ^ (szN x.toNat - 1), ?_, hlt.1, hlt.2, (Nat.div_add_mod' _ _).symm⟩
  unfold headB headOf
  congr 1
  apply UInt8.toNat_inj.1
  rw [UInt64.toNat_toUInt8, e1, UInt8.toNat_ofNat']

theorem num_back (x : UInt64) : B1 (headB x) = szN x.toNat ∧ foldB (headV (headB x)) (tailB x (szN x.toNat - 1)) = x := by
  obtain ⟨h, h1, h2, h3, h4⟩ := headB_of x
  have hp := Cp x.toNat
  have hf := head_facts (szN x.toNat) oM hp.1 h h2 h3
  rw [h1]
  refine ⟨hf.1, UInt64.toNat_inj.1 ?_⟩
  have hb := beN_tail x (szN x.toNat - 1) oM
  rw [foldB_nat _ _ (by rw [tailB_length, hf.2, hb, ← h4]; exact x.toNat_lt), tailB_length, hf.2, hb, ← h4]

end Hw
end

section
namespace Go.Proofs.YtpacobmjjjillaaGreat
open Go Hw

theorem room_go {x : UInt64} {k : Nat} (hk : 1 ≤ k) (h9 : k < 9) (h : ¬ ((As x (7 * k)).toNat : Int) = 0) : k + 1 ≤ szN x.toNat := by
  rcases Nat.lt_or_ge k (szN x.toNat) with h1 | h1
  · exact h1
  · exact absurd (show ((As x (7 * k)).toNat : Int) = 0 by rw [A7, Nat.div_eq_of_lt ((szN_le hk oM).1 h1)]; rfl) h
theorem room_end {x : UInt64} {k : Nat} (hk : 1 ≤ k) (h9 : k < 9) (h : ((As x (7 * k)).toNat : Int) = 0) : szN x.toNat ≤ k := by
  refine (szN_le hk oM).2 ?_
  rw [A7] at h
  rcases Nat.div_eq_zero_iff.1 (show x.toNat / 2 ^ (7 * k) = 0 by omega) with h1 | h1
  · exact absurd h1 (Nat.ne_of_gt (Nat.pow_pos dE))
  · exact h1
theorem head_or : ∀ r, r < 9 → 1 ≤ r → ∀ y, y < 2 ^ (8 - r) → UInt8.ofNat (256 - 2 ^ (9 - r)) + UInt8.ofNat y = shl8 255 (9 - r) ||| UInt8.ofNat y := by decide
theorem head_9 : shl8 255 0 = 255 := by decide
theorem headB_9 {x : UInt64} (h : szN x.toNat = 9) : headB x = 255 := by
  rw [headB, h, head_9]
  have : ∀ y : UInt8, 255 ||| y = 255 := by
    intro y
    have hh : ∀ n, n < 256 → (255 : UInt8) ||| UInt8.ofNat n = 255 := by decide
    have := hh y.toNat y.toNat_lt
    rwa [UInt8.ofNat_toNat] at this
  exact this _
theorem headB_lt {x : UInt64} (h : szN x.toNat < 9) : ((256 : UInt64) - A2 1 (9 - szN x.toNat)).toUInt8 + (As x (8 * (szN x.toNat - 1))).toUInt8 = headB x := by
  have hp := Cp x.toNat
  have hy : (As x (8 * (szN x.toNat - 1))).toNat < 2 ^ (8 - szN x.toNat) := by
    rw [A7, Nat.div_lt_iff_lt_mul (Nat.pow_pos dE), ← Nat.pow_add, show 8 - szN x.toNat + 8 * (szN x.toNat - 1) = 7 * szN x.toNat by omega]
    exact szN_hi oM
  have h1 : ((256 : UInt64) - A2 1 (9 - szN x.toNat)).toUInt8 = UInt8.ofNat (256 - 2 ^ (9 - szN x.toNat)) := by
    have : ∀ r, r < 9 → 1 ≤ r → ((256 : UInt64) - A2 1 (9 - r)).toUInt8 = UInt8.ofNat (256 - 2 ^ (9 - r)) := by decide
    exact this _ h hp.1
  have h2 : (As x (8 * (szN x.toNat - 1))).toUInt8 = UInt8.ofNat (As x (8 * (szN x.toNat - 1))).toNat := rfl
  rw [h1, headB, h2]
  exact head_or _ h hp.1 _ hy

theorem r1_room (x : UInt64) : Meets Tryz.prog 139 [u64 x] [] (fun _ => True) (fun v out => v = i64 ((szN x.toNat : Nat) : Int) ∧ out = []) := by
 intro W hW
 have hz := Cp x.toNat
 refine Ab Tryz.func139 J 17 Tryz.ntmps139 J (.sr (.a J J J (.nsr (.a J J J (.na (.seq (.block (.loop (ι := Nat) (fun k => ⟨[(0, u64 x), (3, i64 (k : Int))], []⟩) (fun k => 1 ≤ k ∧ k ≤ szN x.toNat) (fun k => 9 - k) (1) ?_ ?_ ?_))))))))
 · exact ⟨Nat.le_refl _, hz.1⟩
 · exact Ac (wk1 rfl (wk1 rfl wk0)) wh0 nD
 ·
  rintro k ⟨hk1, hk2⟩
  refine .seq (.sr (.m J J J (two (fun r hr k => Tr.lss J J J J hr k) (fun hs2_10 => ?_) (fun hs2_10 => ?_))))
  ·
   have hs2_1 := of_decide_eq_true hs2_10
   refine .m J J J (.m J J J (.m J J J (.mul_i64 J J J J oM (.conv J J J Y3 Y35 (A4 _) (.shr_u64 J J J J (7 * k) (by rw [show (7 : Int) * (k : Int) = ((7 * k : Nat) : Int) by omega, Ck _ oM]) oM ?_)))))
   refine .nei J J J J J (.pick J J J J J J (.na (.condNP J (fun hc0 => ?_) (fun hc0 => ?_))))
   ·
    refine .skip (Ae (.block (.region (.m J J J (.aI J J J J oM (.a J J J (.nil (Bj (Ae ?_)))))))))
    exact ⟨k + 1, ⟨by omega, room_go hk1 oM zA⟩, by omega, Ac (wk1 rfl (wk1 (by rw [Int.natCast_add]; rfl) wk0)) wh0 nD⟩
   ·
    refine .exit (A1 (A1 (B5 (Ae (.sr (.m J J J (.a J J J (.na (.ret (An ?_))))))))))
    refine ⟨_, [], Ag J J, sP, sP, ?_, rfl⟩
    (have := room_end hk1 oM zA; congr 1; omega)
  ·
   have hs2_1 := of_decide_eq_false hs2_10
   refine .m J J J (.skp J J (.skp J J (.skp J J (.skp J J (.skp J J (.skp J J (.pick J J J J J J (.na (.cond_f J J (.exit (A1 (A1 (B5 (Ae (.sr (.m J J J (.a J J J (.na (.ret (An ?_))))))))))))))))))))
   refine ⟨_, [], Ag J J, sP, sP, ?_, rfl⟩
   (congr 1; omega)

theorem r1_Number (p0 : Option Addr) (n c : Nat) (l : List UInt8) (x : UInt64) (hl : l.length = n) (hp0 : p0 = none → n = 0) (hn : n ≤ 90000) : Meets Tryz.prog 101 [.slice p0 n c, u64 x] [] (fun W => SeesP W p0 (Aa l)) (fun v out => FreshRow v out (Aa (l ++ numB x)) 5 (n + szN x.toNat) 1) := by
 intro W hW
 have hz := Cp x.toNat
 refine Ab Tryz.func101 J 51 Tryz.ntmps101 J (.sr (.a J J J (.nsr (.mkRow2 (z := u8 0) [] [] rfl J Y39 Sz5 Zr5 J J (by intro v hv; cases hv) dE J ?_))))
 intro q8
 refine .m J J J (.appendSl (z := u8 0) (by' := 1) (Aa l) J J J J J Y39 Y39 Sz5 Zr5 (by unfold By; kernel_rfl) J (fun w h => Ax h J hW) hp0 (by simp [Aa, isCell, u8]) Az J J oM oM oM (by simp [Aa, hl]) ?_)
 intro q10 c10 hq10
 rw [Nat.zero_add n] at hq10 ⊢
 refine .a J J J (.nsr (.m J J J (.cV J J J J Body139 (r1_room _) tV (.a J J J (.na (.join (ι := Nat × Nat) (fun p => ⟨[(1, u64 x), (5, .slice (some ⟨p.1, 0, none⟩) (n + 1) p.2), (6, i64 ((szN x.toNat : Nat) : Int))], [⟨p.1, Aa (l ++ [headB x]), 5, p.2 * 1⟩]⟩) (fun p => n + 1 ≤ p.2) ?_ ?_))))))
 ·
  refine .sr (.m J J J (.eqi J J J J J (.na (.condP J (fun hc0 => ?_) (fun hc0 => ?_)))))
  ·
   refine .region (.m J J J (.mkRow (z := u8 0) [u8 (255)] (Aa [255]) J J J Y39 Sz5 Zr5 J J (by intro v hv; rw [List.mem_singleton.1 hv]; rfl) dE J ?_))
   intro q16
   refine .appendSl (z := u8 0) (by' := 1) (Aa [255]) J J J J J Y39 Y39 Sz5 Zr5 (by unfold By; kernel_rfl) J (fun w h => SeesP.of (Ak h Bo)) (fun e => by cases e) (by simp [Aa, isCell, u8]) (rem_there Az) J (by simp [Aa, hl]) oM oM oM (by rfl) ?_
   intro q17 c17 hq17
   refine .a J J J (.na ?_)
   exact ⟨(q17, c17), hq17, Ac (wk1 rfl (wk1 rfl (wk1 rfl wk0))) (wh1 (by (rw [headB_9 (x := x) oM]; simp only [Aa, List.map_append]; exact Bo)) wh0) nD⟩
  ·
   refine .region (.m J J J (.m J J J (.sub_i64 J J J J oM (.conv J J J Y3 Y35 (A4 _) (.shl_u64 J J (show Ah _ _ = some (u64 1) from rfl) J (9 - szN x.toNat) (by rw [show (9 : Int) - ((szN x.toNat : Nat) : Int) = ((9 - szN x.toNat : Nat) : Int) by omega, Ck _ oM]) oM ?_)))))
   refine .sub_u64 J J (show Ah _ _ = some (u64 256) from rfl) J (.conv J J J Y22 Y5 (Cm _) (.m J J J (.m J J J (.sub_i64 J J J J oM (.mul_i64 J J J J oM (.conv J J J Y3 Y35 (A4 _) (.shr_u64 J J J J (8 * (szN x.toNat - 1)) (by rw [show (8 : Int) * (((szN x.toNat : Nat) : Int) - 1) = ((8 * (szN x.toNat - 1) : Nat) : Int) by omega, Ck _ oM]) oM ?_)))))))
   refine .conv J J J Y22 Y5 (Cm _) (.add_u8 J J J J ?_)
   rw [headB_lt (x := x) oM]
   refine .mkRow (z := u8 0) [u8 (headB x)] (Aa [headB x]) J J J Y39 Sz5 Zr5 J J (by intro v hv; rw [List.mem_singleton.1 hv]; rfl) dE J ?_
   intro q33
   refine .appendSl (z := u8 0) (by' := 1) (Aa [headB x]) J J J J J Y39 Y39 Sz5 Zr5 (by unfold By; kernel_rfl) J (fun w h => SeesP.of (Ak h Bo)) (fun e => by cases e) (by simp [Aa, isCell, u8]) (rem_there Az) J (by simp [Aa, hl]) oM oM oM (by rfl) ?_
   intro q17 c17 hq17
   refine .a J J J (.na ?_)
   exact ⟨(q17, c17), hq17, Ac (wk1 rfl (wk1 rfl (wk1 rfl wk0))) (wh1 (by (simp only [Aa, List.map_append]; exact Bo)) wh0) nD⟩
 ·
  intro p hj
  have hjp := hj
  refine .seq (.sr (.m J J J (.sub_i64 J J J J oM (.a J J J (.na (.block (.loop (ι := Nat × Nat × Nat) (fun r => ⟨[(1, u64 x), (5, .slice (some ⟨r.2.1, 0, none⟩) (n + 1 + r.1) r.2.2), (7, i64 (((szN x.toNat : Nat) : Int) - 2 - (r.1 : Int)))], [⟨r.2.1, Aa (l ++ numUp x r.1), 5, r.2.2 * 1⟩]⟩) (fun r => r.1 ≤ szN x.toNat - 1 ∧ n + 1 + r.1 ≤ r.2.2) (fun r => szN x.toNat - 1 - r.1) ((0, p.1, p.2)) ?_ ?_ ?_)))))))
  · exact ⟨Nat.zero_le _, hjp⟩
  · exact Ac (wk1 rfl (wk1 rfl (wk1 (by rw [show (((szN x.toNat : Nat) : Int) - 2 - ((0 : Nat) : Int)) = ((szN x.toNat : Nat) : Int) - 2 by omega]; rfl) wk0))) (wh1 (by rw [numUp_zero]; exact Bo) wh0) nD
  ·
   rintro r ⟨hp1, hp2⟩
   refine .seq (.sr (.m J J J (.geq J J J J J (.na (.condP J (fun hc1 => ?_) (fun hc1 => ?_))))))
   ·
    have hp3 : r.1 < szN x.toNat - 1 := by omega
    refine .skip (Ae (.seq (.block (.region (.m J J J (.m J J J (.m J J J (.mul_i64 J J J J oM (.conv J J J Y3 Y35 (A4 _) (.shr_u64 J J J J (8 * (szN x.toNat - 2 - r.1)) (by rw [show (8 : Int) * (((szN x.toNat : Nat) : Int) - 2 - (r.1 : Int)) = ((8 * (szN x.toNat - 2 - r.1) : Nat) : Int) by omega, Ck _ oM]) oM ?_))))))))))
    refine .conv J J J Y22 Y5 (Cm _) (.mkRow (z := u8 0) [u8 ((As x (8 * (szN x.toNat - 2 - r.1))).toUInt8)] (Aa [(As x (8 * (szN x.toNat - 2 - r.1))).toUInt8]) J J J Y39 Sz5 Zr5 J J (by intro v hv; rw [List.mem_singleton.1 hv]; rfl) dE J ?_)
    intro q48
    refine .appendSl (z := u8 0) (by' := 1) (Aa [(As x (8 * (szN x.toNat - 2 - r.1))).toUInt8]) J J J J J Y39 Y39 Sz5 Zr5 (by unfold By; kernel_rfl) J (fun w h => SeesP.of (Ak h Bo)) (fun e => by cases e) (by simp [Aa, isCell, u8]) (rem_there Az) J (by rw [Aa, List.length_map, List.length_append, hl, numUp_length x r.1 oM]; omega) oM oM oM (by rfl) ?_
    intro q2 c2 hq2
    refine .a J J J (.nil (Bj (Ae (.region (.m J J J (.sub_i64 J J J J oM (.a J J J (.na ?_))))))))
    exact ⟨(r.1 + 1, q2, c2), ⟨by simp only []; omega, by simp only []; omega⟩, by simp only []; omega, Ac (wk1 rfl (wk1 (by rw [show n + 1 + (r.1 + 1) = n + 1 + r.1 + 1 by omega]; rfl) (wk1 (by rw [show (((szN x.toNat : Nat) : Int) - 2 - ((r.1 + 1 : Nat) : Int)) = ((szN x.toNat : Nat) : Int) - 2 - (r.1 : Int) - 1 by omega]; rfl) wk0))) (wh1 (by rw [numUp_step x r.1 oM, ← List.append_assoc]; simp only [Aa, List.map_append]; exact Bo) wh0) nD⟩
   ·
    have hp3 : r.1 = szN x.toNat - 1 := by omega
    refine .exit (A1 (A1 (B5 (Ae (.sr (.m J J J (.a J J J (.na (.ret (An ?_))))))))))
    refine ⟨_, [⟨r.2.1, Aa (l ++ numB x), 5, r.2.2 * 1⟩], Ag J J, (by intro b hb; rw [List.mem_singleton.1 hb, ← numUp_all, ← hp3]; exact Bo), Ce, ⟨r.2.1, r.2.2, by rw [show n + 1 + r.1 = n + szN x.toNat by omega], by omega, rfl⟩⟩

end Go.Proofs.YtpacobmjjjillaaGreat
end

section
namespace Go.Proofs.YtpacobmjjjillaaGreat
open Go Hw

open Ed

theorem cmpB_same (x : UInt8) (a b : List UInt8) : cmpB (x :: a) (x :: b) = cmpB a b := by simp [cmpB, Go.Lib.compareBytes]
theorem cmpB_other {x y : UInt8} (h : x ≠ y) (a b : List UInt8) : cmpB (x :: a) (y :: b) = cmpI (x.toNat : Int) (y.toNat : Int) := by
  have h2 : x.toNat ≠ y.toNat := fun e => h (UInt8.toNat_inj.1 e)
  simp only [cmpB, Go.Lib.compareBytes, UInt8.lt_iff_toNat_lt]
  unfold cmpI
  (repeat' split) <;> first | rfl | omega
theorem cmpB_at : ∀ (k : Nat) (a b : List UInt8), a.length = b.length → (∀ j, j < k → a.getD j 0 = b.getD j 0) → k < a.length → a.getD k 0 ≠ b.getD k 0 → cmpB a b = cmpI ((a.getD k 0).toNat : Int) ((b.getD k 0).toNat : Int)
  | k, [], b, hl, hs, hk, hd => absurd hk (Nat.not_lt_zero _)
  | k, x :: a, [], hl, hs, hk, hd => by cases hl
  | 0, x :: a, y :: b, hl, hs, hk, hd => cmpB_other hd a b
  | k + 1, x :: a, y :: b, hl, hs, hk, hd => by
    have e : x = y := hs 0 (Nat.succ_pos k)
    subst e
    rw [cmpB_same]
    exact cmpB_at k a b (Nat.succ.inj hl) (fun j hj => hs (j + 1) (Nat.succ_lt_succ hj)) (Nat.lt_of_succ_lt_succ hk) hd
theorem cmpB_all {a b : List UInt8} (ha : a.length = 32) (hb : b.length = 32) (h : ∀ j, j < 32 → a.getD j 0 = b.getD j 0) : cmpB a b = 0 := by
  refine (cmpB_zero a b).2 (List.ext_getElem oM (fun i h1 h2 => ?_))
  have := h i oM
  simpa [List.getD, h1, h2] using this

end Go.Proofs.YtpacobmjjjillaaGreat
end
