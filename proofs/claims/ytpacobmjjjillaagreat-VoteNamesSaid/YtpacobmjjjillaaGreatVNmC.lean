/- VoteNames returns true at every start, and leaves all old memory as it was. Conditions: none beyond the given statement's own. -/
import Derived.WalkKit
import Derived.Orders
import Derived.Deep.LoopGhost
import Derived.IntWalk
import Derived.Laws.StructEq
import Derived.ArgAppend
import Derived.Deep.AppendSrc
import Derived.Lib.Bytealg
import Derived.Lib.BytesEntry
import Derived.Laws.IdiomStrings
import Derived.WideKeyArr2
import Derived.ProofKit
import Derived.OpenShut
import Derived.Deep.Slices
import Derived.Laws.Pointers
import Derived.Laws.Cover3
import Derived.LaidEqlPtr
import Derived.LoopN
import Derived.RangeFuncLeaves
import Derived.RangeFuncSeq
import Derived.OrdersIn
import Derived.Test.YtpacobmjjjillaaGreatRows
import Derived.KernelRfl
import Derived.Laws.Externs
import Derived.Defers
import Derived.Laws.MathBits
import Derived.ChangeOld
import Derived.Below
import Derived.Test.YtpacobmjjjillaaGreatVNmC4
section
namespace Go.Proofs.YtpacobmjjjillaaGreat
open Go Hw
set_option linter.unusedVariables false
set_option linter.unusedSimpArgs false

open Ed

theorem bits_even {i : Nat} (h : (i : Int).tmod 2 = 0) : bitsAt i = 26 := by 
  unfold bitsAt
  have e : (i : Int).tmod 2 = ((i % 2 : Nat) : Int) := rfl
  rw [if_pos oM]
theorem bits_odd {i : Nat} (h : ¬ (i : Int).tmod 2 = 0) : bitsAt i = 25 := by 
  unfold bitsAt
  have e : (i : Int).tmod 2 = ((i % 2 : Nat) : Int) := rfl
  rw [if_neg oM]
theorem bits_w (i : Nat) : ((UInt64.ofNat (bitsAt i)).toNat : Int) = ((bitsAt i : Nat) : Int) := by
  have := bits_26 i
  rw [UInt64.toNat_ofNat', Nat.mod_eq_of_lt oM]
theorem bits_wn (i : Nat) : (UInt64.ofNat (bitsAt i)).toNat = bitsAt i := by
  have := bits_26 i
  rw [UInt64.toNat_ofNat', Nat.mod_eq_of_lt oM]
theorem carAt_nine {w : List Nat} {k : Nat} (h : (k : Int) = 9) : carAt w (k + 1) = ((carAt w k).set k ((carAt w k).getD k 0 % 2 ^ bitsAt k)).set 0 (((carAt w k).set k ((carAt w k).getD k 0 % 2 ^ bitsAt k)).getD 0 0 + 19 * ((carAt w k).getD k 0 / 2 ^ bitsAt k)) := stepC_nine oM
theorem carAt_low {w : List Nat} {k : Nat} (h : ¬ (k : Int) = 9) : carAt w (k + 1) = ((carAt w k).set k ((carAt w k).getD k 0 % 2 ^ bitsAt k)).set (k + 1) (((carAt w k).set k ((carAt w k).getD k 0 % 2 ^ bitsAt k)).getD (k + 1) 0 + (carAt w k).getD k 0 / 2 ^ bitsAt k) := stepC_low oM
theorem opB_nine {i : Nat} (h : (i : Int) = 9) : opB i = 26 := if_pos oM
theorem opB_low {i : Nat} (h : ¬ (i : Int) = 9) : opB i = bitsAt i := if_neg oM
theorem natc {a b : Nat} (h : a = b) : some (i64 (a : Int)) = some (i64 (b : Int)) := by rw [h]

set_option maxRecDepth 100000 in
set_option maxHeartbeats 1000000 in
theorem r3_bits (i : Nat) (hi : i < 10) : Meets Tryz.prog 229 [i64 (i : Int)] [] (fun _ => True) (fun v out => v = u64 (UInt64.ofNat (bitsAt i)) ∧ out = []) := by
 intro W hW
 refine calls_of (hp0 := []) Tryz.func229 rfl 6 Tryz.ntmps229 rfl (HRep.nil _) ?_
 refine Sat.seq (Sat.region ?_)
 refine Tr.assign rfl rfl (show evIn _ _ = some (u64 0) from rfl) ?_
 refine Tr.nil (at_n (Sat.seq (Sat.seq (Sat.region ?_))))
 refine Tr.move rfl rfl rfl ?_
 refine Tr.rem_i64 rfl rfl rfl rfl oM ?_
 refine Tr.eqi rfl rfl rfl rfl rfl ?_
 refine Tr.nil (at_n ?_)
 refine Sat.condP rfl (fun hc0 => ?_) (fun hc0 => ?_)
 ·
  rw [bits_even hc0]
  refine Sat.seq (Sat.region ?_)
  refine Tr.assign rfl rfl (show evIn _ _ = some (u64 26) from rfl) ?_
  refine Tr.nil (at_n (Sat.ret (at_r (en_r ?_))))
  refine ⟨_, [], res_tmp rfl rfl, sP, sP, ?_, rfl⟩
  rfl
 ·
  rw [bits_odd hc0]
  refine Sat.skip (at_n (Sat.seq (Sat.region ?_)))
  refine Tr.assign rfl rfl (show evIn _ _ = some (u64 25) from rfl) ?_
  refine Tr.nil (at_n (Sat.ret (en_r ?_)))
  refine ⟨_, [], res_tmp rfl rfl, sP, sP, ?_, rfl⟩
  rfl

set_option maxRecDepth 100000 in
set_option maxHeartbeats 4000000 in
theorem r3_carry (w : List Nat) (h : Mid10 w) : Meets Tryz.prog 230 [agg (wdsV w)] [] (fun _ => True) (fun v out => v = agg (wdsV (car10 w)) ∧ out = []) := by
 intro W hW
 have hlw := h.len
 obtain ⟨u, hu0⟩ : ∃ u, Hid (car10 w = u) := ⟨_, ⟨rfl⟩⟩
 have hul : u.length = 10 := by rw [← hu0.out]; exact car10_length w
 rw [hu0.out]
 refine calls_of (hp0 := []) Tryz.func230 rfl 43 Tryz.ntmps230 rfl (HRep.nil _) ?_
 refine Sat.seq (Sat.region ?_)
 refine Tr.boxA rfl rfl ?_
 intro n1 hn1 hf1
 refine Tr.alloc (cs := (intsV (List.replicate 10 0))) rfl Zr177 rfl ?_
 intro n2 hn2 hf2
 refine Tr.nil (at_n (Sat.seq (Sat.seq (Sat.region ?_))))
 refine Tr.assign rfl rfl rfl ?_
 refine Tr.nil (at_n (Sat.block ?_))
 refine Sat.loop (ι := Nat) (fun k => ⟨[(1, ptr n1 0), (2, ptr n2 0), (3, i64 (k : Int))], [⟨n2, (intsV (List.replicate 10 0)), 177, 10⟩, ⟨n1, wdsV (carAt w k), 177, (wdsV w).length⟩]⟩) (fun k => k ≤ 10) (fun k => 10 - k) (0) ?_ ?_ ?_
 · omega
 · exact weak_of (wk1 rfl (wk1 rfl (wk1 rfl wk0))) (wh1 (by exact mem0) (wh1 (by exact mem1) wh0)) (by repeat (first | exact ns_nil | refine ns_keep rfl ?_))
 ·
  rintro k hi
  have hlc := carAt_length h.len k
  refine Sat.seq (Sat.seq (Sat.region ?_))
  refine Tr.move rfl rfl rfl ?_
  refine Tr.lss rfl rfl rfl rfl rfl ?_
  refine Tr.nil (at_n ?_)
  refine Sat.condP rfl (fun hc0 => ?_) (fun hc0 => ?_)
  ·
   have hk2 : k < 10 := by omega
   have ck := carK h hk2
   have hb26 := bits_26 k
   have hcut := car_cut ((carAt w k).getD k 0) (bitsAt k)
   have hx := ck.x
   have hq := ck.q
   have hsl : ((carAt w k).set k ((carAt w k).getD k 0 % 2 ^ bitsAt k)).length = 10 := by rw [List.length_set]; exact hlc
   refine Sat.skip (at_n (Sat.seq (Sat.block (Sat.seq ?_))))
   refine Sat.draw [(0, 0), (0, 1), (1, 2), (0, 3), (3, 4), (0, 5), (0, 6)] Mixed (by kernel_rfl) ?_
   refine Tr.move rfl rfl rfl ?_
   refine Tr.idxArr1 rfl rfl rfl rfl Tryz.underlying177 Sz2 _ rfl oM ?_
   refine Tr.load1 rfl rfl rfl Tryz.underlying2 rfl (by exact mem1) (by exact get_wds oM) ?_
   refine Tr.move rfl rfl rfl ?_
   refine Tr.callV rfl rfl rfl rfl Body229 (r3_bits k hk2) (fun _ _ => trivial) ?_
   refine Tr.shrN ((carAt w k).getD k 0) (bitsAt k) rfl rfl rfl rfl (bits_w k) oM ?_
   refine Tr.assign rfl rfl rfl ?_
   refine Tr.nil (at_n (Sat.seq ?_))
   refine Sat.draw [(0, 0), (0, 1), (0, 2), (1, 3), (0, 4), (0, 5), (3, 6), (0, 7), (0, 8), (0, 9), (4, 10)] Mixed (by kernel_rfl) ?_
   refine Tr.move rfl rfl rfl ?_
   refine Tr.move rfl rfl rfl ?_
   refine Tr.idxArr1 rfl rfl rfl rfl Tryz.underlying177 Sz2 _ rfl oM ?_
   refine Tr.load1 rfl rfl rfl Tryz.underlying2 rfl (by exact mem1) (by exact get_wds oM) ?_
   refine Tr.move rfl rfl rfl ?_
   refine Tr.move rfl rfl rfl ?_
   refine Tr.callV rfl rfl rfl rfl Body229 (r3_bits k hk2) (fun _ _ => trivial) ?_
   refine Tr.shlN ((carAt w k).getD k 0 / 2 ^ bitsAt k) (bitsAt k) rfl rfl rfl rfl (bits_w k) oM oM ?_
   refine Tr.subN ((carAt w k).getD k 0) ((carAt w k).getD k 0 / 2 ^ bitsAt k * 2 ^ bitsAt k) rfl rfl rfl rfl oM ?_
   refine Tr.idxArr1 rfl rfl rfl rfl Tryz.underlying177 Sz2 _ rfl oM ?_
   rw [hcut.2]
   refine Tr.store1 rfl rfl rfl rfl rfl Sz2 (by exact mem1) (by (simp [wdsV_length]; omega)) (by exact set_wds _ _ _) (by exact upd1) ?_
   refine Tr.nil (at_n (Sat.seq (Sat.region ?_)))
   refine Tr.move rfl rfl rfl ?_
   refine Tr.eqi rfl rfl rfl rfl rfl ?_
   refine Tr.nil (at_n ?_)
   refine Sat.condP rfl (fun hc1 => ?_) (fun hc1 => ?_)
   ·
    have hfs := ck.fs oM
    refine Sat.region ?_
    refine Tr.idxArr1 rfl rfl rfl rfl Tryz.underlying177 Sz2 0 rfl dE ?_
    refine Tr.load1 rfl rfl rfl Tryz.underlying2 rfl (by exact mem1) (by exact get_wds oM) ?_
    refine Tr.move rfl rfl rfl ?_
    refine Tr.mulN (19) ((carAt w k).getD k 0 / 2 ^ bitsAt k) rfl rfl rfl rfl oM ?_
    refine Tr.addN (((carAt w k).set k ((carAt w k).getD k 0 % 2 ^ bitsAt k)).getD 0 0) (19 * ((carAt w k).getD k 0 / 2 ^ bitsAt k)) rfl rfl rfl rfl oM ?_
    refine Tr.idxArr1 rfl rfl rfl rfl Tryz.underlying177 Sz2 0 rfl dE ?_
    refine Tr.store1 rfl rfl rfl rfl rfl Sz2 (by exact mem1) (by (simp [wdsV_length]; omega)) (by exact set_wds _ _ _) (by exact upd1) ?_
    refine Tr.nil (bl_n (at_n (Sat.region ?_)))
    refine Tr.move rfl rfl rfl ?_
    refine Tr.add_i64 rfl rfl rfl rfl oM ?_
    refine Tr.assign rfl rfl rfl ?_
    refine Tr.nil (at_n ?_)
    exact ⟨k + 1, by omega, by omega, weak_of (wk1 rfl (wk1 rfl (wk1 rfl wk0))) (wh1 (by exact mem0) (wh1 (by (rw [carAt_nine hc1]; exact mem1)) wh0)) (by repeat (first | exact ns_nil | refine ns_keep rfl ?_))⟩
   ·
    have hnx := ck.nx oM
    refine Sat.region ?_
    refine Tr.move rfl rfl rfl ?_
    refine Tr.addN (k) (1) rfl rfl rfl rfl oM ?_
    refine Tr.move rfl rfl rfl ?_
    refine Tr.addN (k) (1) rfl rfl rfl rfl oM ?_
    refine Tr.idxArr1 rfl rfl rfl rfl Tryz.underlying177 Sz2 _ rfl oM ?_
    refine Tr.load1 rfl rfl rfl Tryz.underlying2 rfl (by exact mem1) (by exact get_wds oM) ?_
    refine Tr.move rfl rfl rfl ?_
    refine Tr.addN (((carAt w k).set k ((carAt w k).getD k 0 % 2 ^ bitsAt k)).getD (k + 1) 0) ((carAt w k).getD k 0 / 2 ^ bitsAt k) rfl rfl rfl rfl oM ?_
    refine Tr.idxArr1 rfl rfl rfl rfl Tryz.underlying177 Sz2 _ rfl oM ?_
    refine Tr.store1 rfl rfl rfl rfl rfl Sz2 (by exact mem1) (by (simp [wdsV_length]; omega)) (by exact set_wds _ _ _) (by exact upd1) ?_
    refine Tr.nil (bl_n (at_n (Sat.region ?_)))
    refine Tr.move rfl rfl rfl ?_
    refine Tr.add_i64 rfl rfl rfl rfl oM ?_
    refine Tr.assign rfl rfl rfl ?_
    refine Tr.nil (at_n ?_)
    exact ⟨k + 1, by omega, by omega, weak_of (wk1 rfl (wk1 rfl (wk1 rfl wk0))) (wh1 (by exact mem0) (wh1 (by (rw [carAt_low hc1]; exact mem1)) wh0)) (by repeat (first | exact ns_nil | refine ns_keep rfl ?_))⟩
  ·
   rw [show carAt w k = u from by rw [show k = 10 by omega, carAt_eq h.len, hu0.out]]
   refine Sat.exit (at_x (at_x (bl_h (at_n (Sat.seq (Sat.region ?_))))))
   refine Tr.loadAll rfl rfl rfl Tryz.underlying177 rfl Sz177 (by exact mem1) (by (simp [wdsV_length, hul]; done)) ?_
   refine Tr.storeAll rfl rfl rfl rfl (by exact wdsV_cell _) Sz177 (by (simp [wdsV_length, hul]; done)) (by exact mem0) (by (simp; done)) (by exact upd0) ?_
   refine Tr.nil (at_n (Sat.ret (en_r ?_)))
   refine ⟨_, [], res_cell rfl rfl Tryz.underlying177 rfl Sz177 (by exact mem0) (by simp [wdsV_length, hul]), sP, sP, ?_, rfl⟩
   rfl

theorem op_on {N i k : Nat} (hi : i < 10) (hb : N.testBit (atOf i + k) = true) : ((opAt N i).set i (N / 2 ^ atOf i % 2 ^ k)).set i (((opAt N i).set i (N / 2 ^ atOf i % 2 ^ k)).getD i 0 + 1 * 2 ^ k) = (opAt N i).set i (N / 2 ^ atOf i % 2 ^ (k + 1)) := by
  have hl := opAt_length N i oM
  rw [getD_set' oM, if_pos rfl, List.set_set, op_bit, hb, if_pos rfl, Nat.one_mul]
theorem op_off {N i k : Nat} (hb : N.testBit (atOf i + k) = false) : (opAt N i).set i (N / 2 ^ atOf i % 2 ^ k) = (opAt N i).set i (N / 2 ^ atOf i % 2 ^ (k + 1)) := by
  rw [op_bit, hb, if_neg dE, Nat.add_zero]
theorem op_val {N i k : Nat} (hi : i < 10) (hk : k ≤ 26) : ((opAt N i).set i (N / 2 ^ atOf i % 2 ^ k)).getD i 0 ≤ 67108864 ∧ 2 ^ k ≤ 67108864 := by
  have hl := opAt_length N i oM
  have h1 : 2 ^ k ≤ 2 ^ 26 := Nat.pow_le_pow_right dE hk
  have h2 : N / 2 ^ atOf i % 2 ^ k < 2 ^ k := Nat.mod_lt _ (Nat.pow_pos dE)
  rw [getD_set' oM, if_pos rfl]
  omega
theorem bit_is {a : List UInt8} {m : Nat} (h : (((UInt8.ofNat ((shr8 (a.getD (m / 8) 0) (m % 8)).toNat % 2)).toNat : Int) = 1)) : (le a).testBit m = true := by rw [← bit_rem]; exact decide_eq_true h
theorem bit_isn {a : List UInt8} {m : Nat} (h : ¬ (((UInt8.ofNat ((shr8 (a.getD (m / 8) 0) (m % 8)).toNat % 2)).toNat : Int) = 1)) : (le a).testBit m = false := by rw [← bit_rem]; exact decide_eq_false h

set_option maxRecDepth 100000 in
set_option maxHeartbeats 8000000 in
theorem r3_Open (a : List UInt8) (ha : a.length = 32) : Meets Tryz.prog 188 [agg (bytesV a)] [] (fun _ => True) (fun v out => v = agg (wdsV (openT (le a))) ∧ out = []) := by
 intro W hW
 obtain ⟨u, hu⟩ : ∃ u, Hid (openT (le a) = u) := ⟨_, ⟨rfl⟩⟩
 obtain ⟨D, hD⟩ : ∃ D, Hid (opD (le a) = D) := ⟨_, ⟨rfl⟩⟩
 have hu10 : u.length = 10 := by rw [← hu.out]; exact openT_length _
 have hd10 : D.length = 10 := by rw [← hD.out]; exact opD_length _
 have hc := r3_carry D (by rw [← hD.out]; exact opD_mid _)
 rw [show car10 D = u from by rw [← hD.out]; exact hu.out] at hc
 rw [hu.out]
 have hsl := hd10
 refine calls_of (hp0 := []) Tryz.func188 rfl 58 Tryz.ntmps188 rfl (HRep.nil _) ?_
 refine Sat.seq (Sat.region ?_)
 refine Tr.boxA rfl rfl ?_
 intro n1 hn1 hf1
 refine Tr.alloc (cs := (intsV (List.replicate 10 0))) rfl Zr177 rfl ?_
 intro n2 hn2 hf2
 refine Tr.nil (at_n (Sat.seq (Sat.region ?_)))
 refine Tr.alloc (cs := (intsV (List.replicate 10 0))) rfl Zr177 rfl ?_
 intro n3 hn3 hf3
 refine Tr.nil (at_n (Sat.seq (Sat.region ?_)))
 refine Tr.assign rfl rfl rfl ?_
 refine Tr.nil (at_n (Sat.seq (Sat.seq (Sat.region ?_))))
 refine Tr.assign rfl rfl rfl ?_
 refine Tr.nil (at_n (Sat.block ?_))
 refine Sat.loop (ι := Nat) (fun i => ⟨[(1, ptr n1 0), (2, ptr n2 0), (3, ptr n3 0), (4, i64 ((atOf i : Nat) : Int)), (5, i64 (i : Int))], [⟨n3, wdsV (opAt (le a) i), 177, 10⟩, ⟨n2, (intsV (List.replicate 10 0)), 177, 10⟩, ⟨n1, bytesV a, 77, (bytesV a).length⟩]⟩) (fun i => i ≤ 10) (fun i => 10 - i) (0) ?_ ?_ ?_
 · omega
 · exact weak_of (wk1 rfl (wk1 rfl (wk1 rfl (wk1 rfl (wk1 rfl wk0))))) (wh1 (by rw [show wdsV (opAt (le a) 0) = intsV (List.replicate 10 0) from rfl]; exact mem0) (wh1 (by exact mem1) (wh1 (by exact mem2) wh0))) (by repeat (first | exact ns_nil | refine ns_keep rfl ?_))
 ·
  rintro i hi
  refine Sat.seq (Sat.seq (Sat.region ?_))
  refine Tr.move rfl rfl rfl ?_
  refine Tr.lss rfl rfl rfl rfl rfl ?_
  refine Tr.nil (at_n ?_)
  refine Sat.condP rfl (fun hc0 => ?_) (fun hc0 => ?_)
  ·
   have hi2 : i < 10 := by omega
   have hb26 := bits_26 i
   have hbw := bits_wn i
   have hop := at_op hi2
   have hopl := op_le i
   have hat := at_le hi2
   refine Sat.skip (at_n (Sat.seq (Sat.block (Sat.seq (Sat.region ?_)))))
   refine Tr.move rfl rfl rfl ?_
   refine Tr.callV rfl rfl rfl rfl Body229 (r3_bits i hi2) (fun _ _ => trivial) ?_
   refine Tr.conv rfl rfl rfl Tryz.underlying35 Tryz.underlying3 (cv_u64_i64 oM) ?_
   rw [bits_wn]
   refine Tr.assign rfl rfl rfl ?_
   refine Tr.nil (at_n ?_)
   refine Sat.join (ι := Unit) (fun _u => ⟨[(1, ptr n1 0), (2, ptr n2 0), (3, ptr n3 0), (4, i64 ((atOf i : Nat) : Int)), (5, i64 (i : Int)), (6, i64 ((opB i : Nat) : Int))], [⟨n3, wdsV (opAt (le a) i), 177, 10⟩, ⟨n2, (intsV (List.replicate 10 0)), 177, 10⟩, ⟨n1, bytesV a, 77, (bytesV a).length⟩]⟩) (fun _u => True) ?_ ?_
   ·
    refine Sat.seq (Sat.region ?_)
    refine Tr.move rfl rfl rfl ?_
    refine Tr.eqi rfl rfl rfl rfl rfl ?_
    refine Tr.nil (at_n ?_)
    refine Sat.condP rfl (fun hc1 => ?_) (fun hc1 => ?_)
    ·
     refine Sat.region ?_
     refine Tr.assign rfl rfl rfl ?_
     refine Tr.nil (at_n ?_)
     (rw [opB_nine hc1]; exact ⟨(), trivial, weak_of (wk1 rfl (wk1 rfl (wk1 rfl (wk1 rfl (wk1 rfl (wk1 rfl wk0)))))) (wh1 (by exact mem0) (wh1 (by exact mem1) (wh1 (by exact mem2) wh0))) (by repeat (first | exact ns_nil | refine ns_keep rfl ?_))⟩)
    ·
     refine Sat.skip (at_n ?_)
     (rw [opB_low hc1]; exact ⟨(), trivial, weak_of (wk1 rfl (wk1 rfl (wk1 rfl (wk1 rfl (wk1 rfl (wk1 rfl wk0)))))) (wh1 (by exact mem0) (wh1 (by exact mem1) (wh1 (by exact mem2) wh0))) (by repeat (first | exact ns_nil | refine ns_keep rfl ?_))⟩)
   ·
    intro _u hj
    skip
    refine Sat.seq (Sat.seq (Sat.region ?_))
    refine Tr.assign rfl rfl rfl ?_
    refine Tr.nil (at_n (Sat.block ?_))
    refine Sat.loop (ι := Nat) (fun k => ⟨[(1, ptr n1 0), (2, ptr n2 0), (3, ptr n3 0), (4, i64 ((atOf i : Nat) : Int)), (5, i64 (i : Int)), (6, i64 ((opB i : Nat) : Int)), (7, i64 (k : Int))], [⟨n3, wdsV ((opAt (le a) i).set i (le a / 2 ^ atOf i % 2 ^ k)), 177, 10⟩, ⟨n2, (intsV (List.replicate 10 0)), 177, 10⟩, ⟨n1, bytesV a, 77, (bytesV a).length⟩]⟩) (fun k => k ≤ opB i) (fun k => opB i - k) (0) ?_ ?_ ?_
    · exact Nat.zero_le _
    · exact weak_of (wk1 rfl (wk1 rfl (wk1 rfl (wk1 rfl (wk1 rfl (wk1 rfl (wk1 rfl wk0))))))) (wh1 (by rw [opAt_first _ hi2]; exact mem0) (wh1 (by exact mem1) (wh1 (by exact mem2) wh0))) (by repeat (first | exact ns_nil | refine ns_keep rfl ?_))
    ·
     rintro k hk
     have hsl : ((opAt (le a) i).set i (le a / 2 ^ atOf i % 2 ^ k)).length = 10 := by rw [List.length_set]; exact opAt_length _ i oM
     refine Sat.seq (Sat.seq (Sat.region ?_))
     refine Tr.move rfl rfl rfl ?_
     refine Tr.move rfl rfl rfl ?_
     refine two (fun r hr k => Tr.lss rfl rfl rfl rfl hr k) (fun hs10_20 => ?_) (fun hs10_20 => ?_)
     ·
      have hs10_2 := of_decide_eq_true hs10_20
      skip
      refine Tr.move rfl rfl rfl ?_
      refine Tr.move rfl rfl rfl ?_
      refine Tr.move rfl rfl rfl ?_
      refine Tr.addN (atOf i) (k) rfl rfl rfl rfl oM ?_
      refine Tr.lss rfl rfl rfl rfl (decide_eq_true oM) ?_
      refine Tr.pick rfl rfl rfl rfl rfl rfl ?_
      refine Tr.nil (at_n ?_)
      refine Sat.cond_t rfl rfl ?_
      refine Sat.skip (at_n (Sat.seq (Sat.block (Sat.seq (Sat.region ?_)))))
      refine Tr.move rfl rfl rfl ?_
      refine Tr.move rfl rfl rfl ?_
      refine Tr.addN (atOf i) (k) rfl rfl rfl rfl oM ?_
      refine Tr.quoN (atOf i + k) (8) rfl rfl rfl rfl ⟨by decide, by omega⟩ ?_
      refine Tr.idxArr1 rfl rfl rfl rfl Tryz.underlying77 Sz5 _ rfl oM ?_
      refine Tr.load1 rfl rfl rfl Tryz.underlying5 rfl (by exact mem2) (by exact get_bytes oM) ?_
      refine Tr.move rfl rfl rfl ?_
      refine Tr.move rfl rfl rfl ?_
      refine Tr.addN (atOf i) (k) rfl rfl rfl rfl oM ?_
      refine Tr.remN (atOf i + k) (8) rfl rfl rfl rfl dE ?_
      refine Tr.conv rfl rfl rfl Tryz.underlying3 Tryz.underlying35 (cv_i64_u64 _) ?_
      refine Tr.shr_u8 rfl rfl rfl rfl ((atOf i + k) % 8) (by rw [wordOf_id _ oM]) oM ?_
      refine Tr.rem_u8 rfl rfl rfl rfl 2 rfl dE ?_
      refine Tr.eqi rfl rfl rfl rfl rfl ?_
      refine Tr.nil (at_n ?_)
      refine Sat.condP rfl (fun hc3 => ?_) (fun hc3 => ?_)
      ·
       have hbt := bit_is hc3
       have hov := op_val (N := le a) hi2 (show k ≤ 26 by omega)
       refine Sat.region ?_
       refine Tr.move rfl rfl rfl ?_
       refine Tr.move rfl rfl rfl ?_
       refine Tr.idxArr1 rfl rfl rfl rfl Tryz.underlying177 Sz2 _ rfl oM ?_
       refine Tr.load1 rfl rfl rfl Tryz.underlying2 rfl (by exact mem0) (by exact get_wds oM) ?_
       refine Tr.move rfl rfl rfl ?_
       refine Tr.conv rfl rfl rfl Tryz.underlying3 Tryz.underlying35 (cv_i64_u64 _) ?_
       refine Tr.shlN 1 k rfl rfl rfl rfl (wordOf_id _ oM) oM oM ?_
       refine Tr.addN (((opAt (le a) i).set i (le a / 2 ^ atOf i % 2 ^ k)).getD i 0) (1 * 2 ^ k) rfl rfl rfl rfl oM ?_
       refine Tr.idxArr1 rfl rfl rfl rfl Tryz.underlying177 Sz2 _ rfl oM ?_
       refine Tr.store1 rfl rfl rfl rfl rfl Sz2 (by exact mem0) (by (simp [wdsV_length, hsl]; omega)) (by exact set_wds _ _ _) (by exact upd0) ?_
       refine Tr.nil (bl_n (at_n (Sat.region ?_)))
       refine Tr.move rfl rfl rfl ?_
       refine Tr.add_i64 rfl rfl rfl rfl oM ?_
       refine Tr.assign rfl rfl rfl ?_
       refine Tr.nil (at_n ?_)
       exact ⟨k + 1, by omega, by omega, weak_of (wk1 rfl (wk1 rfl (wk1 rfl (wk1 rfl (wk1 rfl (wk1 rfl (wk1 rfl wk0))))))) (wh1 (by (rw [← op_on hi2 hbt]; exact mem0)) (wh1 (by exact mem1) (wh1 (by exact mem2) wh0))) (by repeat (first | exact ns_nil | refine ns_keep rfl ?_))⟩
      ·
       have hbf := bit_isn hc3
       refine Sat.skip (bl_n (at_n (Sat.region ?_)))
       refine Tr.move rfl rfl rfl ?_
       refine Tr.add_i64 rfl rfl rfl rfl oM ?_
       refine Tr.assign rfl rfl rfl ?_
       refine Tr.nil (at_n ?_)
       exact ⟨k + 1, by omega, by omega, weak_of (wk1 rfl (wk1 rfl (wk1 rfl (wk1 rfl (wk1 rfl (wk1 rfl (wk1 rfl wk0))))))) (wh1 (by (rw [← op_off hbf]; exact mem0)) (wh1 (by exact mem1) (wh1 (by exact mem2) wh0))) (by repeat (first | exact ns_nil | refine ns_keep rfl ?_))⟩
     ·
      have hs10_2 := of_decide_eq_false hs10_20
      skip
      refine Tr.move rfl rfl rfl ?_
      refine Tr.skp rfl rfl ?_
      refine Tr.skp rfl rfl ?_
      refine Tr.skp rfl rfl ?_
      refine Tr.skp rfl rfl ?_
      refine Tr.pick rfl rfl rfl rfl rfl rfl ?_
      refine Tr.nil (at_n ?_)
      refine Sat.cond_f rfl rfl ?_
      refine Sat.exit (at_x (at_x (bl_h (at_n (Sat.region ?_)))))
      refine Tr.move rfl rfl rfl ?_
      refine Tr.move rfl rfl rfl ?_
      refine Tr.callV rfl rfl rfl rfl Body229 (r3_bits i hi2) (fun _ _ => trivial) ?_
      refine Tr.conv rfl rfl rfl Tryz.underlying35 Tryz.underlying3 (cv_u64_i64 oM) ?_
      rw [bits_wn]
      refine Tr.addN (atOf i) (bitsAt i) rfl rfl rfl rfl oM ?_
      refine Tr.assign rfl rfl rfl ?_
      refine Tr.nil (bl_n (at_n (Sat.region ?_)))
      refine Tr.move rfl rfl rfl ?_
      refine Tr.add_i64 rfl rfl rfl rfl oM ?_
      refine Tr.assign rfl rfl rfl ?_
      refine Tr.nil (at_n ?_)
      exact ⟨i + 1, by omega, by omega, weak_of (wk1 rfl (wk1 rfl (wk1 rfl (wk1 (natc (at_succ hi2)) (wk1 rfl wk0))))) (wh1 (by rw [← opAt_set (le a) hi2, show opB i = k by omega]; exact mem0) (wh1 (by exact mem1) (wh1 (by exact mem2) wh0))) (by repeat (first | exact ns_nil | refine ns_keep rfl ?_))⟩
  ·
   rw [show opAt (le a) i = D from by rw [show i = 10 by omega, opAt_ten]; exact hD.out]
   refine Sat.exit (at_x (at_x (bl_h (at_n (Sat.seq (Sat.region ?_))))))
   refine Tr.loadAll rfl rfl rfl Tryz.underlying177 rfl Sz177 (by exact mem0) (by (simp [wdsV_length, hd10]; done)) ?_
   refine Tr.callV rfl rfl rfl rfl Body230 (hc) (fun _ _ => trivial) ?_
   refine Tr.storeAll rfl rfl rfl rfl (by exact wdsV_cell _) Sz177 (by (simp [wdsV_length, hu10]; done)) (by exact mem1) (by (simp; done)) (by exact upd1) ?_
   refine Tr.nil (at_n (Sat.ret (en_r ?_)))
   refine ⟨_, [], res_cell rfl rfl Tryz.underlying177 rfl Sz177 (by exact mem1) (by simp [wdsV_length, hu10]), sP, sP, ?_, rfl⟩
   rfl

theorem close_first (X : Nat) : leb 32 (X % 2 ^ atOf 0) = List.replicate 32 0 := by
  rw [show atOf 0 = 0 from rfl, Nat.pow_zero, Nat.mod_one, leb_zero32]

set_option maxRecDepth 100000 in
set_option maxHeartbeats 8000000 in
theorem r3_Close (w : List Nat) (hw : Fit10 w) : Meets Tryz.prog 196 [agg (wdsV w)] [] (fun _ => True) (fun v out => v = agg (bytesV (fb (fe (v10 w)))) ∧ out = []) := by
 intro W hW
 have hlw := hw.len
 obtain ⟨X, hX⟩ : ∃ X, Hid (low10 w = X) := ⟨_, ⟨rfl⟩⟩
 have hX255 : X < 2 ^ 255 := by rw [← hX.out]; exact low10_lt hw
 have h4 := car10_four hw
 rw [hX.out] at h4
 have hfx : fe (v10 w) = fe X := by rw [← hX.out]; exact (low10_fe w).symm
 rw [hfx]
 have f1 : Fit10 (car10 w) := car10_fit (by have := hw.v; omega)
 have f2 : Fit10 (car10 (car10 w)) := car10_fit (by have := f1.v; omega)
 have f3 : Fit10 (car10 (car10 (car10 w))) := car10_fit (by have := f2.v; omega)
 have c1 := r3_carry w hw.mid
 have c2 := r3_carry _ f1.mid
 have c3 := r3_carry _ f2.mid
 have c4 := r3_carry _ f3.mid
 rw [h4] at c4
 have hl1 := f1.len
 have hl2 := f2.len
 have hl3 := f3.len
 have hDl : (dg X b10).length = 10 := by rw [dg_length]; rfl
 have hDb : ∀ i k, i < 10 → k < bitsAt i → (((((dg X b10).getD i 0 / 2 ^ k % 2 : Nat) : Int) = 1) ↔ X.testBit (atOf i + k) = true) := fun i k h1 h2 => dg_bit_dec X h1 h2
 have ht := fun h => not_top hX255 h
 have hm := fun i h1 h2 h => not_mid (i := i) hX255 h1 h2 h
 have htop := fun h1 h2 h3 => is_top hX255 h1 h2 h3
 obtain ⟨O, hO⟩ : ∃ O, Hid (leb 32 X = O) := ⟨_, ⟨rfl⟩⟩
 have hOl : O.length = 32 := by rw [← hO.out]; exact leb_length _ _
 rw [hO.out] at ht hm htop
 clear f1 f2 f3 h4
 revert c1 c2 c3 c4 hl1 hl2 hl3 hDl hDb
 generalize car10 (car10 (car10 w)) = w3
 generalize car10 (car10 w) = w2
 generalize car10 w = w1
 generalize dg X b10 = D
 intro c1 c2 c3 c4 hl1 hl2 hl3 hDl hDb
 generalize hFB : fb (fe X) = FB at ht hm htop ⊢
 refine calls_of (hp0 := []) Tryz.func196 rfl 77 Tryz.ntmps196 rfl (HRep.nil _) ?_
 refine Sat.seq (Sat.region ?_)
 refine Tr.boxA rfl rfl ?_
 intro n1 hn1 hf1
 refine Tr.alloc (cs := (bytesV (List.replicate 32 0))) rfl Zr77 rfl ?_
 intro n2 hn2 hf2
 refine Tr.nil (at_n (Sat.seq (Sat.region ?_)))
 refine Tr.loadAll rfl rfl rfl Tryz.underlying177 rfl Sz177 (by exact mem1) (by (simp [wdsV_length, hlw]; done)) ?_
 refine Tr.callV rfl rfl rfl rfl Body230 (c1) (fun _ _ => trivial) ?_
 refine Tr.callV rfl rfl rfl rfl Body230 (c2) (fun _ _ => trivial) ?_
 refine Tr.callV rfl rfl rfl rfl Body230 (c3) (fun _ _ => trivial) ?_
 refine Tr.callV rfl rfl rfl rfl Body230 (c4) (fun _ _ => trivial) ?_
 refine Tr.storeAll rfl rfl rfl rfl (by exact wdsV_cell _) Sz177 (by (simp [wdsV_length, hDl]; done)) (by exact mem1) (by (simp [wdsV_length, hlw]; done)) (by exact upd1) ?_
 refine Tr.nil (at_n (Sat.seq (Sat.region ?_)))
 refine Tr.alloc (cs := (bytesV (List.replicate 32 0))) rfl Zr77 rfl ?_
 intro n3 hn3 hf3
 refine Tr.nil (at_n (Sat.seq (Sat.region ?_)))
 refine Tr.assign rfl rfl rfl ?_
 refine Tr.nil (at_n (Sat.seq (Sat.seq (Sat.region ?_))))
 refine Tr.assign rfl rfl rfl ?_
 refine Tr.nil (at_n (Sat.block ?_))
 refine Sat.loop (ι := Nat) (fun i => ⟨[(1, ptr n1 0), (2, ptr n2 0), (3, ptr n3 0), (4, i64 ((atOf i : Nat) : Int)), (5, i64 (i : Int))], [⟨n3, bytesV (leb 32 (X % 2 ^ atOf i)), 77, 32⟩, ⟨n2, bytesV (List.replicate 32 0), 77, 32⟩, ⟨n1, wdsV D, 177, (wdsV w).length⟩]⟩) (fun i => i ≤ 10) (fun i => 10 - i) (0) ?_ ?_ ?_
 · omega
 · exact weak_of (wk1 rfl (wk1 rfl (wk1 rfl (wk1 rfl (wk1 rfl wk0))))) (wh1 (by rw [close_first]; exact mem0) (wh1 (by exact mem1) (wh1 (by exact mem2) wh0))) (by repeat (first | exact ns_nil | refine ns_keep rfl ?_))
 ·
  rintro i hi
  refine Sat.seq (Sat.seq (Sat.region ?_))
  refine Tr.move rfl rfl rfl ?_
  refine Tr.lss rfl rfl rfl rfl rfl ?_
  refine Tr.nil (at_n ?_)
  refine Sat.condP rfl (fun hc0 => ?_) (fun hc0 => ?_)
  ·
   have hi2 : i < 10 := by omega
   have hb26 := bits_26 i
   have hbw := bits_wn i
   have hat := at_le hi2
   have hat2 := at_succ hi2
   have hat3 : atOf (i + 1) ≤ 255 := by unfold atOf; omega
   refine Sat.skip (at_n (Sat.seq (Sat.block (Sat.seq (Sat.seq (Sat.region ?_))))))
   refine Tr.assign rfl rfl rfl ?_
   refine Tr.nil (at_n (Sat.block ?_))
   refine Sat.loop (ι := Nat) (fun k => ⟨[(1, ptr n1 0), (2, ptr n2 0), (3, ptr n3 0), (4, i64 ((atOf i : Nat) : Int)), (5, i64 (i : Int)), (6, i64 (k : Int))], [⟨n3, bytesV (leb 32 (X % 2 ^ (atOf i + k))), 77, 32⟩, ⟨n2, bytesV (List.replicate 32 0), 77, 32⟩, ⟨n1, wdsV D, 177, (wdsV w).length⟩]⟩) (fun k => k ≤ bitsAt i) (fun k => bitsAt i - k) (0) ?_ ?_ ?_
   · exact Nat.zero_le _
   · exact weak_of (wk1 rfl (wk1 rfl (wk1 rfl (wk1 rfl (wk1 rfl (wk1 rfl wk0)))))) (wh1 (by rw [Nat.add_zero]; exact mem0) (wh1 (by exact mem1) (wh1 (by exact mem2) wh0))) (by repeat (first | exact ns_nil | refine ns_keep rfl ?_))
   ·
    rintro k hk
    refine Sat.seq (Sat.seq (Sat.region ?_))
    refine Tr.move rfl rfl rfl ?_
    refine Tr.move rfl rfl rfl ?_
    refine Tr.callV rfl rfl rfl rfl Body229 (r3_bits i hi2) (fun _ _ => trivial) ?_
    refine Tr.conv rfl rfl rfl Tryz.underlying35 Tryz.underlying3 (cv_u64_i64 oM) ?_
    rw [bits_wn]
    refine Tr.lss rfl rfl rfl rfl rfl ?_
    refine Tr.nil (at_n ?_)
    refine Sat.condP rfl (fun hc1 => ?_) (fun hc1 => ?_)
    ·
     refine Sat.skip (at_n (Sat.seq (Sat.block (Sat.seq (Sat.region ?_)))))
     refine Tr.move rfl rfl rfl ?_
     refine Tr.idxArr1 rfl rfl rfl rfl Tryz.underlying177 Sz2 _ rfl oM ?_
     refine Tr.load1 rfl rfl rfl Tryz.underlying2 rfl (by exact mem2) (by exact get_wds oM) ?_
     refine Tr.move rfl rfl rfl ?_
     refine Tr.conv rfl rfl rfl Tryz.underlying3 Tryz.underlying35 (cv_i64_u64 _) ?_
     refine Tr.shrN (D.getD i 0) (k) rfl rfl rfl rfl (wordOf_id _ oM) oM ?_
     refine Tr.remN (D.getD i 0 / 2 ^ k) (2) rfl rfl rfl rfl dE ?_
     refine Tr.eqi rfl rfl rfl rfl rfl ?_
     refine Tr.nil (at_n ?_)
     refine Sat.condP rfl (fun hc2 => ?_) (fun hc2 => ?_)
     ·
      have hbt := (hDb i k hi2 oM).1 hc2
      have hbs : leb 32 (X % 2 ^ (atOf i + (k + 1))) = _ := (bit_set X (m := atOf i + k) oM hbt).symm
      refine Sat.region ?_
      refine Tr.move rfl rfl rfl ?_
      refine Tr.move rfl rfl rfl ?_
      refine Tr.addN (atOf i) (k) rfl rfl rfl rfl oM ?_
      refine Tr.quoN (atOf i + k) (8) rfl rfl rfl rfl ⟨by decide, by omega⟩ ?_
      refine Tr.move rfl rfl rfl ?_
      refine Tr.move rfl rfl rfl ?_
      refine Tr.addN (atOf i) (k) rfl rfl rfl rfl oM ?_
      refine Tr.quoN (atOf i + k) (8) rfl rfl rfl rfl ⟨by decide, by omega⟩ ?_
      refine Tr.idxArr1 rfl rfl rfl rfl Tryz.underlying77 Sz5 _ rfl oM ?_
      refine Tr.load1 rfl rfl rfl Tryz.underlying5 rfl (by exact mem0) (by exact get_bytes (by (simp [leb_length]; omega))) ?_
      refine Tr.move rfl rfl rfl ?_
      refine Tr.move rfl rfl rfl ?_
      refine Tr.addN (atOf i) (k) rfl rfl rfl rfl oM ?_
      refine Tr.remN (atOf i + k) (8) rfl rfl rfl rfl dE ?_
      refine Tr.conv rfl rfl rfl Tryz.underlying3 Tryz.underlying35 (cv_i64_u64 _) ?_
      refine Tr.shl_u8 rfl rfl (show evIn _ _ = some (u8 1) from rfl) rfl ((atOf i + k) % 8) (by rw [wordOf_id _ oM]) oM ?_
      refine Tr.add_u8 rfl rfl rfl rfl ?_
      refine Tr.idxArr1 rfl rfl rfl rfl Tryz.underlying77 Sz5 _ rfl oM ?_
      refine Tr.store1 rfl rfl rfl rfl rfl Sz5 (by exact mem0) (by (simp [leb_length]; omega)) (by exact set_bytes _ _ _) (by exact upd0) ?_
      refine Tr.nil (bl_n (at_n (Sat.region ?_)))
      refine Tr.move rfl rfl rfl ?_
      refine Tr.add_i64 rfl rfl rfl rfl oM ?_
      refine Tr.assign rfl rfl rfl ?_
      refine Tr.nil (at_n ?_)
      exact ⟨k + 1, by omega, by omega, weak_of (wk1 rfl (wk1 rfl (wk1 rfl (wk1 rfl (wk1 rfl (wk1 rfl wk0)))))) (wh1 (by rw [hbs]; exact mem0) (wh1 (by exact mem1) (wh1 (by exact mem2) wh0))) (by repeat (first | exact ns_nil | refine ns_keep rfl ?_))⟩
     ·
      have hbf : X.testBit (atOf i + k) = false := Bool.eq_false_iff.2 (fun e => hc2 ((hDb i k hi2 oM).2 e))
      have hbs : leb 32 (X % 2 ^ (atOf i + (k + 1))) = leb 32 (X % 2 ^ (atOf i + k)) := (bit_off X (atOf i + k) hbf).symm
      refine Sat.skip (bl_n (at_n (Sat.region ?_)))
      refine Tr.move rfl rfl rfl ?_
      refine Tr.add_i64 rfl rfl rfl rfl oM ?_
      refine Tr.assign rfl rfl rfl ?_
      refine Tr.nil (at_n ?_)
      exact ⟨k + 1, by omega, by omega, weak_of (wk1 rfl (wk1 rfl (wk1 rfl (wk1 rfl (wk1 rfl (wk1 rfl wk0)))))) (wh1 (by rw [hbs]; exact mem0) (wh1 (by exact mem1) (wh1 (by exact mem2) wh0))) (by repeat (first | exact ns_nil | refine ns_keep rfl ?_))⟩
    ·
     refine Sat.exit (at_x (at_x (bl_h (at_n (Sat.region ?_)))))
     refine Tr.move rfl rfl rfl ?_
     refine Tr.move rfl rfl rfl ?_
     refine Tr.callV rfl rfl rfl rfl Body229 (r3_bits i hi2) (fun _ _ => trivial) ?_
     refine Tr.conv rfl rfl rfl Tryz.underlying35 Tryz.underlying3 (cv_u64_i64 oM) ?_
     rw [bits_wn]
     refine Tr.addN (atOf i) (bitsAt i) rfl rfl rfl rfl oM ?_
     refine Tr.assign rfl rfl rfl ?_
     refine Tr.nil (bl_n (at_n (Sat.region ?_)))
     refine Tr.move rfl rfl rfl ?_
     refine Tr.add_i64 rfl rfl rfl rfl oM ?_
     refine Tr.assign rfl rfl rfl ?_
     refine Tr.nil (at_n ?_)
     exact ⟨i + 1, by omega, by omega, weak_of (wk1 rfl (wk1 rfl (wk1 rfl (wk1 (natc (at_succ hi2)) (wk1 rfl wk0))))) (wh1 (by rw [← at_succ hi2, show bitsAt i = k by omega]; exact mem0) (wh1 (by exact mem1) (wh1 (by exact mem2) wh0))) (by repeat (first | exact ns_nil | refine ns_keep rfl ?_))⟩
  ·
   rw [show leb 32 (X % 2 ^ atOf i) = O from by rw [show atOf i = 255 from by rw [show i = 10 by omega]; rfl, Nat.mod_eq_of_lt hX255]; exact hO.out]
   refine Sat.exit (at_x (at_x (bl_h (at_n (Sat.seq (Sat.seq (Sat.region ?_)))))))
   refine Tr.idxArr1 rfl rfl rfl rfl Tryz.underlying77 Sz5 0 rfl dE ?_
   refine Tr.load1 rfl rfl rfl Tryz.underlying5 rfl (by exact mem0) (by exact get_bytes oM) ?_
   refine two (fun r hr k => Tr.lss rfl rfl rfl rfl hr k) (fun hs13_20 => ?_) (fun hs13_20 => ?_)
   ·
    have hs13_2 := of_decide_eq_true hs13_20
    refine Tr.move rfl rfl rfl ?_
    refine Tr.skp rfl rfl ?_
    refine Tr.skp rfl rfl ?_
    refine Tr.skp rfl rfl ?_
    refine Tr.pick rfl rfl rfl rfl rfl rfl ?_
    refine Tr.nil (at_n ?_)
    refine Sat.cond_t rfl rfl ?_
    refine Sat.seq (Sat.region ?_)
    refine Tr.loadAll rfl rfl rfl Tryz.underlying77 rfl Sz77 (by exact mem0) (by (simp [hOl]; done)) ?_
    refine Tr.storeAll rfl rfl rfl rfl (by exact bytesV_cell _) Sz77 (by (simp [hOl]; done)) (by exact mem1) (by (simp; done)) (by exact upd1) ?_
    refine Tr.nil (at_n (Sat.ret (at_r (en_r ?_))))
    refine ⟨_, [], res_cell rfl rfl Tryz.underlying77 rfl Sz77 (by exact mem1) (by simp [hOl]), sP, sP, ?_, rfl⟩
    exact congrArg (fun l => agg (bytesV l)) (ht oM)
   ·
    have hs13_2 := of_decide_eq_false hs13_20
    refine Tr.move rfl rfl rfl ?_
    refine Tr.idxArr1 rfl rfl rfl rfl Tryz.underlying77 Sz5 31 rfl dE ?_
    refine Tr.load1 rfl rfl rfl Tryz.underlying5 rfl (by exact mem0) (by exact get_bytes oM) ?_
    refine two (fun r hr k => Tr.nei rfl rfl rfl rfl hr k) (fun hs13_60 => ?_) (fun hs13_60 => ?_)
    ·
     have hs13_6 := nd_t hs13_60
     refine Tr.pick rfl rfl rfl rfl rfl rfl ?_
     refine Tr.nil (at_n ?_)
     refine Sat.cond_t rfl rfl ?_
     refine Sat.seq (Sat.region ?_)
     refine Tr.loadAll rfl rfl rfl Tryz.underlying77 rfl Sz77 (by exact mem0) (by (simp [hOl]; done)) ?_
     refine Tr.storeAll rfl rfl rfl rfl (by exact bytesV_cell _) Sz77 (by (simp [hOl]; done)) (by exact mem1) (by (simp; done)) (by exact upd1) ?_
     refine Tr.nil (at_n (Sat.ret (at_r (en_r ?_))))
     refine ⟨_, [], res_cell rfl rfl Tryz.underlying77 rfl Sz77 (by exact mem1) (by simp [hOl]), sP, sP, ?_, rfl⟩
     exact congrArg (fun l => agg (bytesV l)) (ht oM)
    ·
     have hs13_6 := nd_f hs13_60
     refine Tr.pick rfl rfl rfl rfl rfl rfl ?_
     refine Tr.nil (at_n ?_)
     refine Sat.cond_f rfl rfl ?_
     refine Sat.skip (at_n (Sat.seq (Sat.seq (Sat.region ?_))))
     refine Tr.assign rfl rfl rfl ?_
     refine Tr.nil (at_n (Sat.block ?_))
     refine Sat.loop (ι := Nat) (fun j => ⟨[(2, ptr n2 0), (3, ptr n3 0), (7, i64 (j : Int))], [⟨n3, bytesV O, 77, 32⟩, ⟨n2, bytesV (List.replicate 32 0), 77, 32⟩]⟩) (fun j => 1 ≤ j ∧ j ≤ 31 ∧ ∀ m, 0 < m → m < j → (O.getD m 0).toNat = 255) (fun j => 31 - j) (1) ?_ ?_ ?_
     · exact ⟨Nat.le_refl _, by omega, fun m h1 h2 => by omega⟩
     · exact weak_of (wk1 rfl (wk1 rfl (wk1 rfl wk0))) (wh1 (by exact mem0) (wh1 (by exact mem1) wh0)) (by repeat (first | exact ns_nil | refine ns_keep rfl ?_))
     ·
      rintro j ⟨hj1, hj2, hj3⟩
      refine Sat.seq (Sat.seq (Sat.region ?_))
      refine Tr.move rfl rfl rfl ?_
      refine Tr.lss rfl rfl rfl rfl rfl ?_
      refine Tr.nil (at_n ?_)
      refine Sat.condP rfl (fun hc4 => ?_) (fun hc4 => ?_)
      ·
       refine Sat.skip (at_n (Sat.seq (Sat.block (Sat.seq (Sat.region ?_)))))
       refine Tr.move rfl rfl rfl ?_
       refine Tr.idxArr1 rfl rfl rfl rfl Tryz.underlying77 Sz5 _ rfl oM ?_
       refine Tr.load1 rfl rfl rfl Tryz.underlying5 rfl (by exact mem0) (by exact get_bytes oM) ?_
       refine Tr.nei rfl rfl rfl rfl rfl ?_
       refine Tr.nil (at_n ?_)
       refine Sat.condNP rfl (fun hc5 => ?_) (fun hc5 => ?_)
       ·
        refine Sat.seq (Sat.region ?_)
        refine Tr.loadAll rfl rfl rfl Tryz.underlying77 rfl Sz77 (by exact mem0) (by (simp [hOl]; done)) ?_
        refine Tr.storeAll rfl rfl rfl rfl (by exact bytesV_cell _) Sz77 (by (simp [hOl]; done)) (by exact mem1) (by (simp; done)) (by exact upd1) ?_
        refine Tr.nil (at_n (Sat.ret (bl_r (at_r (at_r (bl_r (at_r (en_r ?_))))))))
        refine ⟨_, [], res_cell rfl rfl Tryz.underlying77 rfl Sz77 (by exact mem1) (by simp [hOl]), sP, sP, ?_, rfl⟩
        exact congrArg (fun l => agg (bytesV l)) (hm j oM oM oM)
       ·
        refine Sat.skip (bl_n (at_n (Sat.region ?_)))
        refine Tr.move rfl rfl rfl ?_
        refine Tr.add_i64 rfl rfl rfl rfl oM ?_
        refine Tr.assign rfl rfl rfl ?_
        refine Tr.nil (at_n ?_)
        exact ⟨j + 1, ⟨by omega, by omega, fun m h1 h2 => by
          by_cases e : m = j
          · rw [e]; omega
          · exact hj3 m h1 oM⟩, by omega, weak_of (wk1 rfl (wk1 rfl (wk1 rfl wk0))) (wh1 (by exact mem0) (wh1 (by exact mem1) wh0)) (by repeat (first | exact ns_nil | refine ns_keep rfl ?_))⟩
      ·
       refine Sat.exit (at_x (at_x (bl_h (at_n (Sat.seq (Sat.region ?_))))))
       refine Tr.idxArr1 rfl rfl rfl rfl Tryz.underlying77 Sz5 0 rfl dE ?_
       refine Tr.load1 rfl rfl rfl Tryz.underlying5 rfl (by exact mem0) (by exact get_bytes oM) ?_
       refine Tr.sub_u8 rfl rfl rfl (show evIn _ _ = some (u8 237) from rfl) ?_
       refine Tr.build (cs := bytesV ((O.getD 0 0 - 237) :: List.replicate 31 0)) rfl rfl rfl (fun w => by kernel_rfl) ?_
       refine Tr.storeAll rfl rfl rfl rfl (by exact bytesV_cell _) Sz77 (by (simp [hOl]; done)) (by exact mem1) (by (simp; done)) (by exact upd1) ?_
       refine Tr.nil (at_n (Sat.ret (en_r ?_)))
       refine ⟨_, [], res_cell rfl rfl Tryz.underlying77 rfl Sz77 (by exact mem1) (by simp [hOl]), sP, sP, ?_, rfl⟩
       exact congrArg (fun l => agg (bytesV l)) (htop oM oM (fun m h1 h2 => hj3 m h1 oM))

def p1 (i : Nat) : Nat := 2 ^ bitsAt i - 1 - (if i = 0 then 18 else 0)
theorem p1_z {i : Nat} (h : (i : Int) = 0) : p1 i = 1 * 2 ^ bitsAt i - 1 - 18 := by rw [p1, if_pos oM, Nat.one_mul]
theorem p1_n {i : Nat} (h : ¬ (i : Int) = 0) : p1 i = 1 * 2 ^ bitsAt i - 1 := by rw [p1, if_neg oM, Nat.one_mul, Nat.sub_zero]
theorem p4_p1 (i : Nat) : p4 i = 4 * p1 i := rfl
def cf2 (i k : Nat) : Nat := if i % 2 = 1 ∧ k % 2 = 1 then 2 else 1
theorem cf2_t {i k : Nat} (P : Nat) (h : ((i % 2 : Nat) : Int) = 1) (h2 : ((k % 2 : Nat) : Int) = 1) : cf2 i k * P = 2 * P := by rw [cf2, if_pos ⟨by omega, by omega⟩]
theorem cf2_a {i k : Nat} (P : Nat) (h : ¬ ((i % 2 : Nat) : Int) = 1) : cf2 i k * P = P := by rw [cf2, if_neg (fun e => h oM), Nat.one_mul]
theorem cf2_b {i k : Nat} (P : Nat) (h : ¬ ((k % 2 : Nat) : Int) = 1) : cf2 i k * P = P := by rw [cf2, if_neg (fun e => h oM), Nat.one_mul]
theorem cf2_le (i k : Nat) : cf2 i k ≤ 2 := by unfold cf2; split <;> omega
theorem coef_hi {i k : Nat} (P : Nat) (h : (9 : Int) < ((i + k : Nat) : Int)) : coef i k * P = 19 * (cf2 i k * P) := by
  rw [coef, if_pos oM, Nat.mul_assoc]; rfl
theorem coef_lo {i k : Nat} (P : Nat) (h : ¬ (9 : Int) < ((i + k : Nat) : Int)) : coef i k * P = cf2 i k * P := by
  rw [coef, if_neg oM, Nat.one_mul]; rfl
theorem tRow_bd {x y : List Nat} (hx : Fit10 x) (hy : Fit10 y) {i k m : Nat} (hi : i < 10) (hk : k ≤ 10) (hm : m < 10) : (tRow x y i (tAll x y i) k).getD m 0 ≤ 6845471433603153920 := by
  have h1 := tRow_le hi (fun k hk => term_le hx hy i k hi hk) (tAll_length x y i) k hk m hm
  have h2 := tAll_le (term_le hx hy) i oM m hm
  have h3 : (if (m + 10 - i) % 10 < k then 38 * (2 ^ 27 * 2 ^ 27) else 0) ≤ 38 * (2 ^ 27 * 2 ^ 27) := by split <;> omega
  omega
theorem prod_le {x y : List Nat} (hx : Fit10 x) (hy : Fit10 y) {i k : Nat} (hi : i < 10) (hk : k < 10) : x.getD i 0 * y.getD k 0 ≤ 18014398509481984 :=
  Nat.le_trans (Nat.mul_le_mul (Nat.le_of_lt (hx.all hi)) (Nat.le_of_lt (hy.all hk))) dE

set_option maxRecDepth 100000 in
set_option maxHeartbeats 4000000 in
theorem r3_Plus (x y : List Nat) (hx : Fit10 x) (hy : Fit10 y) : Meets Tryz.prog 232 [agg (wdsV x), agg (wdsV y)] [] (fun _ => True) (fun v out => v = agg (wdsV (plusT x y)) ∧ out = []) := by
 intro W hW
 have hxl := hx.len
 have hyl := hy.len
 obtain ⟨A, hA⟩ : ∃ A, Hid (addAt x y 10 = A) := ⟨_, ⟨rfl⟩⟩
 obtain ⟨U, hU⟩ : ∃ U, Hid (plusT x y = U) := ⟨_, ⟨rfl⟩⟩
 have hAl : A.length = 10 := by rw [← hA.out]; exact addAt_length y hx.len 10
 have hUl : U.length = 10 := by rw [← hU.out]; exact car10_length _
 have hc := r3_carry A (by rw [← hA.out]; exact addAt_mid hx hy)
 rw [show car10 A = U from by rw [← hA.out]; exact hU.out] at hc
 rw [hU.out]
 have hal := hAl
 refine calls_of (hp0 := []) Tryz.func232 rfl 21 Tryz.ntmps232 rfl (HRep.nil _) ?_
 refine Sat.seq (Sat.region ?_)
 refine Tr.boxA rfl rfl ?_
 intro n2 hn2 hf2
 refine Tr.boxA rfl rfl ?_
 intro n3 hn3 hf3
 refine Tr.alloc (cs := (intsV (List.replicate 10 0))) rfl Zr177 rfl ?_
 intro n4 hn4 hf4
 refine Tr.nil (at_n (Sat.seq (Sat.seq (Sat.region ?_))))
 refine Tr.assign rfl rfl rfl ?_
 refine Tr.nil (at_n (Sat.block ?_))
 refine Sat.loop (ι := Nat) (fun i => ⟨[(2, ptr n2 0), (3, ptr n3 0), (4, ptr n4 0), (5, i64 (i : Int))], [⟨n4, (intsV (List.replicate 10 0)), 177, 10⟩, ⟨n3, wdsV y, 177, (wdsV y).length⟩, ⟨n2, wdsV (addAt x y i), 177, (wdsV x).length⟩]⟩) (fun i => i ≤ 10) (fun i => 10 - i) (0) ?_ ?_ ?_
 · omega
 · exact weak_of (wk1 rfl (wk1 rfl (wk1 rfl (wk1 rfl wk0)))) (wh1 (by exact mem0) (wh1 (by exact mem1) (wh1 (by exact mem2) wh0))) (by repeat (first | exact ns_nil | refine ns_keep rfl ?_))
 ·
  rintro i hi
  have hal := addAt_length y hxl i
  refine Sat.seq (Sat.seq (Sat.region ?_))
  refine Tr.move rfl rfl rfl ?_
  refine Tr.lss rfl rfl rfl rfl rfl ?_
  refine Tr.nil (at_n ?_)
  refine Sat.condP rfl (fun hc0 => ?_) (fun hc0 => ?_)
  ·
   have hi2 : i < 10 := by omega
   have hxi : (addAt x y i).getD i 0 = x.getD i 0 + 0 := by rw [addAt_get hx.len i oM i hi2, if_neg oM]
   have hx2 := hx.all hi2
   have hy2 := hy.all hi2
   refine Sat.skip (at_n (Sat.seq (Sat.block ?_)))
   refine Sat.draw [(0, 0), (0, 1), (0, 2), (1, 3), (0, 4), (0, 5), (1, 6), (0, 7), (0, 8), (4, 9)] Mixed (by kernel_rfl) ?_
   refine Tr.move rfl rfl rfl ?_
   refine Tr.move rfl rfl rfl ?_
   refine Tr.idxArr1 rfl rfl rfl rfl Tryz.underlying177 Sz2 _ rfl oM ?_
   refine Tr.load1 rfl rfl rfl Tryz.underlying2 rfl (by exact mem2) (by exact get_wds oM) ?_
   refine Tr.move rfl rfl rfl ?_
   refine Tr.idxArr1 rfl rfl rfl rfl Tryz.underlying177 Sz2 _ rfl oM ?_
   refine Tr.load1 rfl rfl rfl Tryz.underlying2 rfl (by exact mem1) (by exact get_wds oM) ?_
   refine Tr.addN ((addAt x y i).getD i 0) (y.getD i 0) rfl rfl rfl rfl oM ?_
   refine Tr.idxArr1 rfl rfl rfl rfl Tryz.underlying177 Sz2 _ rfl oM ?_
   refine Tr.store1 rfl rfl rfl rfl rfl Sz2 (by exact mem2) (by (simp [wdsV_length, hal]; omega)) (by exact set_wds _ _ _) (by exact upd2) ?_
   refine Tr.nil (bl_n (at_n (Sat.region ?_)))
   refine Tr.move rfl rfl rfl ?_
   refine Tr.add_i64 rfl rfl rfl rfl oM ?_
   refine Tr.assign rfl rfl rfl ?_
   refine Tr.nil (at_n ?_)
   exact ⟨i + 1, by omega, by omega, weak_of (wk1 rfl (wk1 rfl (wk1 rfl (wk1 rfl wk0)))) (wh1 (by exact mem0) (wh1 (by exact mem1) (wh1 (by exact mem2) wh0))) (by repeat (first | exact ns_nil | refine ns_keep rfl ?_))⟩
  ·
   rw [show addAt x y i = A from by rw [show i = 10 by omega]; exact hA.out]
   refine Sat.exit (at_x (at_x (bl_h (at_n (Sat.seq (Sat.region ?_))))))
   refine Tr.loadAll rfl rfl rfl Tryz.underlying177 rfl Sz177 (by exact mem2) (by (simp [wdsV_length, hAl]; done)) ?_
   refine Tr.callV rfl rfl rfl rfl Body230 (hc) (fun _ _ => trivial) ?_
   refine Tr.storeAll rfl rfl rfl rfl (by exact wdsV_cell _) Sz177 (by (simp [wdsV_length, hUl]; done)) (by exact mem0) (by (simp; done)) (by exact upd0) ?_
   refine Tr.nil (at_n (Sat.ret (en_r ?_)))
   refine ⟨_, [], res_cell rfl rfl Tryz.underlying177 rfl Sz177 (by exact mem0) (by simp [wdsV_length, hUl]), sP, sP, ?_, rfl⟩
   rfl

set_option maxRecDepth 100000 in
set_option maxHeartbeats 4000000 in
theorem r3_Minus (x y : List Nat) (hx : Fit10 x) (hy : Fit10 y) : Meets Tryz.prog 231 [agg (wdsV x), agg (wdsV y)] [] (fun _ => True) (fun v out => v = agg (wdsV (minusT x y)) ∧ out = []) := by
 intro W hW
 have hxl := hx.len
 have hyl := hy.len
 obtain ⟨A, hA⟩ : ∃ A, Hid (subAt x y 10 = A) := ⟨_, ⟨rfl⟩⟩
 obtain ⟨U, hU⟩ : ∃ U, Hid (minusT x y = U) := ⟨_, ⟨rfl⟩⟩
 have hAl : A.length = 10 := by rw [← hA.out]; exact subAt_length y hx.len 10
 have hUl : U.length = 10 := by rw [← hU.out]; exact car10_length _
 have hc := r3_carry A (by rw [← hA.out]; exact subAt_mid hx)
 rw [show car10 A = U from by rw [← hA.out]; exact hU.out] at hc
 rw [hU.out]
 have hal := hAl
 refine calls_of (hp0 := []) Tryz.func231 rfl 33 Tryz.ntmps231 rfl (HRep.nil _) ?_
 refine Sat.seq (Sat.region ?_)
 refine Tr.boxA rfl rfl ?_
 intro n2 hn2 hf2
 refine Tr.boxA rfl rfl ?_
 intro n3 hn3 hf3
 refine Tr.alloc (cs := (intsV (List.replicate 10 0))) rfl Zr177 rfl ?_
 intro n4 hn4 hf4
 refine Tr.nil (at_n (Sat.seq (Sat.seq (Sat.region ?_))))
 refine Tr.assign rfl rfl rfl ?_
 refine Tr.nil (at_n (Sat.block ?_))
 refine Sat.loop (ι := Nat) (fun i => ⟨[(2, ptr n2 0), (3, ptr n3 0), (4, ptr n4 0), (5, i64 (i : Int))], [⟨n4, (intsV (List.replicate 10 0)), 177, 10⟩, ⟨n3, wdsV y, 177, (wdsV y).length⟩, ⟨n2, wdsV (subAt x y i), 177, (wdsV x).length⟩]⟩) (fun i => i ≤ 10) (fun i => 10 - i) (0) ?_ ?_ ?_
 · omega
 · exact weak_of (wk1 rfl (wk1 rfl (wk1 rfl (wk1 rfl wk0)))) (wh1 (by exact mem0) (wh1 (by exact mem1) (wh1 (by exact mem2) wh0))) (by repeat (first | exact ns_nil | refine ns_keep rfl ?_))
 ·
  rintro i hi
  have hal := subAt_length y hxl i
  refine Sat.seq (Sat.seq (Sat.region ?_))
  refine Tr.move rfl rfl rfl ?_
  refine Tr.lss rfl rfl rfl rfl rfl ?_
  refine Tr.nil (at_n ?_)
  refine Sat.condP rfl (fun hc0 => ?_) (fun hc0 => ?_)
  ·
   have hi2 : i < 10 := by omega
   have hxi : (subAt x y i).getD i 0 = x.getD i 0 + 0 := by rw [subAt_get hx.len i oM i hi2, if_neg oM]
   have hx2 := hx.all hi2
   have hy2 := hy.all hi2
   have hpg := p4_ge hy hi2
   have hpl := p4_le i
   rw [p4_p1] at hpg hpl
   have hbg := bits_ge i
   have hbl := bits_le i
   have hb26 := bits_26 i
   have hsub : (subAt x y i).getD i 0 + 4 * p1 i - y.getD i 0 = (subAt x y i).getD i 0 + (p4 i - y.getD i 0) := by rw [p4_p1]; omega
   refine Sat.skip (at_n (Sat.seq (Sat.block (Sat.seq (Sat.region ?_)))))
   refine Tr.move rfl rfl rfl ?_
   refine Tr.callV rfl rfl rfl rfl Body229 (r3_bits i hi2) (fun _ _ => trivial) ?_
   refine Tr.shlN (1) (bitsAt i) rfl rfl rfl rfl (bits_w i) oM oM ?_
   refine Tr.subN (1 * 2 ^ bitsAt i) (1) rfl rfl rfl rfl oM ?_
   refine Tr.assign rfl rfl rfl ?_
   refine Tr.nil (at_n ?_)
   refine Sat.join (ι := Unit) (fun _u => ⟨[(2, ptr n2 0), (3, ptr n3 0), (4, ptr n4 0), (5, i64 (i : Int)), (6, i64 ((p1 i : Nat) : Int))], [⟨n4, (intsV (List.replicate 10 0)), 177, 10⟩, ⟨n3, wdsV y, 177, (wdsV y).length⟩, ⟨n2, wdsV (subAt x y i), 177, (wdsV x).length⟩]⟩) (fun _u => True) ?_ ?_
   ·
    refine Sat.seq (Sat.region ?_)
    refine Tr.move rfl rfl rfl ?_
    refine Tr.eqi rfl rfl rfl rfl rfl ?_
    refine Tr.nil (at_n ?_)
    refine Sat.condP rfl (fun hc1 => ?_) (fun hc1 => ?_)
    ·
     refine Sat.region ?_
     refine Tr.move rfl rfl rfl ?_
     refine Tr.subN (1 * 2 ^ bitsAt i - 1) (18) rfl rfl rfl rfl oM ?_
     refine Tr.assign rfl rfl rfl ?_
     refine Tr.nil (at_n ?_)
     (rw [p1_z hc1]; exact ⟨(), trivial, weak_of (wk1 rfl (wk1 rfl (wk1 rfl (wk1 rfl (wk1 rfl wk0))))) (wh1 (by exact mem0) (wh1 (by exact mem1) (wh1 (by exact mem2) wh0))) (by repeat (first | exact ns_nil | refine ns_keep rfl ?_))⟩)
    ·
     refine Sat.skip (at_n ?_)
     (rw [p1_n hc1]; exact ⟨(), trivial, weak_of (wk1 rfl (wk1 rfl (wk1 rfl (wk1 rfl (wk1 rfl wk0))))) (wh1 (by exact mem0) (wh1 (by exact mem1) (wh1 (by exact mem2) wh0))) (by repeat (first | exact ns_nil | refine ns_keep rfl ?_))⟩)
   ·
    intro _u hj
    skip
    refine Sat.draw [(0, 0), (0, 1), (0, 2), (1, 3), (0, 4), (0, 5), (0, 6), (0, 7), (0, 8), (1, 9), (0, 10), (0, 11), (4, 12)] Mixed (by kernel_rfl) ?_
    refine Tr.move rfl rfl rfl ?_
    refine Tr.move rfl rfl rfl ?_
    refine Tr.idxArr1 rfl rfl rfl rfl Tryz.underlying177 Sz2 _ rfl oM ?_
    refine Tr.load1 rfl rfl rfl Tryz.underlying2 rfl (by exact mem2) (by exact get_wds oM) ?_
    refine Tr.move rfl rfl rfl ?_
    refine Tr.mulN (4) (p1 i) rfl rfl rfl rfl oM ?_
    refine Tr.addN ((subAt x y i).getD i 0) (4 * p1 i) rfl rfl rfl rfl oM ?_
    refine Tr.move rfl rfl rfl ?_
    refine Tr.idxArr1 rfl rfl rfl rfl Tryz.underlying177 Sz2 _ rfl oM ?_
    refine Tr.load1 rfl rfl rfl Tryz.underlying2 rfl (by exact mem1) (by exact get_wds oM) ?_
    refine Tr.subN ((subAt x y i).getD i 0 + 4 * p1 i) (y.getD i 0) rfl rfl rfl rfl oM ?_
    refine Tr.idxArr1 rfl rfl rfl rfl Tryz.underlying177 Sz2 _ rfl oM ?_
    rw [hsub]
    refine Tr.store1 rfl rfl rfl rfl rfl Sz2 (by exact mem2) (by (simp [wdsV_length, hal]; omega)) (by exact set_wds _ _ _) (by exact upd2) ?_
    refine Tr.nil (bl_n (at_n (Sat.region ?_)))
    refine Tr.move rfl rfl rfl ?_
    refine Tr.add_i64 rfl rfl rfl rfl oM ?_
    refine Tr.assign rfl rfl rfl ?_
    refine Tr.nil (at_n ?_)
    exact ⟨i + 1, by omega, by omega, weak_of (wk1 rfl (wk1 rfl (wk1 rfl (wk1 rfl wk0)))) (wh1 (by exact mem0) (wh1 (by exact mem1) (wh1 (by exact mem2) wh0))) (by repeat (first | exact ns_nil | refine ns_keep rfl ?_))⟩
  ·
   rw [show subAt x y i = A from by rw [show i = 10 by omega]; exact hA.out]
   refine Sat.exit (at_x (at_x (bl_h (at_n (Sat.seq (Sat.region ?_))))))
   refine Tr.loadAll rfl rfl rfl Tryz.underlying177 rfl Sz177 (by exact mem2) (by (simp [wdsV_length, hAl]; done)) ?_
   refine Tr.callV rfl rfl rfl rfl Body230 (hc) (fun _ _ => trivial) ?_
   refine Tr.storeAll rfl rfl rfl rfl (by exact wdsV_cell _) Sz177 (by (simp [wdsV_length, hUl]; done)) (by exact mem0) (by (simp; done)) (by exact upd0) ?_
   refine Tr.nil (at_n (Sat.ret (en_r ?_)))
   refine ⟨_, [], res_cell rfl rfl Tryz.underlying177 rfl Sz177 (by exact mem0) (by simp [wdsV_length, hUl]), sP, sP, ?_, rfl⟩
   rfl

set_option maxRecDepth 100000 in
set_option maxHeartbeats 8000000 in
theorem r3_Times (x y : List Nat) (hx : Fit10 x) (hy : Fit10 y) : Meets Tryz.prog 197 [agg (wdsV x), agg (wdsV y)] [] (fun _ => True) (fun v out => v = agg (wdsV (mulT x y)) ∧ out = []) := by
 intro W hW
 have hxl := hx.len
 have hyl := hy.len
 obtain ⟨A, hA⟩ : ∃ A, Hid (tAll x y 10 = A) := ⟨_, ⟨rfl⟩⟩
 obtain ⟨U, hU⟩ : ∃ U, Hid (car10 (tAll x y 10) = U) := ⟨_, ⟨rfl⟩⟩
 have hAl : A.length = 10 := by rw [← hA.out]; exact tAll_length x y 10
 have hUl : U.length = 10 := by rw [← hU.out]; exact car10_length _
 have hc := r3_carry A (by rw [← hA.out]; exact tAll_mid hx hy)
 rw [show car10 A = U from by rw [← hA.out]; exact hU.out] at hc
 have hcc := r3_carry U (by rw [← hU.out]; exact car10_mid (tAll_v10 hx hy))
 obtain ⟨V, hV⟩ : ∃ V, Hid (mulT x y = V) := ⟨_, ⟨rfl⟩⟩
 have hVl : V.length = 10 := by rw [← hV.out]; exact car10_length _
 rw [show car10 U = V from by rw [← hU.out]; exact hV.out] at hcc
 rw [hV.out]
 have hal := hAl
 refine calls_of (hp0 := []) Tryz.func197 rfl 56 Tryz.ntmps197 rfl (HRep.nil _) ?_
 refine Sat.seq (Sat.region ?_)
 refine Tr.boxA rfl rfl ?_
 intro n2 hn2 hf2
 refine Tr.boxA rfl rfl ?_
 intro n3 hn3 hf3
 refine Tr.alloc (cs := (intsV (List.replicate 10 0))) rfl Zr177 rfl ?_
 intro n4 hn4 hf4
 refine Tr.nil (at_n (Sat.seq (Sat.region ?_)))
 refine Tr.alloc (cs := (intsV (List.replicate 10 0))) rfl Zr177 rfl ?_
 intro n5 hn5 hf5
 refine Tr.nil (at_n (Sat.seq (Sat.seq (Sat.region ?_))))
 refine Tr.assign rfl rfl rfl ?_
 refine Tr.nil (at_n (Sat.block ?_))
 refine Sat.loop (ι := Nat) (fun i => ⟨[(2, ptr n2 0), (3, ptr n3 0), (4, ptr n4 0), (5, ptr n5 0), (6, i64 (i : Int))], [⟨n5, wdsV (tAll x y i), 177, 10⟩, ⟨n4, (intsV (List.replicate 10 0)), 177, 10⟩, ⟨n3, wdsV y, 177, (wdsV y).length⟩, ⟨n2, wdsV x, 177, (wdsV x).length⟩]⟩) (fun i => i ≤ 10) (fun i => 10 - i) (0) ?_ ?_ ?_
 · omega
 · exact weak_of (wk1 rfl (wk1 rfl (wk1 rfl (wk1 rfl (wk1 rfl wk0))))) (wh1 (by rw [show wdsV (tAll x y 0) = intsV (List.replicate 10 0) from rfl]; exact mem0) (wh1 (by exact mem1) (wh1 (by exact mem2) (wh1 (by exact mem3) wh0)))) (by repeat (first | exact ns_nil | refine ns_keep rfl ?_))
 ·
  rintro i hi
  refine Sat.seq (Sat.seq (Sat.region ?_))
  refine Tr.move rfl rfl rfl ?_
  refine Tr.lss rfl rfl rfl rfl rfl ?_
  refine Tr.nil (at_n ?_)
  refine Sat.condP rfl (fun hc0 => ?_) (fun hc0 => ?_)
  ·
   have hi2 : i < 10 := by omega
   refine Sat.skip (at_n (Sat.seq (Sat.block (Sat.seq (Sat.region ?_)))))
   refine Tr.assign rfl rfl rfl ?_
   refine Tr.nil (at_n (Sat.block ?_))
   refine Sat.loop (ι := Nat) (fun k => ⟨[(2, ptr n2 0), (3, ptr n3 0), (4, ptr n4 0), (5, ptr n5 0), (6, i64 (i : Int)), (7, i64 (k : Int))], [⟨n5, wdsV (tRow x y i (tAll x y i) k), 177, 10⟩, ⟨n4, (intsV (List.replicate 10 0)), 177, 10⟩, ⟨n3, wdsV y, 177, (wdsV y).length⟩, ⟨n2, wdsV x, 177, (wdsV x).length⟩]⟩) (fun k => k ≤ 10) (fun k => 10 - k) (0) ?_ ?_ ?_
   · omega
   · exact weak_of (wk1 rfl (wk1 rfl (wk1 rfl (wk1 rfl (wk1 rfl (wk1 rfl wk0)))))) (wh1 (by exact mem0) (wh1 (by exact mem1) (wh1 (by exact mem2) (wh1 (by exact mem3) wh0)))) (by repeat (first | exact ns_nil | refine ns_keep rfl ?_))
   ·
    rintro k hk
    have hal := tRow_length x y i (tAll_length x y i) k
    refine Sat.seq (Sat.seq (Sat.region ?_))
    refine Tr.move rfl rfl rfl ?_
    refine Tr.lss rfl rfl rfl rfl rfl ?_
    refine Tr.nil (at_n ?_)
    refine Sat.condP rfl (fun hc1 => ?_) (fun hc1 => ?_)
    ·
     have hk2 : k < 10 := by omega
     have hxy := prod_le hx hy hi2 hk2
     have hcf : cf2 i k * (x.getD i 0 * y.getD k 0) ≤ 2 * 18014398509481984 := Nat.mul_le_mul (cf2_le i k) hxy
     have hco := term_le hx hy i k hi2 hk2
     have hbd := tRow_bd hx hy (m := (i + k) % 10) hi2 (show k ≤ 10 by omega) (Nat.mod_lt _ dE)
     refine Sat.skip (at_n (Sat.seq (Sat.block (Sat.seq ?_))))
     refine Sat.draw [(0, 0), (0, 1), (1, 2), (0, 3), (0, 4), (1, 5), (0, 6), (0, 7)] Mixed (by kernel_rfl) ?_
     refine Tr.move rfl rfl rfl ?_
     refine Tr.idxArr1 rfl rfl rfl rfl Tryz.underlying177 Sz2 _ rfl oM ?_
     refine Tr.load1 rfl rfl rfl Tryz.underlying2 rfl (by exact mem3) (by exact get_wds oM) ?_
     refine Tr.move rfl rfl rfl ?_
     refine Tr.idxArr1 rfl rfl rfl rfl Tryz.underlying177 Sz2 _ rfl oM ?_
     refine Tr.load1 rfl rfl rfl Tryz.underlying2 rfl (by exact mem2) (by exact get_wds oM) ?_
     refine Tr.mulN (x.getD i 0) (y.getD k 0) rfl rfl rfl rfl oM ?_
     refine Tr.assign rfl rfl rfl ?_
     refine Tr.nil (at_n ?_)
     refine Sat.join (ι := Unit) (fun _u => ⟨[(2, ptr n2 0), (3, ptr n3 0), (4, ptr n4 0), (5, ptr n5 0), (6, i64 (i : Int)), (7, i64 (k : Int)), (8, i64 ((cf2 i k * (x.getD i 0 * y.getD k 0) : Nat) : Int))], [⟨n5, wdsV (tRow x y i (tAll x y i) k), 177, 10⟩, ⟨n4, (intsV (List.replicate 10 0)), 177, 10⟩, ⟨n3, wdsV y, 177, (wdsV y).length⟩, ⟨n2, wdsV x, 177, (wdsV x).length⟩]⟩) (fun _u => True) ?_ ?_
     ·
      refine Sat.seq (Sat.region ?_)
      refine Tr.move rfl rfl rfl ?_
      refine Tr.remN (i) (2) rfl rfl rfl rfl dE ?_
      refine two (fun r hr k => Tr.eqi rfl rfl rfl rfl hr k) (fun hs9_20 => ?_) (fun hs9_20 => ?_)
      ·
       have hs9_2 := of_decide_eq_true hs9_20
       refine Tr.move rfl rfl rfl ?_
       refine Tr.move rfl rfl rfl ?_
       refine Tr.remN (k) (2) rfl rfl rfl rfl dE ?_
       refine two (fun r hr k => Tr.eqi rfl rfl rfl rfl hr k) (fun hs9_60 => ?_) (fun hs9_60 => ?_)
       ·
        have hs9_6 := of_decide_eq_true hs9_60
        refine Tr.pick rfl rfl rfl rfl rfl rfl ?_
        refine Tr.nil (at_n ?_)
        refine Sat.cond_t rfl rfl ?_
        refine Sat.region ?_
        refine Tr.move rfl rfl rfl ?_
        refine Tr.mulN (2) (x.getD i 0 * y.getD k 0) rfl rfl rfl rfl oM ?_
        refine Tr.assign rfl rfl rfl ?_
        refine Tr.nil (at_n ?_)
        (rw [cf2_t _ hs9_2 hs9_6]; exact ⟨(), trivial, weak_of (wk1 rfl (wk1 rfl (wk1 rfl (wk1 rfl (wk1 rfl (wk1 rfl (wk1 rfl wk0))))))) (wh1 (by exact mem0) (wh1 (by exact mem1) (wh1 (by exact mem2) (wh1 (by exact mem3) wh0)))) (by repeat (first | exact ns_nil | refine ns_keep rfl ?_))⟩)
       ·
        have hs9_6 := of_decide_eq_false hs9_60
        refine Tr.pick rfl rfl rfl rfl rfl rfl ?_
        refine Tr.nil (at_n ?_)
        refine Sat.cond_f rfl rfl ?_
        refine Sat.skip (at_n ?_)
        (rw [cf2_b _ hs9_6]; exact ⟨(), trivial, weak_of (wk1 rfl (wk1 rfl (wk1 rfl (wk1 rfl (wk1 rfl (wk1 rfl (wk1 rfl wk0))))))) (wh1 (by exact mem0) (wh1 (by exact mem1) (wh1 (by exact mem2) (wh1 (by exact mem3) wh0)))) (by repeat (first | exact ns_nil | refine ns_keep rfl ?_))⟩)
      ·
       have hs9_2 := of_decide_eq_false hs9_20
       refine Tr.move rfl rfl rfl ?_
       refine Tr.skp rfl rfl ?_
       refine Tr.skp rfl rfl ?_
       refine Tr.skp rfl rfl ?_
       refine Tr.pick rfl rfl rfl rfl rfl rfl ?_
       refine Tr.nil (at_n ?_)
       refine Sat.cond_f rfl rfl ?_
       refine Sat.skip (at_n ?_)
       (rw [cf2_a _ hs9_2]; exact ⟨(), trivial, weak_of (wk1 rfl (wk1 rfl (wk1 rfl (wk1 rfl (wk1 rfl (wk1 rfl (wk1 rfl wk0))))))) (wh1 (by exact mem0) (wh1 (by exact mem1) (wh1 (by exact mem2) (wh1 (by exact mem3) wh0)))) (by repeat (first | exact ns_nil | refine ns_keep rfl ?_))⟩)
     ·
      intro _u hj
      skip
      refine Sat.join (ι := Unit) (fun _u => ⟨[(2, ptr n2 0), (3, ptr n3 0), (4, ptr n4 0), (5, ptr n5 0), (6, i64 (i : Int)), (7, i64 (k : Int)), (8, i64 ((coef i k * (x.getD i 0 * y.getD k 0) : Nat) : Int))], [⟨n5, wdsV (tRow x y i (tAll x y i) k), 177, 10⟩, ⟨n4, (intsV (List.replicate 10 0)), 177, 10⟩, ⟨n3, wdsV y, 177, (wdsV y).length⟩, ⟨n2, wdsV x, 177, (wdsV x).length⟩]⟩) (fun _u => True) ?_ ?_
      ·
       refine Sat.seq (Sat.region ?_)
       refine Tr.move rfl rfl rfl ?_
       refine Tr.move rfl rfl rfl ?_
       refine Tr.addN (i) (k) rfl rfl rfl rfl oM ?_
       refine Tr.gtr rfl rfl rfl rfl rfl ?_
       refine Tr.nil (at_n ?_)
       refine Sat.condP rfl (fun hc3 => ?_) (fun hc3 => ?_)
       ·
        refine Sat.region ?_
        refine Tr.move rfl rfl rfl ?_
        refine Tr.mulN (19) (cf2 i k * (x.getD i 0 * y.getD k 0)) rfl rfl rfl rfl oM ?_
        refine Tr.assign rfl rfl rfl ?_
        refine Tr.nil (at_n ?_)
        (rw [coef_hi _ hc3]; exact ⟨(), trivial, weak_of (wk1 rfl (wk1 rfl (wk1 rfl (wk1 rfl (wk1 rfl (wk1 rfl (wk1 rfl wk0))))))) (wh1 (by exact mem0) (wh1 (by exact mem1) (wh1 (by exact mem2) (wh1 (by exact mem3) wh0)))) (by repeat (first | exact ns_nil | refine ns_keep rfl ?_))⟩)
       ·
        refine Sat.skip (at_n ?_)
        (rw [coef_lo _ hc3]; exact ⟨(), trivial, weak_of (wk1 rfl (wk1 rfl (wk1 rfl (wk1 rfl (wk1 rfl (wk1 rfl (wk1 rfl wk0))))))) (wh1 (by exact mem0) (wh1 (by exact mem1) (wh1 (by exact mem2) (wh1 (by exact mem3) wh0)))) (by repeat (first | exact ns_nil | refine ns_keep rfl ?_))⟩)
      ·
       intro _u hj
       skip
       refine Sat.region ?_
       refine Tr.move rfl rfl rfl ?_
       refine Tr.move rfl rfl rfl ?_
       refine Tr.addN (i) (k) rfl rfl rfl rfl oM ?_
       refine Tr.remN (i + k) (10) rfl rfl rfl rfl dE ?_
       refine Tr.move rfl rfl rfl ?_
       refine Tr.move rfl rfl rfl ?_
       refine Tr.addN (i) (k) rfl rfl rfl rfl oM ?_
       refine Tr.remN (i + k) (10) rfl rfl rfl rfl dE ?_
       refine Tr.idxArr1 rfl rfl rfl rfl Tryz.underlying177 Sz2 _ rfl oM ?_
       refine Tr.load1 rfl rfl rfl Tryz.underlying2 rfl (by exact mem0) (by exact get_wds oM) ?_
       refine Tr.move rfl rfl rfl ?_
       refine Tr.addN ((tRow x y i (tAll x y i) k).getD ((i + k) % 10) 0) (coef i k * (x.getD i 0 * y.getD k 0)) rfl rfl rfl rfl oM ?_
       refine Tr.idxArr1 rfl rfl rfl rfl Tryz.underlying177 Sz2 _ rfl oM ?_
       refine Tr.store1 rfl rfl rfl rfl rfl Sz2 (by exact mem0) (by (simp [wdsV_length, hal]; omega)) (by exact set_wds _ _ _) (by exact upd0) ?_
       refine Tr.nil (bl_n (at_n (Sat.region ?_)))
       refine Tr.move rfl rfl rfl ?_
       refine Tr.add_i64 rfl rfl rfl rfl oM ?_
       refine Tr.assign rfl rfl rfl ?_
       refine Tr.nil (at_n ?_)
       exact ⟨k + 1, by omega, by omega, weak_of (wk1 rfl (wk1 rfl (wk1 rfl (wk1 rfl (wk1 rfl (wk1 rfl wk0)))))) (wh1 (by exact mem0) (wh1 (by exact mem1) (wh1 (by exact mem2) (wh1 (by exact mem3) wh0)))) (by repeat (first | exact ns_nil | refine ns_keep rfl ?_))⟩
    ·
     refine Sat.exit (at_x (at_x (bl_h (bl_n (at_n (Sat.region ?_))))))
     refine Tr.move rfl rfl rfl ?_
     refine Tr.add_i64 rfl rfl rfl rfl oM ?_
     refine Tr.assign rfl rfl rfl ?_
     refine Tr.nil (at_n ?_)
     exact ⟨i + 1, by omega, by omega, weak_of (wk1 rfl (wk1 rfl (wk1 rfl (wk1 rfl (wk1 rfl wk0))))) (wh1 (by rw [show tAll x y (i + 1) = (tRow x y i (tAll x y i) k) from by rw [show k = 10 by omega]; rfl]; exact mem0) (wh1 (by exact mem1) (wh1 (by exact mem2) (wh1 (by exact mem3) wh0)))) (by repeat (first | exact ns_nil | refine ns_keep rfl ?_))⟩
  ·
   rw [show tAll x y i = A from by rw [show i = 10 by omega]; exact hA.out]
   refine Sat.exit (at_x (at_x (bl_h (at_n (Sat.seq (Sat.region ?_))))))
   refine Tr.loadAll rfl rfl rfl Tryz.underlying177 rfl Sz177 (by exact mem0) (by (simp [wdsV_length, hAl]; done)) ?_
   refine Tr.callV rfl rfl rfl rfl Body230 (hc) (fun _ _ => trivial) ?_
   refine Tr.callV rfl rfl rfl rfl Body230 (hcc) (fun _ _ => trivial) ?_
   refine Tr.storeAll rfl rfl rfl rfl (by exact wdsV_cell _) Sz177 (by (simp [wdsV_length, hVl]; done)) (by exact mem1) (by (simp; done)) (by exact upd1) ?_
   refine Tr.nil (at_n (Sat.ret (en_r ?_)))
   refine ⟨_, [], res_cell rfl rfl Tryz.underlying177 rfl Sz177 (by exact mem1) (by simp [wdsV_length, hVl]), sP, sP, ?_, rfl⟩
   rfl

end Go.Proofs.YtpacobmjjjillaaGreat
end

section
namespace Ed
open Hw Go
set_option linter.unusedVariables false

def oneT : List Nat := 1 :: List.replicate 9 0
def powT (x : List Nat) (E : Nat) : Nat → List Nat
  | 0 => oneT
  | j + 1 => if E.testBit (255 - j) = true then mulT (mulT (powT x E j) (powT x E j)) x else mulT (powT x E j) (powT x E j)
theorem oneT_v : fe (v10 oneT) = 1 := by kernel_rfl
theorem oneT_fit : Fit10 oneT := ⟨rfl, by decide, fun i h1 h2 => by
  have : ∀ i : _root_.Fin 10, oneT.getD i.val 0 < 2 ^ bitsAt i.val := by decide
  exact this ⟨i, h2⟩⟩
theorem test_div (E j : Nat) (b : Bool) (h : E.testBit j = b) : E / 2 ^ j % 2 = (if b = true then 1 else 0) := by
  rw [← h, Nat.testBit_eq_decide_div_mod_eq]
  simp only [decide_eq_true_eq]
  split <;> omega
theorem powT_ok {x : List Nat} (hx : Fit10 x) {E : Nat} (hE : E < 2 ^ 256) : ∀ j, j ≤ 256 → Fit10 (powT x E j) ∧ fe (v10 (powT x E j)) = fpow (fe (v10 x)) (E / 2 ^ (256 - j))
  | 0, _ => ⟨oneT_fit, by rw [powT, oneT_v, show 256 - 0 = 256 from rfl, Nat.div_eq_of_lt hE, fpow_zero]⟩
  | j + 1, hj => by
    obtain ⟨h1, h2⟩ := powT_ok hx hE j oM
    have h3 : E / 2 ^ (256 - (j + 1)) ≤ E := Nat.div_le_self _ _
    rw [next_div E j oM] at h3 ⊢
    rw [powT]
    cases hb : E.testBit (255 - j) with
    | true =>
      have h4 := test_div E (255 - j) true hb
      rw [if_pos rfl] at h4
      rw [h4] at h3 ⊢
      rw [if_pos rfl]
      refine ⟨mulT_fit (mulT_fit h1 h1) hx, ?_⟩
      rw [mulT_v (mulT_length _ _) hx.len, mulT_v h1.len h1.len, h2, fpow_succ oM, fpow_two oM]
    | false =>
      have h4 := test_div E (255 - j) false hb
      rw [if_neg dE] at h4
      rw [h4] at h3 ⊢
      rw [if_neg dE]
      refine ⟨mulT_fit h1 h1, ?_⟩
      rw [mulT_v h1.len h1.len, h2, Nat.add_zero, fpow_two oM]
theorem powT_all {x : List Nat} (hx : Fit10 x) {E : Nat} (hE : E < 2 ^ 256) : fe (v10 (powT x E 256)) = fpow (fe (v10 x)) E := by
  have h := (powT_ok hx hE 256 (Nat.le_refl _)).2
  rwa [Nat.sub_self, Nat.pow_zero, Nat.div_one] at h
theorem powT_t {x : List Nat} {E j : Nat} (h : E.testBit (255 - j) = true) : powT x E (j + 1) = mulT (mulT (powT x E j) (powT x E j)) x := if_pos h
theorem powT_f {x : List Nat} {E j : Nat} (h : E.testBit (255 - j) = false) : powT x E (j + 1) = mulT (powT x E j) (powT x E j) := if_neg (by rw [h]; decide)
def halfAt (M i : Nat) : List UInt8 := (leb 32 (M / 2)).take i ++ (leb 32 M).drop i
theorem halfAt_length (M i : Nat) (h : i ≤ 32) : (halfAt M i).length = 32 := by
  rw [halfAt, List.length_append, List.length_take, List.length_drop, leb_length, leb_length]; omega
theorem halfAt_zero (M : Nat) : halfAt M 0 = leb 32 M := rfl
theorem halfAt_end (M : Nat) : halfAt M 32 = leb 32 (M / 2) := by
  rw [halfAt, List.take_of_length_le (by rw [leb_length]; exact Nat.le_refl _), List.drop_of_length_le (by rw [leb_length]; exact Nat.le_refl _), List.append_nil]
theorem halfAt_get (M : Nat) {i j : Nat} (hi : i ≤ j) (hj : j < 32) : (halfAt M i).getD j 0 = UInt8.ofNat (M / 256 ^ j) := by
  rw [halfAt, List.getD_eq_getElem?_getD, List.getElem?_append_right (by rw [List.length_take, leb_length]; omega), List.length_take, leb_length, List.getElem?_drop, show i + (j - min i 32) = j by omega, leb_get 32 M j hj]
  rfl
theorem half_byte (M i : Nat) : M / 2 / 256 ^ i % 256 = M / 256 ^ i % 256 / 2 + 128 * (M / 256 ^ (i + 1) % 2) := by
  have e1 : M / 2 / 256 ^ i = M / 256 ^ i / 2 := by rw [Nat.div_div_eq_div_mul, Nat.div_div_eq_div_mul, Nat.mul_comm]
  have e2 : M / 256 ^ (i + 1) = M / 256 ^ i / 256 := by rw [Nat.div_div_eq_div_mul, Nat.pow_succ]
  rw [e1, e2]
  generalize M / 256 ^ i = x
  omega
theorem halfAt_next (M : Nat) {i : Nat} (h : i < 32) (v : UInt8) (hv : v = UInt8.ofNat (M / 2 / 256 ^ i)) : (halfAt M i).set i v = halfAt M (i + 1) := by
  have hl : (leb 32 (M / 2)).length = 32 := leb_length _ _
  have hl2 : (leb 32 M).length = 32 := leb_length _ _
  have e : (leb 32 (M / 2)).take (i + 1) = (leb 32 (M / 2)).take i ++ [v] := by
    have e3 : (leb 32 (M / 2))[i]'oM = v := by
      have := leb_get 32 (M / 2) i h
      rw [List.getElem?_eq_getElem oM] at this
      rw [hv]
      exact Option.some.inj this
    rw [← e3]
    exact List.take_succ_eq_append_getElem oM
  have e2 : (leb 32 M).drop i = (leb 32 M)[i]'oM :: (leb 32 M).drop (i + 1) := List.drop_eq_getElem_cons oM
  rw [halfAt, halfAt, e, e2, List.set_append_right _ _ (by rw [List.length_take, hl]; omega), List.length_take, hl, show i - min i 32 = 0 by omega, List.set_cons_zero, List.append_assoc]
  rfl
theorem half_odd (M : Nat) {i : Nat} (h : i < 31) (hb : (((halfAt M i).set i (UInt8.ofNat (((halfAt M i).getD i 0).toNat / 2))).getD (i + 1) 0).toNat % 2 = 1) :
    ((halfAt M i).set i (UInt8.ofNat (((halfAt M i).getD i 0).toNat / 2))).set i (((halfAt M i).set i (UInt8.ofNat (((halfAt M i).getD i 0).toNat / 2))).getD i 0 + 128) = halfAt M (i + 1) := by
  have hl := halfAt_length M i oM
  have g1 : ((halfAt M i).set i (UInt8.ofNat (((halfAt M i).getD i 0).toNat / 2))).getD i 0 = UInt8.ofNat (((halfAt M i).getD i 0).toNat / 2) := by
    rw [List.getD_eq_getElem?_getD, List.getElem?_set_self oM]; rfl
  have g2 : ((halfAt M i).set i (UInt8.ofNat (((halfAt M i).getD i 0).toNat / 2))).getD (i + 1) 0 = UInt8.ofNat (M / 256 ^ (i + 1)) := by
    rw [List.getD_eq_getElem?_getD, List.getElem?_set_ne oM, ← List.getD_eq_getElem?_getD, halfAt_get M oM oM]
  rw [g2, UInt8.toNat_ofNat'] at hb
  rw [g1, List.set_set]
  refine halfAt_next M oM _ ?_
  rw [halfAt_get M (Nat.le_refl _) oM, show (128 : UInt8) = UInt8.ofNat 128 from rfl, ← UInt8.ofNat_add, UInt8.toNat_ofNat']
  apply ofNat8
  have := half_byte M i
  omega
theorem half_even (M : Nat) {i : Nat} (h : i < 31) (hb : ¬ (((halfAt M i).set i (UInt8.ofNat (((halfAt M i).getD i 0).toNat / 2))).getD (i + 1) 0).toNat % 2 = 1) :
    (halfAt M i).set i (UInt8.ofNat (((halfAt M i).getD i 0).toNat / 2)) = halfAt M (i + 1) := by
  have hl := halfAt_length M i oM
  have g2 : ((halfAt M i).set i (UInt8.ofNat (((halfAt M i).getD i 0).toNat / 2))).getD (i + 1) 0 = UInt8.ofNat (M / 256 ^ (i + 1)) := by
    rw [List.getD_eq_getElem?_getD, List.getElem?_set_ne oM, ← List.getD_eq_getElem?_getD, halfAt_get M oM oM]
  rw [g2, UInt8.toNat_ofNat'] at hb
  refine halfAt_next M oM _ ?_
  rw [halfAt_get M (Nat.le_refl _) oM, UInt8.toNat_ofNat']
  apply ofNat8
  have := half_byte M i
  omega
theorem half_last (M : Nat) (hM : M < 2 ^ 256) : (halfAt M 31).set 31 (UInt8.ofNat (((halfAt M 31).getD 31 0).toNat / 2)) = halfAt M 32 := by
  refine halfAt_next M oM _ ?_
  rw [halfAt_get M (Nat.le_refl _) oM, UInt8.toNat_ofNat']
  apply ofNat8
  have := half_byte M 31
  have h2 : M / 256 ^ (31 + 1) = 0 := Nat.div_eq_of_lt (Nat.lt_of_lt_of_le hM dE)
  omega
theorem ones_leb (f l : UInt8) : leb 32 (le (onesB f l)) = onesB f l := by
  have := leb_le (onesB f l)
  rwa [onesB_length] at this
/-- what the reference raises to -/
def expT (n k : Nat) : List UInt8 := leb 32 (le (onesB (UInt8.ofNat (237 - n)) 127) / 2 ^ k)
theorem expT_length (n k : Nat) : (expT n k).length = 32 := leb_length _ _
theorem expT_inv : le (expT 2 0) = PF - 2 := by kernel_rfl
theorem expT_root : le (expT 5 3) = (PF - 5) / 8 := by kernel_rfl
theorem expT_unit : le (expT 1 2) = (PF - 1) / 4 := by kernel_rfl
theorem root_step (X : Fp) : fpow X ((PF - 5) / 8) * X = fpow X ((PF + 3) / 8) := by
  rw [← fpow_succ dE]
  rfl
end Ed
end

section
namespace Go.Proofs.YtpacobmjjjillaaGreat
open Go Hw
set_option linter.unusedVariables false
set_option linter.unusedSimpArgs false

open Ed

theorem o_fit {a : List UInt8} (ha : a.length = 32) : Fit10 (openT (le a)) := openT_fit (le32 ha)
theorem o_v {a : List UInt8} (ha : a.length = 32) : fe (v10 (openT (le a))) = fe (le a) := openT_v (le32 ha)
/-- closed words -/
theorem r3_Close_v (w : List Nat) (hw : Fit10 w) (X : Fp) (h : fe (v10 w) = X) : Meets Tryz.prog 196 [agg (wdsV w)] [] (fun _ => True) (fun v out => v = agg (bytesV (fb X)) ∧ out = []) := by
  rw [← h]; exact r3_Close w hw

set_option maxRecDepth 100000 in
set_option maxHeartbeats 1000000 in
theorem r3_Rest (a : List UInt8) (ha : a.length = 32) : Meets Tryz.prog 195 [agg (bytesV a)] [] (fun _ => True) (fun v out => v = agg (bytesV (fb (fe (le a)))) ∧ out = []) := by
 intro W hW
 refine calls_of (hp0 := []) Tryz.func195 rfl 6 Tryz.ntmps195 rfl (HRep.nil _) ?_
 refine Sat.seq (Sat.region ?_)
 refine Tr.boxA rfl rfl ?_
 intro n1 hn1 hf1
 refine Tr.alloc (cs := (bytesV (List.replicate 32 0))) rfl Zr77 rfl ?_
 intro n2 hn2 hf2
 refine Tr.nil (at_n (Sat.seq (Sat.region ?_)))
 refine Tr.loadAll rfl rfl rfl Tryz.underlying77 rfl Sz77 (by exact mem1) (by (simp [ha]; done)) ?_
 refine Tr.callV rfl rfl rfl rfl Body188 (r3_Open (a) (ha)) (fun _ _ => trivial) ?_
 refine Tr.callV rfl rfl rfl rfl Body196 (r3_Close_v (_) (o_fit ha) (_) (o_v ha)) (fun _ _ => trivial) ?_
 refine Tr.storeAll rfl rfl rfl rfl (by exact bytesV_cell _) Sz77 (by (simp [fb_length]; done)) (by exact mem0) (by (simp; done)) (by exact upd0) ?_
 refine Tr.nil (at_n (Sat.ret (en_r ?_)))
 refine ⟨_, [], res_cell rfl rfl Tryz.underlying77 rfl Sz77 (by exact mem0) (by simp [fb_length]), sP, sP, ?_, rfl⟩
 rfl

set_option maxRecDepth 100000 in
set_option maxHeartbeats 1000000 in
theorem r3_Canon (a : List UInt8) (ha : a.length = 32) : Meets Tryz.prog 184 [agg (bytesV a)] [] (fun _ => True) (fun v out => v = .bool (decide (fb (fe (le a)) = a)) ∧ out = []) := by
 intro W hW
 refine calls_of (hp0 := []) Tryz.func184 rfl 7 Tryz.ntmps184 rfl (HRep.nil _) ?_
 refine Sat.seq (Sat.region ?_)
 refine Tr.boxA rfl rfl ?_
 intro n1 hn1 hf1
 refine Tr.assign rfl rfl rfl ?_
 refine Tr.nil (at_n (Sat.seq ?_))
 refine Sat.draw [(1, 0), (1, 2), (3, 1), (0, 3), (0, 4)] Mixed (by kernel_rfl) ?_
 refine Tr.loadAll rfl rfl rfl Tryz.underlying77 rfl Sz77 (by exact mem0) (by (simp [ha]; done)) ?_
 refine Tr.loadAll rfl rfl rfl Tryz.underlying77 rfl Sz77 (by exact mem0) (by (simp [ha]; done)) ?_
 refine Tr.callV rfl rfl rfl rfl Body195 (r3_Rest (a) (ha)) (fun _ _ => trivial) ?_
 refine Tr.eql_bytes rfl rfl rfl rfl Tryz.eqGuardType77 Tryz.underlying77 Tryz.underlying5 Sz5 (by (simp [fb_length]; done)) (by (simp [ha]; done)) rfl ?_
 refine Tr.assign rfl rfl rfl ?_
 refine Tr.nil (at_n (Sat.ret (en_r ?_)))
 refine ⟨_, [], res_tmp rfl rfl, sP, sP, ?_, rfl⟩
 rfl

set_option maxRecDepth 100000 in
set_option maxHeartbeats 1000000 in
theorem r3_Same (a b : List UInt8) (ha : a.length = 32) (hb : b.length = 32) : Meets Tryz.prog 234 [agg (bytesV a), agg (bytesV b)] [] (fun _ => True) (fun v out => v = .bool (decide (fe (le a) = fe (le b))) ∧ out = []) := by
 intro W hW
 refine calls_of (hp0 := []) Tryz.func234 rfl 10 Tryz.ntmps234 rfl (HRep.nil _) ?_
 refine Sat.seq (Sat.region ?_)
 refine Tr.boxA rfl rfl ?_
 intro n2 hn2 hf2
 refine Tr.boxA rfl rfl ?_
 intro n3 hn3 hf3
 refine Tr.assign rfl rfl rfl ?_
 refine Tr.nil (at_n (Sat.seq ?_))
 refine Sat.draw [(1, 0), (1, 2), (3, 1), (3, 3), (0, 4), (0, 5)] Mixed (by kernel_rfl) ?_
 refine Tr.loadAll rfl rfl rfl Tryz.underlying77 rfl Sz77 (by exact mem1) (by (simp [ha]; done)) ?_
 refine Tr.loadAll rfl rfl rfl Tryz.underlying77 rfl Sz77 (by exact mem0) (by (simp [hb]; done)) ?_
 refine Tr.callV rfl rfl rfl rfl Body195 (r3_Rest (a) (ha)) (fun _ _ => trivial) ?_
 refine Tr.callV rfl rfl rfl rfl Body195 (r3_Rest (b) (hb)) (fun _ _ => trivial) ?_
 refine Tr.eql_bytes rfl rfl rfl rfl Tryz.eqGuardType77 Tryz.underlying77 Tryz.underlying5 Sz5 (by (simp [fb_length]; done)) (by (simp [fb_length]; done)) rfl ?_
 refine Tr.assign rfl rfl rfl ?_
 refine Tr.nil (at_n (Sat.ret (en_r ?_)))
 refine ⟨_, [], res_tmp rfl rfl, sP, sP, ?_, rfl⟩
 rw [fb_dec]

theorem odd_byte2 (x : Fp) : decide (((UInt8.ofNat (((fb x).getD 0 0).toNat % 2)).toNat : Int) = 1) = decide (x.val % 2 = 1) := by
  have e : (UInt8.ofNat (((fb x).getD 0 0).toNat % 2)).toNat = x.val % 2 := by
    rw [fb_head, UInt8.toNat_ofNat', UInt8.toNat_ofNat']
    omega
  rw [e]
  congr 1
  exact propext ⟨fun h => by omega, fun h => by omega⟩

set_option maxRecDepth 100000 in
set_option maxHeartbeats 1000000 in
theorem r3_Odd (a : List UInt8) (ha : a.length = 32) : Meets Tryz.prog 119 [agg (bytesV a)] [] (fun _ => True) (fun v out => v = .bool (decide ((fe (le a)).val % 2 = 1)) ∧ out = []) := by
 intro W hW
 refine calls_of (hp0 := []) Tryz.func119 rfl 8 Tryz.ntmps119 rfl (HRep.nil _) ?_
 refine Sat.seq (Sat.region ?_)
 refine Tr.boxA rfl rfl ?_
 intro n1 hn1 hf1
 refine Tr.assign rfl rfl rfl ?_
 refine Tr.nil (at_n (Sat.seq (Sat.region ?_)))
 refine Tr.loadAll rfl rfl rfl Tryz.underlying77 rfl Sz77 (by exact mem0) (by (simp [ha]; done)) ?_
 refine Tr.callV rfl rfl rfl rfl Body195 (r3_Rest (a) (ha)) (fun _ _ => trivial) ?_
 refine Tr.idxA1 rfl rfl rfl rfl Tryz.underlying77 Sz5 Tryz.underlying5 rfl 0 rfl oM (by rfl) ?_
 refine Tr.rem_u8 rfl rfl rfl rfl 2 rfl dE ?_
 refine Tr.eqi rfl rfl rfl rfl rfl ?_
 refine Tr.assign rfl rfl rfl ?_
 refine Tr.nil (at_n (Sat.ret (en_r ?_)))
 refine ⟨_, [], res_tmp rfl rfl, sP, sP, ?_, rfl⟩
 exact congrArg Value.bool (odd_byte2 _)

set_option maxRecDepth 100000 in
set_option maxHeartbeats 1000000 in
theorem r3_Of (x : UInt64) : Meets Tryz.prog 123 [u64 x] [] (fun _ => True) (fun v out => v = agg (bytesV (fb (fe x.toNat))) ∧ out = []) := by
 intro W hW
 have hpl : True := trivial
 refine calls_of (hp0 := []) Tryz.func123 rfl 18 Tryz.ntmps123 rfl (HRep.nil _) ?_
 refine Sat.seq (Sat.region ?_)
 refine Tr.alloc (cs := (bytesV (List.replicate 32 0))) rfl Zr77 rfl ?_
 intro n2 hn2 hf2
 refine Tr.nil (at_n (Sat.seq (Sat.region ?_)))
 refine Tr.alloc (cs := (bytesV (List.replicate 32 0))) rfl Zr77 rfl ?_
 intro n3 hn3 hf3
 refine Tr.nil (at_n (Sat.seq (Sat.seq (Sat.region ?_))))
 refine Tr.assign rfl rfl rfl ?_
 refine Tr.nil (at_n (Sat.block ?_))
 refine Sat.loop (ι := Nat) (fun k => ⟨[(0, u64 x), (2, ptr n2 0), (3, ptr n3 0), (4, i64 (k : Int))], [⟨n3, bytesV (padW 32 x.toNat k), 77, 32⟩, ⟨n2, bytesV (List.replicate 32 0), 77, 32⟩]⟩) (fun k => k ≤ 8) (fun k => 8 - k) (0) ?_ ?_ ?_
 · omega
 · exact weak_of (wk1 rfl (wk1 rfl (wk1 rfl (wk1 rfl wk0)))) (wh1 (by rw [padW_zero]; exact mem0) (wh1 (by exact mem1) wh0)) (by repeat (first | exact ns_nil | refine ns_keep rfl ?_))
 ·
  rintro k hi
  have hpl := padW_length 32 x.toNat k oM
  refine Sat.seq (Sat.seq (Sat.region ?_))
  refine Tr.move rfl rfl rfl ?_
  refine Tr.lss rfl rfl rfl rfl rfl ?_
  refine Tr.nil (at_n ?_)
  refine Sat.condP rfl (fun hc0 => ?_) (fun hc0 => ?_)
  ·
   refine Sat.skip (at_n (Sat.seq (Sat.block (Sat.region ?_))))
   refine Tr.move rfl rfl rfl ?_
   refine Tr.move rfl rfl rfl ?_
   refine Tr.move rfl rfl rfl ?_
   refine Tr.mul_i64 rfl rfl rfl rfl oM ?_
   refine Tr.conv rfl rfl rfl Tryz.underlying3 Tryz.underlying35 (cv_i64_u64 _) ?_
   refine Tr.shr_u64 rfl rfl rfl rfl (8 * k) (by rw [wordOf_id _ oM]; omega) oM ?_
   refine Tr.conv rfl rfl rfl Tryz.underlying22 Tryz.underlying5 (cv_u64_u8 _) ?_
   refine Tr.idxArr1 rfl rfl rfl rfl Tryz.underlying77 Sz5 _ rfl oM ?_
   refine Tr.store1 rfl rfl rfl rfl rfl Sz5 (by exact mem0) (by (simp [hpl]; omega)) (by exact set_bytes _ _ _) (by exact upd0) ?_
   refine Tr.nil (bl_n (at_n (Sat.region ?_)))
   refine Tr.move rfl rfl rfl ?_
   refine Tr.add_i64 rfl rfl rfl rfl oM ?_
   refine Tr.assign rfl rfl rfl ?_
   refine Tr.nil (at_n ?_)
   exact ⟨k + 1, by omega, by omega, weak_of (wk1 rfl (wk1 rfl (wk1 rfl (wk1 rfl wk0)))) (wh1 (by rw [← zero_set x k oM]; exact mem0) (wh1 (by exact mem1) wh0)) (by repeat (first | exact ns_nil | refine ns_keep rfl ?_))⟩
  ·
   obtain rfl : k = 8 := by omega
   rw [pad_small] at *
   refine Sat.exit (at_x (at_x (bl_h (at_n (Sat.seq (Sat.region ?_))))))
   refine Tr.loadAll rfl rfl rfl Tryz.underlying77 rfl Sz77 (by exact mem0) (by (simp [hpl]; done)) ?_
   refine Tr.storeAll rfl rfl rfl rfl (by exact bytesV_cell _) Sz77 (by (simp [hpl]; done)) (by exact mem1) (by (simp; done)) (by exact upd1) ?_
   refine Tr.nil (at_n (Sat.ret (en_r ?_)))
   refine ⟨_, [], res_cell rfl rfl Tryz.underlying77 rfl Sz77 (by exact mem1) (by simp [hpl]), sP, sP, ?_, rfl⟩
   rw [fe_small]

theorem mul_ab {a b : List UInt8} (ha : a.length = 32) (hb : b.length = 32) : fe (v10 (mulT (openT (le a)) (openT (le b)))) = fe (le a) * fe (le b) := by rw [mulT_v (o_fit ha).len (o_fit hb).len, o_v ha, o_v hb]
theorem sub_ab {a b : List UInt8} (ha : a.length = 32) (hb : b.length = 32) : fe (v10 (minusT (openT (le a)) (openT (le b)))) = fe (le a) - fe (le b) := by rw [minusT_v (o_fit ha).len (o_fit hb), o_v ha, o_v hb]

set_option maxRecDepth 100000 in
set_option maxHeartbeats 1000000 in
theorem r3_Mul (a b : List UInt8) (ha : a.length = 32) (hb : b.length = 32) : Meets Tryz.prog 122 [agg (bytesV a), agg (bytesV b)] [] (fun _ => True) (fun v out => v = agg (bytesV (fb (fe (le a) * fe (le b)))) ∧ out = []) := by
 intro W hW
 refine calls_of (hp0 := []) Tryz.func122 rfl 11 Tryz.ntmps122 rfl (HRep.nil _) ?_
 refine Sat.seq (Sat.region ?_)
 refine Tr.boxA rfl rfl ?_
 intro n2 hn2 hf2
 refine Tr.boxA rfl rfl ?_
 intro n3 hn3 hf3
 refine Tr.alloc (cs := (bytesV (List.replicate 32 0))) rfl Zr77 rfl ?_
 intro n4 hn4 hf4
 refine Tr.nil (at_n (Sat.seq ?_))
 refine Sat.draw [(1, 0), (1, 2), (3, 1), (3, 3), (3, 4), (3, 5), (4, 6)] Mixed (by kernel_rfl) ?_
 refine Tr.loadAll rfl rfl rfl Tryz.underlying77 rfl Sz77 (by exact mem2) (by (simp [ha]; done)) ?_
 refine Tr.loadAll rfl rfl rfl Tryz.underlying77 rfl Sz77 (by exact mem1) (by (simp [hb]; done)) ?_
 refine Tr.callV rfl rfl rfl rfl Body188 (r3_Open (a) (ha)) (fun _ _ => trivial) ?_
 refine Tr.callV rfl rfl rfl rfl Body188 (r3_Open (b) (hb)) (fun _ _ => trivial) ?_
 refine Tr.callV rfl rfl rfl rfl Body197 (r3_Times (_) (_) (o_fit ha) (o_fit hb)) (fun _ _ => trivial) ?_
 refine Tr.callV rfl rfl rfl rfl Body196 (r3_Close_v (_) (mulT_fit (o_fit ha) (o_fit hb)) (_) (mul_ab ha hb)) (fun _ _ => trivial) ?_
 refine Tr.storeAll rfl rfl rfl rfl (by exact bytesV_cell _) Sz77 (by (simp [fb_length]; done)) (by exact mem0) (by (simp; done)) (by exact upd0) ?_
 refine Tr.nil (at_n (Sat.ret (en_r ?_)))
 refine ⟨_, [], res_cell rfl rfl Tryz.underlying77 rfl Sz77 (by exact mem0) (by simp [fb_length]), sP, sP, ?_, rfl⟩
 rfl

set_option maxRecDepth 100000 in
set_option maxHeartbeats 1000000 in
theorem r3_Sub (a b : List UInt8) (ha : a.length = 32) (hb : b.length = 32) : Meets Tryz.prog 194 [agg (bytesV a), agg (bytesV b)] [] (fun _ => True) (fun v out => v = agg (bytesV (fb (fe (le a) - fe (le b)))) ∧ out = []) := by
 intro W hW
 refine calls_of (hp0 := []) Tryz.func194 rfl 11 Tryz.ntmps194 rfl (HRep.nil _) ?_
 refine Sat.seq (Sat.region ?_)
 refine Tr.boxA rfl rfl ?_
 intro n2 hn2 hf2
 refine Tr.boxA rfl rfl ?_
 intro n3 hn3 hf3
 refine Tr.alloc (cs := (bytesV (List.replicate 32 0))) rfl Zr77 rfl ?_
 intro n4 hn4 hf4
 refine Tr.nil (at_n (Sat.seq ?_))
 refine Sat.draw [(1, 0), (1, 2), (3, 1), (3, 3), (3, 4), (3, 5), (4, 6)] Mixed (by kernel_rfl) ?_
 refine Tr.loadAll rfl rfl rfl Tryz.underlying77 rfl Sz77 (by exact mem2) (by (simp [ha]; done)) ?_
 refine Tr.loadAll rfl rfl rfl Tryz.underlying77 rfl Sz77 (by exact mem1) (by (simp [hb]; done)) ?_
 refine Tr.callV rfl rfl rfl rfl Body188 (r3_Open (a) (ha)) (fun _ _ => trivial) ?_
 refine Tr.callV rfl rfl rfl rfl Body188 (r3_Open (b) (hb)) (fun _ _ => trivial) ?_
 refine Tr.callV rfl rfl rfl rfl Body231 (r3_Minus (_) (_) (o_fit ha) (o_fit hb)) (fun _ _ => trivial) ?_
 refine Tr.callV rfl rfl rfl rfl Body196 (r3_Close_v (_) (minusT_fit (o_fit ha) (o_fit hb)) (_) (sub_ab ha hb)) (fun _ _ => trivial) ?_
 refine Tr.storeAll rfl rfl rfl rfl (by exact bytesV_cell _) Sz77 (by (simp [fb_length]; done)) (by exact mem0) (by (simp; done)) (by exact upd0) ?_
 refine Tr.nil (at_n (Sat.ret (en_r ?_)))
 refine ⟨_, [], res_cell rfl rfl Tryz.underlying77 rfl Sz77 (by exact mem0) (by simp [fb_length]), sP, sP, ?_, rfl⟩
 rfl

set_option maxRecDepth 100000 in
set_option maxHeartbeats 1000000 in
theorem r3_Neg (a : List UInt8) (ha : a.length = 32) : Meets Tryz.prog 185 [agg (bytesV a)] [] (fun _ => True) (fun v out => v = agg (bytesV (fb (- fe (le a)))) ∧ out = []) := by
 intro W hW
 refine calls_of (hp0 := []) Tryz.func185 rfl 6 Tryz.ntmps185 rfl (HRep.nil _) ?_
 refine Sat.seq (Sat.region ?_)
 refine Tr.boxA rfl rfl ?_
 intro n1 hn1 hf1
 refine Tr.alloc (cs := (bytesV (List.replicate 32 0))) rfl Zr77 rfl ?_
 intro n2 hn2 hf2
 refine Tr.nil (at_n (Sat.seq (Sat.region ?_)))
 refine Tr.build (cs := bytesV (List.replicate 32 0)) rfl rfl rfl (fun w => by kernel_rfl) ?_
 refine Tr.loadAll rfl rfl rfl Tryz.underlying77 rfl Sz77 (by exact mem1) (by (simp [ha]; done)) ?_
 refine Tr.callV rfl rfl rfl rfl Body194 (r3_Sub (List.replicate 32 0) (a) (rfl) (ha)) (fun _ _ => trivial) ?_
 refine Tr.storeAll rfl rfl rfl rfl (by exact bytesV_cell _) Sz77 (by (simp [fb_length]; done)) (by exact mem0) (by (simp; done)) (by exact upd0) ?_
 refine Tr.nil (at_n (Sat.ret (en_r ?_)))
 refine ⟨_, [], res_cell rfl rfl Tryz.underlying77 rfl Sz77 (by exact mem0) (by simp [fb_length]), sP, sP, ?_, rfl⟩
 rw [show fe (le (List.replicate 32 0)) - fe (le a) = - fe (le a) from by rw [show fe (le (List.replicate 32 0)) = 0 by kernel_rfl]; grind]

theorem oneT_l : oneT.length = 10 := rfl

set_option maxRecDepth 100000 in
set_option maxHeartbeats 8000000 in
theorem r3_Power (x : List Nat) (e : List UInt8) (hx : Fit10 x) (he : e.length = 32) : Meets Tryz.prog 233 [agg (wdsV x), agg (bytesV e)] [] (fun _ => True) (fun v out => v = agg (wdsV (powT x (le e) 256)) ∧ out = []) := by
 intro W hW
 have hxl := hx.len
 have hE := le32 he
 obtain ⟨U, hU⟩ : ∃ U, Hid (powT x (le e) 256 = U) := ⟨_, ⟨rfl⟩⟩
 have hUl : U.length = 10 := by rw [← hU.out]; exact (powT_ok hx hE 256 (Nat.le_refl _)).1.len
 rw [hU.out]
 have hpl := hUl
 refine calls_of (hp0 := []) Tryz.func233 rfl 29 Tryz.ntmps233 rfl (HRep.nil _) ?_
 refine Sat.seq (Sat.region ?_)
 refine Tr.boxA rfl rfl ?_
 intro n2 hn2 hf2
 refine Tr.boxA rfl rfl ?_
 intro n3 hn3 hf3
 refine Tr.alloc (cs := (intsV (List.replicate 10 0))) rfl Zr177 rfl ?_
 intro n4 hn4 hf4
 refine Tr.nil (at_n (Sat.seq (Sat.region ?_)))
 refine Tr.build (cs := wdsV oneT) rfl rfl rfl (fun w => by kernel_rfl) ?_
 refine Tr.alloc (cs := (intsV (List.replicate 10 0))) rfl Zr177 rfl ?_
 intro n5 hn5 hf5
 refine Tr.storeAll rfl rfl rfl rfl (by exact wdsV_cell _) Sz177 (by (simp [wdsV_length, oneT_l]; done)) (by exact mem0) (by (simp; done)) (by exact upd0) ?_
 refine Tr.nil (at_n (Sat.seq (Sat.seq (Sat.region ?_))))
 refine Tr.assign rfl rfl rfl ?_
 refine Tr.nil (at_n (Sat.block ?_))
 refine Sat.loop (ι := Nat) (fun j => ⟨[(2, ptr n2 0), (3, ptr n3 0), (4, ptr n4 0), (5, ptr n5 0), (6, i64 (255 - (j : Int)))], [⟨n5, wdsV (powT x (le e) j), 177, 10⟩, ⟨n4, (intsV (List.replicate 10 0)), 177, 10⟩, ⟨n3, bytesV e, 77, (bytesV e).length⟩, ⟨n2, wdsV x, 177, (wdsV x).length⟩]⟩) (fun j => j ≤ 256) (fun j => 256 - j) (0) ?_ ?_ ?_
 · omega
 · exact weak_of (wk1 rfl (wk1 rfl (wk1 rfl (wk1 rfl (wk1 rfl wk0))))) (wh1 (by rw [show powT x (le e) 0 = oneT from rfl]; exact mem0) (wh1 (by exact mem1) (wh1 (by exact mem2) (wh1 (by exact mem3) wh0)))) (by repeat (first | exact ns_nil | refine ns_keep rfl ?_))
 ·
  rintro j hj
  obtain ⟨hfit, hfv⟩ := powT_ok hx hE j hj
  have hpl := hfit.len
  have hml : (mulT (powT x (le e) j) (powT x (le e) j)).length = 10 := mulT_length _ _
  refine Sat.seq (Sat.seq (Sat.region ?_))
  refine Tr.move rfl rfl rfl ?_
  refine Tr.geq rfl rfl rfl rfl rfl ?_
  refine Tr.nil (at_n ?_)
  refine Sat.condP rfl (fun hc0 => ?_) (fun hc0 => ?_)
  ·
   have hj2 : j < 256 := by omega
   rw [show (255 : Int) - (j : Int) = ((255 - j : Nat) : Int) by omega]
   refine Sat.skip (at_n (Sat.seq (Sat.block (Sat.seq (Sat.region ?_)))))
   refine Tr.loadAll rfl rfl rfl Tryz.underlying177 rfl Sz177 (by exact mem0) (by (simp [wdsV_length, hpl]; done)) ?_
   refine Tr.loadAll rfl rfl rfl Tryz.underlying177 rfl Sz177 (by exact mem0) (by (simp [wdsV_length, hpl]; done)) ?_
   refine Tr.callV rfl rfl rfl rfl Body197 (r3_Times _ _ hfit hfit) (fun _ _ => trivial) ?_
   refine Tr.storeAll rfl rfl rfl rfl (by exact wdsV_cell _) Sz177 (by (simp [wdsV_length, mulT_length]; done)) (by exact mem0) (by (simp [wdsV_length, hpl]; done)) (by exact upd0) ?_
   refine Tr.nil (at_n (Sat.seq (Sat.region ?_)))
   refine Tr.move rfl rfl rfl ?_
   refine Tr.quoN (255 - j) (8) rfl rfl rfl rfl ⟨by decide, by omega⟩ ?_
   refine Tr.idxArr1 rfl rfl rfl rfl Tryz.underlying77 Sz5 _ rfl oM ?_
   refine Tr.load1 rfl rfl rfl Tryz.underlying5 rfl (by exact mem2) (by exact get_bytes oM) ?_
   refine Tr.move rfl rfl rfl ?_
   refine Tr.remN (255 - j) (8) rfl rfl rfl rfl dE ?_
   refine Tr.conv rfl rfl rfl Tryz.underlying3 Tryz.underlying35 (cv_i64_u64 _) ?_
   refine Tr.shr_u8 rfl rfl rfl rfl ((255 - j) % 8) (by rw [wordOf_id _ oM]) oM ?_
   refine Tr.rem_u8 rfl rfl rfl rfl 2 rfl dE ?_
   refine Tr.eqi rfl rfl rfl rfl rfl ?_
   refine Tr.nil (at_n ?_)
   refine Sat.condP rfl (fun hc1 => ?_) (fun hc1 => ?_)
   ·
    have hbt := bit_is hc1
    refine Sat.region ?_
    refine Tr.loadAll rfl rfl rfl Tryz.underlying177 rfl Sz177 (by exact mem0) (by (simp [wdsV_length, mulT_length]; done)) ?_
    refine Tr.loadAll rfl rfl rfl Tryz.underlying177 rfl Sz177 (by exact mem3) (by (simp [wdsV_length, hxl]; done)) ?_
    refine Tr.callV rfl rfl rfl rfl Body197 (r3_Times _ _ (mulT_fit hfit hfit) hx) (fun _ _ => trivial) ?_
    refine Tr.storeAll rfl rfl rfl rfl (by exact wdsV_cell _) Sz177 (by (simp [wdsV_length, mulT_length]; done)) (by exact mem0) (by (simp [wdsV_length, mulT_length]; done)) (by exact upd0) ?_
    refine Tr.nil (bl_n (at_n (Sat.region ?_)))
    refine Tr.move rfl rfl rfl ?_
    refine Tr.sub_i64 rfl rfl rfl rfl oM ?_
    refine Tr.assign rfl rfl rfl ?_
    refine Tr.nil (at_n ?_)
    exact ⟨j + 1, by omega, by omega, weak_of (wk1 rfl (wk1 rfl (wk1 rfl (wk1 rfl (wk1 (congrArg (fun z => some (i64 z)) (show ((255 - j : Nat) : Int) - 1 = 255 - ((j + 1 : Nat) : Int) by omega)) wk0))))) (wh1 (by (rw [powT_t hbt]; exact mem0)) (wh1 (by exact mem1) (wh1 (by exact mem2) (wh1 (by exact mem3) wh0)))) (by repeat (first | exact ns_nil | refine ns_keep rfl ?_))⟩
   ·
    have hbf := bit_isn hc1
    refine Sat.skip (bl_n (at_n (Sat.region ?_)))
    refine Tr.move rfl rfl rfl ?_
    refine Tr.sub_i64 rfl rfl rfl rfl oM ?_
    refine Tr.assign rfl rfl rfl ?_
    refine Tr.nil (at_n ?_)
    exact ⟨j + 1, by omega, by omega, weak_of (wk1 rfl (wk1 rfl (wk1 rfl (wk1 rfl (wk1 (congrArg (fun z => some (i64 z)) (show ((255 - j : Nat) : Int) - 1 = 255 - ((j + 1 : Nat) : Int) by omega)) wk0))))) (wh1 (by (rw [powT_f hbf]; exact mem0)) (wh1 (by exact mem1) (wh1 (by exact mem2) (wh1 (by exact mem3) wh0)))) (by repeat (first | exact ns_nil | refine ns_keep rfl ?_))⟩
  ·
   rw [show powT x (le e) j = U from by rw [show j = 256 by omega]; exact hU.out]
   refine Sat.exit (at_x (at_x (bl_h (at_n (Sat.seq (Sat.region ?_))))))
   refine Tr.loadAll rfl rfl rfl Tryz.underlying177 rfl Sz177 (by exact mem0) (by (simp [wdsV_length, hUl]; done)) ?_
   refine Tr.storeAll rfl rfl rfl rfl (by exact wdsV_cell _) Sz177 (by (simp [wdsV_length, hUl]; done)) (by exact mem1) (by (simp; done)) (by exact upd1) ?_
   refine Tr.nil (at_n (Sat.ret (en_r ?_)))
   refine ⟨_, [], res_cell rfl rfl Tryz.underlying177 rfl Sz177 (by exact mem1) (by simp [wdsV_length, hUl]), sP, sP, ?_, rfl⟩
   rfl

theorem pow_ab {a e : List UInt8} (ha : a.length = 32) (he : e.length = 32) : fe (v10 (powT (openT (le a)) (le e) 256)) = fpow (fe (le a)) (le e) := by rw [powT_all (o_fit ha) (le32 he), o_v ha]

set_option maxRecDepth 100000 in
set_option maxHeartbeats 1000000 in
theorem r3_Pow (a e : List UInt8) (ha : a.length = 32) (he : e.length = 32) : Meets Tryz.prog 198 [agg (bytesV a), agg (bytesV e)] [] (fun _ => True) (fun v out => v = agg (bytesV (fb (fpow (fe (le a)) (le e)))) ∧ out = []) := by
 intro W hW
 refine calls_of (hp0 := []) Tryz.func198 rfl 10 Tryz.ntmps198 rfl (HRep.nil _) ?_
 refine Sat.seq (Sat.region ?_)
 refine Tr.boxA rfl rfl ?_
 intro n2 hn2 hf2
 refine Tr.boxA rfl rfl ?_
 intro n3 hn3 hf3
 refine Tr.alloc (cs := (bytesV (List.replicate 32 0))) rfl Zr77 rfl ?_
 intro n4 hn4 hf4
 refine Tr.nil (at_n (Sat.seq ?_))
 refine Sat.draw [(1, 0), (1, 2), (3, 1), (3, 3), (3, 4), (4, 5)] Mixed (by kernel_rfl) ?_
 refine Tr.loadAll rfl rfl rfl Tryz.underlying77 rfl Sz77 (by exact mem2) (by (simp [ha]; done)) ?_
 refine Tr.loadAll rfl rfl rfl Tryz.underlying77 rfl Sz77 (by exact mem1) (by (simp [he]; done)) ?_
 refine Tr.callV rfl rfl rfl rfl Body188 (r3_Open (a) (ha)) (fun _ _ => trivial) ?_
 refine Tr.callV rfl rfl rfl rfl Body233 (r3_Power (_) (e) (o_fit ha) (he)) (fun _ _ => trivial) ?_
 refine Tr.callV rfl rfl rfl rfl Body196 (r3_Close_v (_) ((powT_ok (o_fit ha) (le32 he) 256 (Nat.le_refl _)).1) (_) (pow_ab ha he)) (fun _ _ => trivial) ?_
 refine Tr.storeAll rfl rfl rfl rfl (by exact bytesV_cell _) Sz77 (by (simp [fb_length]; done)) (by exact mem0) (by (simp; done)) (by exact upd0) ?_
 refine Tr.nil (at_n (Sat.ret (en_r ?_)))
 refine ⟨_, [], res_cell rfl rfl Tryz.underlying77 rfl Sz77 (by exact mem0) (by simp [fb_length]), sP, sP, ?_, rfl⟩
 rfl

theorem half_rem {p : UInt8} : ((UInt8.ofNat (p.toNat % 2)).toNat : Int) = 1 ↔ p.toNat % 2 = 1 := by
  rw [UInt8.toNat_ofNat']
  omega
theorem ones_three (n : Nat) : ((List.replicate 32 (255 : UInt8)).set 0 (UInt8.ofNat (237 - n))).set 31 127 = leb 32 (le (onesB (UInt8.ofNat (237 - n)) 127) / 2 ^ 0) := by
  rw [Nat.pow_zero, Nat.div_one, ones_leb]; rfl
theorem half_pow (V j : Nat) : leb 32 (V / 2 ^ (j + 1)) = halfAt (V / 2 ^ j) 32 := by
  rw [halfAt_end, Nat.div_div_eq_div_mul, ← Nat.pow_succ]

set_option maxRecDepth 100000 in
set_option maxHeartbeats 8000000 in
theorem r3_shifted (n k : Nat) (hn : n ≤ 237) (hk : k ≤ 9) : Meets Tryz.prog 199 [i64 (n : Int), i64 (k : Int)] [] (fun _ => True) (fun v out => v = agg (bytesV (expT n k)) ∧ out = []) := by
 intro W hW
 obtain ⟨V, hV⟩ : ∃ V, Hid (le (onesB (UInt8.ofNat (237 - n)) 127) = V) := ⟨_, ⟨rfl⟩⟩
 have hV2 : V < 2 ^ 256 := by rw [← hV.out]; exact le32 (onesB_length _ _)
 have hx : expT n k = leb 32 (V / 2 ^ k) := by rw [expT, hV.out]
 rw [hx]
 have hon := ones_three n
 rw [hV.out] at hon
 have hhl : True := trivial
 have hsl : True := trivial
 refine calls_of (hp0 := []) Tryz.func199 rfl 50 Tryz.ntmps199 rfl (HRep.nil _) ?_
 refine Sat.seq (Sat.region ?_)
 refine Tr.alloc (cs := (bytesV (List.replicate 32 0))) rfl Zr77 rfl ?_
 intro n4 hn4 hf4
 refine Tr.nil (at_n (Sat.seq (Sat.region ?_)))
 refine Tr.alloc (cs := (bytesV (List.replicate 32 0))) rfl Zr77 rfl ?_
 intro n5 hn5 hf5
 refine Tr.nil (at_n (Sat.seq (Sat.seq (Sat.region ?_))))
 refine Tr.assign rfl rfl rfl ?_
 refine Tr.nil (at_n (Sat.block ?_))
 refine Sat.loop (ι := Nat) (fun i => ⟨[(0, i64 (n : Int)), (1, i64 (k : Int)), (4, ptr n4 0), (5, ptr n5 0), (6, i64 (i : Int))], [⟨n5, bytesV (List.replicate i 255 ++ List.replicate (32 - i) 0), 77, 32⟩, ⟨n4, bytesV (List.replicate 32 0), 77, 32⟩]⟩) (fun i => i ≤ 32) (fun i => 32 - i) (0) ?_ ?_ ?_
 · omega
 · exact weak_of (wk1 rfl (wk1 rfl (wk1 rfl (wk1 rfl (wk1 rfl wk0))))) (wh1 (by exact mem0) (wh1 (by exact mem1) wh0)) (by repeat (first | exact ns_nil | refine ns_keep rfl ?_))
 ·
  rintro i hi
  refine Sat.seq (Sat.seq (Sat.region ?_))
  refine Tr.move rfl rfl rfl ?_
  refine Tr.lss rfl rfl rfl rfl rfl ?_
  refine Tr.nil (at_n ?_)
  refine Sat.condP rfl (fun hc0 => ?_) (fun hc0 => ?_)
  ·
   have hi2 : i < 32 := by omega
   refine Sat.skip (at_n (Sat.seq (Sat.block (Sat.region ?_))))
   refine Tr.move rfl rfl rfl ?_
   refine Tr.idxArr1 rfl rfl rfl rfl Tryz.underlying77 Sz5 _ rfl oM ?_
   refine Tr.store1 rfl rfl rfl (show evIn _ _ = some (u8 255) from rfl) rfl Sz5 (by exact mem0) (by (simp; omega)) (by exact set_bytes _ _ _) (by exact upd0) ?_
   refine Tr.nil (bl_n (at_n (Sat.region ?_)))
   refine Tr.move rfl rfl rfl ?_
   refine Tr.add_i64 rfl rfl rfl rfl oM ?_
   refine Tr.assign rfl rfl rfl ?_
   refine Tr.nil (at_n ?_)
   exact ⟨i + 1, by omega, by omega, weak_of (wk1 rfl (wk1 rfl (wk1 rfl (wk1 rfl (wk1 rfl wk0))))) (wh1 (by rw [← ones_step hi2]; exact mem0) (wh1 (by exact mem1) wh0)) (by repeat (first | exact ns_nil | refine ns_keep rfl ?_))⟩
  ·
   obtain rfl : i = 32 := by omega
   rw [show ((List.replicate 32 255 ++ List.replicate (32 - 32) 0) : List UInt8) = List.replicate 32 255 from rfl]
   refine Sat.exit (at_x (at_x (bl_h (at_n (Sat.seq (Sat.region ?_))))))
   refine Tr.move rfl rfl rfl ?_
   refine Tr.subN (237) (n) rfl rfl rfl rfl oM ?_
   refine Tr.conv rfl rfl rfl Tryz.underlying3 Tryz.underlying5 (cv_i64_u8 _) ?_
   refine Tr.idxArr1 rfl rfl rfl rfl Tryz.underlying77 Sz5 0 rfl dE ?_
   rw [byteOf_nat]
   refine Tr.store1 rfl rfl rfl rfl rfl Sz5 (by exact mem0) (by (simp; done)) (by exact set_bytes _ _ _) (by exact upd0) ?_
   refine Tr.idxArr1 rfl rfl rfl rfl Tryz.underlying77 Sz5 31 rfl dE ?_
   refine Tr.store1 rfl rfl rfl (show evIn _ _ = some (u8 127) from rfl) rfl Sz5 (by exact mem0) (by (simp; done)) (by exact set_bytes _ _ _) (by exact upd0) ?_
   refine Tr.nil (at_n (Sat.seq (Sat.block ?_)))
   refine Sat.loop (ι := Nat) (fun j => ⟨[(1, i64 ((k : Int) - (j : Int))), (4, ptr n4 0), (5, ptr n5 0)], [⟨n5, bytesV (leb 32 (V / 2 ^ j)), 77, 32⟩, ⟨n4, bytesV (List.replicate 32 0), 77, 32⟩]⟩) (fun j => j ≤ k) (fun j => k - j) (0) ?_ ?_ ?_
   · exact Nat.zero_le _
   · exact weak_of (wk1 (congrArg (fun z => some (i64 z)) (show (k : Int) = (k : Int) - ((0 : Nat) : Int) by omega)) (wk1 rfl (wk1 rfl wk0))) (wh1 (by rw [← hon]; exact mem0) (wh1 (by exact mem1) wh0)) (by repeat (first | exact ns_nil | refine ns_keep rfl ?_))
   ·
    rintro j hj
    refine Sat.seq (Sat.seq (Sat.region ?_))
    refine Tr.move rfl rfl rfl ?_
    refine Tr.gtr rfl rfl rfl rfl rfl ?_
    refine Tr.nil (at_n ?_)
    refine Sat.condP rfl (fun hc1 => ?_) (fun hc1 => ?_)
    ·
     have hVj : V / 2 ^ j < 2 ^ 256 := Nat.lt_of_le_of_lt (Nat.div_le_self _ _) hV2
     refine Sat.skip (at_n (Sat.seq (Sat.block (Sat.seq (Sat.region ?_)))))
     refine Tr.assign rfl rfl rfl ?_
     refine Tr.nil (at_n (Sat.block ?_))
     refine Sat.loop (ι := Nat) (fun i => ⟨[(1, i64 ((k : Int) - (j : Int))), (4, ptr n4 0), (5, ptr n5 0), (7, i64 (i : Int))], [⟨n5, bytesV (halfAt (V / 2 ^ j) i), 77, 32⟩, ⟨n4, bytesV (List.replicate 32 0), 77, 32⟩]⟩) (fun i => i ≤ 32) (fun i => 32 - i) (0) ?_ ?_ ?_
     · omega
     · exact weak_of (wk1 rfl (wk1 rfl (wk1 rfl (wk1 rfl wk0)))) (wh1 (by rw [halfAt_zero]; exact mem0) (wh1 (by exact mem1) wh0)) (by repeat (first | exact ns_nil | refine ns_keep rfl ?_))
     ·
      rintro i hi
      have hhl := halfAt_length (V / 2 ^ j) i hi
      have hsl : ((halfAt (V / 2 ^ j) i).set i (UInt8.ofNat (((halfAt (V / 2 ^ j) i).getD i 0).toNat / 2))).length = 32 := by rw [List.length_set]; exact hhl
      refine Sat.seq (Sat.seq (Sat.region ?_))
      refine Tr.move rfl rfl rfl ?_
      refine Tr.lss rfl rfl rfl rfl rfl ?_
      refine Tr.nil (at_n ?_)
      refine Sat.condP rfl (fun hc2 => ?_) (fun hc2 => ?_)
      ·
       have hi2 : i < 32 := by omega
       refine Sat.skip (at_n (Sat.seq (Sat.block (Sat.seq (Sat.region ?_)))))
       refine Tr.move rfl rfl rfl ?_
       refine Tr.move rfl rfl rfl ?_
       refine Tr.idxArr1 rfl rfl rfl rfl Tryz.underlying77 Sz5 _ rfl oM ?_
       refine Tr.load1 rfl rfl rfl Tryz.underlying5 rfl (by exact mem0) (by exact get_bytes oM) ?_
       refine Tr.quo_u8 rfl rfl rfl rfl 2 rfl dE ?_
       refine Tr.idxArr1 rfl rfl rfl rfl Tryz.underlying77 Sz5 _ rfl oM ?_
       refine Tr.store1 rfl rfl rfl rfl rfl Sz5 (by exact mem0) (by (simp [hhl]; omega)) (by exact set_bytes _ _ _) (by exact upd0) ?_
       refine Tr.nil (at_n (Sat.seq (Sat.region ?_)))
       refine Tr.move rfl rfl rfl ?_
       refine two (fun r hr k => Tr.lss rfl rfl rfl rfl hr k) (fun hs13_10 => ?_) (fun hs13_10 => ?_)
       ·
        have hs13_1 := of_decide_eq_true hs13_10
        refine Tr.move rfl rfl rfl ?_
        refine Tr.move rfl rfl rfl ?_
        refine Tr.addN (i) (1) rfl rfl rfl rfl oM ?_
        refine Tr.idxArr1 rfl rfl rfl rfl Tryz.underlying77 Sz5 _ rfl oM ?_
        refine Tr.load1 rfl rfl rfl Tryz.underlying5 rfl (by exact mem0) (by exact get_bytes oM) ?_
        refine Tr.rem_u8 rfl rfl rfl rfl 2 rfl dE ?_
        refine two (fun r hr k => Tr.eqi rfl rfl rfl rfl hr k) (fun hs13_80 => ?_) (fun hs13_80 => ?_)
        ·
         have hs13_8 := of_decide_eq_true hs13_80
         refine Tr.pick rfl rfl rfl rfl rfl rfl ?_
         refine Tr.nil (at_n ?_)
         refine Sat.cond_t rfl rfl ?_
         refine Sat.region ?_
         refine Tr.move rfl rfl rfl ?_
         refine Tr.move rfl rfl rfl ?_
         refine Tr.idxArr1 rfl rfl rfl rfl Tryz.underlying77 Sz5 _ rfl oM ?_
         refine Tr.load1 rfl rfl rfl Tryz.underlying5 rfl (by exact mem0) (by exact get_bytes oM) ?_
         refine Tr.add_u8 rfl rfl rfl (show evIn _ _ = some (u8 128) from rfl) ?_
         refine Tr.idxArr1 rfl rfl rfl rfl Tryz.underlying77 Sz5 _ rfl oM ?_
         refine Tr.store1 rfl rfl rfl rfl rfl Sz5 (by exact mem0) (by (simp [hhl]; omega)) (by exact set_bytes _ _ _) (by exact upd0) ?_
         refine Tr.nil (bl_n (at_n (Sat.region ?_)))
         refine Tr.move rfl rfl rfl ?_
         refine Tr.add_i64 rfl rfl rfl rfl oM ?_
         refine Tr.assign rfl rfl rfl ?_
         refine Tr.nil (at_n ?_)
         exact ⟨i + 1, by omega, by omega, weak_of (wk1 rfl (wk1 rfl (wk1 rfl (wk1 rfl wk0)))) (wh1 (by (rw [← half_odd (V / 2 ^ j) oM (half_rem.1 hs13_8)]; exact mem0)) (wh1 (by exact mem1) wh0)) (by repeat (first | exact ns_nil | refine ns_keep rfl ?_))⟩
        ·
         have hs13_8 := of_decide_eq_false hs13_80
         refine Tr.pick rfl rfl rfl rfl rfl rfl ?_
         refine Tr.nil (at_n ?_)
         refine Sat.cond_f rfl rfl ?_
         refine Sat.skip (bl_n (at_n (Sat.region ?_)))
         refine Tr.move rfl rfl rfl ?_
         refine Tr.add_i64 rfl rfl rfl rfl oM ?_
         refine Tr.assign rfl rfl rfl ?_
         refine Tr.nil (at_n ?_)
         exact ⟨i + 1, by omega, by omega, weak_of (wk1 rfl (wk1 rfl (wk1 rfl (wk1 rfl wk0)))) (wh1 (by (rw [← half_even (V / 2 ^ j) oM (fun e => hs13_8 (half_rem.2 e))]; exact mem0)) (wh1 (by exact mem1) wh0)) (by repeat (first | exact ns_nil | refine ns_keep rfl ?_))⟩
       ·
        have hs13_1 := of_decide_eq_false hs13_10
        refine Tr.move rfl rfl rfl ?_
        refine Tr.skp rfl rfl ?_
        refine Tr.skp rfl rfl ?_
        refine Tr.skp rfl rfl ?_
        refine Tr.skp rfl rfl ?_
        refine Tr.skp rfl rfl ?_
        refine Tr.skp rfl rfl ?_
        refine Tr.pick rfl rfl rfl rfl rfl rfl ?_
        refine Tr.nil (at_n ?_)
        refine Sat.cond_f rfl rfl ?_
        refine Sat.skip (bl_n (at_n (Sat.region ?_)))
        refine Tr.move rfl rfl rfl ?_
        refine Tr.add_i64 rfl rfl rfl rfl oM ?_
        refine Tr.assign rfl rfl rfl ?_
        refine Tr.nil (at_n ?_)
        exact ⟨i + 1, by omega, by omega, weak_of (wk1 rfl (wk1 rfl (wk1 rfl (wk1 rfl wk0)))) (wh1 (by (rw [show i = 31 by omega, ← half_last _ hVj]; exact mem0)) (wh1 (by exact mem1) wh0)) (by repeat (first | exact ns_nil | refine ns_keep rfl ?_))⟩
      ·
       refine Sat.exit (at_x (at_x (bl_h (bl_n (at_n (Sat.region ?_))))))
       refine Tr.move rfl rfl rfl ?_
       refine Tr.sub_i64 rfl rfl rfl rfl oM ?_
       refine Tr.assign rfl rfl rfl ?_
       refine Tr.nil (at_n ?_)
       exact ⟨j + 1, by omega, by omega, weak_of (wk1 (congrArg (fun z => some (i64 z)) (show (k : Int) - (j : Int) - 1 = (k : Int) - ((j + 1 : Nat) : Int) by omega)) (wk1 rfl (wk1 rfl wk0))) (wh1 (by rw [half_pow, show (32 : Nat) = i by omega]; exact mem0) (wh1 (by exact mem1) wh0)) (by repeat (first | exact ns_nil | refine ns_keep rfl ?_))⟩
    ·
     obtain rfl : j = k := by omega
     refine Sat.exit (at_x (at_x (bl_h (at_n (Sat.seq (Sat.region ?_))))))
     refine Tr.loadAll rfl rfl rfl Tryz.underlying77 rfl Sz77 (by exact mem0) (by (simp [leb_length]; done)) ?_
     refine Tr.storeAll rfl rfl rfl rfl (by exact bytesV_cell _) Sz77 (by (simp [leb_length]; done)) (by exact mem1) (by (simp; done)) (by exact upd1) ?_
     refine Tr.nil (at_n (Sat.ret (en_r ?_)))
     refine ⟨_, [], res_cell rfl rfl Tryz.underlying77 rfl Sz77 (by exact mem1) (by simp [leb_length]), sP, sP, ?_, rfl⟩
     rfl

theorem r3_Pow_e (a e : List UInt8) (ha : a.length = 32) (he : e.length = 32) (N : Nat) (X : Fp) (hN : le e = N) (hX : fe (le a) = X) : Meets Tryz.prog 198 [agg (bytesV a), agg (bytesV e)] [] (fun _ => True) (fun v out => v = agg (bytesV (fb (fpow X N))) ∧ out = []) := by
  rw [← hN, ← hX]; exact r3_Pow a e ha he

set_option maxRecDepth 100000 in
set_option maxHeartbeats 1000000 in
theorem r3_Inv (a : List UInt8) (ha : a.length = 32) : Meets Tryz.prog 124 [agg (bytesV a)] [] (fun _ => True) (fun v out => v = agg (bytesV (fb (finv (fe (le a))))) ∧ out = []) := by
 intro W hW
 obtain ⟨E, hE⟩ : ∃ E, Hid (expT 2 0 = E) := ⟨_, ⟨rfl⟩⟩
 have hEl : E.length = 32 := by rw [← hE.out]; exact expT_length _ _
 have hs := r3_shifted 2 0 dE dE
 rw [hE.out] at hs
 have hp := r3_Pow_e a E ha hEl (PF - 2) _ (by rw [← hE.out]; exact expT_inv) rfl
 rw [show fpow (fe (le a)) (PF - 2) = finv (fe (le a)) from rfl] at hp
 obtain ⟨R, hR⟩ : ∃ R, Hid (finv (fe (le a)) = R) := ⟨_, ⟨rfl⟩⟩
 rw [hR.out] at hp ⊢
 refine calls_of (hp0 := []) Tryz.func124 rfl 6 Tryz.ntmps124 rfl (HRep.nil _) ?_
 refine Sat.seq (Sat.region ?_)
 refine Tr.boxA rfl rfl ?_
 intro n1 hn1 hf1
 refine Tr.alloc (cs := (bytesV (List.replicate 32 0))) rfl Zr77 rfl ?_
 intro n2 hn2 hf2
 refine Tr.nil (at_n (Sat.seq ?_))
 refine Sat.draw [(1, 0), (3, 1), (3, 2), (4, 3)] Mixed (by kernel_rfl) ?_
 refine Tr.loadAll rfl rfl rfl Tryz.underlying77 rfl Sz77 (by exact mem1) (by (simp [ha]; done)) ?_
 refine Tr.callV rfl rfl rfl rfl Body199 (hs) (fun _ _ => trivial) ?_
 refine Tr.callV rfl rfl rfl rfl Body198 (hp) (fun _ _ => trivial) ?_
 refine Tr.storeAll rfl rfl rfl rfl (by exact bytesV_cell _) Sz77 (by (simp [fb_length]; done)) (by exact mem0) (by (simp; done)) (by exact upd0) ?_
 refine Tr.nil (at_n (Sat.ret (en_r ?_)))
 refine ⟨_, [], res_cell rfl rfl Tryz.underlying77 rfl Sz77 (by exact mem0) (by simp [fb_length]), sP, sP, ?_, rfl⟩
 rfl

end Go.Proofs.YtpacobmjjjillaaGreat
end

section
namespace Go.Proofs.YtpacobmjjjillaaGreat
open Go Hw
set_option linter.unusedSimpArgs false
set_option linter.unusedVariables false
set_option maxRecDepth 100000
structure far where
  fX : List Nat
  fY : List Nat
  fZ : List Nat
def far.cells (x : far) : List Value := wdsV x.fX ++ (wdsV x.fY ++ (wdsV x.fZ))
structure far.ok (x : far) : Prop where
  l_fX : x.fX.length = 10
  l_fY : x.fY.length = 10
  l_fZ : x.fZ.length = 10
theorem far.length {x : far} (h : x.ok) : x.cells.length = 30 := by simp [far.cells, bytesV, wdsV, intsV, h.l_fX, h.l_fY, h.l_fZ]
theorem far.isCell {x : far} (h : x.ok) : ∀ u ∈ x.cells, isCell u = true := by
  intro u hu
  simp only [far.cells, List.mem_append, List.mem_singleton, bytesV, wdsV, intsV, List.mem_map] at hu
  rcases hu with ⟨_, _, rfl⟩ | ⟨_, _, rfl⟩ | ⟨_, _, rfl⟩ <;> rfl
theorem far.row_fX {x : far} (h : x.ok) : (x.cells.drop 0).take 10 = wdsV x.fX := by simp [far.cells, bytesV, wdsV, intsV, h.l_fX, h.l_fY, h.l_fZ, List.drop_append, List.take_append, List.drop_of_length_le, List.take_of_length_le]
theorem far.rl_fX {x : far} (h : x.ok) : (wdsV x.fX).length = 10 := by simp [bytesV, wdsV, intsV, h.l_fX]
theorem far.upd_fX {x : far} (h : x.ok) (l : List Nat) (hl : l.length = 10) : upd x.cells 0 (wdsV l) = ({ x with fX := l }).cells := by
  simp [upd, far.cells, bytesV, wdsV, intsV, h.l_fX, h.l_fY, h.l_fZ, hl, List.drop_append, List.take_append, List.drop_of_length_le, List.take_of_length_le]
theorem far.see_fX {x : far} (h : x.ok) : ∀ (j : Nat) (v : Value), (wdsV x.fX)[j]? = some v → x.cells[0 + j]? = some v := fun j v hj => by
  rw [← far.row_fX h, List.getElem?_take] at hj
  split at hj
  · rwa [List.getElem?_drop] at hj
  · cases hj
theorem far.row_fY {x : far} (h : x.ok) : (x.cells.drop 10).take 10 = wdsV x.fY := by simp [far.cells, bytesV, wdsV, intsV, h.l_fX, h.l_fY, h.l_fZ, List.drop_append, List.take_append, List.drop_of_length_le, List.take_of_length_le]
theorem far.rl_fY {x : far} (h : x.ok) : (wdsV x.fY).length = 10 := by simp [bytesV, wdsV, intsV, h.l_fY]
theorem far.upd_fY {x : far} (h : x.ok) (l : List Nat) (hl : l.length = 10) : upd x.cells 10 (wdsV l) = ({ x with fY := l }).cells := by
  simp [upd, far.cells, bytesV, wdsV, intsV, h.l_fX, h.l_fY, h.l_fZ, hl, List.drop_append, List.take_append, List.drop_of_length_le, List.take_of_length_le]
theorem far.see_fY {x : far} (h : x.ok) : ∀ (j : Nat) (v : Value), (wdsV x.fY)[j]? = some v → x.cells[10 + j]? = some v := fun j v hj => by
  rw [← far.row_fY h, List.getElem?_take] at hj
  split at hj
  · rwa [List.getElem?_drop] at hj
  · cases hj
theorem far.row_fZ {x : far} (h : x.ok) : (x.cells.drop 20).take 10 = wdsV x.fZ := by simp [far.cells, bytesV, wdsV, intsV, h.l_fX, h.l_fY, h.l_fZ, List.drop_append, List.take_append, List.drop_of_length_le, List.take_of_length_le]
theorem far.rl_fZ {x : far} (h : x.ok) : (wdsV x.fZ).length = 10 := by simp [bytesV, wdsV, intsV, h.l_fZ]
theorem far.upd_fZ {x : far} (h : x.ok) (l : List Nat) (hl : l.length = 10) : upd x.cells 20 (wdsV l) = ({ x with fZ := l }).cells := by
  simp [upd, far.cells, bytesV, wdsV, intsV, h.l_fX, h.l_fY, h.l_fZ, hl, List.drop_append, List.take_append, List.drop_of_length_le, List.take_of_length_le]
theorem far.see_fZ {x : far} (h : x.ok) : ∀ (j : Nat) (v : Value), (wdsV x.fZ)[j]? = some v → x.cells[20 + j]? = some v := fun j v hj => by
  rw [← far.row_fZ h, List.getElem?_take] at hj
  split at hj
  · rwa [List.getElem?_drop] at hj
  · cases hj
def far.zero : far := ⟨List.replicate 10 0, List.replicate 10 0, List.replicate 10 0⟩
theorem far.zero_ok : far.zero.ok := by constructor <;> simp [far.zero]
theorem far.zr : Zr Tryz.prog 180 (agg far.zero.cells) := by unfold Zr; kernel_rfl
structure Rdr where
  fB : Sl
  fE : Int
def Rdr.cells (x : Rdr) : List Value := [x.fB.v] ++ ([i64 x.fE])
structure Rdr.ok (x : Rdr) : Prop where
  t : True
theorem Rdr.length {x : Rdr} (h : x.ok) : x.cells.length = 2 := by simp [Rdr.cells, bytesV]
theorem Rdr.isCell {x : Rdr} (h : x.ok) : ∀ u ∈ x.cells, isCell u = true := by
  intro u hu
  simp only [Rdr.cells, List.mem_append, List.mem_singleton, bytesV, List.mem_map] at hu
  rcases hu with rfl | rfl <;> first | rfl
def Rdr.zero : Rdr := ⟨Sl.nil, 0⟩
theorem Rdr.zero_ok : Rdr.zero.ok := by constructor <;> first | exact trivial | simp [Rdr.zero]
theorem Rdr.zr : Zr Tryz.prog 108 (agg Rdr.zero.cells) := by unfold Zr; kernel_rfl
end Go.Proofs.YtpacobmjjjillaaGreat
end

section
namespace Go.Proofs.YtpacobmjjjillaaGreat
open Go Hw
set_option linter.unusedVariables false
set_option linter.unusedSimpArgs false

set_option maxRecDepth 100000 in
set_option maxHeartbeats 1000000 in
theorem ref_bit_at (a : List UInt8) (ha : a.length = 32) (k : Nat) (hk : k < 256) : Meets Tryz.prog 192 [agg (bytesV a), i64 (k : Int)] [] (fun _ => True) (fun v out => v = .bool ((le a).testBit k) ∧ out = []) := by
 intro W hW
 refine calls_of (hp0 := []) Tryz.func192 rfl 23 Tryz.ntmps192 rfl (HRep.nil _) ?_
 refine Sat.seq (Sat.region ?_)
 refine Tr.boxA rfl rfl ?_
 intro n2 hn2 hf2
 refine Tr.assign rfl rfl rfl ?_
 refine Tr.nil (at_n (Sat.seq (Sat.region ?_)))
 refine Tr.move rfl rfl rfl ?_
 refine Tr.geq rfl rfl rfl rfl (decide_eq_true oM) ?_
 refine Tr.move rfl rfl rfl ?_
 refine Tr.move rfl rfl rfl ?_
 refine Tr.lss rfl rfl rfl rfl (decide_eq_true oM) ?_
 refine Tr.pick rfl rfl rfl rfl rfl rfl ?_
 refine Tr.move rfl rfl rfl ?_
 refine Tr.move rfl rfl rfl ?_
 refine Tr.quo_i64 rfl rfl rfl rfl oM ?_
 refine Tr.idxArr1 rfl rfl rfl rfl Tryz.underlying77 Sz5 (k / 8) oM oM ?_
 refine Tr.load1 rfl rfl rfl Tryz.underlying5 rfl (by exact mem0) (by exact get_bytes oM) ?_
 refine Tr.move rfl rfl rfl ?_
 refine Tr.rem_i64 rfl rfl rfl rfl oM ?_
 refine Tr.conv rfl rfl rfl Tryz.underlying3 Tryz.underlying35 (cv_i64_u64 _) ?_
 refine Tr.shr_u8 rfl rfl rfl rfl (k % 8) (by rw [wordOf_id _ oM]; omega) oM ?_
 refine Tr.rem_u8 rfl rfl rfl rfl 2 rfl dE ?_
 refine Tr.eqi rfl rfl rfl rfl rfl ?_
 refine Tr.pick rfl rfl rfl rfl rfl rfl ?_
 refine Tr.assign rfl rfl rfl ?_
 refine Tr.nil (at_n (Sat.ret (en_r ?_)))
 refine ⟨_, [], res_tmp rfl rfl, sP, sP, ?_, rfl⟩
 rw [← bit_rem a k]; rfl

end Go.Proofs.YtpacobmjjjillaaGreat
end

section
namespace Go.Proofs.YtpacobmjjjillaaGreat
open Go Hw
set_option linter.unusedVariables false
set_option linter.unusedSimpArgs false

open Ed

theorem r_mul (x y : Fp) : Meets Tryz.prog 122 [agg (bytesV (fb x)), agg (bytesV (fb y))] [] (fun _ => True) (fun v out => v = agg (bytesV (fb (x * y))) ∧ out = []) := by
  have h := r3_Mul (fb x) (fb y) (fb_length x) (fb_length y)
  rwa [fe_fb x, fe_fb y] at h

theorem r_sub (x y : Fp) : Meets Tryz.prog 194 [agg (bytesV (fb x)), agg (bytesV (fb y))] [] (fun _ => True) (fun v out => v = agg (bytesV (fb (x - y))) ∧ out = []) := by
  have h := r3_Sub (fb x) (fb y) (fb_length x) (fb_length y)
  rwa [fe_fb x, fe_fb y] at h

theorem r_neg (x : Fp) : Meets Tryz.prog 185 [agg (bytesV (fb x))] [] (fun _ => True) (fun v out => v = agg (bytesV (fb (-x))) ∧ out = []) := by
  have h := r3_Neg (fb x) (fb_length x)
  rwa [fe_fb x] at h

theorem r_inv (x : Fp) : Meets Tryz.prog 124 [agg (bytesV (fb x))] [] (fun _ => True) (fun v out => v = agg (bytesV (fb (finv x))) ∧ out = []) := by
  have h := r3_Inv (fb x) (fb_length x)
  rwa [fe_fb x] at h

theorem r_odd (x : Fp) : Meets Tryz.prog 119 [agg (bytesV (fb x))] [] (fun _ => True) (fun v out => v = .bool (decide (x.val % 2 = 1)) ∧ out = []) := by
  have h := r3_Odd (fb x) (fb_length x)
  rwa [fe_fb x] at h

theorem r_canon (x : Fp) : Meets Tryz.prog 184 [agg (bytesV (fb x))] [] (fun _ => True) (fun v out => v = .bool true ∧ out = []) := by
  have h := r3_Canon (fb x) (fb_length x)
  rw [fe_fb x] at h
  rwa [decide_eq_true rfl] at h
theorem r_same_raw (x : Fp) (a : List UInt8) (ha : a.length = 32) : Meets Tryz.prog 234 [agg (bytesV (fb x)), agg (bytesV a)] [] (fun _ => True) (fun v out => v = .bool (decide (x = fe (le a))) ∧ out = []) := by
  have h := r3_Same (fb x) a (fb_length x) ha
  rwa [fe_fb x] at h
theorem r_of (x : UInt64) (X : Fp) (h : fe x.toNat = X) : Meets Tryz.prog 123 [u64 x] [] (fun _ => True) (fun v out => v = agg (bytesV (fb X)) ∧ out = []) := by
  rw [← h]; exact r3_Of x
theorem r_one : Meets Tryz.prog 123 [u64 1] [] (fun _ => True) (fun v out => v = agg (bytesV (fb 1)) ∧ out = []) := r_of 1 1 rfl
theorem r_cA : Meets Tryz.prog 123 [u64 121666] [] (fun _ => True) (fun v out => v = agg (bytesV (fb cA)) ∧ out = []) := r_of 121666 cA rfl
theorem r_cB : Meets Tryz.prog 123 [u64 121665] [] (fun _ => True) (fun v out => v = agg (bytesV (fb cB)) ∧ out = []) := r_of 121665 cB rfl
theorem r_pow_root (a : List UInt8) (ha : a.length = 32) (X : Fp) (hX : fe (le a) = X) : Meets Tryz.prog 198 [agg (bytesV a), agg (bytesV (expT 5 3))] [] (fun _ => True) (fun v out => v = agg (bytesV (fb (fpow X ((PF - 5) / 8)))) ∧ out = []) := r3_Pow_e a _ ha (expT_length _ _) _ X expT_root hX
theorem r_pow_unit : Meets Tryz.prog 198 [agg (bytesV (fb (fe 2))), agg (bytesV (expT 1 2))] [] (fun _ => True) (fun v out => v = agg (bytesV (fb (fpow (fe 2) ((PF - 1) / 4)))) ∧ out = []) := r3_Pow_e _ _ (fb_length _) (expT_length _ _) _ _ expT_unit (fe_fb _)
theorem r_mul_a (p r : Fp) (a : List UInt8) (ha : a.length = 32) (h : p * fe (le a) = r) : Meets Tryz.prog 122 [agg (bytesV (fb p)), agg (bytesV a)] [] (fun _ => True) (fun v out => v = agg (bytesV (fb r)) ∧ out = []) := by
  have h1 := r3_Mul (fb p) a (fb_length p) ha
  rwa [fe_fb p, h] at h1

set_option maxRecDepth 100000 in
set_option maxHeartbeats 4000000 in
theorem r3_Root (a : List UInt8) (X : Fp) (ha : a.length = 32) (hX : fe (le a) = X) : Meets Tryz.prog 200 [agg (bytesV a)] [] (fun _ => True) (fun v out => v = .tuple #[agg (bytesV (fb (fRoot X).1)), .bool (fRoot X).2] ∧ out = []) := by
 intro W hW
 obtain ⟨r0, hr0⟩ : ∃ r, fpow X ((PF + 3) / 8) = r := ⟨_, rfl⟩
 obtain ⟨un, hun⟩ : ∃ r, fpow (fe 2) ((PF - 1) / 4) = r := ⟨_, rfl⟩
 obtain ⟨r1, hr1⟩ : ∃ r, fRoot1 X = r := ⟨_, rfl⟩
 have hp0 := r_pow_root a ha X hX
 have hstep := root_step X
 obtain ⟨p0, hpp⟩ : ∃ r, fpow X ((PF - 5) / 8) = r := ⟨_, rfl⟩
 rw [hpp] at hp0 hstep
 rw [hr0] at hstep
 have hm0 := r_mul_a p0 r0 a ha (by rw [hX]; exact hstep)
 have hpu := r_pow_unit
 rw [hun] at hpu
 have hm := fun y => r_same_raw y a ha
 rw [hX] at hm
 have hr1' : r1 = if r0 * r0 = X then r0 else r0 * un := by rw [← hr1, fRoot1, hr0, hun]
 have hR : fRoot X = if r1 * r1 = X then ((if r1.val % 2 = 1 then -r1 else r1), true) else (0, false) := by rw [fRoot, hr1]
 clear hr1 hstep
 have hs53 := r3_shifted 5 3 dE dE
 have hs12 := r3_shifted 1 2 dE dE
 obtain ⟨E, hE⟩ : ∃ E, Hid (expT 5 3 = E) := ⟨_, ⟨rfl⟩⟩
 obtain ⟨G, hG⟩ : ∃ E, Hid (expT 1 2 = E) := ⟨_, ⟨rfl⟩⟩
 have hEl : E.length = 32 := by rw [← hE.out]; exact expT_length _ _
 have hGl : G.length = 32 := by rw [← hG.out]; exact expT_length _ _
 rw [hE.out] at hs53 hp0
 rw [hG.out] at hs12 hpu
 refine calls_of (hp0 := []) Tryz.func200 rfl 33 Tryz.ntmps200 rfl (HRep.nil _) ?_
 refine Sat.seq (Sat.region ?_)
 refine Tr.boxA rfl rfl ?_
 intro n1 hn1 hf1
 refine Tr.alloc (cs := (bytesV (List.replicate 32 0))) rfl Zr77 rfl ?_
 intro n2 hn2 hf2
 refine Tr.assign rfl rfl rfl ?_
 refine Tr.nil (at_n (Sat.seq ?_))
 refine Sat.draw [(1, 0), (1, 3), (3, 1), (3, 2), (3, 4), (2, 5), (4, 6)] Mixed (by kernel_rfl) ?_
 refine Tr.loadAll rfl rfl rfl Tryz.underlying77 rfl Sz77 (by exact mem1) (by (simp [ha]; done)) ?_
 refine Tr.loadAll rfl rfl rfl Tryz.underlying77 rfl Sz77 (by exact mem1) (by (simp [ha]; done)) ?_
 refine Tr.callV rfl rfl rfl rfl Body199 (hs53) (fun _ _ => trivial) ?_
 refine Tr.callV rfl rfl rfl rfl Body198 (hp0) (fun _ _ => trivial) ?_
 refine Tr.callV rfl rfl rfl rfl Body122 (hm0) (fun _ _ => trivial) ?_
 refine Tr.alloc (cs := (bytesV (List.replicate 32 0))) rfl Zr77 rfl ?_
 intro n4 hn4 hf4
 refine Tr.storeAll rfl rfl rfl rfl (by exact bytesV_cell _) Sz77 (by (simp [fb_length]; done)) (by exact mem0) (by (simp; done)) (by exact upd0) ?_
 refine Tr.nil (at_n ?_)
 refine Sat.join (ι := Unit) (fun _u => ⟨[(1, ptr n1 0), (2, ptr n2 0), (4, ptr n4 0)], [⟨n4, bytesV (fb r1), 77, 32⟩, ⟨n2, bytesV (List.replicate 32 0), 77, 32⟩, ⟨n1, bytesV a, 77, (bytesV a).length⟩]⟩) (fun _u => True) ?_ ?_
 ·
  refine Sat.seq ?_
  refine Sat.draw [(1, 0), (1, 1), (1, 3), (3, 2), (3, 4), (0, 5)] Mixed (by kernel_rfl) ?_
  refine Tr.loadAll rfl rfl rfl Tryz.underlying77 rfl Sz77 (by exact mem0) (by (simp [fb_length]; done)) ?_
  refine Tr.loadAll rfl rfl rfl Tryz.underlying77 rfl Sz77 (by exact mem0) (by (simp [fb_length]; done)) ?_
  refine Tr.loadAll rfl rfl rfl Tryz.underlying77 rfl Sz77 (by exact mem2) (by (simp [ha]; done)) ?_
  refine Tr.callV rfl rfl rfl rfl Body122 (r_mul r0 r0) (fun _ _ => trivial) ?_
  refine Tr.callV rfl rfl rfl rfl Body234 (hm (r0 * r0)) (fun _ _ => trivial) ?_
  refine Tr.not rfl rfl rfl ?_
  refine Tr.nil (at_n ?_)
  refine Sat.condNP rfl (fun hc0 => ?_) (fun hc0 => ?_)
  ·
   refine Sat.draw [(1, 0), (3, 1), (3, 2), (3, 3), (3, 4), (4, 5)] Mixed (by kernel_rfl) ?_
   refine Tr.loadAll rfl rfl rfl Tryz.underlying77 rfl Sz77 (by exact mem0) (by (simp [fb_length]; done)) ?_
   refine Tr.callV rfl rfl rfl rfl Body123 (r_of 2 (fe 2) rfl) (fun _ _ => trivial) ?_
   refine Tr.callV rfl rfl rfl rfl Body199 (hs12) (fun _ _ => trivial) ?_
   refine Tr.callV rfl rfl rfl rfl Body198 (hpu) (fun _ _ => trivial) ?_
   refine Tr.callV rfl rfl rfl rfl Body122 (r_mul r0 un) (fun _ _ => trivial) ?_
   refine Tr.storeAll rfl rfl rfl rfl (by exact bytesV_cell _) Sz77 (by (simp [fb_length]; done)) (by exact mem0) (by (simp [fb_length]; done)) (by exact upd0) ?_
   refine Tr.nil (at_n ?_)
   (rw [hr1', if_neg hc0]; exact ⟨(), trivial, weak_of (wk1 rfl (wk1 rfl (wk1 rfl wk0))) (wh1 (by exact mem0) (wh1 (by exact mem1) (wh1 (by exact mem2) wh0))) (by repeat (first | exact ns_nil | refine ns_keep rfl ?_))⟩)
  ·
   refine Sat.skip (at_n ?_)
   (rw [hr1', if_pos hc0]; exact ⟨(), trivial, weak_of (wk1 rfl (wk1 rfl (wk1 rfl wk0))) (wh1 (by exact mem0) (wh1 (by exact mem1) (wh1 (by exact mem2) wh0))) (by repeat (first | exact ns_nil | refine ns_keep rfl ?_))⟩)
 ·
  intro _u hj
  skip
  refine Sat.seq (Sat.seq ?_)
  refine Sat.draw [(1, 0), (1, 1), (1, 3), (3, 2), (3, 4), (0, 5)] Mixed (by kernel_rfl) ?_
  refine Tr.loadAll rfl rfl rfl Tryz.underlying77 rfl Sz77 (by exact mem0) (by (simp [fb_length]; done)) ?_
  refine Tr.loadAll rfl rfl rfl Tryz.underlying77 rfl Sz77 (by exact mem0) (by (simp [fb_length]; done)) ?_
  refine Tr.loadAll rfl rfl rfl Tryz.underlying77 rfl Sz77 (by exact mem2) (by (simp [ha]; done)) ?_
  refine Tr.callV rfl rfl rfl rfl Body122 (r_mul r1 r1) (fun _ _ => trivial) ?_
  refine Tr.callV rfl rfl rfl rfl Body234 (hm (r1 * r1)) (fun _ _ => trivial) ?_
  refine Tr.not rfl rfl rfl ?_
  refine Tr.nil (at_n ?_)
  refine Sat.condNP rfl (fun hc1 => ?_) (fun hc1 => ?_)
  ·
   refine Sat.seq (Sat.region ?_)
   refine Tr.build (cs := bytesV (List.replicate 32 0)) rfl rfl rfl (fun w => by kernel_rfl) ?_
   refine Tr.storeAll rfl rfl rfl rfl (by exact bytesV_cell _) Sz77 (by (simp; done)) (by exact mem1) (by (simp; done)) (by exact upd1) ?_
   refine Tr.assign rfl rfl rfl ?_
   refine Tr.nil (at_n (Sat.ret (at_r (en_r ?_))))
   refine ⟨_, [], res_cell_tmp rfl rfl rfl Tryz.underlying77 rfl Sz77 (by exact mem1) sP, sP, sP, ?_, rfl⟩
   (rw [hR, if_neg hc1, fb_zero]; done)
  ·
   refine Sat.skip (at_n ?_)
   refine Sat.join (ι := Unit) (fun _u => ⟨[(2, ptr n2 0), (4, ptr n4 0)], [⟨n4, bytesV (fb (if r1.val % 2 = 1 then -r1 else r1)), 77, 32⟩, ⟨n2, bytesV (List.replicate 32 0), 77, 32⟩]⟩) (fun _u => True) ?_ ?_
   ·
    refine Sat.seq (Sat.region ?_)
    refine Tr.loadAll rfl rfl rfl Tryz.underlying77 rfl Sz77 (by exact mem0) (by (simp [fb_length]; done)) ?_
    refine Tr.callV rfl rfl rfl rfl Body119 (r_odd r1) (fun _ _ => trivial) ?_
    refine Tr.nil (at_n ?_)
    refine Sat.condP rfl (fun hc2 => ?_) (fun hc2 => ?_)
    ·
     refine Sat.region ?_
     refine Tr.loadAll rfl rfl rfl Tryz.underlying77 rfl Sz77 (by exact mem0) (by (simp [fb_length]; done)) ?_
     refine Tr.callV rfl rfl rfl rfl Body185 (r_neg r1) (fun _ _ => trivial) ?_
     refine Tr.storeAll rfl rfl rfl rfl (by exact bytesV_cell _) Sz77 (by (simp [fb_length]; done)) (by exact mem0) (by (simp [fb_length]; done)) (by exact upd0) ?_
     refine Tr.nil (at_n ?_)
     (rw [if_pos hc2]; exact ⟨(), trivial, weak_of (wk1 rfl (wk1 rfl wk0)) (wh1 (by exact mem0) (wh1 (by exact mem1) wh0)) (by repeat (first | exact ns_nil | refine ns_keep rfl ?_))⟩)
    ·
     refine Sat.skip (at_n ?_)
     (rw [if_neg hc2]; exact ⟨(), trivial, weak_of (wk1 rfl (wk1 rfl wk0)) (wh1 (by exact mem0) (wh1 (by exact mem1) wh0)) (by repeat (first | exact ns_nil | refine ns_keep rfl ?_))⟩)
   ·
    intro _u hj
    skip
    refine Sat.seq (Sat.region ?_)
    refine Tr.loadAll rfl rfl rfl Tryz.underlying77 rfl Sz77 (by exact mem0) (by (simp [fb_length]; done)) ?_
    refine Tr.storeAll rfl rfl rfl rfl (by exact bytesV_cell _) Sz77 (by (simp [fb_length]; done)) (by exact mem1) (by (simp; done)) (by exact upd1) ?_
    refine Tr.assign rfl rfl rfl ?_
    refine Tr.nil (at_n (Sat.ret (en_r ?_)))
    refine ⟨_, [], res_cell_tmp rfl rfl rfl Tryz.underlying77 rfl Sz77 (by exact mem1) (by simp [fb_length]), sP, sP, ?_, rfl⟩
    (rw [hR, if_pos hc1]; done)

theorem check_eq {P : Pt Fp} (h : cv.on P) : cA * (P.y * P.y - P.x * P.x - 1) = -(cB * (P.x * P.x * (P.y * P.y))) := by
  have h1 := (cv.on_iff P).1 h
  have h2 : P.y * P.y - P.x * P.x = 1 + fD * (P.x * P.x * (P.y * P.y)) := h1
  have h3 := fD_cA
  rw [h2]
  generalize P.x * P.x * (P.y * P.y) = q at *
  generalize cA = a at *
  generalize cB = b at *
  generalize fD = d at *
  grind

set_option maxRecDepth 100000 in
set_option maxHeartbeats 1000000 in
theorem r5_D  : Meets Tryz.prog 189 [] [] (fun _ => True) (fun v out => v = agg (bytesV (fb fD)) ∧ out = []) := by
 intro W hW
 have hm := r_mul (-cB) (finv cA)
 rw [ref_D] at hm
 have hi := r_inv cA
 revert hm hi
 generalize finv cA = ia
 intro hm hi
 refine calls_of (hp0 := []) Tryz.func189 rfl 6 Tryz.ntmps189 rfl (HRep.nil _) ?_
 refine Sat.seq (Sat.region ?_)
 refine Tr.alloc (cs := (bytesV (List.replicate 32 0))) rfl Zr77 rfl ?_
 intro n0 hn0 hf0
 refine Tr.nil (at_n (Sat.seq (Sat.region ?_)))
 refine Tr.callV rfl rfl rfl rfl Body123 (r_cB) (fun _ _ => trivial) ?_
 refine Tr.callV rfl rfl rfl rfl Body185 (r_neg cB) (fun _ _ => trivial) ?_
 refine Tr.callV rfl rfl rfl rfl Body123 (r_cA) (fun _ _ => trivial) ?_
 refine Tr.callV rfl rfl rfl rfl Body124 (hi) (fun _ _ => trivial) ?_
 refine Tr.callV rfl rfl rfl rfl Body122 (hm) (fun _ _ => trivial) ?_
 refine Tr.storeAll rfl rfl rfl rfl (by exact bytesV_cell _) Sz77 (by (simp [fb_length]; done)) (by exact mem0) (by (simp; done)) (by exact upd0) ?_
 refine Tr.nil (at_n (Sat.ret (en_r ?_)))
 refine ⟨_, [], res_cell rfl rfl Tryz.underlying77 rfl Sz77 (by exact mem0) (by simp [fb_length]), sP, sP, ?_, rfl⟩
 rfl

set_option maxRecDepth 100000 in
set_option maxHeartbeats 1000000 in
theorem r5_Zero  : Meets Tryz.prog 120 [] [] (fun _ => True) (fun v out => v = agg (ptc (zero : Pt Fp)).cells ∧ out = []) := by
 intro W hW
 refine calls_of (hp0 := []) Tryz.func120 rfl 3 Tryz.ntmps120 rfl (HRep.nil _) ?_
 refine Sat.seq (Sat.region ?_)
 refine Tr.alloc (cs := Point.zero.cells) rfl Point.zr rfl ?_
 intro n0 hn0 hf0
 refine Tr.nil (at_n (Sat.seq (Sat.region ?_)))
 refine Tr.callV rfl rfl rfl rfl Body123 (r_one) (fun _ _ => trivial) ?_
 refine Tr.build (cs := (⟨fb 0, fb 1⟩ : Point).cells) rfl rfl rfl (fun w => by kernel_rfl) ?_
 refine Tr.storeAll rfl rfl rfl rfl (Point.isCell (by exact ⟨fb32 _, fb32 _⟩)) Sz79 (Point.length (by exact ⟨fb32 _, fb32 _⟩)) (by exact mem0) (Point.length (by exact Point.zero_ok)) (by exact upd0) ?_
 refine Tr.nil (at_n (Sat.ret (en_r ?_)))
 refine ⟨_, [], res_cell rfl rfl Tryz.underlying79 rfl Sz79 (by exact mem0) (by exact Point.length (by exact ⟨fb32 _, fb32 _⟩)), sP, sP, ?_, rfl⟩
 rfl

set_option maxRecDepth 100000 in
set_option maxHeartbeats 4000000 in
theorem r5_root (Y : Fp) : Meets Tryz.prog 125 [agg (bytesV (fb Y))] [] (fun _ => True) (fun v out => v = .tuple #[agg (bytesV (fb (xOf Y).1)), .bool (xOf Y).2] ∧ out = []) := by
 intro W hW
 have hq := ref_quot Y
 have hxo : xOf Y = fRoot ((Y * Y - 1) * finv (fD * (Y * Y) + 1)) := rfl
 rw [← hq] at hxo
 have hinv := r_inv (cA - cB * (Y * Y))
 revert hinv hxo
 clear hq
 generalize finv (cA - cB * (Y * Y)) = iz
 intro hxo hinv
 have hroot := r3_Root (fb (cA * (Y * Y - 1) * iz)) (cA * (Y * Y - 1) * iz) (fb_length _) (fe_fb _)
 rw [← hxo] at hroot
 clear hxo
 revert hroot
 generalize xOf Y = xr
 intro hroot
 refine calls_of (hp0 := []) Tryz.func125 rfl 27 Tryz.ntmps125 rfl (HRep.nil _) ?_
 refine Sat.seq (Sat.region ?_)
 refine Tr.boxA rfl rfl ?_
 intro n1 hn1 hf1
 refine Tr.alloc (cs := (bytesV (List.replicate 32 0))) rfl Zr77 rfl ?_
 intro n2 hn2 hf2
 refine Tr.assign rfl rfl rfl ?_
 refine Tr.nil (at_n (Sat.seq (Sat.region ?_)))
 refine Tr.loadAll rfl rfl rfl Tryz.underlying77 rfl Sz77 (by exact mem1) (by (simp [fb_length]; done)) ?_
 refine Tr.loadAll rfl rfl rfl Tryz.underlying77 rfl Sz77 (by exact mem1) (by (simp [fb_length]; done)) ?_
 refine Tr.callV rfl rfl rfl rfl Body122 (r_mul Y Y) (fun _ _ => trivial) ?_
 refine Tr.alloc (cs := (bytesV (List.replicate 32 0))) rfl Zr77 rfl ?_
 intro n4 hn4 hf4
 refine Tr.storeAll rfl rfl rfl rfl (by exact bytesV_cell _) Sz77 (by (simp [fb_length]; done)) (by exact mem0) (by (simp; done)) (by exact upd0) ?_
 refine Tr.nil (at_n (Sat.seq ?_))
 refine Sat.draw [(1, 1), (3, 0), (3, 2), (3, 3), (3, 4), (2, 5), (4, 6)] Mixed (by kernel_rfl) ?_
 refine Tr.loadAll rfl rfl rfl Tryz.underlying77 rfl Sz77 (by exact mem0) (by (simp [fb_length]; done)) ?_
 refine Tr.callV rfl rfl rfl rfl Body123 (r_cA) (fun _ _ => trivial) ?_
 refine Tr.callV rfl rfl rfl rfl Body123 (r_one) (fun _ _ => trivial) ?_
 refine Tr.callV rfl rfl rfl rfl Body194 (r_sub (Y * Y) 1) (fun _ _ => trivial) ?_
 refine Tr.callV rfl rfl rfl rfl Body122 (r_mul cA (Y * Y - 1)) (fun _ _ => trivial) ?_
 refine Tr.alloc (cs := (bytesV (List.replicate 32 0))) rfl Zr77 rfl ?_
 intro n5 hn5 hf5
 refine Tr.storeAll rfl rfl rfl rfl (by exact bytesV_cell _) Sz77 (by (simp [fb_length]; done)) (by exact mem0) (by (simp; done)) (by exact upd0) ?_
 refine Tr.nil (at_n (Sat.seq ?_))
 refine Sat.draw [(1, 2), (3, 0), (3, 1), (3, 3), (3, 4), (2, 5), (4, 6)] Mixed (by kernel_rfl) ?_
 refine Tr.loadAll rfl rfl rfl Tryz.underlying77 rfl Sz77 (by exact mem1) (by (simp [fb_length]; done)) ?_
 refine Tr.callV rfl rfl rfl rfl Body123 (r_cA) (fun _ _ => trivial) ?_
 refine Tr.callV rfl rfl rfl rfl Body123 (r_cB) (fun _ _ => trivial) ?_
 refine Tr.callV rfl rfl rfl rfl Body122 (r_mul cB (Y * Y)) (fun _ _ => trivial) ?_
 refine Tr.callV rfl rfl rfl rfl Body194 (r_sub cA (cB * (Y * Y))) (fun _ _ => trivial) ?_
 refine Tr.alloc (cs := (bytesV (List.replicate 32 0))) rfl Zr77 rfl ?_
 intro n6 hn6 hf6
 refine Tr.storeAll rfl rfl rfl rfl (by exact bytesV_cell _) Sz77 (by (simp [fb_length]; done)) (by exact mem0) (by (simp; done)) (by exact upd0) ?_
 refine Tr.nil (at_n (Sat.seq ?_))
 refine Sat.draw [(1, 0), (1, 1), (3, 2), (3, 3), (3, 4), (0, 5), (0, 6), (4, 7), (0, 8)] Mixed (by kernel_rfl) ?_
 refine Tr.loadAll rfl rfl rfl Tryz.underlying77 rfl Sz77 (by exact mem1) (by (simp [fb_length]; done)) ?_
 refine Tr.loadAll rfl rfl rfl Tryz.underlying77 rfl Sz77 (by exact mem0) (by (simp [fb_length]; done)) ?_
 refine Tr.callV rfl rfl rfl rfl Body124 (hinv) (fun _ _ => trivial) ?_
 refine Tr.callV rfl rfl rfl rfl Body122 (r_mul (cA * (Y * Y - 1)) iz) (fun _ _ => trivial) ?_
 refine Tr.callV rfl rfl rfl rfl Body200 (hroot) (fun _ _ => trivial) ?_
 refine Tr.extract rfl rfl rfl rfl ?_
 refine Tr.extract rfl rfl rfl rfl ?_
 refine Tr.storeAll rfl rfl rfl rfl (by exact bytesV_cell _) Sz77 (by (simp [fb_length]; done)) (by exact mem3) (by (simp; done)) (by exact upd3) ?_
 refine Tr.assign rfl rfl rfl ?_
 refine Tr.nil (at_n (Sat.ret (en_r ?_)))
 refine ⟨_, [], res_cell_tmp rfl rfl rfl Tryz.underlying77 rfl Sz77 (by exact mem3) (by simp [fb_length]), sP, sP, ?_, rfl⟩
 rfl

theorem bP_four : fe 4 * finv (fe 5) = bP.y := by
  have h1 : bP.y * fe 5 = fe 4 := by kernel_rfl
  have h2 : fe 5 * finv (fe 5) = 1 := finv_mul (by
    intro h
    have := congrArg Fin.val h
    revert this
    decide)
  generalize finv (fe 5) = v at *
  generalize fe 5 = f at *
  rw [← h1]
  generalize bP.y = y at *
  grind
theorem bP_even : (decide (bP.x.val % 2 = 1)) = false := by kernel_rfl
theorem bP_root : xOf bP.y = (bP.x, true) := by
  have h := xOf_eq (x := bP.x) (y := bP.y) bP_on
  rw [h, if_neg (of_decide_eq_false bP_even)]

set_option maxRecDepth 100000 in
set_option maxHeartbeats 2000000 in
theorem r5_Base  : Meets Tryz.prog 67 [] [] (fun _ => True) (fun v out => v = agg (ptc bP).cells ∧ out = []) := by
 intro W hW
 have hm := r_mul (fe 4) (finv (fe 5))
 rw [bP_four] at hm
 have hi := r_inv (fe 5)
 have hr := r5_root bP.y
 rw [bP_root] at hr
 have hb : bP = ⟨bP.x, bP.y⟩ := rfl
 rw [hb]
 clear hb
 revert hm hi hr
 generalize finv (fe 5) = iv
 generalize bP.x = bx
 generalize bP.y = bY
 intro hm hi hr
 refine calls_of (hp0 := []) Tryz.func67 rfl 16 Tryz.ntmps67 rfl (HRep.nil _) ?_
 refine Sat.seq (Sat.region ?_)
 refine Tr.alloc (cs := Point.zero.cells) rfl Point.zr rfl ?_
 intro n0 hn0 hf0
 refine Tr.nil (at_n (Sat.seq (Sat.region ?_)))
 refine Tr.callV rfl rfl rfl rfl Body123 (r_of 4 (fe 4) rfl) (fun _ _ => trivial) ?_
 refine Tr.callV rfl rfl rfl rfl Body123 (r_of 5 (fe 5) rfl) (fun _ _ => trivial) ?_
 refine Tr.callV rfl rfl rfl rfl Body124 (hi) (fun _ _ => trivial) ?_
 refine Tr.callV rfl rfl rfl rfl Body122 (hm) (fun _ _ => trivial) ?_
 refine Tr.alloc (cs := (bytesV (List.replicate 32 0))) rfl Zr77 rfl ?_
 intro n1 hn1 hf1
 refine Tr.storeAll rfl rfl rfl rfl (by exact bytesV_cell _) Sz77 (by (simp [fb_length]; done)) (by exact mem0) (by (simp; done)) (by exact upd0) ?_
 refine Tr.nil (at_n (Sat.seq (Sat.region ?_)))
 refine Tr.loadAll rfl rfl rfl Tryz.underlying77 rfl Sz77 (by exact mem0) (by (simp [fb_length]; done)) ?_
 refine Tr.callV rfl rfl rfl rfl Body125 (hr) (fun _ _ => trivial) ?_
 refine Tr.move rfl rfl rfl ?_
 refine Tr.extract rfl rfl rfl rfl ?_
 refine Tr.extract rfl rfl rfl rfl ?_
 refine Tr.alloc (cs := (bytesV (List.replicate 32 0))) rfl Zr77 rfl ?_
 intro n2 hn2 hf2
 refine Tr.storeAll rfl rfl rfl rfl (by exact bytesV_cell _) Sz77 (by (simp [fb_length]; done)) (by exact mem0) (by (simp; done)) (by exact upd0) ?_
 refine Tr.assign rfl rfl rfl ?_
 refine Tr.nil (at_n (Sat.seq (Sat.region ?_)))
 refine Tr.loadAll rfl rfl rfl Tryz.underlying77 rfl Sz77 (by exact mem0) (by (simp [fb_length]; done)) ?_
 refine Tr.loadAll rfl rfl rfl Tryz.underlying77 rfl Sz77 (by exact mem1) (by (simp [fb_length]; done)) ?_
 refine Tr.build (cs := (ptc (⟨bx, bY⟩ : Pt Fp)).cells) rfl rfl rfl (fun w => by kernel_rfl) ?_
 refine Tr.storeAll rfl rfl rfl rfl (Point.isCell (by exact ptc_ok _)) Sz79 (Point.length (by exact ptc_ok _)) (by exact mem2) (Point.length (by exact Point.zero_ok)) (by exact upd2) ?_
 refine Tr.nil (at_n (Sat.ret (en_r ?_)))
 refine ⟨_, [], res_cell rfl rfl Tryz.underlying79 rfl Sz79 (by exact mem2) (by exact Point.length (by exact ptc_ok _)), sP, sP, ?_, rfl⟩
 rfl

set_option maxRecDepth 100000 in
set_option maxHeartbeats 4000000 in
theorem r5_Check (P : Pt Fp) (hP : cv.on P) : Meets Tryz.prog 118 [agg (ptc P).cells] [] (fun _ => True) (fun v out => v = i64 0 ∧ out = []) := by
 intro W hW
 refine calls_of (hp0 := []) Tryz.func118 rfl 41 Tryz.ntmps118 rfl (HRep.nil _) ?_
 refine Sat.seq (Sat.region ?_)
 refine Tr.boxA rfl rfl ?_
 intro n1 hn1 hf1
 refine Tr.assign rfl rfl rfl ?_
 refine Tr.nil (at_n (Sat.seq (Sat.seq (Sat.region ?_))))
 refine Tr.fld rfl rfl rfl Tryz.underlying79 rfl Sz77 dE _ rfl ?_
 refine Tr.loadN (bytesV _) rfl rfl rfl Tryz.underlying77 rfl Sz77 (by exact mem0) (Point.row_fX (by exact ptc_ok _)) (Point.rl_fX (by exact ptc_ok _)) ?_
 refine Tr.callV rfl rfl rfl rfl Body184 (r_canon P.x) (fun _ _ => trivial) ?_
 refine Tr.not rfl rfl rfl ?_
 refine Tr.move rfl rfl rfl ?_
 refine Tr.fld rfl rfl rfl Tryz.underlying79 rfl Sz77 dE _ rfl ?_
 refine Tr.loadN (bytesV _) rfl rfl rfl Tryz.underlying77 rfl Sz77 (by exact mem0) (Point.row_fY (by exact ptc_ok _)) (Point.rl_fY (by exact ptc_ok _)) ?_
 refine Tr.callV rfl rfl rfl rfl Body184 (r_canon P.y) (fun _ _ => trivial) ?_
 refine Tr.not rfl rfl rfl ?_
 refine Tr.pick rfl rfl rfl rfl rfl rfl ?_
 refine Tr.nil (at_n ?_)
 refine Sat.cond_f rfl rfl ?_
 refine Sat.skip (at_n (Sat.seq ?_))
 refine Sat.draw [(0, 0), (1, 1), (0, 2), (1, 3), (0, 5), (1, 6), (0, 7), (1, 8), (3, 4), (3, 9), (2, 10), (2, 11), (4, 12), (4, 13)] Mixed (by kernel_rfl) ?_
 refine Tr.fld rfl rfl rfl Tryz.underlying79 rfl Sz77 dE _ rfl ?_
 refine Tr.loadN (bytesV _) rfl rfl rfl Tryz.underlying77 rfl Sz77 (by exact mem0) (Point.row_fX (by exact ptc_ok _)) (Point.rl_fX (by exact ptc_ok _)) ?_
 refine Tr.fld rfl rfl rfl Tryz.underlying79 rfl Sz77 dE _ rfl ?_
 refine Tr.loadN (bytesV _) rfl rfl rfl Tryz.underlying77 rfl Sz77 (by exact mem0) (Point.row_fX (by exact ptc_ok _)) (Point.rl_fX (by exact ptc_ok _)) ?_
 refine Tr.fld rfl rfl rfl Tryz.underlying79 rfl Sz77 dE _ rfl ?_
 refine Tr.loadN (bytesV _) rfl rfl rfl Tryz.underlying77 rfl Sz77 (by exact mem0) (Point.row_fY (by exact ptc_ok _)) (Point.rl_fY (by exact ptc_ok _)) ?_
 refine Tr.fld rfl rfl rfl Tryz.underlying79 rfl Sz77 dE _ rfl ?_
 refine Tr.loadN (bytesV _) rfl rfl rfl Tryz.underlying77 rfl Sz77 (by exact mem0) (Point.row_fY (by exact ptc_ok _)) (Point.rl_fY (by exact ptc_ok _)) ?_
 refine Tr.callV rfl rfl rfl rfl Body122 (r_mul P.x P.x) (fun _ _ => trivial) ?_
 refine Tr.callV rfl rfl rfl rfl Body122 (r_mul P.y P.y) (fun _ _ => trivial) ?_
 refine Tr.alloc (cs := (bytesV (List.replicate 32 0))) rfl Zr77 rfl ?_
 intro n3 hn3 hf3
 refine Tr.alloc (cs := (bytesV (List.replicate 32 0))) rfl Zr77 rfl ?_
 intro n4 hn4 hf4
 refine Tr.storeAll rfl rfl rfl rfl (by exact bytesV_cell _) Sz77 (by (simp [fb_length]; done)) (by exact mem1) (by (simp; done)) (by exact upd1) ?_
 refine Tr.storeAll rfl rfl rfl rfl (by exact bytesV_cell _) Sz77 (by (simp [fb_length]; done)) (by exact mem0) (by (simp; done)) (by exact upd0) ?_
 refine Tr.nil (at_n (Sat.seq ?_))
 refine Sat.draw [(1, 1), (1, 2), (3, 0), (3, 3), (3, 4), (3, 5), (3, 6), (2, 7), (4, 8)] Mixed (by kernel_rfl) ?_
 refine Tr.loadAll rfl rfl rfl Tryz.underlying77 rfl Sz77 (by exact mem0) (by (simp [fb_length]; done)) ?_
 refine Tr.loadAll rfl rfl rfl Tryz.underlying77 rfl Sz77 (by exact mem1) (by (simp [fb_length]; done)) ?_
 refine Tr.callV rfl rfl rfl rfl Body123 (r_cA) (fun _ _ => trivial) ?_
 refine Tr.callV rfl rfl rfl rfl Body194 (r_sub (P.y * P.y) (P.x * P.x)) (fun _ _ => trivial) ?_
 refine Tr.callV rfl rfl rfl rfl Body123 (r_one) (fun _ _ => trivial) ?_
 refine Tr.callV rfl rfl rfl rfl Body194 (r_sub (P.y * P.y - P.x * P.x) 1) (fun _ _ => trivial) ?_
 refine Tr.callV rfl rfl rfl rfl Body122 (r_mul cA (P.y * P.y - P.x * P.x - 1)) (fun _ _ => trivial) ?_
 refine Tr.alloc (cs := (bytesV (List.replicate 32 0))) rfl Zr77 rfl ?_
 intro n5 hn5 hf5
 refine Tr.storeAll rfl rfl rfl rfl (by exact bytesV_cell _) Sz77 (by (simp [fb_length]; done)) (by exact mem0) (by (simp; done)) (by exact upd0) ?_
 refine Tr.nil (at_n (Sat.seq (Sat.seq ?_)))
 refine Sat.draw [(1, 0), (1, 2), (1, 3), (3, 1), (3, 4), (3, 5), (3, 6), (0, 7)] Mixed (by kernel_rfl) ?_
 refine Tr.loadAll rfl rfl rfl Tryz.underlying77 rfl Sz77 (by exact mem0) (by (simp [fb_length]; done)) ?_
 refine Tr.loadAll rfl rfl rfl Tryz.underlying77 rfl Sz77 (by exact mem2) (by (simp [fb_length]; done)) ?_
 refine Tr.loadAll rfl rfl rfl Tryz.underlying77 rfl Sz77 (by exact mem1) (by (simp [fb_length]; done)) ?_
 refine Tr.callV rfl rfl rfl rfl Body123 (r_cB) (fun _ _ => trivial) ?_
 refine Tr.callV rfl rfl rfl rfl Body122 (r_mul (P.x * P.x) (P.y * P.y)) (fun _ _ => trivial) ?_
 refine Tr.callV rfl rfl rfl rfl Body122 (r_mul cB (P.x * P.x * (P.y * P.y))) (fun _ _ => trivial) ?_
 refine Tr.callV rfl rfl rfl rfl Body185 (r_neg (cB * (P.x * P.x * (P.y * P.y)))) (fun _ _ => trivial) ?_
 refine Tr.neq_bytes rfl rfl rfl rfl Tryz.eqGuardType77 Tryz.underlying77 Tryz.underlying5 Sz5 (by (simp [fb_length]; done)) (by (simp [fb_length]; done)) (show (!decide _) = false from congrArg not (decide_eq_true (congrArg fb (check_eq hP)))) ?_
 refine Tr.nil (at_n ?_)
 refine Sat.cond_f rfl (rfl) ?_
 refine Sat.skip (at_n (Sat.seq (Sat.region ?_)))
 refine Tr.assign rfl rfl rfl ?_
 refine Tr.nil (at_n (Sat.ret (en_r ?_)))
 refine ⟨_, [], res_tmp rfl rfl, sP, sP, ?_, rfl⟩
 rfl

end Go.Proofs.YtpacobmjjjillaaGreat
end

section
namespace Go.Proofs.YtpacobmjjjillaaGreat
open Go Hw
set_option linter.unusedVariables false
set_option linter.unusedSimpArgs false

open Ed

/-- three words of ten that fit, and what they mean -/
structure FarFit (u : far) : Prop where
  x : Fit10 u.fX
  y : Fit10 u.fY
  z : Fit10 u.fZ
theorem FarFit.ok {x : far} (h : FarFit x) : x.ok := ⟨h.x.len, h.y.len, h.z.len⟩
def farV (x : far) : Fr Fp := ⟨fe (v10 x.fX), fe (v10 x.fY), fe (v10 x.fZ)⟩
structure FarRep (x : far) (P : Pt Fp) : Prop where
  fit : FarFit x
  rep : (farV x).rep P
def frA (p q : far) : List Nat := mulT p.fZ q.fZ
def frM (d : List Nat) (p q : far) : List Nat := mulT d (mulT (mulT p.fX q.fX) (mulT p.fY q.fY))
def frB (p q : far) : List Nat := plusT (mulT p.fX q.fX) (mulT p.fY q.fY)
def frC (p q : far) : List Nat := minusT (mulT (plusT p.fX p.fY) (plusT q.fX q.fY)) (frB p q)
def frF (d : List Nat) (p q : far) : List Nat := minusT (mulT (frA p q) (frA p q)) (frM d p q)
def frG (d : List Nat) (p q : far) : List Nat := plusT (mulT (frA p q) (frA p q)) (frM d p q)
def frT (d : List Nat) (p q : far) : far := ⟨mulT (frA p q) (mulT (frF d p q) (frC p q)), mulT (frA p q) (mulT (frG d p q) (frB p q)), mulT (frF d p q) (frG d p q)⟩
section
variable {d : List Nat} {p q : far}
theorem frA_fit (hp : FarFit p) (hq : FarFit q) : Fit10 (frA p q) := mulT_fit hp.z hq.z
theorem frM_fit (hd : Fit10 d) (hp : FarFit p) (hq : FarFit q) : Fit10 (frM d p q) := mulT_fit hd (mulT_fit (mulT_fit hp.x hq.x) (mulT_fit hp.y hq.y))
theorem frB_fit (hp : FarFit p) (hq : FarFit q) : Fit10 (frB p q) := plusT_fit (mulT_fit hp.x hq.x) (mulT_fit hp.y hq.y)
theorem frC_fit (hp : FarFit p) (hq : FarFit q) : Fit10 (frC p q) := minusT_fit (mulT_fit (plusT_fit hp.x hp.y) (plusT_fit hq.x hq.y)) (frB_fit hp hq)
theorem frF_fit (hd : Fit10 d) (hp : FarFit p) (hq : FarFit q) : Fit10 (frF d p q) := minusT_fit (mulT_fit (frA_fit hp hq) (frA_fit hp hq)) (frM_fit hd hp hq)
theorem frG_fit (hd : Fit10 d) (hp : FarFit p) (hq : FarFit q) : Fit10 (frG d p q) := plusT_fit (mulT_fit (frA_fit hp hq) (frA_fit hp hq)) (frM_fit hd hp hq)
theorem frT_fit (hd : Fit10 d) (hp : FarFit p) (hq : FarFit q) : FarFit (frT d p q) :=
  ⟨mulT_fit (frA_fit hp hq) (mulT_fit (frF_fit hd hp hq) (frC_fit hp hq)), mulT_fit (frA_fit hp hq) (mulT_fit (frG_fit hd hp hq) (frB_fit hp hq)), mulT_fit (frF_fit hd hp hq) (frG_fit hd hp hq)⟩
theorem mv {x y : List Nat} (hx : Fit10 x) (hy : Fit10 y) : fe (v10 (mulT x y)) = fe (v10 x) * fe (v10 y) := mulT_v hx.len hy.len
theorem pv' {x y : List Nat} (hx : Fit10 x) (hy : Fit10 y) : fe (v10 (plusT x y)) = fe (v10 x) + fe (v10 y) := plusT_v hx.len hy.len
theorem nv {x y : List Nat} (hx : Fit10 x) (hy : Fit10 y) : fe (v10 (minusT x y)) = fe (v10 x) - fe (v10 y) := minusT_v hx.len hy
theorem frT_v (hd : Fit10 d) (hp : FarFit p) (hq : FarFit q) : farV (frT d p q) = Fr.add (fe (v10 d)) (farV p) (farV q) := by
  have a := frA_fit hp hq
  have m := frM_fit hd hp hq
  have b := frB_fit hp hq
  have c := frC_fit hp hq
  have f := frF_fit hd hp hq
  have g := frG_fit hd hp hq
  have c1 := mulT_fit hp.x hq.x
  have c2 := mulT_fit hp.y hq.y
  have va : fe (v10 (frA p q)) = fe (v10 p.fZ) * fe (v10 q.fZ) := mv hp.z hq.z
  have vm : fe (v10 (frM d p q)) = fe (v10 d) * (fe (v10 p.fX) * fe (v10 q.fX) * (fe (v10 p.fY) * fe (v10 q.fY))) := by rw [frM, mv hd (mulT_fit c1 c2), mv c1 c2, mv hp.x hq.x, mv hp.y hq.y]
  have vb : fe (v10 (frB p q)) = fe (v10 p.fX) * fe (v10 q.fX) + fe (v10 p.fY) * fe (v10 q.fY) := by rw [frB, pv' c1 c2, mv hp.x hq.x, mv hp.y hq.y]
  have vc : fe (v10 (frC p q)) = (fe (v10 p.fX) + fe (v10 p.fY)) * (fe (v10 q.fX) + fe (v10 q.fY)) - (fe (v10 p.fX) * fe (v10 q.fX) + fe (v10 p.fY) * fe (v10 q.fY)) := by
    rw [frC, nv (mulT_fit (plusT_fit hp.x hp.y) (plusT_fit hq.x hq.y)) b, mv (plusT_fit hp.x hp.y) (plusT_fit hq.x hq.y), pv' hp.x hp.y, pv' hq.x hq.y, vb]
  have vf : fe (v10 (frF d p q)) = fe (v10 (frA p q)) * fe (v10 (frA p q)) - fe (v10 (frM d p q)) := by rw [frF, nv (mulT_fit a a) m, mv a a]
  have vg : fe (v10 (frG d p q)) = fe (v10 (frA p q)) * fe (v10 (frA p q)) + fe (v10 (frM d p q)) := by rw [frG, pv' (mulT_fit a a) m, mv a a]
  unfold farV frT Fr.add
  simp only [mv a (mulT_fit f c), mv f c, mv a (mulT_fit g b), mv g b, mv f g, vf, vg, va, vm, vb, vc]
end
theorem FarRep.add {d : List Nat} {p q : far} {P Q : Pt Fp} (hd : Fit10 d) (hdv : fe (v10 d) = fD) (hp : FarRep p P) (hq : FarRep q Q) (hP : cv.on P) (hQ : cv.on Q) : FarRep (frT d p q) (cv.add P Q) := by
  refine ⟨frT_fit hd hp.fit hq.fit, ?_⟩
  rw [frT_v hd hp.fit hq.fit, hdv]
  exact cv.far_add hp.rep hq.rep hP hQ
/-- a point's words -/
def awT (P : Pt Fp) : far := ⟨openT (le (fb P.x)), openT (le (fb P.y)), openT (le (fb (1 : Fp)))⟩
theorem awT_fit (P : Pt Fp) : FarFit (awT P) := ⟨o_fit (fb_length _), o_fit (fb_length _), o_fit (fb_length _)⟩
theorem awT_rep (P : Pt Fp) : FarRep (awT P) P := by
  refine ⟨awT_fit P, ?_⟩
  have h : farV (awT P) = Fr.of P := by
    unfold farV awT Fr.of
    simp only [o_v (fb_length _), fe_fb]
  rw [h]
  exact cv.far_of P
def dT : List Nat := openT (le (fb fD))
theorem dT_fit : Fit10 dT := o_fit (fb_length _)
theorem dT_v : fe (v10 dT) = fD := by
  have h := o_v (fb_length fD)
  rw [fe_fb] at h
  exact h
theorem r5_openD : Meets Tryz.prog 188 [agg (bytesV (fb fD))] [] (fun _ => True) (fun v out => v = agg (wdsV dT) ∧ out = []) := r3_Open (fb fD) (fb_length _)

set_option maxRecDepth 100000 in
set_option maxHeartbeats 8000000 in
theorem r5_plus (d : List Nat) (p q : far) (hd : Fit10 d) (hp : FarFit p) (hq : FarFit q) : Meets Tryz.prog 191 [agg (wdsV d), agg (p).cells, agg (q).cells] [] (fun _ => True) (fun v out => v = agg (frT d p q).cells ∧ out = []) := by
 intro W hW
 have ldd := hd.len
 have hpo := hp.ok
 have hqo := hq.ok
 unfold frT frF frG frC frM frB frA
 have fa := mulT_fit hp.z hq.z
 have ca := r3_Times _ _ hp.z hq.z
 revert fa ca
 generalize mulT p.fZ q.fZ = a
 intro fa ca
 have la := fa.len
 have fb2 := mulT_fit fa fa
 have cb := r3_Times _ _ fa fa
 revert fb2 cb
 generalize mulT a a = b
 intro fb2 cb
 have lb := fb2.len
 have fc := mulT_fit hp.x hq.x
 have cc := r3_Times _ _ hp.x hq.x
 revert fc cc
 generalize mulT p.fX q.fX = c
 intro fc cc
 have lc := fc.len
 have fe2 := mulT_fit hp.y hq.y
 have ce := r3_Times _ _ hp.y hq.y
 revert fe2 ce
 generalize mulT p.fY q.fY = e
 intro fe2 ce
 have le := fe2.len
 have fce := mulT_fit fc fe2
 have cce := r3_Times _ _ fc fe2
 revert fce cce
 generalize mulT c e = ce2
 intro fce cce
 have lce2 := fce.len
 have fm := mulT_fit hd fce
 have cm := r3_Times _ _ hd fce
 revert fm cm
 generalize mulT d ce2 = m
 intro fm cm
 have lm := fm.len
 have ff := minusT_fit fb2 fm
 have cf := r3_Minus _ _ fb2 fm
 revert ff cf
 generalize minusT b m = f
 intro ff cf
 have lf := ff.len
 have fg := plusT_fit fb2 fm
 have cg := r3_Plus _ _ fb2 fm
 revert fg cg
 generalize plusT b m = g
 intro fg cg
 have lg := fg.len
 have fbo := plusT_fit fc fe2
 have cbo := r3_Plus _ _ fc fe2
 revert fbo cbo
 generalize plusT c e = both
 intro fbo cbo
 have lboth := fbo.len
 have fpp := plusT_fit hp.x hp.y
 have cpp := r3_Plus _ _ hp.x hp.y
 revert fpp cpp
 generalize plusT p.fX p.fY = pp
 intro fpp cpp
 have lpp := fpp.len
 have fqq := plusT_fit hq.x hq.y
 have cqq := r3_Plus _ _ hq.x hq.y
 revert fqq cqq
 generalize plusT q.fX q.fY = qq
 intro fqq cqq
 have lqq := fqq.len
 have fpq := mulT_fit fpp fqq
 have cpq := r3_Times _ _ fpp fqq
 revert fpq cpq
 generalize mulT pp qq = pq
 intro fpq cpq
 have lpq := fpq.len
 have fcr := minusT_fit fpq fbo
 have ccr := r3_Minus _ _ fpq fbo
 revert fcr ccr
 generalize minusT pq both = cr
 intro fcr ccr
 have lcr := fcr.len
 have ffc := mulT_fit ff fcr
 have cfc := r3_Times _ _ ff fcr
 revert ffc cfc
 generalize mulT f cr = fcr2
 intro ffc cfc
 have lfcr2 := ffc.len
 have fgb := mulT_fit fg fbo
 have cgb := r3_Times _ _ fg fbo
 revert fgb cgb
 generalize mulT g both = gb
 intro fgb cgb
 have lgb := fgb.len
 have fX := mulT_fit fa ffc
 have cX := r3_Times _ _ fa ffc
 revert fX cX
 generalize mulT a fcr2 = X
 intro fX cX
 have lX := fX.len
 have fY := mulT_fit fa fgb
 have cY := r3_Times _ _ fa fgb
 revert fY cY
 generalize mulT a gb = Y
 intro fY cY
 have lY := fY.len
 have fZ := mulT_fit ff fg
 have cZ := r3_Times _ _ ff fg
 revert fZ cZ
 generalize mulT f g = Z
 intro fZ cZ
 have lZ := fZ.len
 refine calls_of (hp0 := []) Tryz.func191 rfl 75 Tryz.ntmps191 rfl (HRep.nil _) ?_
 refine Sat.seq (Sat.region ?_)
 refine Tr.boxA rfl rfl ?_
 intro n3 hn3 hf3
 refine Tr.boxA rfl rfl ?_
 intro n4 hn4 hf4
 refine Tr.boxA rfl rfl ?_
 intro n5 hn5 hf5
 refine Tr.alloc (cs := far.zero.cells) rfl far.zr rfl ?_
 intro n6 hn6 hf6
 refine Tr.nil (at_n (Sat.seq (Sat.region ?_)))
 refine Tr.fld rfl rfl rfl Tryz.underlying180 rfl Sz177 dE _ rfl ?_
 refine Tr.loadN (wdsV _) rfl rfl rfl Tryz.underlying177 rfl Sz177 (by exact mem2) (far.row_fZ (by exact hpo)) (far.rl_fZ (by exact hpo)) ?_
 refine Tr.fld rfl rfl rfl Tryz.underlying180 rfl Sz177 dE _ rfl ?_
 refine Tr.loadN (wdsV _) rfl rfl rfl Tryz.underlying177 rfl Sz177 (by exact mem1) (far.row_fZ (by exact hqo)) (far.rl_fZ (by exact hqo)) ?_
 refine Tr.callV rfl rfl rfl rfl Body197 (ca) (fun _ _ => trivial) ?_
 refine Tr.alloc (cs := (intsV (List.replicate 10 0))) rfl Zr177 rfl ?_
 intro n7 hn7 hf7
 refine Tr.storeAll rfl rfl rfl rfl (by exact wdsV_cell _) Sz177 (by (simp [wdsV_length, la]; done)) (by exact mem0) (by (simp; done)) (by exact upd0) ?_
 refine Tr.nil (at_n (Sat.seq (Sat.region ?_)))
 refine Tr.loadAll rfl rfl rfl Tryz.underlying177 rfl Sz177 (by exact mem0) (by (simp [wdsV_length, la]; done)) ?_
 refine Tr.loadAll rfl rfl rfl Tryz.underlying177 rfl Sz177 (by exact mem0) (by (simp [wdsV_length, la]; done)) ?_
 refine Tr.callV rfl rfl rfl rfl Body197 (cb) (fun _ _ => trivial) ?_
 refine Tr.alloc (cs := (intsV (List.replicate 10 0))) rfl Zr177 rfl ?_
 intro n8 hn8 hf8
 refine Tr.storeAll rfl rfl rfl rfl (by exact wdsV_cell _) Sz177 (by (simp [wdsV_length, lb]; done)) (by exact mem0) (by (simp; done)) (by exact upd0) ?_
 refine Tr.nil (at_n (Sat.seq ?_))
 refine Sat.draw [(0, 0), (1, 1), (0, 2), (1, 3), (0, 5), (1, 6), (0, 7), (1, 8), (3, 4), (3, 9), (2, 10), (2, 11), (4, 12), (4, 13)] Mixed (by kernel_rfl) ?_
 refine Tr.fld rfl rfl rfl Tryz.underlying180 rfl Sz177 dE _ rfl ?_
 refine Tr.loadN (wdsV _) rfl rfl rfl Tryz.underlying177 rfl Sz177 (by exact mem4) (far.row_fX (by exact hpo)) (far.rl_fX (by exact hpo)) ?_
 refine Tr.fld rfl rfl rfl Tryz.underlying180 rfl Sz177 dE _ rfl ?_
 refine Tr.loadN (wdsV _) rfl rfl rfl Tryz.underlying177 rfl Sz177 (by exact mem3) (far.row_fX (by exact hqo)) (far.rl_fX (by exact hqo)) ?_
 refine Tr.fld rfl rfl rfl Tryz.underlying180 rfl Sz177 dE _ rfl ?_
 refine Tr.loadN (wdsV _) rfl rfl rfl Tryz.underlying177 rfl Sz177 (by exact mem4) (far.row_fY (by exact hpo)) (far.rl_fY (by exact hpo)) ?_
 refine Tr.fld rfl rfl rfl Tryz.underlying180 rfl Sz177 dE _ rfl ?_
 refine Tr.loadN (wdsV _) rfl rfl rfl Tryz.underlying177 rfl Sz177 (by exact mem3) (far.row_fY (by exact hqo)) (far.rl_fY (by exact hqo)) ?_
 refine Tr.callV rfl rfl rfl rfl Body197 (cc) (fun _ _ => trivial) ?_
 refine Tr.callV rfl rfl rfl rfl Body197 (ce) (fun _ _ => trivial) ?_
 refine Tr.alloc (cs := (intsV (List.replicate 10 0))) rfl Zr177 rfl ?_
 intro n9 hn9 hf9
 refine Tr.alloc (cs := (intsV (List.replicate 10 0))) rfl Zr177 rfl ?_
 intro n10 hn10 hf10
 refine Tr.storeAll rfl rfl rfl rfl (by exact wdsV_cell _) Sz177 (by (simp [wdsV_length, lc]; done)) (by exact mem1) (by (simp; done)) (by exact upd1) ?_
 refine Tr.storeAll rfl rfl rfl rfl (by exact wdsV_cell _) Sz177 (by (simp [wdsV_length, le]; done)) (by exact mem0) (by (simp; done)) (by exact upd0) ?_
 refine Tr.nil (at_n (Sat.seq ?_))
 refine Sat.draw [(1, 0), (1, 1), (1, 2), (3, 3), (3, 4), (2, 5), (4, 6)] Mixed (by kernel_rfl) ?_
 refine Tr.loadAll rfl rfl rfl Tryz.underlying177 rfl Sz177 (by exact mem7) (by (simp [wdsV_length, ldd]; done)) ?_
 refine Tr.loadAll rfl rfl rfl Tryz.underlying177 rfl Sz177 (by exact mem1) (by (simp [wdsV_length, lc]; done)) ?_
 refine Tr.loadAll rfl rfl rfl Tryz.underlying177 rfl Sz177 (by exact mem0) (by (simp [wdsV_length, le]; done)) ?_
 refine Tr.callV rfl rfl rfl rfl Body197 (cce) (fun _ _ => trivial) ?_
 refine Tr.callV rfl rfl rfl rfl Body197 (cm) (fun _ _ => trivial) ?_
 refine Tr.alloc (cs := (intsV (List.replicate 10 0))) rfl Zr177 rfl ?_
 intro n11 hn11 hf11
 refine Tr.storeAll rfl rfl rfl rfl (by exact wdsV_cell _) Sz177 (by (simp [wdsV_length, lm]; done)) (by exact mem0) (by (simp; done)) (by exact upd0) ?_
 refine Tr.nil (at_n (Sat.seq ?_))
 refine Sat.draw [(1, 0), (1, 1), (1, 3), (1, 4), (3, 2), (3, 5), (2, 6), (2, 7), (4, 8), (4, 9)] Mixed (by kernel_rfl) ?_
 refine Tr.loadAll rfl rfl rfl Tryz.underlying177 rfl Sz177 (by exact mem3) (by (simp [wdsV_length, lb]; done)) ?_
 refine Tr.loadAll rfl rfl rfl Tryz.underlying177 rfl Sz177 (by exact mem0) (by (simp [wdsV_length, lm]; done)) ?_
 refine Tr.loadAll rfl rfl rfl Tryz.underlying177 rfl Sz177 (by exact mem3) (by (simp [wdsV_length, lb]; done)) ?_
 refine Tr.loadAll rfl rfl rfl Tryz.underlying177 rfl Sz177 (by exact mem0) (by (simp [wdsV_length, lm]; done)) ?_
 refine Tr.callV rfl rfl rfl rfl Body231 (cf) (fun _ _ => trivial) ?_
 refine Tr.callV rfl rfl rfl rfl Body232 (cg) (fun _ _ => trivial) ?_
 refine Tr.alloc (cs := (intsV (List.replicate 10 0))) rfl Zr177 rfl ?_
 intro n12 hn12 hf12
 refine Tr.alloc (cs := (intsV (List.replicate 10 0))) rfl Zr177 rfl ?_
 intro n13 hn13 hf13
 refine Tr.storeAll rfl rfl rfl rfl (by exact wdsV_cell _) Sz177 (by (simp [wdsV_length, lf]; done)) (by exact mem1) (by (simp; done)) (by exact upd1) ?_
 refine Tr.storeAll rfl rfl rfl rfl (by exact wdsV_cell _) Sz177 (by (simp [wdsV_length, lg]; done)) (by exact mem0) (by (simp; done)) (by exact upd0) ?_
 refine Tr.nil (at_n (Sat.seq (Sat.region ?_)))
 refine Tr.loadAll rfl rfl rfl Tryz.underlying177 rfl Sz177 (by exact mem4) (by (simp [wdsV_length, lc]; done)) ?_
 refine Tr.loadAll rfl rfl rfl Tryz.underlying177 rfl Sz177 (by exact mem3) (by (simp [wdsV_length, le]; done)) ?_
 refine Tr.callV rfl rfl rfl rfl Body232 (cbo) (fun _ _ => trivial) ?_
 refine Tr.alloc (cs := (intsV (List.replicate 10 0))) rfl Zr177 rfl ?_
 intro n14 hn14 hf14
 refine Tr.storeAll rfl rfl rfl rfl (by exact wdsV_cell _) Sz177 (by (simp [wdsV_length, lboth]; done)) (by exact mem0) (by (simp; done)) (by exact upd0) ?_
 refine Tr.nil (at_n (Sat.seq ?_))
 refine Sat.draw [(0, 0), (1, 1), (0, 2), (1, 3), (0, 5), (1, 6), (0, 7), (1, 8), (1, 11), (3, 4), (3, 9), (3, 10), (3, 12), (2, 13), (4, 14)] Mixed (by kernel_rfl) ?_
 refine Tr.fld rfl rfl rfl Tryz.underlying180 rfl Sz177 dE _ rfl ?_
 refine Tr.loadN (wdsV _) rfl rfl rfl Tryz.underlying177 rfl Sz177 (by (repeat (first | exact List.mem_cons_self | refine List.mem_cons_of_mem _ ?_))) (far.row_fX (by exact hpo)) (far.rl_fX (by exact hpo)) ?_
 refine Tr.fld rfl rfl rfl Tryz.underlying180 rfl Sz177 dE _ rfl ?_
 refine Tr.loadN (wdsV _) rfl rfl rfl Tryz.underlying177 rfl Sz177 (by (repeat (first | exact List.mem_cons_self | refine List.mem_cons_of_mem _ ?_))) (far.row_fY (by exact hpo)) (far.rl_fY (by exact hpo)) ?_
 refine Tr.fld rfl rfl rfl Tryz.underlying180 rfl Sz177 dE _ rfl ?_
 refine Tr.loadN (wdsV _) rfl rfl rfl Tryz.underlying177 rfl Sz177 (by (repeat (first | exact List.mem_cons_self | refine List.mem_cons_of_mem _ ?_))) (far.row_fX (by exact hqo)) (far.rl_fX (by exact hqo)) ?_
 refine Tr.fld rfl rfl rfl Tryz.underlying180 rfl Sz177 dE _ rfl ?_
 refine Tr.loadN (wdsV _) rfl rfl rfl Tryz.underlying177 rfl Sz177 (by (repeat (first | exact List.mem_cons_self | refine List.mem_cons_of_mem _ ?_))) (far.row_fY (by exact hqo)) (far.rl_fY (by exact hqo)) ?_
 refine Tr.loadAll rfl rfl rfl Tryz.underlying177 rfl Sz177 (by exact mem0) (by (simp [wdsV_length, lboth]; done)) ?_
 refine Tr.callV rfl rfl rfl rfl Body232 (cpp) (fun _ _ => trivial) ?_
 refine Tr.callV rfl rfl rfl rfl Body232 (cqq) (fun _ _ => trivial) ?_
 refine Tr.callV rfl rfl rfl rfl Body197 (cpq) (fun _ _ => trivial) ?_
 refine Tr.callV rfl rfl rfl rfl Body231 (ccr) (fun _ _ => trivial) ?_
 refine Tr.alloc (cs := (intsV (List.replicate 10 0))) rfl Zr177 rfl ?_
 intro n15 hn15 hf15
 refine Tr.storeAll rfl rfl rfl rfl (by exact wdsV_cell _) Sz177 (by (simp [wdsV_length, lcr]; done)) (by exact mem0) (by (simp; done)) (by exact upd0) ?_
 refine Tr.nil (at_n (Sat.seq ?_))
 refine Sat.draw [(1, 0), (1, 1), (1, 2), (1, 5), (1, 6), (1, 7), (1, 10), (1, 11), (3, 3), (3, 4), (3, 8), (3, 9), (3, 12), (0, 13), (4, 14)] Mixed (by kernel_rfl) ?_
 refine Tr.loadAll rfl rfl rfl Tryz.underlying177 rfl Sz177 (by (repeat (first | exact List.mem_cons_self | refine List.mem_cons_of_mem _ ?_))) (by (simp [wdsV_length, la]; done)) ?_
 refine Tr.loadAll rfl rfl rfl Tryz.underlying177 rfl Sz177 (by exact mem3) (by (simp [wdsV_length, lf]; done)) ?_
 refine Tr.loadAll rfl rfl rfl Tryz.underlying177 rfl Sz177 (by exact mem0) (by (simp [wdsV_length, lcr]; done)) ?_
 refine Tr.loadAll rfl rfl rfl Tryz.underlying177 rfl Sz177 (by (repeat (first | exact List.mem_cons_self | refine List.mem_cons_of_mem _ ?_))) (by (simp [wdsV_length, la]; done)) ?_
 refine Tr.loadAll rfl rfl rfl Tryz.underlying177 rfl Sz177 (by exact mem2) (by (simp [wdsV_length, lg]; done)) ?_
 refine Tr.loadAll rfl rfl rfl Tryz.underlying177 rfl Sz177 (by exact mem1) (by (simp [wdsV_length, lboth]; done)) ?_
 refine Tr.loadAll rfl rfl rfl Tryz.underlying177 rfl Sz177 (by exact mem3) (by (simp [wdsV_length, lf]; done)) ?_
 refine Tr.loadAll rfl rfl rfl Tryz.underlying177 rfl Sz177 (by exact mem2) (by (simp [wdsV_length, lg]; done)) ?_
 refine Tr.callV rfl rfl rfl rfl Body197 (cfc) (fun _ _ => trivial) ?_
 refine Tr.callV rfl rfl rfl rfl Body197 (cX) (fun _ _ => trivial) ?_
 refine Tr.callV rfl rfl rfl rfl Body197 (cgb) (fun _ _ => trivial) ?_
 refine Tr.callV rfl rfl rfl rfl Body197 (cY) (fun _ _ => trivial) ?_
 refine Tr.callV rfl rfl rfl rfl Body197 (cZ) (fun _ _ => trivial) ?_
 refine Tr.build (cs := (⟨X, Y, Z⟩ : far).cells) rfl rfl rfl (fun w => by kernel_rfl) ?_
 refine Tr.storeAll rfl rfl rfl rfl (far.isCell (by exact ⟨lX, lY, lZ⟩)) Sz180 (far.length (by exact ⟨lX, lY, lZ⟩)) (by (repeat (first | exact List.mem_cons_self | refine List.mem_cons_of_mem _ ?_))) (far.length (by exact far.zero_ok)) (by (repeat (first | exact upd0 | apply Upd.tail))) ?_
 refine Tr.nil (at_n (Sat.ret (en_r ?_)))
 refine ⟨_, [], res_cell rfl rfl Tryz.underlying180 rfl Sz180 (by (repeat (first | exact List.mem_cons_self | refine List.mem_cons_of_mem _ ?_))) (by exact far.length (by exact ⟨lX, lY, lZ⟩)), sP, sP, ?_, rfl⟩
 rfl

set_option maxRecDepth 100000 in
set_option maxHeartbeats 4000000 in
theorem r5_near (p : far) (P : Pt Fp) (hp : FarRep p P) : Meets Tryz.prog 193 [agg (p).cells] [] (fun _ => True) (fun v out => v = agg (ptc P).cells ∧ out = []) := by
 intro W hW
 have hpo := hp.fit.ok
 have hpt := cv.far_pt hp.rep
 have h1 := r3_Close_v p.fZ hp.fit.z _ rfl
 have h2 := r3_Close_v p.fX hp.fit.x _ rfl
 have h3 := r3_Close_v p.fY hp.fit.y _ rfl
 have hi := r_inv (fe (v10 p.fZ))
 have e : P = ⟨fe (v10 p.fX) * finv (fe (v10 p.fZ)), fe (v10 p.fY) * finv (fe (v10 p.fZ))⟩ := hpt.symm
 rw [e]
 clear e hpt
 revert h1 h2 h3 hi
 generalize finv (fe (v10 p.fZ)) = iz
 generalize fe (v10 p.fZ) = z
 generalize fe (v10 p.fX) = x
 generalize fe (v10 p.fY) = y
 intro h1 h2 h3 hi
 refine calls_of (hp0 := []) Tryz.func193 rfl 19 Tryz.ntmps193 rfl (HRep.nil _) ?_
 refine Sat.seq (Sat.region ?_)
 refine Tr.boxA rfl rfl ?_
 intro n1 hn1 hf1
 refine Tr.alloc (cs := Point.zero.cells) rfl Point.zr rfl ?_
 intro n2 hn2 hf2
 refine Tr.nil (at_n (Sat.seq (Sat.region ?_)))
 refine Tr.fld rfl rfl rfl Tryz.underlying180 rfl Sz177 dE _ rfl ?_
 refine Tr.loadN (wdsV _) rfl rfl rfl Tryz.underlying177 rfl Sz177 (by exact mem1) (far.row_fZ (by exact hpo)) (far.rl_fZ (by exact hpo)) ?_
 refine Tr.callV rfl rfl rfl rfl Body196 (h1) (fun _ _ => trivial) ?_
 refine Tr.callV rfl rfl rfl rfl Body124 (hi) (fun _ _ => trivial) ?_
 refine Tr.alloc (cs := (bytesV (List.replicate 32 0))) rfl Zr77 rfl ?_
 intro n3 hn3 hf3
 refine Tr.storeAll rfl rfl rfl rfl (by exact bytesV_cell _) Sz77 (by (simp [fb_length]; done)) (by exact mem0) (by (simp; done)) (by exact upd0) ?_
 refine Tr.nil (at_n (Sat.seq ?_))
 refine Sat.draw [(0, 0), (1, 1), (1, 3), (0, 5), (1, 6), (1, 8), (3, 2), (3, 4), (3, 7), (3, 9), (0, 10), (4, 11)] Mixed (by kernel_rfl) ?_
 refine Tr.fld rfl rfl rfl Tryz.underlying180 rfl Sz177 dE _ rfl ?_
 refine Tr.loadN (wdsV _) rfl rfl rfl Tryz.underlying177 rfl Sz177 (by exact mem2) (far.row_fX (by exact hpo)) (far.rl_fX (by exact hpo)) ?_
 refine Tr.loadAll rfl rfl rfl Tryz.underlying77 rfl Sz77 (by exact mem0) (by (simp [fb_length]; done)) ?_
 refine Tr.fld rfl rfl rfl Tryz.underlying180 rfl Sz177 dE _ rfl ?_
 refine Tr.loadN (wdsV _) rfl rfl rfl Tryz.underlying177 rfl Sz177 (by exact mem2) (far.row_fY (by exact hpo)) (far.rl_fY (by exact hpo)) ?_
 refine Tr.loadAll rfl rfl rfl Tryz.underlying77 rfl Sz77 (by exact mem0) (by (simp [fb_length]; done)) ?_
 refine Tr.callV rfl rfl rfl rfl Body196 (h2) (fun _ _ => trivial) ?_
 refine Tr.callV rfl rfl rfl rfl Body122 (r_mul x iz) (fun _ _ => trivial) ?_
 refine Tr.callV rfl rfl rfl rfl Body196 (h3) (fun _ _ => trivial) ?_
 refine Tr.callV rfl rfl rfl rfl Body122 (r_mul y iz) (fun _ _ => trivial) ?_
 refine Tr.build (cs := (ptc (⟨x * iz, y * iz⟩ : Pt Fp)).cells) rfl rfl rfl (fun w => by kernel_rfl) ?_
 refine Tr.storeAll rfl rfl rfl rfl (Point.isCell (by exact ptc_ok _)) Sz79 (Point.length (by exact ptc_ok _)) (by exact mem1) (Point.length (by exact Point.zero_ok)) (by exact upd1) ?_
 refine Tr.nil (at_n (Sat.ret (en_r ?_)))
 refine ⟨_, [], res_cell rfl rfl Tryz.underlying79 rfl Sz79 (by exact mem1) (by exact Point.length (by exact ptc_ok _)), sP, sP, ?_, rfl⟩
 rfl

set_option maxRecDepth 100000 in
set_option maxHeartbeats 4000000 in
theorem r5_away (P : Pt Fp) : Meets Tryz.prog 190 [agg (ptc P).cells] [] (fun _ => True) (fun v out => v = agg (awT P).cells ∧ out = []) := by
 intro W hW
 have h1 := r3_Open (fb P.x) (fb_length _)
 have h2 := r3_Open (fb P.y) (fb_length _)
 have h3 := r3_Open (fb 1) (fb_length _)
 have lX := openT_length (le (fb P.x))
 have lY := openT_length (le (fb P.y))
 have lZ := openT_length (le (fb 1))
 unfold awT
 revert h1 h2 h3 lX lY lZ
 generalize openT (le (fb P.x)) = X
 generalize openT (le (fb P.y)) = Y
 generalize openT (le (fb 1)) = Z
 intro h1 h2 h3 lX lY lZ
 refine calls_of (hp0 := []) Tryz.func190 rfl 12 Tryz.ntmps190 rfl (HRep.nil _) ?_
 refine Sat.seq (Sat.region ?_)
 refine Tr.boxA rfl rfl ?_
 intro n1 hn1 hf1
 refine Tr.alloc (cs := far.zero.cells) rfl far.zr rfl ?_
 intro n2 hn2 hf2
 refine Tr.nil (at_n (Sat.seq ?_))
 refine Sat.draw [(0, 0), (1, 1), (0, 3), (1, 4), (3, 2), (3, 5), (3, 6), (3, 7), (0, 8), (4, 9)] Mixed (by kernel_rfl) ?_
 refine Tr.fld rfl rfl rfl Tryz.underlying79 rfl Sz77 dE _ rfl ?_
 refine Tr.loadN (bytesV _) rfl rfl rfl Tryz.underlying77 rfl Sz77 (by exact mem1) (Point.row_fX (by exact ptc_ok _)) (Point.rl_fX (by exact ptc_ok _)) ?_
 refine Tr.fld rfl rfl rfl Tryz.underlying79 rfl Sz77 dE _ rfl ?_
 refine Tr.loadN (bytesV _) rfl rfl rfl Tryz.underlying77 rfl Sz77 (by exact mem1) (Point.row_fY (by exact ptc_ok _)) (Point.rl_fY (by exact ptc_ok _)) ?_
 refine Tr.callV rfl rfl rfl rfl Body188 (h1) (fun _ _ => trivial) ?_
 refine Tr.callV rfl rfl rfl rfl Body188 (h2) (fun _ _ => trivial) ?_
 refine Tr.callV rfl rfl rfl rfl Body123 (r_one) (fun _ _ => trivial) ?_
 refine Tr.callV rfl rfl rfl rfl Body188 (h3) (fun _ _ => trivial) ?_
 refine Tr.build (cs := (⟨X, Y, Z⟩ : far).cells) rfl rfl rfl (fun w => by kernel_rfl) ?_
 refine Tr.storeAll rfl rfl rfl rfl (far.isCell (by exact ⟨lX, lY, lZ⟩)) Sz180 (far.length (by exact ⟨lX, lY, lZ⟩)) (by exact mem0) (far.length (by exact far.zero_ok)) (by exact upd0) ?_
 refine Tr.nil (at_n (Sat.ret (en_r ?_)))
 refine ⟨_, [], res_cell rfl rfl Tryz.underlying180 rfl Sz180 (by exact mem0) (by exact far.length (by exact ⟨lX, lY, lZ⟩)), sP, sP, ?_, rfl⟩
 rfl

end Go.Proofs.YtpacobmjjjillaaGreat
end

section
namespace Go.Proofs.YtpacobmjjjillaaGreat
open Go Hw
set_option linter.unusedVariables false
set_option linter.unusedSimpArgs false

open Ed

set_option maxRecDepth 100000 in
theorem byte_low : ∀ b : UInt8, UInt8.ofNat (b.toNat % 128) = b &&& 127 ∧ ((128 ≤ b.toNat) ↔ ¬ ((b &&& 128).toNat : Int) = 0) := by
  intro b
  have h : ∀ n, n < 256 → UInt8.ofNat ((UInt8.ofNat n).toNat % 128) = UInt8.ofNat n &&& 127 ∧ ((128 ≤ (UInt8.ofNat n).toNat) ↔ ¬ ((UInt8.ofNat n &&& 128).toNat : Int) = 0) := by decide
  have h2 := h b.toNat b.toNat_lt
  rwa [UInt8.ofNat_toNat] at h2
theorem byte_plus : ∀ b : UInt8, b.toNat < 128 → b + 128 = b ||| 128 := by
  intro b hb
  have h : ∀ n, n < 128 → UInt8.ofNat n + 128 = UInt8.ofNat n ||| 128 := by decide
  have h2 := h b.toNat hb
  rwa [UInt8.ofNat_toNat] at h2
end Go.Proofs.YtpacobmjjjillaaGreat
end

section
namespace Go.Proofs.YtpacobmjjjillaaGreat
open Go Hw
set_option linter.unusedVariables false
set_option linter.unusedSimpArgs false

open Ed

theorem lin_d {a b j : Nat} (hj : j < 256) : a / 2 ^ (256 - (j + 1)) = 2 * (a / 2 ^ (256 - j)) + a / 2 ^ (255 - j) % 2 := next_div a j hj
theorem frep_dbl {d : List Nat} {p : far} {P Q : Pt Fp} (hd : Fit10 d) (hdv : fe (v10 d) = fD) (hP : cv.on P) (hQ : cv.on Q) {A B : Nat} (h : FarRep p (cv.lin A B P Q)) : FarRep (frT d p p) (cv.lin (2 * A) (2 * B) P Q) := by
  rw [cv.lin_two hP hQ]
  exact FarRep.add hd hdv h h (cv.on_lin hP hQ _ _) (cv.on_lin hP hQ _ _)
theorem frep_l {d : List Nat} {p x : far} {P Q : Pt Fp} (hd : Fit10 d) (hdv : fe (v10 d) = fD) (hP : cv.on P) (hQ : cv.on Q) {A B t : Nat} (h : FarRep p (cv.lin A B P Q)) (hx : FarRep x P) (ht : t = 1) : FarRep (frT d p x) (cv.lin (A + t) B P Q) := by
  rw [ht, cv.lin_left hP hQ]
  exact FarRep.add hd hdv h hx (cv.on_lin hP hQ _ _) hP
theorem frep_r {d : List Nat} {p x : far} {P Q : Pt Fp} (hd : Fit10 d) (hdv : fe (v10 d) = fD) (hP : cv.on P) (hQ : cv.on Q) {A B t : Nat} (h : FarRep p (cv.lin A B P Q)) (hx : FarRep x Q) (ht : t = 1) : FarRep (frT d p x) (cv.lin A (B + t) P Q) := by
  rw [ht, cv.lin_right hP hQ]
  exact FarRep.add hd hdv h hx (cv.on_lin hP hQ _ _) hQ
theorem frep_first (a b : List UInt8) (ha : a.length = 32) (hb : b.length = 32) (P Q : Pt Fp) : FarRep (awT (zero : Pt Fp)) (cv.lin (le a / 2 ^ (256 - 0)) (le b / 2 ^ (256 - 0)) P Q) := by
  have h1 := le32 ha
  have h2 := le32 hb
  rw [show 256 - 0 = 256 from rfl, Nat.div_eq_of_lt h1, Nat.div_eq_of_lt h2, cv.lin_zero]
  exact awT_rep zero
theorem bit_one {E j : Nat} (h : E.testBit j = true) : E / 2 ^ j % 2 = 1 := by have := test_div E j true h; rwa [if_pos rfl] at this
theorem bit_nil {E j : Nat} (h : E.testBit j = false) : E / 2 ^ j % 2 = 0 := by have := test_div E j false h; rwa [if_neg dE] at this

set_option maxRecDepth 100000 in
set_option maxHeartbeats 8000000 in
theorem r5_Mul2 (a b : List UInt8) (P Q : Pt Fp) (ha : a.length = 32) (hb : b.length = 32) (hP : cv.on P) (hQ : cv.on Q) : Meets Tryz.prog 114 [agg (bytesV a), agg (ptc P).cells, agg (bytesV b), agg (ptc Q).cells] [] (fun _ => True) (fun v out => v = agg (ptc (cv.lin (le a) (le b) P Q)).cells ∧ out = []) := by
 intro W hW
 have hDf := dT_fit
 have hDv := dT_v
 have hod := r5_openD
 revert hDf hDv hod
 generalize dT = D
 intro hDf hDv hod
 have hDl := hDf.len
 have hAP := awT_rep P
 have hAQ := awT_rep Q
 have hAZ := frep_first a b ha hb P Q
 have cP := r5_away P
 have cQ := r5_away Q
 have cZ := r5_away (zero : Pt Fp)
 revert hAP hAQ hAZ cP cQ cZ
 generalize awT P = AP
 generalize awT Q = AQ
 generalize awT (zero : Pt Fp) = AZ
 intro hAP hAQ hAZ cP cQ cZ
 have hAPo := hAP.fit.ok
 have hAQo := hAQ.fit.ok
 have hAZo := hAZ.fit.ok
 have huo : True := trivial
 have hwo : True := trivial
 have hxo : True := trivial
 refine calls_of (hp0 := []) Tryz.func114 rfl 55 Tryz.ntmps114 rfl (HRep.nil _) ?_
 refine Sat.seq (Sat.region ?_)
 refine Tr.boxA rfl rfl ?_
 intro n4 hn4 hf4
 refine Tr.boxA rfl rfl ?_
 intro n5 hn5 hf5
 refine Tr.boxA rfl rfl ?_
 intro n6 hn6 hf6
 refine Tr.boxA rfl rfl ?_
 intro n7 hn7 hf7
 refine Tr.alloc (cs := Point.zero.cells) rfl Point.zr rfl ?_
 intro n8 hn8 hf8
 refine Tr.nil (at_n (Sat.seq (Sat.seq (Sat.region ?_))))
 refine Tr.loadAll rfl rfl rfl Tryz.underlying79 rfl Sz79 (by exact mem3) (Point.length (by exact ptc_ok _)) ?_
 refine Tr.callV rfl rfl rfl rfl Body118 (r5_Check P hP) (fun _ _ => trivial) ?_
 refine Tr.nei rfl rfl rfl rfl (show (!decide _) = false from congrArg not (decide_eq_true (rfl))) ?_
 refine Tr.move rfl rfl rfl ?_
 refine Tr.loadAll rfl rfl rfl Tryz.underlying79 rfl Sz79 (by exact mem1) (Point.length (by exact ptc_ok _)) ?_
 refine Tr.callV rfl rfl rfl rfl Body118 (r5_Check Q hQ) (fun _ _ => trivial) ?_
 refine Tr.nei rfl rfl rfl rfl (show (!decide _) = false from congrArg not (decide_eq_true (rfl))) ?_
 refine Tr.pick rfl rfl rfl rfl rfl rfl ?_
 refine Tr.nil (at_n ?_)
 refine Sat.cond_f rfl rfl ?_
 refine Sat.skip (at_n (Sat.seq ?_))
 refine Sat.draw [(1, 4), (1, 6), (3, 0), (3, 1), (3, 2), (3, 3), (3, 5), (3, 7), (2, 8), (2, 9), (2, 10), (2, 11), (4, 12), (4, 13), (4, 14), (4, 15)] Mixed (by kernel_rfl) ?_
 refine Tr.loadAll rfl rfl rfl Tryz.underlying79 rfl Sz79 (by exact mem3) (Point.length (by exact ptc_ok _)) ?_
 refine Tr.loadAll rfl rfl rfl Tryz.underlying79 rfl Sz79 (by exact mem1) (Point.length (by exact ptc_ok _)) ?_
 refine Tr.callV rfl rfl rfl rfl Body189 (r5_D) (fun _ _ => trivial) ?_
 refine Tr.callV rfl rfl rfl rfl Body188 (hod) (fun _ _ => trivial) ?_
 refine Tr.callV rfl rfl rfl rfl Body120 (r5_Zero) (fun _ _ => trivial) ?_
 refine Tr.callV rfl rfl rfl rfl Body190 (cZ) (fun _ _ => trivial) ?_
 refine Tr.callV rfl rfl rfl rfl Body190 (cP) (fun _ _ => trivial) ?_
 refine Tr.callV rfl rfl rfl rfl Body190 (cQ) (fun _ _ => trivial) ?_
 refine Tr.alloc (cs := (intsV (List.replicate 10 0))) rfl Zr177 rfl ?_
 intro n9 hn9 hf9
 refine Tr.alloc (cs := far.zero.cells) rfl far.zr rfl ?_
 intro n10 hn10 hf10
 refine Tr.alloc (cs := far.zero.cells) rfl far.zr rfl ?_
 intro n11 hn11 hf11
 refine Tr.alloc (cs := far.zero.cells) rfl far.zr rfl ?_
 intro n12 hn12 hf12
 refine Tr.storeAll rfl rfl rfl rfl (by exact wdsV_cell _) Sz177 (by (simp [wdsV_length, hDl]; done)) (by exact mem3) (by (simp; done)) (by exact upd3) ?_
 refine Tr.storeAll rfl rfl rfl rfl (far.isCell (by exact hAZo)) Sz180 (far.length (by exact hAZo)) (by exact mem2) (far.length (by exact far.zero_ok)) (by exact upd2) ?_
 refine Tr.storeAll rfl rfl rfl rfl (far.isCell (by exact hAPo)) Sz180 (far.length (by exact hAPo)) (by exact mem1) (far.length (by exact far.zero_ok)) (by exact upd1) ?_
 refine Tr.storeAll rfl rfl rfl rfl (far.isCell (by exact hAQo)) Sz180 (far.length (by exact hAQo)) (by exact mem0) (far.length (by exact far.zero_ok)) (by exact upd0) ?_
 refine Tr.nil (at_n (Sat.seq (Sat.seq (Sat.region ?_))))
 refine Tr.assign rfl rfl rfl ?_
 refine Tr.nil (at_n (Sat.block ?_))
 refine Sat.loop (ι := Nat × far) (fun p => ⟨[(4, ptr n4 0), (6, ptr n6 0), (8, ptr n8 0), (9, ptr n9 0), (10, ptr n10 0), (11, ptr n11 0), (12, ptr n12 0), (13, i64 (255 - (p.1 : Int)))], [⟨n12, (AQ).cells, 180, 30⟩, ⟨n11, (AP).cells, 180, 30⟩, ⟨n10, (p.2).cells, 180, 30⟩, ⟨n9, wdsV D, 177, 10⟩, ⟨n8, Point.zero.cells, 79, 64⟩, ⟨n6, bytesV b, 77, (bytesV b).length⟩, ⟨n4, bytesV a, 77, (bytesV a).length⟩]⟩) (fun p => p.1 ≤ 256 ∧ FarRep p.2 (cv.lin (le a / 2 ^ (256 - p.1)) (le b / 2 ^ (256 - p.1)) P Q)) (fun p => 256 - p.1) ((0, AZ)) ?_ ?_ ?_
 · exact ⟨Nat.zero_le _, hAZ⟩
 · exact weak_of (wk1 rfl (wk1 rfl (wk1 rfl (wk1 rfl (wk1 rfl (wk1 rfl (wk1 rfl (wk1 rfl wk0)))))))) (wh1 (by exact mem0) (wh1 (by exact mem1) (wh1 (by exact mem2) (wh1 (by exact mem3) (wh1 (by exact mem4) (wh1 (by exact mem6) (wh1 (by (repeat (first | exact List.mem_cons_self | refine List.mem_cons_of_mem _ ?_))) wh0))))))) nD
 ·
  rintro p ⟨hj1, hw⟩
  have hwo := hw.fit.ok
  refine Sat.seq (Sat.seq (Sat.region ?_))
  refine Tr.move rfl rfl rfl ?_
  refine Tr.geq rfl rfl rfl rfl rfl ?_
  refine Tr.nil (at_n ?_)
  refine Sat.condP rfl (fun hc1 => ?_) (fun hc1 => ?_)
  ·
   have hj3 : p.1 < 256 := by omega
   have hu := frep_dbl hDf hDv hP hQ hw
   have cd := r5_plus D p.2 p.2 hDf hw.fit hw.fit
   revert hu cd
   generalize frT D p.2 p.2 = F1
   intro hu cd
   have huo := hu.fit.ok
   rw [show (255 : Int) - (p.1 : Int) = ((255 - p.1 : Nat) : Int) by omega]
   refine Sat.skip (at_n ?_)
   refine Sat.join (ι := far) (fun y => ⟨[(4, ptr n4 0), (6, ptr n6 0), (8, ptr n8 0), (9, ptr n9 0), (10, ptr n10 0), (11, ptr n11 0), (12, ptr n12 0), (13, i64 (((255 - p.1 : Nat) : Int)))], [⟨n12, (AQ).cells, 180, 30⟩, ⟨n11, (AP).cells, 180, 30⟩, ⟨n10, (y).cells, 180, 30⟩, ⟨n9, wdsV D, 177, 10⟩, ⟨n8, Point.zero.cells, 79, 64⟩, ⟨n6, bytesV b, 77, (bytesV b).length⟩, ⟨n4, bytesV a, 77, (bytesV a).length⟩]⟩) (fun y => FarRep y (cv.lin (le a / 2 ^ (256 - (p.1 + 1))) (le b / 2 ^ (256 - (p.1 + 1))) P Q)) ?_ ?_
   ·
    refine Sat.block (Sat.seq ?_)
    refine Sat.region ?_
    refine Tr.loadAll rfl rfl rfl Tryz.underlying177 rfl Sz177 (by exact mem3) (by (simp [wdsV_length, hDl]; done)) ?_
    refine Tr.loadAll rfl rfl rfl Tryz.underlying180 rfl Sz180 (by exact mem2) (far.length (by exact hwo)) ?_
    refine Tr.loadAll rfl rfl rfl Tryz.underlying180 rfl Sz180 (by exact mem2) (far.length (by exact hwo)) ?_
    refine Tr.callV rfl rfl rfl rfl Body191 (cd) (fun _ _ => trivial) ?_
    refine Tr.storeAll rfl rfl rfl rfl (far.isCell (by exact huo)) Sz180 (far.length (by exact huo)) (by exact mem2) (far.length (by exact hwo)) (by exact upd2) ?_
    refine Tr.nil (at_n ?_)
    refine Sat.join (ι := far) (fun x => ⟨[(4, ptr n4 0), (6, ptr n6 0), (8, ptr n8 0), (9, ptr n9 0), (10, ptr n10 0), (11, ptr n11 0), (12, ptr n12 0), (13, i64 (((255 - p.1 : Nat) : Int)))], [⟨n12, (AQ).cells, 180, 30⟩, ⟨n11, (AP).cells, 180, 30⟩, ⟨n10, (x).cells, 180, 30⟩, ⟨n9, wdsV D, 177, 10⟩, ⟨n8, Point.zero.cells, 79, 64⟩, ⟨n6, bytesV b, 77, (bytesV b).length⟩, ⟨n4, bytesV a, 77, (bytesV a).length⟩]⟩) (fun x => FarRep x (cv.lin (2 * (le a / 2 ^ (256 - p.1)) + le a / 2 ^ (255 - p.1) % 2) (2 * (le b / 2 ^ (256 - p.1))) P Q)) ?_ ?_
    ·
     refine Sat.seq (Sat.region ?_)
     refine Tr.loadAll rfl rfl rfl Tryz.underlying77 rfl Sz77 (by exact mem6) (by (simp [ha]; done)) ?_
     refine Tr.move rfl rfl rfl ?_
     refine Tr.callV rfl rfl rfl rfl Body192 (ref_bit_at a ha (255 - p.1) oM) (fun _ _ => trivial) ?_
     refine Tr.nil (at_n ?_)
     refine Sat.cond rfl (fun hc2 => ?_) (fun hc2 => ?_)
     ·
      have ca := r5_plus D F1 AP hDf hu.fit hAP.fit
      have hul := frep_l hDf hDv hP hQ hu hAP (bit_one hc2)
      revert ca hul
      generalize frT D F1 AP = F2
      intro ca hul
      have hulo := hul.fit.ok
      refine Sat.region ?_
      refine Tr.loadAll rfl rfl rfl Tryz.underlying177 rfl Sz177 (by exact mem3) (by (simp [wdsV_length, hDl]; done)) ?_
      refine Tr.loadAll rfl rfl rfl Tryz.underlying180 rfl Sz180 (by exact mem2) (far.length (by exact huo)) ?_
      refine Tr.loadAll rfl rfl rfl Tryz.underlying180 rfl Sz180 (by exact mem1) (far.length (by exact hAPo)) ?_
      refine Tr.callV rfl rfl rfl rfl Body191 (ca) (fun _ _ => trivial) ?_
      refine Tr.storeAll rfl rfl rfl rfl (far.isCell (by exact hulo)) Sz180 (far.length (by exact hulo)) (by exact mem2) (far.length (by exact huo)) (by exact upd2) ?_
      refine Tr.nil (at_n ?_)
      exact ⟨F2, hul, weak_of (wk1 rfl (wk1 rfl (wk1 rfl (wk1 rfl (wk1 rfl (wk1 rfl (wk1 rfl (wk1 rfl wk0)))))))) (wh1 (by exact mem0) (wh1 (by exact mem1) (wh1 (by exact mem2) (wh1 (by exact mem3) (wh1 (by exact mem4) (wh1 (by exact mem5) (wh1 (by exact mem6) wh0))))))) (by repeat (first | exact ns_nil | refine ns_keep rfl ?_))⟩
     ·
      refine Sat.skip (at_n ?_)
      exact ⟨F1, (by rw [bit_nil hc2, Nat.add_zero]; exact hu), weak_of (wk1 rfl (wk1 rfl (wk1 rfl (wk1 rfl (wk1 rfl (wk1 rfl (wk1 rfl (wk1 rfl wk0)))))))) (wh1 (by exact mem0) (wh1 (by exact mem1) (wh1 (by exact mem2) (wh1 (by exact mem3) (wh1 (by exact mem4) (wh1 (by exact mem5) (wh1 (by exact mem6) wh0))))))) (by repeat (first | exact ns_nil | refine ns_keep rfl ?_))⟩
    ·
     intro x hj
     have hx := hj
     have hxo := hx.fit.ok
     refine Sat.seq (Sat.region ?_)
     refine Tr.loadAll rfl rfl rfl Tryz.underlying77 rfl Sz77 (by exact mem5) (by (simp [hb]; done)) ?_
     refine Tr.move rfl rfl rfl ?_
     refine Tr.callV rfl rfl rfl rfl Body192 (ref_bit_at b hb (255 - p.1) oM) (fun _ _ => trivial) ?_
     refine Tr.nil (at_n ?_)
     refine Sat.cond rfl (fun hc3 => ?_) (fun hc3 => ?_)
     ·
      have cx := r5_plus D x AQ hDf hx.fit hAQ.fit
      have hxr := frep_r hDf hDv hP hQ hx hAQ (bit_one hc3)
      revert cx hxr
      generalize frT D x AQ = F3
      intro cx hxr
      have hxro := hxr.fit.ok
      refine Sat.region ?_
      refine Tr.loadAll rfl rfl rfl Tryz.underlying177 rfl Sz177 (by exact mem3) (by (simp [wdsV_length, hDl]; done)) ?_
      refine Tr.loadAll rfl rfl rfl Tryz.underlying180 rfl Sz180 (by exact mem2) (far.length (by exact hxo)) ?_
      refine Tr.loadAll rfl rfl rfl Tryz.underlying180 rfl Sz180 (by exact mem0) (far.length (by exact hAQo)) ?_
      refine Tr.callV rfl rfl rfl rfl Body191 (cx) (fun _ _ => trivial) ?_
      refine Tr.storeAll rfl rfl rfl rfl (far.isCell (by exact hxro)) Sz180 (far.length (by exact hxro)) (by exact mem2) (far.length (by exact hxo)) (by exact upd2) ?_
      refine Tr.nil (bl_n (at_n ?_))
      exact ⟨F3, (by rw [lin_d (b := 0) hj3, lin_d (b := 0) hj3]; exact hxr), weak_of (wk1 rfl (wk1 rfl (wk1 rfl (wk1 rfl (wk1 rfl (wk1 rfl (wk1 rfl (wk1 rfl wk0)))))))) (wh1 (by exact mem0) (wh1 (by exact mem1) (wh1 (by exact mem2) (wh1 (by exact mem3) (wh1 (by exact mem4) (wh1 (by exact mem5) (wh1 (by exact mem6) wh0))))))) (by repeat (first | exact ns_nil | refine ns_keep rfl ?_))⟩
     ·
      refine Sat.skip (bl_n (at_n ?_))
      exact ⟨x, (by rw [lin_d (b := 0) hj3, lin_d (b := 0) hj3, bit_nil (E := le b) hc3, Nat.add_zero]; exact hx), weak_of (wk1 rfl (wk1 rfl (wk1 rfl (wk1 rfl (wk1 rfl (wk1 rfl (wk1 rfl (wk1 rfl wk0)))))))) (wh1 (by exact mem0) (wh1 (by exact mem1) (wh1 (by exact mem2) (wh1 (by exact mem3) (wh1 (by exact mem4) (wh1 (by exact mem5) (wh1 (by exact mem6) wh0))))))) (by repeat (first | exact ns_nil | refine ns_keep rfl ?_))⟩
   ·
    intro y hj
    have hy := hj
    have hyo := hy.fit.ok
    refine Sat.region ?_
    refine Tr.move rfl rfl rfl ?_
    refine Tr.sub_i64 rfl rfl rfl rfl oM ?_
    refine Tr.assign rfl rfl rfl ?_
    refine Tr.nil (at_n ?_)
    exact ⟨(p.1 + 1, y), ⟨by simp only []; omega, hy⟩, by simp only []; omega, weak_of (wk1 rfl (wk1 rfl (wk1 rfl (wk1 rfl (wk1 rfl (wk1 rfl (wk1 rfl (wk1 (congrArg (fun z => some (i64 z)) (show ((255 - p.1 : Nat) : Int) - 1 = 255 - ((p.1 + 1 : Nat) : Int) by omega)) wk0)))))))) (wh1 (by exact mem0) (wh1 (by exact mem1) (wh1 (by exact mem2) (wh1 (by exact mem3) (wh1 (by exact mem4) (wh1 (by exact mem5) (wh1 (by exact mem6) wh0))))))) (by repeat (first | exact ns_nil | refine ns_keep rfl ?_))⟩
  ·
   have hje : p.1 = 256 := by omega
   have hfin : FarRep p.2 (cv.lin (le a) (le b) P Q) := by rw [hje, lin_last] at hw; exact hw
   refine Sat.exit (at_x (at_x (bl_h (at_n (Sat.seq (Sat.region ?_))))))
   refine Tr.loadAll rfl rfl rfl Tryz.underlying180 rfl Sz180 (by exact mem2) (far.length (by exact hwo)) ?_
   refine Tr.callV rfl rfl rfl rfl Body193 (r5_near p.2 _ hfin) (fun _ _ => trivial) ?_
   refine Tr.storeAll rfl rfl rfl rfl (Point.isCell (by exact ptc_ok _)) Sz79 (Point.length (by exact ptc_ok _)) (by exact mem4) (Point.length (by exact Point.zero_ok)) (by exact upd4) ?_
   refine Tr.nil (at_n (Sat.ret (en_r ?_)))
   refine ⟨_, [], res_cell rfl rfl Tryz.underlying79 rfl Sz79 (by exact mem4) (by exact Point.length (by exact ptc_ok _)), sP, sP, ?_, rfl⟩
   rfl

theorem r5_Mul2z (a : List UInt8) (P : Pt Fp) (ha : a.length = 32) (hP : cv.on P) : Meets Tryz.prog 114 [agg (bytesV a), agg (ptc P).cells, agg (bytesV (List.replicate 32 0)), agg (ptc (zero : Pt Fp)).cells] [] (fun _ => True) (fun v out => v = agg (ptc (cv.mul (le a) P)).cells ∧ out = []) := by
  have h := r5_Mul2 a (List.replicate 32 0) P zero ha rfl hP cv.on_zero
  rwa [le_zero32, lin_one] at h

set_option maxRecDepth 100000 in
set_option maxHeartbeats 1000000 in
theorem r5_Mul (a : List UInt8) (P : Pt Fp) (ha : a.length = 32) (hP : cv.on P) : Meets Tryz.prog 65 [agg (bytesV a), agg (ptc P).cells] [] (fun _ => True) (fun v out => v = agg (ptc (cv.mul (le a) P)).cells ∧ out = []) := by
 intro W hW
 refine calls_of (hp0 := []) Tryz.func65 rfl 10 Tryz.ntmps65 rfl (HRep.nil _) ?_
 refine Sat.seq (Sat.region ?_)
 refine Tr.boxA rfl rfl ?_
 intro n2 hn2 hf2
 refine Tr.boxA rfl rfl ?_
 intro n3 hn3 hf3
 refine Tr.alloc (cs := Point.zero.cells) rfl Point.zr rfl ?_
 intro n4 hn4 hf4
 refine Tr.nil (at_n (Sat.seq ?_))
 refine Sat.draw [(1, 0), (1, 1), (0, 2), (3, 3), (3, 4), (4, 5)] Mixed (by kernel_rfl) ?_
 refine Tr.loadAll rfl rfl rfl Tryz.underlying77 rfl Sz77 (by exact mem2) (by (simp [ha]; done)) ?_
 refine Tr.loadAll rfl rfl rfl Tryz.underlying79 rfl Sz79 (by exact mem1) (Point.length (by exact ptc_ok _)) ?_
 refine Tr.build (cs := bytesV (List.replicate 32 0)) rfl rfl rfl (fun w => by kernel_rfl) ?_
 refine Tr.callV rfl rfl rfl rfl Body120 (r5_Zero) (fun _ _ => trivial) ?_
 refine Tr.callV rfl rfl rfl rfl Body114 (r5_Mul2z a P ha hP) (fun _ _ => trivial) ?_
 refine Tr.storeAll rfl rfl rfl rfl (Point.isCell (by exact ptc_ok _)) Sz79 (Point.length (by exact ptc_ok _)) (by exact mem0) (Point.length (by exact Point.zero_ok)) (by exact upd0) ?_
 refine Tr.nil (at_n (Sat.ret (en_r ?_)))
 refine ⟨_, [], res_cell rfl rfl Tryz.underlying79 rfl Sz79 (by exact mem0) (by exact Point.length (by exact ptc_ok _)), sP, sP, ?_, rfl⟩
 rfl

set_option maxRecDepth 100000 in
set_option maxHeartbeats 2000000 in
theorem r5_Bytes (P : Pt Fp) (hP : cv.on P) : Meets Tryz.prog 64 [agg (ptc P).cells] [] (fun _ => True) (fun v out => v = .tuple #[agg (bytesV (pb P)), i64 0] ∧ out = []) := by
 intro W hW
 refine calls_of (hp0 := []) Tryz.func64 rfl 19 Tryz.ntmps64 rfl (HRep.nil _) ?_
 refine Sat.seq (Sat.region ?_)
 refine Tr.boxA rfl rfl ?_
 intro n1 hn1 hf1
 refine Tr.alloc (cs := (bytesV (List.replicate 32 0))) rfl Zr23 rfl ?_
 intro n2 hn2 hf2
 refine Tr.assign rfl rfl rfl ?_
 refine Tr.nil (at_n (Sat.seq (Sat.seq (Sat.region ?_))))
 refine Tr.loadAll rfl rfl rfl Tryz.underlying79 rfl Sz79 (by exact mem1) (Point.length (by exact ptc_ok _)) ?_
 refine Tr.callV rfl rfl rfl rfl Body118 (r5_Check P hP) (fun _ _ => trivial) ?_
 refine Tr.nei rfl rfl rfl rfl (show (!decide _) = false from congrArg not (decide_eq_true (rfl))) ?_
 refine Tr.nil (at_n ?_)
 refine Sat.cond_f rfl (rfl) ?_
 refine Sat.skip (at_n (Sat.seq (Sat.region ?_)))
 refine Tr.fld rfl rfl rfl Tryz.underlying79 rfl Sz77 dE _ rfl ?_
 refine Tr.loadN (bytesV _) rfl rfl rfl Tryz.underlying77 rfl Sz77 (by exact mem1) (Point.row_fY (by exact ptc_ok _)) (Point.rl_fY (by exact ptc_ok _)) ?_
 refine Tr.alloc (cs := (bytesV (List.replicate 32 0))) rfl Zr23 rfl ?_
 intro n4 hn4 hf4
 refine Tr.storeAll rfl rfl rfl rfl (by exact bytesV_cell _) Sz23 (by (simp [fb_length, ptc_y]; done)) (by exact mem0) (by (simp; done)) (by exact upd0) ?_
 refine Tr.nil (at_n ?_)
 refine Sat.join (ι := Unit) (fun _u => ⟨[(2, ptr n2 0), (4, ptr n4 0)], [⟨n4, bytesV (pb P), 23, 32⟩, ⟨n2, bytesV (List.replicate 32 0), 23, 32⟩]⟩) (fun _u => True) ?_ ?_
 ·
  refine Sat.seq (Sat.region ?_)
  refine Tr.fld rfl rfl rfl Tryz.underlying79 rfl Sz77 dE _ rfl ?_
  refine Tr.loadN (bytesV _) rfl rfl rfl Tryz.underlying77 rfl Sz77 (by exact mem2) (Point.row_fX (by exact ptc_ok _)) (Point.rl_fX (by exact ptc_ok _)) ?_
  refine Tr.callV rfl rfl rfl rfl Body119 (r_odd P.x) (fun _ _ => trivial) ?_
  refine Tr.nil (at_n ?_)
  refine Sat.condP rfl (fun hc1 => ?_) (fun hc1 => ?_)
  ·
   refine Sat.region ?_
   refine Tr.idxArr1 rfl rfl rfl rfl Tryz.underlying23 Sz5 31 rfl dE ?_
   refine Tr.load1 rfl rfl rfl Tryz.underlying5 rfl (by exact mem0) (get_bytes (by show 31 < (fb P.y).length; rw [fb_length]; decide)) ?_
   refine Tr.add_u8 rfl rfl rfl (show evIn _ _ = some (u8 128) from rfl) ?_
   refine Tr.idxArr1 rfl rfl rfl rfl Tryz.underlying23 Sz5 31 rfl dE ?_
   rw [show ((ptc P).fY.getD 31 0 + 128 : UInt8) = (fb P.y).getD 31 0 ||| 128 from byte_plus _ (fb_top P.y)]
   refine Tr.store1 rfl rfl rfl rfl rfl Sz5 (by exact mem0) (by (simp [fb_length, ptc_y]; done)) (by exact set_bytes _ _ _) (by exact upd0) ?_
   refine Tr.nil (at_n ?_)
   (rw [show pb P = (fb P.y).set 31 ((fb P.y).getD 31 0 ||| 128) from if_pos hc1]; exact ⟨(), trivial, weak_of (wk1 rfl (wk1 rfl wk0)) (wh1 (by exact mem0) (wh1 (by exact mem1) wh0)) (by repeat (first | exact ns_nil | refine ns_keep rfl ?_))⟩)
  ·
   refine Sat.skip (at_n ?_)
   (rw [show pb P = fb P.y from if_neg hc1]; exact ⟨(), trivial, weak_of (wk1 rfl (wk1 rfl wk0)) (wh1 (by exact mem0) (wh1 (by exact mem1) wh0)) (by repeat (first | exact ns_nil | refine ns_keep rfl ?_))⟩)
 ·
  intro _u hj
  skip
  refine Sat.seq (Sat.region ?_)
  refine Tr.loadAll rfl rfl rfl Tryz.underlying23 rfl Sz23 (by exact mem0) (by (simp [pb_length]; done)) ?_
  refine Tr.storeAll rfl rfl rfl rfl (by exact bytesV_cell _) Sz23 (by (simp [pb_length]; done)) (by exact mem1) (by (simp; done)) (by exact upd1) ?_
  refine Tr.assign rfl rfl rfl ?_
  refine Tr.nil (at_n (Sat.ret (en_r ?_)))
  refine ⟨_, [], res_cell_tmp rfl rfl rfl Tryz.underlying23 rfl Sz23 (by exact mem1) (by simp [pb_length]), sP, sP, ?_, rfl⟩
  rfl

end Go.Proofs.YtpacobmjjjillaaGreat
end

section
namespace Hw
open Go
set_option linter.unusedSimpArgs false
set_option linter.unusedVariables false
set_option maxRecDepth 100000

def ev : List Nat → Nat
  | [] => 0
  | x :: l => x + 256 * ev l
def addC (l : List Nat) (k v : Nat) : List Nat := l.set k (l.getD k 0 + v)
def inn (a b : List UInt8) (i : Nat) (l : List Nat) : Nat → List Nat
  | 0 => l
  | q + 1 => addC (inn a b i l q) (i + q) ((a.getD i 0).toNat * (b.getD q 0).toNat)
def out (a b : List UInt8) : Nat → List Nat
  | 0 => List.replicate 64 0
  | p + 1 => inn a b p (out a b p) 32
end Hw
end

section
namespace Go.Proofs.YtpacobmjjjillaaGreat
open Go Hw
set_option linter.unusedVariables false
set_option linter.unusedSimpArgs false

open Ed

set_option maxRecDepth 100000 in
theorem byte_8 : ∀ b : UInt8, b - UInt8.ofNat (b.toNat % 8) = b &&& 248 ∧ UInt8.ofNat (b.toNat % 64) + 64 = (b &&& 127) ||| 64 := by
  intro b
  have h : ∀ n, n < 256 → UInt8.ofNat n - UInt8.ofNat ((UInt8.ofNat n).toNat % 8) = UInt8.ofNat n &&& 248 ∧ UInt8.ofNat ((UInt8.ofNat n).toNat % 64) + 64 = (UInt8.ofNat n &&& 127) ||| 64 := by decide
  have h2 := h b.toNat b.toNat_lt
  rwa [UInt8.ofNat_toNat] at h2
theorem clamp_ref {l : List UInt8} (h : l.length = 32) : (l.set 0 (l.getD 0 0 - UInt8.ofNat ((l.getD 0 0).toNat % 8))).set 31 (UInt8.ofNat (((l.set 0 (l.getD 0 0 - UInt8.ofNat ((l.getD 0 0).toNat % 8))).getD 31 0).toNat % 64) + 64) = clampB l := by
  have g : (l.set 0 (l.getD 0 0 - UInt8.ofNat ((l.getD 0 0).toNat % 8))).getD 31 0 = l.getD 31 0 := by
    rw [List.getD_eq_getElem?_getD, List.getElem?_set_ne dE, ← List.getD_eq_getElem?_getD]
  rw [g, (byte_8 _).1, (byte_8 _).2]
  rfl
theorem upd_all {f : List UInt8} (h : f.length = 32) : upd (bytesV (List.replicate 32 0)) 0 (bytesV f) = bytesV f := by simp [upd, bytesV, h]
theorem sees_take {w : World} {b n : Nat} {l : List UInt8} (h : Sees w b 0 (bytesV l)) : SeesP w (some ⟨b, 0, none⟩) (bytesV (l.take n)) := SeesP.of (fun i v hv => h i v (take_sees hv))
theorem sees_drop {w : World} {b n : Nat} {l : List UInt8} (h : Sees w b 0 (bytesV l)) : SeesP w (some ⟨b, n, none⟩) (bytesV (l.drop n)) := SeesP.of (fun i v hv => by
  have e : (bytesV l)[n + i]? = some v := by rw [bytesV, List.map_drop, List.getElem?_drop] at hv; exact hv
  have := h _ v e
  rwa [Nat.zero_add] at this)

set_option maxRecDepth 100000 in
set_option maxHeartbeats 8000000 in
theorem r6_secret (seed : List UInt8) (h32 : seed.length = 32) (s : List UInt8) (hs : Hid (sha512 seed = s)) : Meets Tryz.prog 121 [agg (bytesV seed)] [] (fun _ => True) (fun v out => ∃ q c, v = .tuple #[agg (bytesV (clampB (s.take 32))), .slice (some ⟨q, 0, none⟩) 32 c] ∧ 32 ≤ c ∧ out = [⟨q, bytesV (s.drop 32), 5, c * 1⟩]) := by
 intro W hW
 have hs64 : s.length = 64 := by rw [← hs.out]; exact sha512_length seed
 have ht32 : (s.take 32).length = 32 := by rw [List.length_take, hs64]; rfl
 have hd32 : (s.drop 32).length = 32 := by rw [List.length_drop, hs64]
 have hcl := clampB_length ht32
 refine calls_of (hp0 := []) Tryz.func121 rfl 28 Tryz.ntmps121 rfl (HRep.nil _) ?_
 refine Sat.seq (Sat.region ?_)
 refine Tr.boxA rfl rfl ?_
 intro n1 hn1 hf1
 refine Tr.alloc (cs := (bytesV (List.replicate 32 0))) rfl Zr77 rfl ?_
 intro n2 hn2 hf2
 refine Tr.assign rfl rfl rfl ?_
 refine Tr.nil (at_n (Sat.seq (Sat.region ?_)))
 refine Tr.sliceArr rfl rfl rfl Tryz.underlying23 Sz5 ?_
 refine Tr.mkRow2 (z := .slice none 0 0) [.slice (some ⟨n1, 0, none⟩) 32 32] [.slice (some ⟨n1, 0, none⟩) 32 32] rfl rfl Tryz.underlying133 Sz39 Zr39 rfl rfl (by intro v hv; rw [List.mem_singleton.1 hv]; rfl) dE rfl ?_
 intro q7
 refine Tr.callV rfl rfl rfl rfl Body136 (r2_Sum512 (some ⟨q7, 0, none⟩) 1 1 [⟨some ⟨n1, 0, none⟩, 32, 32⟩] [seed] rfl rfl (fun j hj => (by
   rcases (show j = 0 by omega) with rfl
   · exact ⟨by show 32 = List.length _; exact h32.symm, fun e => by cases e⟩)) (seed) sP (by (simp [h32]; done)) dE s hs) (fun w h => ⟨SeesP.of (sees_own h (by exact mem0)), (fun j hj => (by
   rcases (show j = 0 by omega) with rfl
   · exact SeesP.of (sees_own (cs := bytesV seed) h (by exact mem2))))⟩) ?_
 refine Tr.alloc (cs := (bytesV (List.replicate 64 0))) rfl Zr26 rfl ?_
 intro n4 hn4 hf4
 refine Tr.storeAll rfl rfl rfl rfl (by exact bytesV_cell _) Sz26 (by (simp [hs64]; done)) (by exact mem0) (by (simp; done)) (by exact upd0) ?_
 refine Tr.nil (at_n (Sat.seq (Sat.region ?_)))
 refine Tr.alloc (cs := (bytesV (List.replicate 32 0))) rfl Zr77 rfl ?_
 intro n5 hn5 hf5
 refine Tr.nil (at_n (Sat.seq ?_))
 refine Sat.draw [(0, 0), (0, 1), (4, 2)] Mixed (by kernel_rfl) ?_
 refine Tr.sliceArr rfl rfl rfl Tryz.underlying77 Sz5 ?_
 refine Tr.sliceArrHi 32 rfl rfl rfl rfl rfl dE dE Tryz.underlying26 Sz5 ?_
 refine Tr.copyP (bytesV (s.take 32)) 32 rfl rfl rfl rfl rfl Tryz.underlying39 Sz5 (fun w h => sees_take (sees_own h (by exact mem1))) (fun e => by cases e) (by rw [bytesV, List.length_map]; exact ht32) rfl (by rw [bytesV, ← List.map_take, List.take_of_length_le (Nat.le_of_eq ht32)]) (bytesV_cell _) (by exact mem0) (by (simp; done)) (by exact upd_all ht32) (by exact upd0) ?_
 refine Tr.nil (at_n (Sat.seq (Sat.region ?_)))
 refine Tr.idxArr1 rfl rfl rfl rfl Tryz.underlying77 Sz5 0 rfl dE ?_
 refine Tr.load1 rfl rfl rfl Tryz.underlying5 rfl (by exact mem0) (by exact get_bytes oM) ?_
 refine Tr.idxArr1 rfl rfl rfl rfl Tryz.underlying77 Sz5 0 rfl dE ?_
 refine Tr.load1 rfl rfl rfl Tryz.underlying5 rfl (by exact mem0) (by exact get_bytes oM) ?_
 refine Tr.rem_u8 rfl rfl rfl rfl 8 rfl dE ?_
 refine Tr.sub_u8 rfl rfl rfl rfl ?_
 refine Tr.idxArr1 rfl rfl rfl rfl Tryz.underlying77 Sz5 0 rfl dE ?_
 refine Tr.store1 rfl rfl rfl rfl rfl Sz5 (by exact mem0) (by (simp [hs64]; done)) (by exact set_bytes _ _ _) (by exact upd0) ?_
 refine Tr.nil (at_n (Sat.seq (Sat.region ?_)))
 refine Tr.idxArr1 rfl rfl rfl rfl Tryz.underlying77 Sz5 31 rfl dE ?_
 refine Tr.load1 rfl rfl rfl Tryz.underlying5 rfl (by exact mem0) (by exact get_bytes (by (simp [ht32]; done))) ?_
 refine Tr.rem_u8 rfl rfl rfl rfl 64 rfl dE ?_
 refine Tr.add_u8 rfl rfl rfl (show evIn _ _ = some (u8 64) from rfl) ?_
 refine Tr.idxArr1 rfl rfl rfl rfl Tryz.underlying77 Sz5 31 rfl dE ?_
 refine Tr.store1 rfl rfl rfl rfl rfl Sz5 (by exact mem0) (by (simp [hs64, ht32]; done)) (by exact set_bytes _ _ _) (by exact upd0) ?_
 refine Tr.nil (at_n (Sat.seq ?_))
 refine Sat.withK (sp_k (sp_v (sp_v (sp_v (sp_v sp_n))))) rfl ?_
 refine Sat.draw [(0, 0), (0, 2), (2, 1), (4, 3), (4, 4), (0, 5)] Mixed (by kernel_rfl) ?_
 rw [clamp_ref ht32]
 refine Tr.kloadAll rfl rfl rfl Tryz.underlying77 rfl Sz77 (by exact mem0) (by (simp [hcl]; done)) ?_
 refine Tr.sliceArrLo 32 rfl rfl rfl rfl rfl dE Tryz.underlying26 Sz5 ?_
 refine Tr.mkRow2 (z := u8 0) [] [] rfl rfl Tryz.underlying39 Sz5 Zr5 rfl rfl (by intro v hv; cases hv) dE rfl ?_
 intro q25
 refine Tr.appendSl (z := u8 0) (by' := 1) (bytesV (s.drop 32)) rfl rfl rfl rfl rfl Tryz.underlying39 Tryz.underlying39 Sz5 Zr5 (by unfold By; kernel_rfl) rfl (fun w h => sees_drop (sees_own h (by exact mem1))) (fun e => by cases e) (bytesV_cell _) (by repeat (exact rem_here)) rfl rfl oM oM oM (by rw [bytesV, List.length_map]; exact hd32) ?_
 intro q27 c27 hq27
 refine Tr.storeAll rfl rfl rfl rfl (by exact bytesV_cell _) Sz77 (by (simp [hcl]; done)) (by exact mem3) (by (simp; done)) (by exact upd3) ?_
 refine Tr.assign rfl rfl rfl ?_
 refine Tr.nil (at_n (Sat.ret (en_r ?_)))
 simp only [List.cons_append, List.nil_append, List.append_nil]
 refine end_perm (out := (⟨q27, [] ++ bytesV (s.drop 32), 5, c27 * 1⟩ :: [])) (res_cell_tmp rfl rfl rfl Tryz.underlying77 rfl Sz77 (by exact mem3) (by simp [hcl])) (pm_cons (by repeat (exact rem_here)) pm_nil) ?_
 exact ⟨q27, c27, rfl, by omega, rfl⟩

set_option maxRecDepth 100000 in
set_option maxHeartbeats 2000000 in
theorem r6_Secret (seed : List UInt8) (h32 : seed.length = 32) (s : List UInt8) (hs : Hid (sha512 seed = s)) : Meets Tryz.prog 66 [agg (bytesV seed)] [] (fun _ => True) (fun v out => v = agg (bytesV (clampB (s.take 32))) ∧ out = []) := by
 intro W hW
 have hs64 : s.length = 64 := by rw [← hs.out]; exact sha512_length seed
 have ht32 : (s.take 32).length = 32 := by rw [List.length_take, hs64]; rfl
 have hd32 : (s.drop 32).length = 32 := by rw [List.length_drop, hs64]
 have hcl := clampB_length ht32
 revert hcl
 have hsec := r6_secret seed h32 s hs
 revert hsec
 generalize clampB (s.take 32) = N
 intro hsec hcl
 refine calls_of (hp0 := []) Tryz.func66 rfl 11 Tryz.ntmps66 rfl (HRep.nil _) ?_
 refine Sat.seq (Sat.region ?_)
 refine Tr.boxA rfl rfl ?_
 intro n1 hn1 hf1
 refine Tr.alloc (cs := (bytesV (List.replicate 32 0))) rfl Zr77 rfl ?_
 intro n2 hn2 hf2
 refine Tr.nil (at_n (Sat.seq (Sat.region ?_)))
 refine Tr.loadAll rfl rfl rfl Tryz.underlying23 rfl Sz23 (by exact mem1) (by (simp [h32]; done)) ?_
 refine Tr.call4 rfl rfl rfl rfl rfl Body121 (hsec) (fun _ _ => trivial) ?_
 rintro v7 out7 ⟨q7, c7, rfl, hc7, rfl⟩
 simp only [List.cons_append, List.nil_append]
 refine Tr.move rfl rfl rfl ?_
 refine Tr.extract rfl rfl rfl rfl ?_
 refine Tr.extract rfl rfl rfl rfl ?_
 refine Tr.alloc (cs := (bytesV (List.replicate 32 0))) rfl Zr77 rfl ?_
 intro n3 hn3 hf3
 refine Tr.storeAll rfl rfl rfl rfl (by exact bytesV_cell _) Sz77 (by (simp [hcl]; done)) (by exact mem0) (by (simp; done)) (by exact upd0) ?_
 refine Tr.assign rfl rfl rfl ?_
 refine Tr.nil (at_n (Sat.seq (Sat.region ?_)))
 refine Tr.loadAll rfl rfl rfl Tryz.underlying77 rfl Sz77 (by exact mem0) (by (simp [hcl]; done)) ?_
 refine Tr.storeAll rfl rfl rfl rfl (by exact bytesV_cell _) Sz77 (by (simp [hcl]; done)) (by exact mem2) (by (simp; done)) (by exact upd2) ?_
 refine Tr.nil (at_n (Sat.ret (en_r ?_)))
 refine ⟨_, [], res_cell rfl rfl Tryz.underlying77 rfl Sz77 (by exact mem2) (by simp [hcl]), sP, sP, ?_, rfl⟩
 rfl

theorem r6_KeyQ (N : List UInt8) (hN : N.length = 32) (Q : Pt Fp) (hQ : cv.mul (le N) bP = Q) : cv.on Q ∧ Meets Tryz.prog 65 [agg (bytesV N), agg (ptc bP).cells] [] (fun _ => True) (fun v out => v = agg (ptc Q).cells ∧ out = []) := by
  rw [← hQ]; exact ⟨cv.on_mul bP_on _, r5_Mul N bP hN bP_on⟩

set_option maxRecDepth 100000 in
set_option maxHeartbeats 4000000 in
theorem r6_Key (seed : List UInt8) (h32 : seed.length = 32) (s : List UInt8) (hs : Hid (sha512 seed = s)) : Meets Tryz.prog 18 [agg (bytesV seed)] [] (fun _ => True) (fun v out => v = agg (bytesV (sgK s)) ∧ out = []) := by
 intro W hW
 have hs64 : s.length = 64 := by rw [← hs.out]; exact sha512_length seed
 have ht32 : (s.take 32).length = 32 := by rw [List.length_take, hs64]; rfl
 have hd32 : (s.drop 32).length = 32 := by rw [List.length_drop, hs64]
 have hcl := clampB_length ht32
 obtain ⟨Q, hQ⟩ : ∃ Q, cv.mul (le (clampB (s.take 32))) bP = Q := ⟨_, rfl⟩
 have hsec := r6_Secret seed h32 s hs
 have hkq := r6_KeyQ (clampB (s.take 32)) hcl Q hQ
 rw [show sgK s = pb Q from by rw [sgK, hQ]]
 clear hQ
 revert hcl hsec hkq
 generalize clampB (s.take 32) = N
 intro hcl hsec hkq
 obtain ⟨hQo, hmul⟩ := hkq
 refine calls_of (hp0 := []) Tryz.func18 rfl 14 Tryz.ntmps18 rfl (HRep.nil _) ?_
 refine Sat.seq (Sat.region ?_)
 refine Tr.boxA rfl rfl ?_
 intro n1 hn1 hf1
 refine Tr.alloc (cs := (bytesV (List.replicate 32 0))) rfl Zr25 rfl ?_
 intro n2 hn2 hf2
 refine Tr.nil (at_n (Sat.seq (Sat.region ?_)))
 refine Tr.loadAll rfl rfl rfl Tryz.underlying23 rfl Sz23 (by exact mem1) (by (simp [h32]; done)) ?_
 refine Tr.callV rfl rfl rfl rfl Body66 (hsec) (fun _ _ => trivial) ?_
 refine Tr.callV rfl rfl rfl rfl Body67 (r5_Base) (fun _ _ => trivial) ?_
 refine Tr.callV rfl rfl rfl rfl Body65 (hmul) (fun _ _ => trivial) ?_
 refine Tr.callV rfl rfl rfl rfl Body64 (r5_Bytes Q hQo) (fun _ _ => trivial) ?_
 refine Tr.move rfl rfl rfl ?_
 refine Tr.extract rfl rfl rfl rfl ?_
 refine Tr.extract rfl rfl rfl rfl ?_
 refine Tr.alloc (cs := (bytesV (List.replicate 32 0))) rfl Zr23 rfl ?_
 intro n3 hn3 hf3
 refine Tr.storeAll rfl rfl rfl rfl (by exact bytesV_cell _) Sz23 (by (simp [pb_length]; done)) (by exact mem0) (by (simp; done)) (by exact upd0) ?_
 refine Tr.assign rfl rfl rfl ?_
 refine Tr.nil (at_n (Sat.seq (Sat.region ?_)))
 refine Tr.loadAll rfl rfl rfl Tryz.underlying23 rfl Sz23 (by exact mem0) (by (simp [pb_length]; done)) ?_
 refine Tr.storeAll rfl rfl rfl rfl (by exact bytesV_cell _) Sz25 (by (simp [pb_length]; done)) (by exact mem1) (by (simp; done)) (by exact upd1) ?_
 refine Tr.nil (at_n (Sat.ret (en_r ?_)))
 refine ⟨_, [], res_cell rfl rfl Tryz.underlying25 rfl Sz25 (by exact mem1) (by simp [pb_length]), sP, sP, ?_, rfl⟩
 rfl

end Go.Proofs.YtpacobmjjjillaaGreat
end

section
namespace Go.Proofs.YtpacobmjjjillaaGreat
open Go Hw
set_option linter.unusedVariables false
set_option linter.unusedSimpArgs false

def vcmp (a b : Vote) : Int := orI [cmpI (a.fHeight.toNat : Int) (b.fHeight.toNat : Int), cmpI (a.fRound.toNat : Int) (b.fRound.toNat : Int), cmpI a.fPhase b.fPhase, cmpB a.fVoter b.fVoter, cmpB a.fValue b.fValue, cmpI (a.fProof.toNat : Int) (b.fProof.toNat : Int)]
def same4 (a b : Vote) : Bool := decide (a.fVoter = b.fVoter) && (decide ((a.fHeight.toNat : Int) = (b.fHeight.toNat : Int)) && (decide ((a.fRound.toNat : Int) = (b.fRound.toNat : Int)) && decide (a.fPhase = b.fPhase)))
def against (a b : Vote) : Bool := same4 a b && (!decide (a.fValue = b.fValue) || !decide ((a.fProof.toNat : Int) = (b.fProof.toNat : Int)))

set_option maxRecDepth 100000 in
set_option maxHeartbeats 1000000 in
theorem vote_cmp (a b : Vote) (ha : a.ok) (hb : b.ok) : Meets Tryz.prog 32 [agg a.cells, agg b.cells] [] (fun _ => True) (fun v out => v = i64 (vcmp a b) ∧ out = []) := by
 intro W hW
 refine calls_of (hp0 := []) Tryz.func32 rfl 39 Tryz.ntmps32 rfl (HRep.nil _) ?_
 refine Sat.seq (Sat.region ?_)
 refine Tr.boxA rfl rfl ?_
 intro n2 hn2 hf2
 refine Tr.boxA rfl rfl ?_
 intro n3 hn3 hf3
 refine Tr.assign rfl rfl rfl ?_
 refine Tr.nil (at_n (Sat.seq ?_))
 refine Sat.draw [(0, 0), (1, 1), (0, 2), (1, 3), (0, 5), (1, 6), (0, 7), (1, 8), (0, 10), (1, 11), (0, 12), (1, 13), (0, 15), (0, 16), (0, 17), (0, 18), (0, 20), (0, 21), (0, 22), (0, 23), (0, 25), (1, 26), (0, 27), (1, 28), (3, 4), (3, 9), (3, 14), (3, 19), (3, 24), (3, 29), (0, 30), (2, 31), (4, 32)] Mixed (by kernel_rfl) ?_
 refine Tr.fld rfl rfl rfl Tryz.underlying29 rfl Sz22 dE _ rfl ?_
 refine Tr.load1 rfl rfl rfl Tryz.underlying22 rfl (by exact mem1) (by exact Vote.get_fHeight (by assumption)) ?_
 refine Tr.fld rfl rfl rfl Tryz.underlying29 rfl Sz22 dE _ rfl ?_
 refine Tr.load1 rfl rfl rfl Tryz.underlying22 rfl (by exact mem0) (by exact Vote.get_fHeight (by assumption)) ?_
 refine Tr.fld rfl rfl rfl Tryz.underlying29 rfl Sz22 dE _ rfl ?_
 refine Tr.load1 rfl rfl rfl Tryz.underlying22 rfl (by exact mem1) (by exact Vote.get_fRound (by assumption)) ?_
 refine Tr.fld rfl rfl rfl Tryz.underlying29 rfl Sz22 dE _ rfl ?_
 refine Tr.load1 rfl rfl rfl Tryz.underlying22 rfl (by exact mem0) (by exact Vote.get_fRound (by assumption)) ?_
 refine Tr.fld rfl rfl rfl Tryz.underlying29 rfl Sz3 dE _ rfl ?_
 refine Tr.load1 rfl rfl rfl Tryz.underlying3 rfl (by exact mem1) (by exact Vote.get_fPhase (by assumption)) ?_
 refine Tr.fld rfl rfl rfl Tryz.underlying29 rfl Sz3 dE _ rfl ?_
 refine Tr.load1 rfl rfl rfl Tryz.underlying3 rfl (by exact mem0) (by exact Vote.get_fPhase (by assumption)) ?_
 refine Tr.fld rfl rfl rfl Tryz.underlying29 rfl Sz25 dE _ rfl ?_
 refine Tr.sliceArr rfl rfl rfl Tryz.underlying25 Sz5 ?_
 refine Tr.fld rfl rfl rfl Tryz.underlying29 rfl Sz25 dE _ rfl ?_
 refine Tr.sliceArr rfl rfl rfl Tryz.underlying25 Sz5 ?_
 refine Tr.fld rfl rfl rfl Tryz.underlying29 rfl Sz24 dE _ rfl ?_
 refine Tr.sliceArr rfl rfl rfl Tryz.underlying24 Sz5 ?_
 refine Tr.fld rfl rfl rfl Tryz.underlying29 rfl Sz24 dE _ rfl ?_
 refine Tr.sliceArr rfl rfl rfl Tryz.underlying24 Sz5 ?_
 refine Tr.fld rfl rfl rfl Tryz.underlying29 rfl Sz22 dE _ rfl ?_
 refine Tr.load1 rfl rfl rfl Tryz.underlying22 rfl (by exact mem1) (by exact Vote.get_fProof (by assumption)) ?_
 refine Tr.fld rfl rfl rfl Tryz.underlying29 rfl Sz22 dE _ rfl ?_
 refine Tr.load1 rfl rfl rfl Tryz.underlying22 rfl (by exact mem0) (by exact Vote.get_fProof (by assumption)) ?_
 refine Tr.callV rfl rfl rfl rfl Body82 (cmp_uint64 _ _) (fun _ _ => trivial) ?_
 refine Tr.callV rfl rfl rfl rfl Body82 (cmp_uint64 _ _) (fun _ _ => trivial) ?_
 refine Tr.callV rfl rfl rfl rfl Body83 (cmp_int _ _) (fun _ _ => trivial) ?_
 refine Tr.callV rfl rfl rfl rfl Body84 (bytes_cmp _ _ _ _ _ _ a.fVoter b.fVoter ha.l_fVoter hb.l_fVoter) (fun W2 W2h => ⟨(SeesP.of (sees_part W2h (by exact mem1) (Vote.see_fVoter ha))), (SeesP.of (sees_part W2h (by exact mem0) (Vote.see_fVoter hb)))⟩) ?_
 refine Tr.callV rfl rfl rfl rfl Body84 (bytes_cmp _ _ _ _ _ _ a.fValue b.fValue ha.l_fValue hb.l_fValue) (fun W2 W2h => ⟨(SeesP.of (sees_part W2h (by exact mem1) (Vote.see_fValue ha))), (SeesP.of (sees_part W2h (by exact mem0) (Vote.see_fValue hb)))⟩) ?_
 refine Tr.callV rfl rfl rfl rfl Body82 (cmp_uint64 _ _) (fun _ _ => trivial) ?_
 refine Tr.build (cs := intsV [cmpI (a.fHeight.toNat : Int) (b.fHeight.toNat : Int), cmpI (a.fRound.toNat : Int) (b.fRound.toNat : Int), cmpI a.fPhase b.fPhase, cmpB a.fVoter b.fVoter, cmpB a.fValue b.fValue, cmpI (a.fProof.toNat : Int) (b.fProof.toNat : Int)]) rfl rfl rfl (fun w => by kernel_rfl) ?_
 refine Tr.alloc (cs := (intsV (List.replicate 6 0))) rfl Zr94 rfl ?_
 intro n5 hn5 hf5
 refine Tr.storeAll rfl rfl rfl rfl (by simp [isCell]) Sz94 (by (simp; done)) (by exact mem0) (by (simp; done)) (by exact upd0) ?_
 refine Tr.nil (at_n (Sat.seq (Sat.region ?_)))
 refine Tr.sliceArr rfl rfl rfl Tryz.underlying94 Sz3 ?_
 refine Tr.callV rfl rfl rfl rfl Body85 (cmp_or _ _ _ 6 _ rfl dE) (fun W2 h => sees_own h (by exact mem0)) ?_
 refine Tr.assign rfl rfl rfl ?_
 refine Tr.nil (at_n (Sat.ret (en_r ?_)))
 refine ⟨_, [], res_tmp rfl rfl, sP, sP, ?_, rfl⟩
 rfl

set_option maxRecDepth 100000 in
set_option maxHeartbeats 1000000 in
theorem vote_against (a b : Vote) (ha : a.ok) (hb : b.ok) : Meets Tryz.prog 19 [agg a.cells, agg b.cells] [] (fun _ => True) (fun v out => v = .bool (against a b) ∧ out = []) := by
 intro W hW
 refine calls_of (hp0 := []) Tryz.func19 rfl 45 Tryz.ntmps19 rfl (HRep.nil _) ?_
 refine Sat.seq (Sat.region ?_)
 refine Tr.boxA rfl rfl ?_
 intro n2 hn2 hf2
 refine Tr.boxA rfl rfl ?_
 intro n3 hn3 hf3
 refine Tr.assign rfl rfl rfl ?_
 refine Tr.nil (at_n (Sat.seq (Sat.region ?_)))
 refine Tr.fld rfl rfl rfl Tryz.underlying29 rfl Sz25 dE _ rfl ?_
 refine Tr.loadN (bytesV _) rfl rfl rfl Tryz.underlying25 rfl Sz25 (by exact mem1) (Vote.row_fVoter (by assumption)) (Vote.rl_fVoter (by assumption)) ?_
 refine Tr.fld rfl rfl rfl Tryz.underlying29 rfl Sz25 dE _ rfl ?_
 refine Tr.loadN (bytesV _) rfl rfl rfl Tryz.underlying25 rfl Sz25 (by exact mem0) (Vote.row_fVoter (by assumption)) (Vote.rl_fVoter (by assumption)) ?_
 refine two (fun r hr k => Tr.eql_bytes rfl rfl rfl rfl Tryz.eqGuardType25 Tryz.underlying25 Tryz.underlying5 Sz5 (by (simp [ha.l_fVoter]; done)) (by (simp [hb.l_fVoter]; done)) hr k) (fun hs1_40 => ?_) (fun hs1_40 => ?_)
 ·
  have hs1_4 := of_decide_eq_true hs1_40
  refine Tr.move rfl rfl rfl ?_
  refine Tr.fld rfl rfl rfl Tryz.underlying29 rfl Sz22 dE _ rfl ?_
  refine Tr.load1 rfl rfl rfl Tryz.underlying22 rfl (by exact mem1) (by exact Vote.get_fHeight (by assumption)) ?_
  refine Tr.fld rfl rfl rfl Tryz.underlying29 rfl Sz22 dE _ rfl ?_
  refine Tr.load1 rfl rfl rfl Tryz.underlying22 rfl (by exact mem0) (by exact Vote.get_fHeight (by assumption)) ?_
  refine two (fun r hr k => Tr.eqi rfl rfl rfl rfl hr k) (fun hs1_100 => ?_) (fun hs1_100 => ?_)
  ·
   have hs1_10 := of_decide_eq_true hs1_100
   refine Tr.pick rfl rfl rfl rfl rfl rfl ?_
   refine Tr.move rfl rfl rfl ?_
   refine Tr.fld rfl rfl rfl Tryz.underlying29 rfl Sz22 dE _ rfl ?_
   refine Tr.load1 rfl rfl rfl Tryz.underlying22 rfl (by exact mem1) (by exact Vote.get_fRound (by assumption)) ?_
   refine Tr.fld rfl rfl rfl Tryz.underlying29 rfl Sz22 dE _ rfl ?_
   refine Tr.load1 rfl rfl rfl Tryz.underlying22 rfl (by exact mem0) (by exact Vote.get_fRound (by assumption)) ?_
   refine two (fun r hr k => Tr.eqi rfl rfl rfl rfl hr k) (fun hs1_170 => ?_) (fun hs1_170 => ?_)
   ·
    have hs1_17 := of_decide_eq_true hs1_170
    refine Tr.pick rfl rfl rfl rfl rfl rfl ?_
    refine Tr.move rfl rfl rfl ?_
    refine Tr.fld rfl rfl rfl Tryz.underlying29 rfl Sz3 dE _ rfl ?_
    refine Tr.load1 rfl rfl rfl Tryz.underlying3 rfl (by exact mem1) (by exact Vote.get_fPhase (by assumption)) ?_
    refine Tr.fld rfl rfl rfl Tryz.underlying29 rfl Sz3 dE _ rfl ?_
    refine Tr.load1 rfl rfl rfl Tryz.underlying3 rfl (by exact mem0) (by exact Vote.get_fPhase (by assumption)) ?_
    refine two (fun r hr k => Tr.eqi rfl rfl rfl rfl hr k) (fun hs1_240 => ?_) (fun hs1_240 => ?_)
    ·
     have hs1_24 := of_decide_eq_true hs1_240
     refine Tr.pick rfl rfl rfl rfl rfl rfl ?_
     refine Tr.move rfl rfl rfl ?_
     refine Tr.fld rfl rfl rfl Tryz.underlying29 rfl Sz24 dE _ rfl ?_
     refine Tr.loadN (bytesV _) rfl rfl rfl Tryz.underlying24 rfl Sz24 (by exact mem1) (Vote.row_fValue (by assumption)) (Vote.rl_fValue (by assumption)) ?_
     refine Tr.fld rfl rfl rfl Tryz.underlying29 rfl Sz24 dE _ rfl ?_
     refine Tr.loadN (bytesV _) rfl rfl rfl Tryz.underlying24 rfl Sz24 (by exact mem0) (Vote.row_fValue (by assumption)) (Vote.rl_fValue (by assumption)) ?_
     refine two (fun r hr k => Tr.neq_bytes rfl rfl rfl rfl Tryz.eqGuardType24 Tryz.underlying24 Tryz.underlying5 Sz5 (by (simp [ha.l_fValue]; done)) (by (simp [hb.l_fValue]; done)) hr k) (fun hs1_310 => ?_) (fun hs1_310 => ?_)
     ·
      have hs1_31 := nd_t hs1_310
      refine Tr.move rfl rfl rfl ?_
      refine Tr.skp rfl rfl ?_
      refine Tr.skp rfl rfl ?_
      refine Tr.skp rfl rfl ?_
      refine Tr.skp rfl rfl ?_
      refine Tr.skp rfl rfl ?_
      refine Tr.pick rfl rfl rfl rfl rfl rfl ?_
      refine Tr.pick rfl rfl rfl rfl rfl rfl ?_
      refine Tr.assign rfl rfl rfl ?_
      refine Tr.nil (at_n (Sat.ret (en_r ?_)))
      refine ⟨_, [], res_tmp rfl rfl, sP, sP, ?_, rfl⟩
      simp [against, same4, *]
     ·
      have hs1_31 := nd_f hs1_310
      refine Tr.move rfl rfl rfl ?_
      refine Tr.fld rfl rfl rfl Tryz.underlying29 rfl Sz22 dE _ rfl ?_
      refine Tr.load1 rfl rfl rfl Tryz.underlying22 rfl (by exact mem1) (by exact Vote.get_fProof (by assumption)) ?_
      refine Tr.fld rfl rfl rfl Tryz.underlying29 rfl Sz22 dE _ rfl ?_
      refine Tr.load1 rfl rfl rfl Tryz.underlying22 rfl (by exact mem0) (by exact Vote.get_fProof (by assumption)) ?_
      refine Tr.nei rfl rfl rfl rfl rfl ?_
      refine Tr.pick rfl rfl rfl rfl rfl rfl ?_
      refine Tr.pick rfl rfl rfl rfl rfl rfl ?_
      refine Tr.assign rfl rfl rfl ?_
      refine Tr.nil (at_n (Sat.ret (en_r ?_)))
      refine ⟨_, [], res_tmp rfl rfl, sP, sP, ?_, rfl⟩
      simp [against, same4, *]
    ·
     have hs1_24 := of_decide_eq_false hs1_240
     refine Tr.pick rfl rfl rfl rfl rfl rfl ?_
     refine Tr.move rfl rfl rfl ?_
     refine Tr.skp rfl rfl ?_
     refine Tr.skp rfl rfl ?_
     refine Tr.skp rfl rfl ?_
     refine Tr.skp rfl rfl ?_
     refine Tr.skp rfl rfl ?_
     refine Tr.skp rfl rfl ?_
     refine Tr.skp rfl rfl ?_
     refine Tr.skp rfl rfl ?_
     refine Tr.skp rfl rfl ?_
     refine Tr.skp rfl rfl ?_
     refine Tr.skp rfl rfl ?_
     refine Tr.skp rfl rfl ?_
     refine Tr.pick rfl rfl rfl rfl rfl rfl ?_
     refine Tr.assign rfl rfl rfl ?_
     refine Tr.nil (at_n (Sat.ret (en_r ?_)))
     refine ⟨_, [], res_tmp rfl rfl, sP, sP, ?_, rfl⟩
     simp [against, same4, *]
   ·
    have hs1_17 := of_decide_eq_false hs1_170
    refine Tr.pick rfl rfl rfl rfl rfl rfl ?_
    refine Tr.move rfl rfl rfl ?_
    refine Tr.skp rfl rfl ?_
    refine Tr.skp rfl rfl ?_
    refine Tr.skp rfl rfl ?_
    refine Tr.skp rfl rfl ?_
    refine Tr.skp rfl rfl ?_
    refine Tr.pick rfl rfl rfl rfl rfl rfl ?_
    refine Tr.move rfl rfl rfl ?_
    refine Tr.skp rfl rfl ?_
    refine Tr.skp rfl rfl ?_
    refine Tr.skp rfl rfl ?_
    refine Tr.skp rfl rfl ?_
    refine Tr.skp rfl rfl ?_
    refine Tr.skp rfl rfl ?_
    refine Tr.skp rfl rfl ?_
    refine Tr.skp rfl rfl ?_
    refine Tr.skp rfl rfl ?_
    refine Tr.skp rfl rfl ?_
    refine Tr.skp rfl rfl ?_
    refine Tr.skp rfl rfl ?_
    refine Tr.pick rfl rfl rfl rfl rfl rfl ?_
    refine Tr.assign rfl rfl rfl ?_
    refine Tr.nil (at_n (Sat.ret (en_r ?_)))
    refine ⟨_, [], res_tmp rfl rfl, sP, sP, ?_, rfl⟩
    simp [against, same4, *]
  ·
   have hs1_10 := of_decide_eq_false hs1_100
   refine Tr.pick rfl rfl rfl rfl rfl rfl ?_
   refine Tr.move rfl rfl rfl ?_
   refine Tr.skp rfl rfl ?_
   refine Tr.skp rfl rfl ?_
   refine Tr.skp rfl rfl ?_
   refine Tr.skp rfl rfl ?_
   refine Tr.skp rfl rfl ?_
   refine Tr.pick rfl rfl rfl rfl rfl rfl ?_
   refine Tr.move rfl rfl rfl ?_
   refine Tr.skp rfl rfl ?_
   refine Tr.skp rfl rfl ?_
   refine Tr.skp rfl rfl ?_
   refine Tr.skp rfl rfl ?_
   refine Tr.skp rfl rfl ?_
   refine Tr.pick rfl rfl rfl rfl rfl rfl ?_
   refine Tr.move rfl rfl rfl ?_
   refine Tr.skp rfl rfl ?_
   refine Tr.skp rfl rfl ?_
   refine Tr.skp rfl rfl ?_
   refine Tr.skp rfl rfl ?_
   refine Tr.skp rfl rfl ?_
   refine Tr.skp rfl rfl ?_
   refine Tr.skp rfl rfl ?_
   refine Tr.skp rfl rfl ?_
   refine Tr.skp rfl rfl ?_
   refine Tr.skp rfl rfl ?_
   refine Tr.skp rfl rfl ?_
   refine Tr.skp rfl rfl ?_
   refine Tr.pick rfl rfl rfl rfl rfl rfl ?_
   refine Tr.assign rfl rfl rfl ?_
   refine Tr.nil (at_n (Sat.ret (en_r ?_)))
   refine ⟨_, [], res_tmp rfl rfl, sP, sP, ?_, rfl⟩
   simp [against, same4, *]
 ·
  have hs1_4 := of_decide_eq_false hs1_40
  refine Tr.move rfl rfl rfl ?_
  refine Tr.skp rfl rfl ?_
  refine Tr.skp rfl rfl ?_
  refine Tr.skp rfl rfl ?_
  refine Tr.skp rfl rfl ?_
  refine Tr.skp rfl rfl ?_
  refine Tr.pick rfl rfl rfl rfl rfl rfl ?_
  refine Tr.move rfl rfl rfl ?_
  refine Tr.skp rfl rfl ?_
  refine Tr.skp rfl rfl ?_
  refine Tr.skp rfl rfl ?_
  refine Tr.skp rfl rfl ?_
  refine Tr.skp rfl rfl ?_
  refine Tr.pick rfl rfl rfl rfl rfl rfl ?_
  refine Tr.move rfl rfl rfl ?_
  refine Tr.skp rfl rfl ?_
  refine Tr.skp rfl rfl ?_
  refine Tr.skp rfl rfl ?_
  refine Tr.skp rfl rfl ?_
  refine Tr.skp rfl rfl ?_
  refine Tr.pick rfl rfl rfl rfl rfl rfl ?_
  refine Tr.move rfl rfl rfl ?_
  refine Tr.skp rfl rfl ?_
  refine Tr.skp rfl rfl ?_
  refine Tr.skp rfl rfl ?_
  refine Tr.skp rfl rfl ?_
  refine Tr.skp rfl rfl ?_
  refine Tr.skp rfl rfl ?_
  refine Tr.skp rfl rfl ?_
  refine Tr.skp rfl rfl ?_
  refine Tr.skp rfl rfl ?_
  refine Tr.skp rfl rfl ?_
  refine Tr.skp rfl rfl ?_
  refine Tr.skp rfl rfl ?_
  refine Tr.pick rfl rfl rfl rfl rfl rfl ?_
  refine Tr.assign rfl rfl rfl ?_
  refine Tr.nil (at_n (Sat.ret (en_r ?_)))
  refine ⟨_, [], res_tmp rfl rfl, sP, sP, ?_, rfl⟩
  simp [against, same4, *]

set_option maxRecDepth 100000 in
set_option maxHeartbeats 1000000 in
theorem law20_lives  : Meets Tryz.prog 10 [] [] (fun _ => True) (fun v out => v = .bool true ∧ out = []) := by
 intro W hW
 refine calls_of (hp0 := []) Tryz.func10 rfl 26 Tryz.ntmps10 rfl (HRep.nil _) ?_
 refine Sat.seq (Sat.region ?_)
 refine Tr.assign rfl rfl rfl ?_
 refine Tr.nil (at_n (Sat.seq (Sat.region ?_)))
 refine Tr.build (cs := (⟨1, 0, 2, List.replicate 32 0, 0, List.replicate 32 0, List.replicate 64 0⟩ : Vote).cells) rfl rfl rfl (fun w => by kernel_rfl) ?_
 refine Tr.callV rfl rfl rfl rfl Body13 (vote_check (⟨1, 0, 2, List.replicate 32 0, 0, List.replicate 32 0, List.replicate 64 0⟩ : Vote) ⟨rfl, rfl, rfl⟩) (fun _ _ => trivial) ?_
 refine Tr.eqi rfl rfl rfl rfl (decide_eq_true dE) ?_
 refine Tr.move rfl rfl rfl ?_
 refine Tr.build (cs := (⟨1, 0, 1, List.replicate 32 0, 0, List.replicate 32 0, List.replicate 64 0⟩ : Vote).cells) rfl rfl rfl (fun w => by kernel_rfl) ?_
 refine Tr.callV rfl rfl rfl rfl Body13 (vote_check (⟨1, 0, 1, List.replicate 32 0, 0, List.replicate 32 0, List.replicate 64 0⟩ : Vote) ⟨rfl, rfl, rfl⟩) (fun _ _ => trivial) ?_
 refine Tr.eqi rfl rfl rfl rfl (decide_eq_true dE) ?_
 refine Tr.pick rfl rfl rfl rfl rfl rfl ?_
 refine Tr.move rfl rfl rfl ?_
 refine Tr.build (cs := (⟨1, 0, 2, List.replicate 32 0, 1, List.replicate 32 0, List.replicate 64 0⟩ : Vote).cells) rfl rfl rfl (fun w => by kernel_rfl) ?_
 refine Tr.callV rfl rfl rfl rfl Body13 (vote_check (⟨1, 0, 2, List.replicate 32 0, 1, List.replicate 32 0, List.replicate 64 0⟩ : Vote) ⟨rfl, rfl, rfl⟩) (fun _ _ => trivial) ?_
 refine Tr.eqi rfl rfl rfl rfl (decide_eq_true dE) ?_
 refine Tr.pick rfl rfl rfl rfl rfl rfl ?_
 refine Tr.move rfl rfl rfl ?_
 refine Tr.build (cs := bytesV (1 :: List.replicate 31 0)) rfl rfl rfl (fun w => by kernel_rfl) ?_
 refine Tr.build (cs := (⟨1, 1, 1, (1 :: List.replicate 31 0), 2, List.replicate 32 0, List.replicate 64 0⟩ : Vote).cells) rfl rfl rfl (fun w => by kernel_rfl) ?_
 refine Tr.callV rfl rfl rfl rfl Body13 (vote_check (⟨1, 1, 1, (1 :: List.replicate 31 0), 2, List.replicate 32 0, List.replicate 64 0⟩ : Vote) ⟨rfl, rfl, rfl⟩) (fun _ _ => trivial) ?_
 refine Tr.eqi rfl rfl rfl rfl (decide_eq_true dE) ?_
 refine Tr.pick rfl rfl rfl rfl rfl rfl ?_
 refine Tr.move rfl rfl rfl ?_
 refine Tr.build (cs := (⟨1, 0, 0, List.replicate 32 0, 0, List.replicate 32 0, List.replicate 64 0⟩ : Vote).cells) rfl rfl rfl (fun w => by kernel_rfl) ?_
 refine Tr.build (cs := (⟨2, 0, 0, List.replicate 32 0, 0, List.replicate 32 0, List.replicate 64 0⟩ : Vote).cells) rfl rfl rfl (fun w => by kernel_rfl) ?_
 refine Tr.callV rfl rfl rfl rfl Body32 (vote_cmp (⟨1, 0, 0, List.replicate 32 0, 0, List.replicate 32 0, List.replicate 64 0⟩ : Vote) (⟨2, 0, 0, List.replicate 32 0, 0, List.replicate 32 0, List.replicate 64 0⟩ : Vote) ⟨rfl, rfl, rfl⟩ ⟨rfl, rfl, rfl⟩) (fun _ _ => trivial) ?_
 refine Tr.eqi rfl rfl rfl rfl (decide_eq_true dE) ?_
 refine Tr.pick rfl rfl rfl rfl rfl rfl ?_
 refine Tr.assign rfl rfl rfl ?_
 refine Tr.nil (at_n (Sat.ret (en_r ?_)))
 refine ⟨_, [], res_tmp rfl rfl, sP, sP, ?_, rfl⟩
 rfl

end Go.Proofs.YtpacobmjjjillaaGreat
end

section
namespace Go.Proofs.YtpacobmjjjillaaGreat
open Go Hw
set_option linter.unusedVariables false
set_option linter.unusedSimpArgs false

theorem drop_cons {xs l : List UInt8} {a : Nat} {f : UInt8} (h : xs.drop a = f :: l) : a < xs.length ∧ xs.getD a 0 = f ∧ xs.drop (a + 1) = l := by
  have hlt : a < xs.length := by
    rcases Nat.lt_or_ge a xs.length with h1 | h1
    · exact h1
    · rw [List.drop_eq_nil_of_le h1] at h; cases h
  rw [List.drop_eq_getElem_cons hlt] at h
  injection h with h1 h2
  exact ⟨hlt, by rw [List.getD_eq_getElem?_getD, List.getElem?_eq_getElem hlt]; exact h1, h2⟩
theorem drop_split {xs p t : List UInt8} {a : Nat} (h : xs.drop a = p ++ t) (hp : 0 < p.length) : a + p.length ≤ xs.length ∧ (xs.drop a).take p.length = p ∧ xs.drop (a + p.length) = t := by
  have h1 := congrArg List.length h
  rw [List.length_drop, List.length_append] at h1
  refine ⟨by omega, by rw [h]; simp, ?_⟩
  rw [← List.drop_drop, h]; simp
theorem dig_fwd {xs d t : List UInt8} {a : Nat} (h : xs.drop a = d ++ t) (hd : d.length = 32) : digR xs a 0 = (d, a + 32, 0) ∧ xs.drop (a + 32) = t := by
  obtain ⟨h1, h2, h3⟩ := drop_split h oM
  rw [hd] at h1 h2 h3
  unfold digR
  rw [if_neg sP, if_neg oM, h2]
  exact ⟨rfl, h3⟩
theorem num_fwd {xs t : List UInt8} {a : Nat} {x : UInt64} (h : xs.drop a = numB x ++ t) : numR xs a 0 = (x, a + szN x.toNat, 0) ∧ xs.drop (a + szN x.toNat) = t := by
  have hp := szN_pos x.toNat
  have hl := numB_length x
  obtain ⟨h1, h2, h3⟩ := drop_split h oM
  rw [hl] at h1 h2 h3
  rw [numB, List.cons_append] at h
  obtain ⟨g1, g2, g3⟩ := drop_cons h
  obtain ⟨n1, n2⟩ := num_back x
  have hv : numV xs a = x := by
    rw [numV, g2, g3, n1, List.take_left' (tailB_length x _)]
    exact n2
  unfold numR
  rw [if_neg sP, if_neg oM, hv, g2, n1, if_neg oM, if_pos rfl]
  exact ⟨rfl, h3⟩
theorem blk_fwd {xs ds t : List UInt8} {a : Nat} (hn : ds.length ≤ 1000000) (h : xs.drop a = numB (UInt64.ofNat ds.length) ++ ds ++ t) : blkR xs a 0 = (some ds, a + szN ds.length + ds.length, 0) ∧ xs.drop (a + szN ds.length + ds.length) = t := by
  rw [List.append_assoc] at h
  have hx : (UInt64.ofNat ds.length).toNat = ds.length := ofNat_nat hn
  obtain ⟨h1, h2⟩ := num_fwd h
  rw [hx] at h1 h2
  unfold blkR
  rw [h1]
  simp only [hx]
  rw [if_neg sP]
  have hl := congrArg List.length h2
  rw [List.length_drop, List.length_append] at hl
  have hz := szN_pos ds.length
  have hle : a + szN ds.length ≤ xs.length := by
    have := congrArg List.length h
    rw [List.length_drop, List.length_append, numB_length, hx] at this
    omega
  rw [if_neg oM, h2]
  refine ⟨by simp, ?_⟩
  rw [← List.drop_drop, h2]; simp
theorem tak_fwd {xs d t : List UInt8} {a m : Nat} (h : xs.drop a = d ++ t) (hd : d.length = m) (hm : 0 < m) : takR xs m a 0 = (d, a + m, 0) ∧ xs.drop (a + m) = t := by
  obtain ⟨h1, h2, h3⟩ := drop_split h oM
  rw [hd] at h1 h2 h3
  unfold takR
  rw [if_neg sP, if_neg oM, h2]
  exact ⟨rfl, h3⟩
theorem digs_fwd {xs t : List UInt8} {ls : List (List UInt8)} {a : Nat} (hls : ∀ l ∈ ls, l.length = 32) (h : xs.drop a = ls.flatten ++ t) : ∀ j, j ≤ ls.length → digsR xs j a 0 = (ls.take j, a + 32 * j, 0) ∧ xs.drop (a + 32 * j) = (ls.drop j).flatten ++ t
  | 0, _ => ⟨rfl, by simpa using h⟩
  | j + 1, hj => by
    obtain ⟨h1, h2⟩ := digs_fwd hls h j oM
    rw [List.drop_eq_getElem_cons (l := ls) (i := j) oM, List.flatten_cons, List.append_assoc] at h2
    obtain ⟨h3, h4⟩ := dig_fwd h2 (hls _ (List.getElem_mem oM))
    refine ⟨?_, by rw [show a + 32 * (j + 1) = a + 32 * j + 32 by omega]; exact h4⟩
    rw [digsR, h1]
    simp only [h3]
    rw [List.take_succ_eq_append_getElem oM]
    rfl
theorem readP_bytes {D : DB} (h : D.ok) (hc : D.check = 0) (t : List UInt8) : readP (D.bytes ++ t) = (D, D.bytes.length, 0) := by
  have hs := D.head_small hc
  have hl1 : (UInt64.ofNat D.ls.length).toNat = D.ls.length := ofNat_nat oM
  obtain ⟨xs, hxs⟩ : ∃ xs, D.bytes ++ t = xs := ⟨_, rfl⟩
  rw [hxs]
  have h0 : xs.drop 0 = D.w ++ (numB D.seq ++ (D.prev ++ (numB (UInt64.ofNat D.ls.length) ++ (D.ls.flatten ++ (numB (UInt64.ofNat D.ds.length) ++ D.ds ++ (D.sg ++ t)))))) := by
    rw [List.drop_zero, ← hxs]
    simp only [DB.bytes, DB.body, List.append_assoc]
  obtain ⟨r1, h1⟩ := dig_fwd h0 h.w
  obtain ⟨r2, h2⟩ := num_fwd h1
  obtain ⟨r3, h3⟩ := dig_fwd h2 h.prev
  obtain ⟨r4, h4⟩ := num_fwd h3
  rw [hl1] at r4 h4
  obtain ⟨r5, h5⟩ := digs_fwd h.ls h4 D.ls.length (Nat.le_refl _)
  rw [List.take_length] at r5
  rw [List.drop_length, List.flatten_nil, List.nil_append] at h5
  obtain ⟨r6, h6⟩ := blk_fwd oM h5
  obtain ⟨r7, h7⟩ := tak_fwd h6 h.sg dE
  have hk : min (UInt64.ofNat D.ls.length).toNat 17 = D.ls.length := by omega
  have hlen : D.bytes.length = 0 + 32 + szN D.seq.toNat + 32 + szN D.ls.length + 32 * D.ls.length + szN D.ds.length + D.ds.length + 64 := by
    have hfl := flatten_take_len h.ls (Nat.le_refl D.ls.length)
    rw [List.take_length] at hfl
    simp only [DB.bytes, DB.body, List.length_append, numB_length, h.w, h.prev, h.sg, hfl, hl1, ofNat_nat (n := D.ds.length) oM]
    omega
  simp only [readP, r1, r2, r3, r4, hk, r5, r6, r7, Option.getD_some]
  rw [h.sg, hlen, List.drop_of_length_le sP, List.append_nil]
theorem readD_bytes {D : DB} (h : D.ok) (hc : D.check = 0) : readD D.bytes = (D, 0) := by
  have hr := readP_bytes h hc []
  rw [List.append_nil] at hr
  rw [readD_ok (by rw [hr]; exact ⟨by simp [endR], hc⟩), hr]
theorem bytes_inj {D E : DB} (hD : D.ok) (hE : E.ok) (cD : D.check = 0) (cE : E.check = 0) : D.bytes = E.bytes ↔ D = E := by
  constructor
  · intro h
    have h1 := readD_bytes hD cD
    rw [h, readD_bytes hE cE] at h1
    exact (congrArg Prod.fst h1).symm
  · intro h; rw [h]
end Go.Proofs.YtpacobmjjjillaaGreat
end

section
namespace Go.Proofs.YtpacobmjjjillaaGreat
open Go Hw
set_option linter.unusedVariables false
set_option linter.unusedSimpArgs false

open Ed

theorem seesP_tk {w : World} {p : Option Addr} {l : List UInt8} {n : Nat} (h : SeesP w p (bytesV l)) : SeesP w p (bytesV (l.take n)) := fun j v hj => by
  rw [bytesV, List.map_take, List.getElem?_take] at hj
  split at hj
  · exact h j v hj
  · cases hj

/-- the name of a vote -/
def nameV (V : Vote) : List UInt8 := if vcheck V = 0 then sha256 (voteBy V) else List.replicate 32 0
theorem voteBy_le {V : Vote} (hV : V.ok) : (voteBy V).length ≤ 200 := by
  have := voteN_le V
  unfold voteBy
  split
  · rw [List.length_append, voteT_length hV, hV.l_fSig]; omega
  · exact Nat.zero_le _
set_option maxRecDepth 100000 in
set_option maxHeartbeats 4000000 in
theorem vote_name (V : Vote) (hV : V.ok) : Meets Tryz.prog 21 [agg V.cells] [] (fun _ => True) (fun v out => v = agg (bytesV (nameV V)) ∧ out = []) := by
 intro W hW
 have hvl := voteBy_le hV
 obtain ⟨k, hk⟩ : ∃ k, Hid (kW = k) := ⟨_, ⟨rfl⟩⟩
 obtain ⟨s0, hs0⟩ : ∃ s0, Hid (xorUp 8 = s0) := ⟨_, ⟨rfl⟩⟩
 obtain ⟨G, hG⟩ : ∃ G, Hid (shaTag = G) := ⟨_, ⟨rfl⟩⟩
 obtain ⟨i0, hi0⟩ : ∃ i0, Hid (allW k s0 G = i0) := ⟨_, ⟨rfl⟩⟩
 have hk80 : k.length = 80 := by rw [← hk.out]; rfl
 have hs8 : s0.length = 8 := by rw [← hs0.out]; exact xorUp_length 8
 have hGl : G.length = 11 := by rw [← hG.out]; rfl
 have hi8 : i0.length = 8 := by rw [← hi0.out, allW_length]; exact hs8
 obtain ⟨r, hr⟩ : ∃ r, Hid (allW k i0 (voteBy V) = r) := ⟨_, ⟨rfl⟩⟩
 obtain ⟨s, hs⟩ : ∃ s, Hid (sumUp r 64 = s) := ⟨_, ⟨rfl⟩⟩
 have hsd : Hid (s.take 32 = sha256 (voteBy V)) := ⟨by rw [← hs.out, ← hr.out, ← hi0.out, ← hG.out, ← hs0.out, ← hk.out]; rfl⟩
 have hs64 : s.length = 64 := by rw [← hs.out]; exact sumUp_length r 64
 have hs32 : (s.take 32).length = 32 := by rw [List.length_take, hs64]; rfl
 refine calls_of (hp0 := []) Tryz.func21 rfl 16 Tryz.ntmps21 rfl (HRep.nil _) ?_
 refine Sat.seq (Sat.region ?_)
 refine Tr.boxA rfl rfl ?_
 intro n1 hn1 hf1
 refine Tr.alloc (cs := (bytesV (List.replicate 32 0))) rfl Zr24 rfl ?_
 intro n2 hn2 hf2
 refine Tr.nil (at_n (Sat.seq (Sat.region ?_)))
 refine Tr.loadAll rfl rfl rfl Tryz.underlying29 rfl Sz29 (by exact mem1) (Vote.length (by assumption)) ?_
 refine Tr.call4 rfl rfl rfl rfl rfl Body17 (vote_bytes V hV) (fun _ _ => trivial) ?_
 rintro v7 out7 ⟨s7, rfl, hac7⟩
 refine Tr.move rfl rfl rfl ?_
 refine Tr.extract rfl rfl rfl rfl ?_
 refine Tr.extract rfl rfl rfl rfl ?_
 refine Tr.assign rfl rfl rfl ?_
 refine Tr.assign rfl rfl rfl ?_
 refine Tr.nil (at_n (Sat.seq (Sat.seq (Sat.region ?_))))
 refine Tr.move rfl rfl rfl ?_
 refine Tr.nei rfl rfl rfl rfl rfl ?_
 refine Tr.nil (at_n ?_)
 refine Sat.condNP rfl (fun hc0 => ?_) (fun hc0 => ?_)
 ·
  have hq0 : ¬ vcheck V = 0 := by omega
  refine Sat.seq (Sat.region ?_)
  refine Tr.build (cs := bytesV (List.replicate 32 0)) rfl rfl rfl (fun w => by kernel_rfl) ?_
  refine Tr.storeAll rfl rfl rfl rfl (by exact bytesV_cell _) Sz24 (by (simp; done)) (by (repeat (first | exact List.mem_cons_self | refine mem_seg ?_))) (by (simp; done)) (by (repeat (first | exact upd0 | apply Upd.seg))) ?_
  refine Tr.nil (at_n (Sat.ret (at_r (en_r ?_))))
  refine ⟨_, [], res_cell rfl rfl Tryz.underlying24 rfl Sz24 (by (repeat (first | exact List.mem_cons_self | refine mem_seg ?_))) sP, sP, sP, ?_, rfl⟩
  (rw [nameV, if_neg hq0]; done)
 ·
  have hq0 : vcheck V = 0 := by omega
  refine Sat.skip (at_n (Sat.seq (Sat.region ?_)))
  refine Tr.move rfl rfl rfl ?_
  refine Tr.mkRow (z := .slice none 0 0) [s7.v] [s7.v] rfl rfl rfl Tryz.underlying133 Sz39 Zr39 rfl rfl (by intro v hv; rw [List.mem_singleton.1 hv]; rfl) dE rfl ?_
  intro q14
  refine Tr.callV rfl rfl rfl rfl Body68 (sha_Sum k s0 i0 G hk hk80 hs0 hs8 hG hGl hi0 hi8 (some ⟨q14, 0, none⟩) 1 1 [s7] [voteBy V] rfl rfl (fun j hj => (by obtain rfl : j = 0 := oM; exact ⟨by simp [hac7.num], fun e => hac7.nil e⟩)) (voteBy V) sP oM dE r hr s hs) (fun w h => ⟨SeesP.of (sees_own h (by exact mem0)), fun j hj => (by obtain rfl : j = 0 := oM; exact hac7.see (Lies.of h (by repeat (first | exact in_here | refine in_there ?_))))⟩) ?_
  refine Tr.storeAll rfl rfl rfl rfl (by exact bytesV_cell _) Sz24 (by (simp [hs64]; done)) (by (repeat (first | exact List.mem_cons_self | refine List.mem_cons_of_mem _ ?_ | refine mem_seg ?_))) (by (simp; done)) (by (repeat (first | exact upd0 | apply Upd.tail | apply Upd.seg))) ?_
  refine Tr.nil (at_n (Sat.ret (en_r ?_)))
  refine ⟨_, [], res_cell rfl rfl Tryz.underlying24 rfl Sz24 (by (repeat (first | exact List.mem_cons_self | refine List.mem_cons_of_mem _ ?_ | refine mem_seg ?_))) (by simp [hs64]), sP, sP, ?_, rfl⟩
  (rw [nameV, if_pos hq0, hsd.out]; done)

set_option maxRecDepth 100000 in
set_option maxHeartbeats 1000000 in
theorem vote_same (a b : Vote) (ha : a.ok) (hb : b.ok) : Meets Tryz.prog 22 [agg a.cells, agg b.cells] [] (fun _ => True) (fun v out => v = .bool (@decide (a = b) (Classical.propDecidable _)) ∧ out = []) := by
 intro W hW
 refine calls_of (hp0 := []) Tryz.func22 rfl 8 Tryz.ntmps22 rfl (HRep.nil _) ?_
 refine Sat.seq (Sat.region ?_)
 refine Tr.boxA rfl rfl ?_
 intro n2 hn2 hf2
 refine Tr.boxA rfl rfl ?_
 intro n3 hn3 hf3
 refine Tr.assign rfl rfl rfl ?_
 refine Tr.nil (at_n (Sat.seq (Sat.region ?_)))
 refine Tr.loadAll rfl rfl rfl Tryz.underlying29 rfl Sz29 (by exact mem1) (Vote.length (by assumption)) ?_
 refine Tr.loadAll rfl rfl rfl Tryz.underlying29 rfl Sz29 (by exact mem0) (Vote.length (by assumption)) ?_
 refine Tr.eql_rec rfl rfl rfl rfl Vote.eg (fun w => Vote.eq_runC (by assumption) (by assumption) w) rfl ?_
 refine Tr.assign rfl rfl rfl ?_
 refine Tr.nil (at_n (Sat.ret (en_r ?_)))
 refine ⟨_, [], res_tmp rfl rfl, sP, sP, ?_, rfl⟩
 rfl

end Go.Proofs.YtpacobmjjjillaaGreat
end

section
namespace Go.Proofs.YtpacobmjjjillaaGreat
open Go Hw Ed
set_option linter.unusedVariables false
def affX (n : Nat) : Nat := force (fastN n) fun s => ux s * pwm PF 256 (uz s % PF) (PF - 2) % PF
def affY (n : Nat) : Nat := force (fastN n) fun s => uy s * pwm PF 256 (uz s % PF) (PF - 2) % PF
theorem fast_at {n X Y : Nat} (hn : n < 2 ^ 256) (hx : affX n = X) (hy : affY n = Y) : cv.mul n bP = ⟨fe X, fe Y⟩ := by
  refine fastN_pt hn ?_ ?_
  · rw [← hx, affX, force_eq, fe_mod, fe_mul]; rfl
  · rw [← hy, affY, force_eq, fe_mod, fe_mul]; rfl
theorem same_mul {a b : Nat} (h : cv.mul a bP = cv.mul b bP) : L ∣ a + (L - b % L) := by
  refine order_dvd ?_
  have hb : cv.mul (b % L) bP = cv.mul b bP := cv.mul_order bP_on bP_order b
  have hL := Nat.mod_lt b L_pos
  rw [cv.mul_add bP_on, h, ← hb, ← cv.mul_add bP_on, Nat.add_sub_cancel' (Nat.le_of_lt hL)]
  exact bP_order
theorem lin_same {S c n r : Nat} (h : cv.lin S c bP (neg (cv.mul n bP)) = cv.mul r bP) : L ∣ S + (L - (c * n + r) % L) := by
  refine same_mul ?_
  have hn := cv.on_mul bP_on n
  have hk := cv.on_mul hn c
  have hS := cv.on_mul bP_on S
  have h2 := congrArg (cv.add (cv.mul c (cv.mul n bP))) h
  rw [Cv.lin, cv.mul_neg hn, cv.add_comm, cv.add_assoc hS (cv.on_neg hk) hk, cv.add_comm (neg _), cv.add_neg hk, cv.add_zero, ← cv.mul_mul bP_on, ← cv.mul_add bP_on] at h2
  exact h2
theorem good_other {s s1 sg bb : List UInt8} {n r S c : Nat} (h1 : sg.take 32 = sgF s1) (h2 : le (clampB (s.take 32)) = n) (h3 : le (sgR s1) = r) (h4 : le (sg.drop 32) = S) (h5 : le (sgR (sha512 (sg.take 32 ++ (sgK s ++ bb)))) = c) (h : ¬ L ∣ S + (L - (c * n + r) % L)) : goodB (sgK s) bb sg = false := by
  unfold goodB
  simp only [decide_eq_false_iff_not]
  rintro ⟨_, A, R, e1, e2, e3⟩
  rw [sgK_read] at e1
  rw [h1, sgF_read] at e2
  rw [h5, h4] at e3
  rw [← Option.some.inj e1, ← Option.some.inj e2, h2, h3] at e3
  exact h (lin_same e3)

end Go.Proofs.YtpacobmjjjillaaGreat
end

section
namespace Go.Proofs.YtpacobmjjjillaaGreat
open Go Hw Ed
set_option linter.unusedVariables false
def seB : List UInt8 := [1, 0, 0, 0, 0, 0, 0, 0, 0, 0, 0, 0, 0, 0, 0, 0, 0, 0, 0, 0, 0, 0, 0, 0, 0, 0, 0, 0, 0, 0, 0, 77]
def seH : List UInt8 := [87, 159, 104, 236, 80, 14, 38, 174, 240, 0, 164, 75, 108, 245, 33, 87, 115, 113, 131, 28, 237, 105, 185, 222, 57, 145, 233, 242, 112, 190, 170, 213, 35, 11, 137, 144, 70, 23, 17, 214, 148, 220, 86, 67, 25, 124, 131, 91, 42, 247, 30, 195, 63, 213, 16, 142, 181, 57, 199, 82, 96, 7, 203, 83]
def seN : List UInt8 := [80, 159, 104, 236, 80, 14, 38, 174, 240, 0, 164, 75, 108, 245, 33, 87, 115, 113, 131, 28, 237, 105, 185, 222, 57, 145, 233, 242, 112, 190, 170, 85]
def seK : List UInt8 := [96, 107, 246, 169, 182, 86, 212, 252, 106, 138, 137, 108, 60, 10, 195, 142, 100, 120, 65, 80, 61, 64, 193, 87, 241, 248, 221, 83, 126, 228, 255, 164]
theorem se_h : sha512 seB = seH := by kernel_rfl
theorem se_n : clampB (seH.take 32) = seN := by kernel_rfl
theorem se_n1 : le seN = 38748270507491543869280182973643753799655646515636239770492563660028217171792 := by kernel_rfl
theorem se_kp : cv.mul 38748270507491543869280182973643753799655646515636239770492563660028217171792 bP = ⟨fe 28707919823945954948053480135173306747324634050804968349977642706858962874917, fe 16735385554468660665858041024650955505467194536748309173234908357429617388384⟩ := fast_at dE (by kernel_rfl) (by kernel_rfl)
theorem se_kb : pb ⟨fe 28707919823945954948053480135173306747324634050804968349977642706858962874917, fe 16735385554468660665858041024650955505467194536748309173234908357429617388384⟩ = seK := by kernel_rfl
theorem se_k : sgK seH = seK := by rw [sgK, se_n, se_n1, se_kp, se_kb]
def vnT : List UInt8 := [118, 111, 116, 101, 3, 0, 3, 0, 0, 0, 0, 0, 0, 0, 0, 0, 0, 0, 0, 0, 0, 0, 0, 0, 0, 0, 0, 0, 0, 0, 0, 0, 0, 0, 0, 0, 0, 0, 0, 0, 96, 107, 246, 169, 182, 86, 212, 252, 106, 138, 137, 108, 60, 10, 195, 142, 100, 120, 65, 80, 61, 64, 193, 87, 241, 248, 221, 83, 126, 228, 255, 164]
def vnT2 : List UInt8 := [118, 111, 116, 101, 3, 0, 3, 1, 0, 0, 0, 0, 0, 0, 0, 0, 0, 0, 0, 0, 0, 0, 0, 0, 0, 0, 0, 0, 0, 0, 0, 0, 0, 0, 0, 0, 0, 0, 0, 0, 96, 107, 246, 169, 182, 86, 212, 252, 106, 138, 137, 108, 60, 10, 195, 142, 100, 120, 65, 80, 61, 64, 193, 87, 241, 248, 221, 83, 126, 228, 255, 164]
def vnH1 : List UInt8 := [243, 38, 34, 131, 236, 118, 86, 201, 28, 186, 164, 220, 215, 112, 35, 115, 9, 118, 46, 24, 141, 228, 30, 51, 58, 225, 17, 169, 3, 139, 7, 24, 255, 240, 153, 35, 50, 47, 191, 64, 174, 46, 135, 230, 116, 7, 144, 40, 135, 123, 191, 251, 127, 62, 153, 11, 200, 122, 65, 77, 23, 38, 240, 86]
def vnH2 : List UInt8 := [39, 133, 34, 47, 41, 144, 188, 111, 120, 61, 112, 92, 34, 78, 179, 171, 11, 28, 246, 174, 52, 193, 126, 131, 178, 211, 166, 5, 81, 187, 71, 48, 223, 161, 163, 137, 42, 209, 181, 143, 175, 110, 123, 193, 205, 207, 189, 7, 80, 180, 37, 186, 171, 237, 84, 149, 9, 110, 127, 138, 190, 89, 6, 151]
def vnH3 : List UInt8 := [185, 186, 124, 78, 149, 238, 60, 1, 110, 84, 44, 251, 84, 143, 17, 16, 102, 124, 232, 212, 98, 232, 93, 156, 251, 7, 199, 144, 194, 238, 173, 122, 239, 183, 16, 191, 122, 248, 201, 130, 87, 248, 230, 211, 59, 50, 116, 169, 255, 7, 197, 16, 213, 247, 228, 191, 17, 76, 238, 101, 104, 195, 126, 79]
def vnF : List UInt8 := [36, 53, 30, 52, 66, 119, 19, 145, 33, 247, 7, 120, 131, 64, 186, 223, 192, 183, 40, 0, 6, 156, 90, 53, 75, 19, 14, 68, 163, 144, 6, 159]
def vnS : List UInt8 := [36, 53, 30, 52, 66, 119, 19, 145, 33, 247, 7, 120, 131, 64, 186, 223, 192, 183, 40, 0, 6, 156, 90, 53, 75, 19, 14, 68, 163, 144, 6, 159, 141, 115, 50, 15, 174, 199, 131, 75, 70, 252, 22, 37, 149, 12, 49, 179, 244, 142, 62, 228, 60, 75, 19, 105, 115, 21, 119, 219, 228, 20, 199, 1]
theorem vn_h1 : sha512 (seH.drop 32 ++ vnT) = vnH1 := by kernel_rfl
theorem vn_r1 : le (sgR vnH1) = 1576679189564941824642502431613691188419433255768712522445647919438234614122 := by kernel_rfl
theorem vn_fp : cv.mul 1576679189564941824642502431613691188419433255768712522445647919438234614122 bP = ⟨fe 11827100864583945802362875281575916245939759602315278138052011828024212295423, fe 14033297641582199035616444759261097472787700195917163615370015750302879069476⟩ := fast_at dE (by kernel_rfl) (by kernel_rfl)
theorem vn_fb : pb ⟨fe 11827100864583945802362875281575916245939759602315278138052011828024212295423, fe 14033297641582199035616444759261097472787700195917163615370015750302879069476⟩ = vnF := by kernel_rfl
theorem vn_f : sgF vnH1 = vnF := by rw [sgF, vn_r1, vn_fp, vn_fb]
theorem vn_h2 : sha512 (vnF ++ (seK ++ vnT)) = vnH2 := by kernel_rfl
theorem vn_h3 : sha512 (vnF ++ (seK ++ vnT2)) = vnH3 := by kernel_rfl
theorem vn_s1 : vnF ++ sgS seH vnH1 vnH2 = vnS := by kernel_rfl
theorem vn_s : sgF vnH1 ++ sgS seH vnH1 vnH2 = vnS := by rw [vn_f, vn_s1]
theorem vn_h2' : sha512 (sgF vnH1 ++ (sgK seH ++ vnT)) = vnH2 := by rw [vn_f, se_k, vn_h2]
theorem vn_good : goodB seK vnT vnS = true := by
  have h := good_self seH vnH1 vnT vn_h2'
  rwa [vn_s, se_k] at h
theorem vn_take : (vnS).take 32 = sgF vnH1 := by rw [vn_f]; kernel_rfl
theorem vn_s4 : le ((vnS).drop 32) = 804059619381320897718421513830997437324335256682369275571023885294202155917 := by kernel_rfl
theorem vn_c3 : le (sgR vnH3) = 952183051257332000482739247701396218302409587947259319784463358482953217621 := by kernel_rfl
theorem vn_no : (804059619381320897718421513830997437324335256682369275571023885294202155917 + (L - (952183051257332000482739247701396218302409587947259319784463358482953217621 * 38748270507491543869280182973643753799655646515636239770492563660028217171792 + 1576679189564941824642502431613691188419433255768712522445647919438234614122) % L)) % L = 3318452663250751038955787701543613495724864364104628276210454252515616114210 := by kernel_rfl
theorem vn_bad : goodB seK vnT2 vnS = false := by
  have h := good_other (s := seH) (bb := vnT2) vn_take (by rw [se_n, se_n1]) vn_r1 vn_s4 (by rw [vn_take, vn_f, se_k, vn_h3, vn_c3]) (fun e => by have h2 := Nat.mod_eq_zero_of_dvd e; rw [vn_no] at h2; cases h2)
  rwa [se_k] at h
end Go.Proofs.YtpacobmjjjillaaGreat
end

section
namespace Go.Proofs.YtpacobmjjjillaaGreat
open Go Hw
set_option linter.unusedVariables false
set_option linter.unusedSimpArgs false

open Ed

theorem seB_length : seB.length = 32 := rfl

set_option maxRecDepth 100000 in
set_option maxHeartbeats 1000000 in
theorem kit_seed1  : Meets Tryz.prog 16 [i64 1] [] (fun _ => True) (fun v out => v = agg (bytesV seB) ∧ out = []) := by
 intro W hW
 refine calls_of (hp0 := []) Tryz.func16 rfl 9 Tryz.ntmps16 rfl (HRep.nil _) ?_
 refine Sat.seq (Sat.region ?_)
 refine Tr.alloc (cs := (bytesV (List.replicate 32 0))) rfl Zr23 rfl ?_
 intro n2 hn2 hf2
 refine Tr.nil (at_n (Sat.seq (Sat.region ?_)))
 refine Tr.move rfl rfl rfl ?_
 refine Tr.conv rfl rfl rfl Tryz.underlying3 Tryz.underlying5 (show Value.int .u8 (IntKind.u8.wrap 1) = u8 1 from rfl) ?_
 refine Tr.move rfl rfl rfl ?_
 refine Tr.shrN 1 8 rfl rfl rfl rfl rfl dE ?_
 refine Tr.conv rfl rfl rfl Tryz.underlying3 Tryz.underlying5 (show Value.int .u8 (IntKind.u8.wrap ((1 / 2 ^ 8 : Nat) : Int)) = u8 0 from rfl) ?_
 refine Tr.build (cs := bytesV seB) rfl rfl rfl (fun w => by kernel_rfl) ?_
 refine Tr.storeAll rfl rfl rfl rfl (by exact bytesV_cell _) Sz23 (by (simp [seB_length]; done)) (by exact mem0) (by (simp; done)) (by exact upd0) ?_
 refine Tr.nil (at_n (Sat.ret (en_r ?_)))
 refine ⟨_, [], res_cell rfl rfl Tryz.underlying23 rfl Sz23 (by exact mem0) (by simp [seB_length]), sP, sP, ?_, rfl⟩
 rfl

def oneD : List UInt8 := 1 :: List.replicate 31 0
theorem oneD_length : oneD.length = 32 := rfl
def vn0 : Vote := { Vote.zero with fHeight := 3, fPhase := 3 }
theorem vn0_ok : vn0.ok := ⟨rfl, rfl, rfl⟩
theorem vn0_txt : vtxt (vsg vn0 seK vn0.fSig) = vnT := by kernel_rfl
theorem vnS_length : vnS.length = 64 := by kernel_rfl
theorem seK_length : seK.length = 32 := by kernel_rfl
theorem vn_txt : vtxt (vsg vn0 seK vnS) = vnT := by kernel_rfl
theorem vn_txt2 : vtxt { vsg vn0 seK vnS with fValue := oneD } = vnT2 := by kernel_rfl
theorem vn_by : (voteBy (vsg vn0 seK vnS)).take 4 = [3, 0, 3, 0] := by kernel_rfl
theorem vn_byl : (voteBy (vsg vn0 seK vnS)).length = 132 := by kernel_rfl
theorem vn_chk : vcheck (vsg vn0 seK vnS) = 0 := by kernel_rfl
theorem vn_chk2 : vcheck { vsg vn0 seK vnS with fValue := oneD } = 0 := by kernel_rfl
theorem vn_facts : ∃ (X : Vote) (K : List UInt8), X.ok ∧ K.length = 32 ∧ X.fVoter = K ∧ Meets Tryz.prog 11 [agg (bytesV seB), agg vn0.cells] [] (fun _ => True) (fun v out => v = .tuple #[agg X.cells, i64 0] ∧ out = [])
    ∧ Meets Tryz.prog 18 [agg (bytesV seB)] [] (fun _ => True) (fun v out => v = agg (bytesV K) ∧ out = [])
    ∧ vcheck X = 0 ∧ vgood X = 0 ∧ vgood { X with fValue := oneD } = 9 ∧ against X { X with fValue := oneD } = true ∧ against X X = false ∧ (voteBy X).take 4 = [3, 0, 3, 0] ∧ (voteBy X).length = 132 ∧ (vtxt X).take 4 = [118, 111, 116, 101] ∧ 4 ≤ (vtxt X).length := by
  have hT : vtxt (vsg vn0 (sgK seH) vn0.fSig) = vnT := by rw [se_k]; exact vn0_txt
  have cS := vote_sign seB rfl vn0 vn0_ok seH vnH1 vnH2 ⟨se_h⟩ ⟨by rw [hT]; exact vn_h1⟩ ⟨by rw [hT]; exact vn_h2'⟩ (by kernel_rfl)
  have cK := r6_Key seB rfl seH ⟨se_h⟩
  rw [vn_s, se_k] at cS
  rw [se_k] at cK
  refine ⟨vsg vn0 seK vnS, seK, vsg_ok vn0_ok seK_length vnS_length, seK_length, rfl, cS, cK, vn_chk, ?_, ?_, by kernel_rfl, by kernel_rfl, vn_by, vn_byl, by kernel_rfl, by rw [vn_txt]; exact Nat.le_of_ble_eq_true (by kernel_rfl)⟩
  · unfold vgood
    rw [if_pos vn_chk, vn_txt]
    exact if_pos vn_good
  · unfold vgood
    rw [if_pos vn_chk2, vn_txt2]
    refine if_neg ?_
    show ¬ goodB seK vnT2 vnS = true
    rw [vn_bad]
    exact fun h => by cases h
theorem vn_z : vcheck Vote.zero = 2 := by kernel_rfl
theorem vn_gz : vgood Vote.zero = 2 := by
  unfold vgood
  rw [if_neg (by rw [vn_z]; decide), vn_z]
theorem vn_nz : nameV Vote.zero = List.replicate 32 0 := by
  unfold nameV
  rw [if_neg (by rw [vn_z]; decide)]
theorem vn_c : vcheck { Vote.zero with fHeight := 1, fRound := 21, fPhase := 2 } = 2 := by kernel_rfl

set_option maxRecDepth 100000 in
set_option maxHeartbeats 8000000 in
theorem law_votenames  : Meets Tryz.prog 4 [] [] (fun _ => True) (fun v out => v = .bool true ∧ out = []) := by
 intro W hW
 obtain ⟨X, K, hX, lK, hXK, cS, cKy, hc, hg, hg2, ha1, ha2, hb1, hb2, ht1, ht2⟩ := vn_facts
 have lX := hX.l_fValue
 have lV := hX.l_fVoter
 have hY : ({ X with fValue := oneD } : Vote).ok := ⟨rfl, hX.l_fVoter, hX.l_fSig⟩
 have hC : ({ Vote.zero with fHeight := 1, fRound := 21, fPhase := 2 } : Vote).ok := ⟨rfl, rfl, rfl⟩
 have cGX := vote_good X hX
 rw [hg] at cGX
 have cGY := vote_good _ hY
 rw [hg2] at cGY
 have cGZ := vote_good _ Vote.zero_ok
 rw [vn_gz] at cGZ
 have cA1 := vote_against X _ hX hY
 rw [ha1] at cA1
 have cA2 := vote_against X X hX hX
 rw [ha2] at cA2
 have cC := vote_check _ hC
 rw [vn_c] at cC
 have cB := vote_bytes X hX
 rw [hc, hb2] at cB
 have cZ := vote_sign_bad seB rfl Vote.zero Vote.zero_ok (by rw [vn_z]; decide)
 rw [vn_z] at cZ
 have cN := vote_name Vote.zero Vote.zero_ok
 rw [vn_nz] at cN
 have cT := vote_text X hX
 refine calls_of (hp0 := []) Tryz.func4 rfl 105 Tryz.ntmps4 rfl (HRep.nil _) ?_
 refine Sat.seq (Sat.region ?_)
 refine Tr.assign rfl rfl rfl ?_
 refine Tr.nil (at_n (Sat.seq (Sat.region ?_)))
 refine Tr.callV rfl rfl rfl rfl Body16 (kit_seed1) (fun _ _ => trivial) ?_
 refine Tr.build (cs := vn0.cells) rfl rfl rfl (fun w => by kernel_rfl) ?_
 refine Tr.callV rfl rfl rfl rfl Body11 (cS) (fun _ _ => trivial) ?_
 refine Tr.move rfl rfl rfl ?_
 refine Tr.extract rfl rfl rfl rfl ?_
 refine Tr.extract rfl rfl rfl rfl ?_
 refine Tr.alloc (cs := Vote.zero.cells) rfl Vote.zr rfl ?_
 intro n1 hn1 hf1
 refine Tr.storeAll rfl rfl rfl rfl (Vote.isCell (by assumption)) Sz29 (Vote.length (by assumption)) (by exact mem0) (Vote.length (by exact Vote.zero_ok)) (by exact upd0) ?_
 refine Tr.assign rfl rfl rfl ?_
 refine Tr.nil (at_n (Sat.seq (Sat.region ?_)))
 refine Tr.loadAll rfl rfl rfl Tryz.underlying29 rfl Sz29 (by exact mem0) (Vote.length (by assumption)) ?_
 refine Tr.alloc (cs := Vote.zero.cells) rfl Vote.zr rfl ?_
 intro n3 hn3 hf3
 refine Tr.storeAll rfl rfl rfl rfl (Vote.isCell (by assumption)) Sz29 (Vote.length (by assumption)) (by exact mem0) (Vote.length (by exact Vote.zero_ok)) (by exact upd0) ?_
 refine Tr.nil (at_n (Sat.seq (Sat.region ?_)))
 refine Tr.build (cs := bytesV oneD) rfl rfl rfl (fun w => by kernel_rfl) ?_
 refine Tr.fld rfl rfl rfl Tryz.underlying29 rfl Sz24 dE _ rfl ?_
 refine Tr.storeN (bytesV _) rfl rfl rfl rfl rfl (by exact bytesV_cell _) Sz24 (by simp [oneD_length]) (by exact mem0) (by rw [Vote.length (by assumption)]; simp [oneD_length]) (Vote.upd_fValue (by assumption) _ (by simp [oneD_length])) (by exact upd0) ?_
 refine Tr.nil (at_n (Sat.seq (Sat.region ?_)))
 refine Tr.loadAll rfl rfl rfl Tryz.underlying29 rfl Sz29 (by exact mem1) (Vote.length (by assumption)) ?_
 refine Tr.call4 rfl rfl rfl rfl rfl Body17 (cB) (fun _ _ => trivial) ?_
 rintro v19 out19 ⟨s19, rfl, hac19⟩
 obtain ⟨q19, c19, rfl, hc19, rfl⟩ := acc_pos hac19 dE
 simp only [Sl.v]
 refine Tr.move rfl rfl rfl ?_
 refine Tr.extract rfl rfl rfl rfl ?_
 refine Tr.extract rfl rfl rfl rfl ?_
 refine Tr.assign rfl rfl rfl ?_
 refine Tr.assign rfl rfl rfl ?_
 refine Tr.nil (at_n (Sat.seq (Sat.region ?_)))
 refine Tr.callV rfl rfl rfl rfl Body16 (kit_seed1) (fun _ _ => trivial) ?_
 refine Tr.build (cs := Vote.zero.cells) rfl rfl rfl (fun w => by kernel_rfl) ?_
 refine Tr.callV rfl rfl rfl rfl Body11 (cZ) (fun _ _ => trivial) ?_
 refine Tr.move rfl rfl rfl ?_
 refine Tr.extract rfl rfl rfl rfl ?_
 refine Tr.extract rfl rfl rfl rfl ?_
 refine Tr.alloc (cs := Vote.zero.cells) rfl Vote.zr rfl ?_
 intro n6 hn6 hf6
 refine Tr.storeAll rfl rfl rfl rfl (Vote.isCell (by exact Vote.zero_ok)) Sz29 (Vote.length (by exact Vote.zero_ok)) (by exact mem0) (Vote.length (by exact Vote.zero_ok)) (by exact upd0) ?_
 refine Tr.assign rfl rfl rfl ?_
 refine Tr.nil (at_n (Sat.seq ?_))
 refine Sat.draw [(3, 0), (0, 1), (0, 2), (0, 3), (0, 4), (0, 5), (0, 6), (1, 7), (3, 8), (3, 9), (0, 10), (0, 11), (0, 12), (1, 13), (3, 14), (0, 15), (0, 16), (0, 17), (1, 18), (3, 19), (0, 20), (0, 21), (0, 22), (0, 23), (3, 24), (0, 25), (0, 26), (0, 27), (1, 28), (1, 29), (3, 30), (0, 31), (0, 32), (1, 33), (1, 34), (3, 35), (0, 36), (0, 37), (0, 38), (0, 39), (0, 40), (0, 41), (0, 42), (0, 43), (0, 44), (1, 45), (0, 46), (0, 47), (0, 48), (1, 49), (3, 50), (0, 51), (1, 52), (0, 53), (0, 54), (0, 55), (0, 56), (0, 57), (0, 58), (0, 59), (0, 60), (3, 61), (0, 62), (0, 63), (0, 64), (0, 65), (0, 66), (0, 67), (0, 69), (3, 68), (0, 70), (0, 71), (0, 72), (1, 73), (1, 74), (3, 75), (0, 76), (0, 77)] Mixed (by kernel_rfl) ?_
 refine Tr.callV rfl rfl rfl rfl Body10 (law20_lives) (fun _ _ => trivial) ?_
 refine Tr.move rfl rfl rfl ?_
 refine Tr.move rfl rfl rfl ?_
 refine Tr.eqi rfl rfl rfl rfl (decide_eq_true (rfl)) ?_
 refine Tr.pick rfl rfl rfl rfl rfl rfl ?_
 refine Tr.move rfl rfl rfl ?_
 refine Tr.fld rfl rfl rfl Tryz.underlying29 rfl Sz25 dE _ rfl ?_
 refine Tr.loadN (bytesV _) rfl rfl rfl Tryz.underlying25 rfl Sz25 (by exact mem3) (Vote.row_fVoter (by assumption)) (Vote.rl_fVoter (by assumption)) ?_
 refine Tr.callV rfl rfl rfl rfl Body16 (kit_seed1) (fun _ _ => trivial) ?_
 refine Tr.callV rfl rfl rfl rfl Body18 (cKy) (fun _ _ => trivial) ?_
 refine Tr.eql_bytes rfl rfl rfl rfl Tryz.eqGuardType25 Tryz.underlying25 Tryz.underlying5 Sz5 (by (simp [lV]; done)) (by (simp [lK]; done)) (decide_eq_true (hXK)) ?_
 refine Tr.pick rfl rfl rfl rfl rfl rfl ?_
 refine Tr.move rfl rfl rfl ?_
 refine Tr.loadAll rfl rfl rfl Tryz.underlying29 rfl Sz29 (by exact mem3) (Vote.length (by assumption)) ?_
 refine Tr.callV rfl rfl rfl rfl Body14 (cGX) (fun _ _ => trivial) ?_
 refine Tr.eqi rfl rfl rfl rfl (decide_eq_true (rfl)) ?_
 refine Tr.pick rfl rfl rfl rfl rfl rfl ?_
 refine Tr.move rfl rfl rfl ?_
 refine Tr.loadAll rfl rfl rfl Tryz.underlying29 rfl Sz29 (by exact mem2) (Vote.length (by assumption)) ?_
 refine Tr.callV rfl rfl rfl rfl Body14 (cGY) (fun _ _ => trivial) ?_
 refine Tr.eqi rfl rfl rfl rfl (decide_eq_true (rfl)) ?_
 refine Tr.pick rfl rfl rfl rfl rfl rfl ?_
 refine Tr.move rfl rfl rfl ?_
 refine Tr.build (cs := Vote.zero.cells) rfl rfl rfl (fun w => by kernel_rfl) ?_
 refine Tr.callV rfl rfl rfl rfl Body14 (cGZ) (fun _ _ => trivial) ?_
 refine Tr.eqi rfl rfl rfl rfl (decide_eq_true (rfl)) ?_
 refine Tr.pick rfl rfl rfl rfl rfl rfl ?_
 refine Tr.move rfl rfl rfl ?_
 refine Tr.loadAll rfl rfl rfl Tryz.underlying29 rfl Sz29 (by exact mem3) (Vote.length (by assumption)) ?_
 refine Tr.loadAll rfl rfl rfl Tryz.underlying29 rfl Sz29 (by exact mem2) (Vote.length (by assumption)) ?_
 refine Tr.callV rfl rfl rfl rfl Body19 (cA1) (fun _ _ => trivial) ?_
 refine Tr.pick rfl rfl rfl rfl rfl rfl ?_
 refine Tr.move rfl rfl rfl ?_
 refine Tr.loadAll rfl rfl rfl Tryz.underlying29 rfl Sz29 (by exact mem3) (Vote.length (by assumption)) ?_
 refine Tr.loadAll rfl rfl rfl Tryz.underlying29 rfl Sz29 (by exact mem3) (Vote.length (by assumption)) ?_
 refine Tr.callV rfl rfl rfl rfl Body19 (cA2) (fun _ _ => trivial) ?_
 refine Tr.not rfl rfl rfl ?_
 refine Tr.pick rfl rfl rfl rfl rfl rfl ?_
 refine Tr.move rfl rfl rfl ?_
 refine Tr.move rfl rfl rfl ?_
 refine Tr.eqi rfl rfl rfl rfl (decide_eq_true (rfl)) ?_
 refine Tr.pick rfl rfl rfl rfl rfl rfl ?_
 refine Tr.move rfl rfl rfl ?_
 refine Tr.move rfl rfl rfl ?_
 refine Tr.sliceHi 4 rfl rfl rfl rfl rfl oM Tryz.underlying39 Sz5 ?_
 refine Tr.toStr rfl rfl rfl Tryz.underlying39 Tryz.underlying5 Tryz.underlying9 (fun w h => hb1 ▸ seesP_tk (n := 4) (SeesP.of (sees_own h (by exact mem1)))) rfl ?_
 refine Tr.eql_str rfl rfl rfl rfl (decide_eq_true (rfl)) ?_
 refine Tr.pick rfl rfl rfl rfl rfl rfl ?_
 refine Tr.move rfl rfl rfl ?_
 refine Tr.loadAll rfl rfl rfl Tryz.underlying29 rfl Sz29 (by exact mem3) (Vote.length (by assumption)) ?_
 refine Tr.call rfl rfl rfl rfl Body20 (cT) (FreshRow.loose _ _ _ _) (fun _ _ => trivial) ?_
 rintro v78 out78 ⟨q78, c78, rfl, hc78, rfl⟩
 refine Tr.sliceHi 4 rfl rfl rfl rfl rfl oM Tryz.underlying39 Sz5 ?_
 refine Tr.toStr rfl rfl rfl Tryz.underlying39 Tryz.underlying5 Tryz.underlying9 (fun w h => ht1 ▸ seesP_tk (n := 4) (SeesP.of (sees_own h (by exact mem0)))) rfl ?_
 refine Tr.eql_str rfl rfl rfl rfl (decide_eq_true (rfl)) ?_
 refine Tr.pick rfl rfl rfl rfl rfl rfl ?_
 refine Tr.move rfl rfl rfl ?_
 refine Tr.move rfl rfl rfl ?_
 refine Tr.eqi rfl rfl rfl rfl (decide_eq_true (rfl)) ?_
 refine Tr.pick rfl rfl rfl rfl rfl rfl ?_
 refine Tr.move rfl rfl rfl ?_
 refine Tr.build (cs := ({ Vote.zero with fHeight := 1, fRound := 21, fPhase := 2 } : Vote).cells) rfl rfl rfl (fun w => by kernel_rfl) ?_
 refine Tr.callV rfl rfl rfl rfl Body13 (cC) (fun _ _ => trivial) ?_
 refine Tr.eqi rfl rfl rfl rfl (decide_eq_true (rfl)) ?_
 refine Tr.pick rfl rfl rfl rfl rfl rfl ?_
 refine Tr.move rfl rfl rfl ?_
 refine Tr.pick rfl rfl rfl rfl rfl rfl ?_
 refine Tr.move rfl rfl rfl ?_
 refine Tr.build (cs := Vote.zero.cells) rfl rfl rfl (fun w => by kernel_rfl) ?_
 refine Tr.build (cs := bytesV (List.replicate 32 0)) rfl rfl rfl (fun w => by kernel_rfl) ?_
 refine Tr.callV rfl rfl rfl rfl Body21 (cN) (fun _ _ => trivial) ?_
 refine Tr.eql_bytes rfl rfl rfl rfl Tryz.eqGuardType24 Tryz.underlying24 Tryz.underlying5 Sz5 (by (simp; done)) (by (simp; done)) (decide_eq_true (rfl)) ?_
 refine Tr.pick rfl rfl rfl rfl rfl rfl ?_
 refine Tr.move rfl rfl rfl ?_
 refine Tr.loadAll rfl rfl rfl Tryz.underlying29 rfl Sz29 (by exact mem3) (Vote.length (by assumption)) ?_
 refine Tr.loadAll rfl rfl rfl Tryz.underlying29 rfl Sz29 (by exact mem3) (Vote.length (by assumption)) ?_
 refine Tr.callV rfl rfl rfl rfl Body22 (vote_same _ _ hY hY) (fun _ _ => trivial) ?_
 refine Tr.pick rfl rfl rfl rfl rfl rfl ?_
 refine Tr.assign rfl rfl rfl ?_
 refine Tr.nil (at_n (Sat.ret (en_r ?_)))
 refine ⟨_, [], res_tmp rfl rfl, sP, sP, ?_, rfl⟩
 simp

end Go.Proofs.YtpacobmjjjillaaGreat
end

section
namespace Go.Proofs.YtpacobmjjjillaaGreat
open Go Go.ChangeShapes Go.WideShapes Go.ChangeAt Go.RowKit
set_option linter.unusedVariables false

theorem ownVNms : ownKnob Tryz.prog.godebug = none := by kernel_rfl
theorem walkVNm (w : World) : Calls Tryz.prog 4 #[] w fun e w' => e = .returned (.bool true) ∧ Below w.heap.size w w' :=
  (law_votenames w trivial).mono fun e w' ⟨v, out, he, ⟨hv, ho⟩, hr⟩ => ⟨by rw [he, hv], Hw.Keeps.below hr.keeps⟩

set_option maxRecDepth 100000 in
theorem liftedVNm (os : Os) (started : os.Started) (H : Type) (enc : TypeId × Value → H) :
    ReturnsInHanded {} Tryz.checked os 4 .any (Rows.voteNamesSpec.pre6 enc Tryz.prog Tryz.f4 Rows.voteNamesRow.domain false) (Rows.voteNamesSpec.post enc Tryz.prog Tryz.f4 false true false false) := by
  refine returnsInHanded_of_change (C := Tryz.checked) ownVNms started (by kernel_rfl) Tryz.func4
    (ChangeSpec.witness6 (enc := enc) (C := Tryz.checked) false ⟨#[], #[], []⟩ 8 (by kernel_rfl) (by kernel_rfl) (by kernel_rfl) (by kernel_rfl)) ?_
  intro W base args ds gs before hval0 hW hcnd _
  have hW' := hW
  obtain ⟨p, q, hA0, hV, rfl, hfz, hnd⟩ := hW
  have hA : DataW.TrodAll enc Tryz.prog W 0 (fun _ => true) true Tryz.f4.params.toList args.toList ds p := hA0
  rw [Tryz.params4] at hA
  obtain ⟨hargs, rfl, rfl⟩ := trodAll_nil hA
  obtain rfl : args = #[] := by cases args; simp_all
  obtain ⟨rfl, rfl⟩ := trodVars_none hV
  clear hA0 hval0
  refine (walkVNm W).mono fun e W' ⟨he, bel⟩ => ?_
  subst he
  exact ⟨_, rfl, _, _, _, [], _, [], hW', trodAll_mk1 (shut_bool Tryz.underlying4 _), trodAll_mk0, rfl, bel.frame _, fun h => by cases h⟩

theorem voteNames_holds : Rows.VoteNamesSaid :=
  OpenClaim.holds_of_wide 4 Tryz.f4 rfl rfl rfl rfl rfl rfl rfl ⟨rfl, rfl, rfl, rfl, rfl⟩ rfl rfl rfl rfl rfl (by kernel_rfl) Tryz.func4 (by kernel_rfl)
    (of_decide_eq_true (by kernel_rfl)) (by unfold Func.isWrapper; first | (rw [if_pos (by decide +kernel)]; kernel_rfl) | (rw [if_neg (by decide +kernel)]; exact ⟨rfl, rfl⟩))
    (fun os started H enc _ => liftedVNm os started H enc)

end Go.Proofs.YtpacobmjjjillaaGreat
end
