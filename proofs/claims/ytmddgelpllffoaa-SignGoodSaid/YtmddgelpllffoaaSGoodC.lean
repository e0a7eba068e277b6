/- headwaterlaw06.SignGood returns true at every input, and all that it reads reads behind the call as before. Conditions: none beyond the given statement's own. -/
import Derived.WalkKit
import Derived.Orders
import Derived.Deep.LoopGhost
import Derived.IntWalk
import Derived.Laws.StructEq
import Derived.Test.YtmddgelpllffoaaRows
import Derived.KernelRfl
import Derived.Laws.MathBits
import Derived.ArgAppend
import Derived.Deep.AppendSrc
import Derived.Lib.Bytealg
import Derived.Lib.BytesEntry
import Derived.Laws.IdiomStrings
import Derived.WideKeyArr2
import Derived.ProofKit
import Derived.OpenShut
import Derived.Deep.Slices
import Derived.Laws.Pointers
import Derived.Laws.Cover3
import Derived.LaidEqlPtr
import Derived.LoopN
import Derived.Laws.Externs
import Derived.RangeFuncLeaves
import Derived.RangeFuncSeq
import Derived.OrdersIn
import Derived.ChangeOld
import Derived.Below
import Derived.Test.YtmddgelpllffoaaSGoodC5
section
namespace Go.Proofs.Ytmddgelpllffoaa
open Go Hw
set_option linter.unusedVariables false
set_option linter.unusedSimpArgs false

open Ed

theorem o_fit {a : List UInt8} (ha : a.length = 32) : Fit10 (openT (le a)) := openT_fit (le32 ha)
theorem o_v {a : List UInt8} (ha : a.length = 32) : fe (v10 (openT (le a))) = fe (le a) := openT_v (le32 ha)
/-- closed words -/
theorem r3_Close_v (w : List Nat) (hw : Fit10 w) (X : Fp) (h : fe (v10 w) = X) : Meets Try.prog 69 [agg (natsV w)] [] (fun _ => True) (fun v out => v = agg (bytesV (fb X)) ∧ out = []) := by
  rw [← h]; exact r3_Close w hw

set_option maxRecDepth 100000 in
set_option maxHeartbeats 1000000 in
theorem r3_Rest (a : List UInt8) (ha : a.length = 32) : Meets Try.prog 38 [agg (bytesV a)] [] (fun _ => True) (fun v out => v = agg (bytesV (fb (fe (le a)))) ∧ out = []) := by
  intro W hW
  refine calls_of (hp0 := []) Try.func38 rfl 6 Try.ntmps38 rfl (HRep.nil _) ?_
  refine Sat.seq ?_
  refine Sat.region ?_
  refine Tr.boxA rfl rfl ?_
  intro n1 hn1 hf1
  refine Tr.alloc (cs := (bytesV (List.replicate 32 0))) rfl Zr30 rfl ?_
  intro n2 hn2 hf2
  refine Tr.nil ?_
  refine at_n ?_
  refine Sat.seq ?_
  refine Sat.region ?_
  first
    | refine Tr.loadAll rfl rfl rfl Try.underlying30 rfl Sz30 mM (by first | (simp [natsV_length, fb_length, ha]; done) | assumption | (rw [bytesV, List.length_map]; assumption)) ?_
    | refine Tr.loadN _ rfl rfl rfl Try.underlying30 rfl Sz30 mM (by exact rfl) (by first | (simp [natsV_length, fb_length, ha]; done) | assumption | (rw [bytesV, List.length_map]; assumption)) ?_
  refine Tr.callV rfl rfl rfl rfl Body70 (r3_Open (a) (ha)) (fun _ _ => trivial) ?_
  refine Tr.callV rfl rfl rfl rfl Body69 (r3_Close_v (_) (o_fit ha) (_) (o_v ha)) (fun _ _ => trivial) ?_
  first
    | refine Tr.storeAll rfl rfl rfl rfl (by first | exact bytesV_cell _ | exact natsV_cell _ | simp [isCell]) Sz30 (by first | (simp [natsV_length, fb_length, ha]; done) | assumption | (rw [bytesV, List.length_map]; assumption)) mM (by first | (simp [natsV_length, fb_length, ha]; done) | assumption | (rw [bytesV, List.length_map]; assumption)) uU ?_
    | refine Tr.storeN _ rfl rfl rfl rfl rfl (by first | exact bytesV_cell _ | exact natsV_cell _ | simp [isCell]) Sz30 (by first | (simp [natsV_length, fb_length, ha]; done) | assumption | (rw [bytesV, List.length_map]; assumption)) mM (by first | (simp [natsV_length, fb_length, ha]; done) | assumption | (rw [bytesV, List.length_map]; assumption)) (by exact rfl) uU ?_
  refine Tr.nil ?_
  refine at_n ?_
  refine Sat.ret ?_
  refine en_r ?_
  refine ⟨_, [], res_cell rfl rfl Try.underlying30 rfl Sz30 mM (by simp [natsV_length, fb_length, ha]), sP, sP, ?_, rfl⟩
  rfl

set_option maxRecDepth 100000 in
set_option maxHeartbeats 1000000 in
theorem r3_Canon (a : List UInt8) (ha : a.length = 32) : Meets Try.prog 19 [agg (bytesV a)] [] (fun _ => True) (fun v out => v = .bool (decide (fb (fe (le a)) = a)) ∧ out = []) := by
  intro W hW
  refine calls_of (hp0 := []) Try.func19 rfl 7 Try.ntmps19 rfl (HRep.nil _) ?_
  refine Sat.seq ?_
  refine Sat.region ?_
  refine Tr.boxA rfl rfl ?_
  intro n1 hn1 hf1
  refine Tr.assign rfl rfl rfl ?_
  refine Tr.nil ?_
  refine at_n ?_
  refine Sat.seq ?_
  refine Sat.draw [(1, 0), (1, 2), (3, 1), (0, 3), (0, 4)] Mixed (by kernel_rfl) ?_
  first
    | refine Tr.loadAll rfl rfl rfl Try.underlying30 rfl Sz30 mM (by first | (simp [natsV_length, fb_length, ha]; done) | assumption | (rw [bytesV, List.length_map]; assumption)) ?_
    | refine Tr.loadN _ rfl rfl rfl Try.underlying30 rfl Sz30 mM (by exact rfl) (by first | (simp [natsV_length, fb_length, ha]; done) | assumption | (rw [bytesV, List.length_map]; assumption)) ?_
  first
    | refine Tr.loadAll rfl rfl rfl Try.underlying30 rfl Sz30 mM (by first | (simp [natsV_length, fb_length, ha]; done) | assumption | (rw [bytesV, List.length_map]; assumption)) ?_
    | refine Tr.loadN _ rfl rfl rfl Try.underlying30 rfl Sz30 mM (by exact rfl) (by first | (simp [natsV_length, fb_length, ha]; done) | assumption | (rw [bytesV, List.length_map]; assumption)) ?_
  refine Tr.callV rfl rfl rfl rfl Body38 (r3_Rest (a) (ha)) (fun _ _ => trivial) ?_
  refine Tr.eql_bytes rfl rfl rfl rfl Try.eqGuardType30 Try.underlying30 Try.underlying5 Sz5 (by first | (simp [natsV_length, fb_length, ha]; done) | assumption | (rw [bytesV, List.length_map]; assumption)) (by first | (simp [natsV_length, fb_length, ha]; done) | assumption | (rw [bytesV, List.length_map]; assumption)) rfl ?_
  refine Tr.assign rfl rfl rfl ?_
  refine Tr.nil ?_
  refine at_n ?_
  refine Sat.ret ?_
  refine en_r ?_
  refine ⟨_, [], res_tmp rfl rfl, sP, sP, ?_, rfl⟩
  rfl

set_option maxRecDepth 100000 in
set_option maxHeartbeats 1000000 in
theorem r3_Same (a b : List UInt8) (ha : a.length = 32) (hb : b.length = 32) : Meets Try.prog 75 [agg (bytesV a), agg (bytesV b)] [] (fun _ => True) (fun v out => v = .bool (decide (fe (le a) = fe (le b))) ∧ out = []) := by
  intro W hW
  refine calls_of (hp0 := []) Try.func75 rfl 10 Try.ntmps75 rfl (HRep.nil _) ?_
  refine Sat.seq ?_
  refine Sat.region ?_
  refine Tr.boxA rfl rfl ?_
  intro n2 hn2 hf2
  refine Tr.boxA rfl rfl ?_
  intro n3 hn3 hf3
  refine Tr.assign rfl rfl rfl ?_
  refine Tr.nil ?_
  refine at_n ?_
  refine Sat.seq ?_
  refine Sat.draw [(1, 0), (1, 2), (3, 1), (3, 3), (0, 4), (0, 5)] Mixed (by kernel_rfl) ?_
  first
    | refine Tr.loadAll rfl rfl rfl Try.underlying30 rfl Sz30 mM (by first | (simp [natsV_length, fb_length, ha, hb]; done) | assumption | (rw [bytesV, List.length_map]; assumption)) ?_
    | refine Tr.loadN _ rfl rfl rfl Try.underlying30 rfl Sz30 mM (by exact rfl) (by first | (simp [natsV_length, fb_length, ha, hb]; done) | assumption | (rw [bytesV, List.length_map]; assumption)) ?_
  first
    | refine Tr.loadAll rfl rfl rfl Try.underlying30 rfl Sz30 mM (by first | (simp [natsV_length, fb_length, ha, hb]; done) | assumption | (rw [bytesV, List.length_map]; assumption)) ?_
    | refine Tr.loadN _ rfl rfl rfl Try.underlying30 rfl Sz30 mM (by exact rfl) (by first | (simp [natsV_length, fb_length, ha, hb]; done) | assumption | (rw [bytesV, List.length_map]; assumption)) ?_
  refine Tr.callV rfl rfl rfl rfl Body38 (r3_Rest (a) (ha)) (fun _ _ => trivial) ?_
  refine Tr.callV rfl rfl rfl rfl Body38 (r3_Rest (b) (hb)) (fun _ _ => trivial) ?_
  refine Tr.eql_bytes rfl rfl rfl rfl Try.eqGuardType30 Try.underlying30 Try.underlying5 Sz5 (by first | (simp [natsV_length, fb_length, ha, hb]; done) | assumption | (rw [bytesV, List.length_map]; assumption)) (by first | (simp [natsV_length, fb_length, ha, hb]; done) | assumption | (rw [bytesV, List.length_map]; assumption)) rfl ?_
  refine Tr.assign rfl rfl rfl ?_
  refine Tr.nil ?_
  refine at_n ?_
  refine Sat.ret ?_
  refine en_r ?_
  refine ⟨_, [], res_tmp rfl rfl, sP, sP, ?_, rfl⟩
  rw [fb_dec]

theorem odd_byte2 (x : Fp) : decide (((UInt8.ofNat (((fb x).getD 0 0).toNat % 2)).toNat : Int) = 1) = decide (x.val % 2 = 1) := by
  have e : (UInt8.ofNat (((fb x).getD 0 0).toNat % 2)).toNat = x.val % 2 := by
    rw [fb_head, UInt8.toNat_ofNat', UInt8.toNat_ofNat']
    omega
  rw [e]
  congr 1
  exact propext ⟨fun h => by omega, fun h => by omega⟩

set_option maxRecDepth 100000 in
set_option maxHeartbeats 1000000 in
theorem r3_Odd (a : List UInt8) (ha : a.length = 32) : Meets Try.prog 76 [agg (bytesV a)] [] (fun _ => True) (fun v out => v = .bool (decide ((fe (le a)).val % 2 = 1)) ∧ out = []) := by
  intro W hW
  refine calls_of (hp0 := []) Try.func76 rfl 8 Try.ntmps76 rfl (HRep.nil _) ?_
  refine Sat.seq ?_
  refine Sat.region ?_
  refine Tr.boxA rfl rfl ?_
  intro n1 hn1 hf1
  refine Tr.assign rfl rfl rfl ?_
  refine Tr.nil ?_
  refine at_n ?_
  refine Sat.seq ?_
  refine Sat.region ?_
  first
    | refine Tr.loadAll rfl rfl rfl Try.underlying30 rfl Sz30 mM (by first | (simp [natsV_length, fb_length, ha]; done) | assumption | (rw [bytesV, List.length_map]; assumption)) ?_
    | refine Tr.loadN _ rfl rfl rfl Try.underlying30 rfl Sz30 mM (by exact rfl) (by first | (simp [natsV_length, fb_length, ha]; done) | assumption | (rw [bytesV, List.length_map]; assumption)) ?_
  refine Tr.callV rfl rfl rfl rfl Body38 (r3_Rest (a) (ha)) (fun _ _ => trivial) ?_
  refine Tr.idxA1 rfl rfl rfl rfl Try.underlying30 Sz5 Try.underlying5 rfl 0 rfl oM (by first | rfl | exact get_nats (by first | omega | (simp [natsV_length, fb_length, ha]; omega)) | exact get_words (by first | omega | (simp [natsV_length, fb_length, ha]; done) | (simp [natsV_length, fb_length, ha]; omega)) | exact get_bytes (by first | omega | (simp [natsV_length, fb_length, ha]; done) | (simp [natsV_length, fb_length, ha]; omega)) | exact get_ints (by first | omega | (simp [natsV_length, fb_length, ha]; done) | (simp [natsV_length, fb_length, ha]; omega))) ?_
  refine Tr.rem_u8 rfl rfl rfl rfl 2 rfl dE ?_
  refine Tr.eqi rfl rfl rfl rfl rfl ?_
  refine Tr.assign rfl rfl rfl ?_
  refine Tr.nil ?_
  refine at_n ?_
  refine Sat.ret ?_
  refine en_r ?_
  refine ⟨_, [], res_tmp rfl rfl, sP, sP, ?_, rfl⟩
  exact congrArg Value.bool (odd_byte2 _)

set_option maxRecDepth 100000 in
set_option maxHeartbeats 1000000 in
theorem r3_Of (x : UInt64) : Meets Try.prog 40 [u64 x] [] (fun _ => True) (fun v out => v = agg (bytesV (fb (fe x.toNat))) ∧ out = []) := by
  intro W hW
  have hpl : True := trivial
  refine calls_of (hp0 := []) Try.func40 rfl 18 Try.ntmps40 rfl (HRep.nil _) ?_
  refine Sat.seq ?_
  refine Sat.region ?_
  refine Tr.alloc (cs := (bytesV (List.replicate 32 0))) rfl Zr30 rfl ?_
  intro n2 hn2 hf2
  refine Tr.nil ?_
  refine at_n ?_
  refine Sat.seq ?_
  refine Sat.region ?_
  refine Tr.alloc (cs := (bytesV (List.replicate 32 0))) rfl Zr30 rfl ?_
  intro n3 hn3 hf3
  refine Tr.nil ?_
  refine at_n ?_
  refine Sat.seq ?_
  refine Sat.seq ?_
  refine Sat.region ?_
  refine Tr.assign rfl rfl rfl ?_
  refine Tr.nil ?_
  refine at_n ?_
  refine Sat.block ?_
  refine Sat.loop (ι := Nat) (fun k => ⟨[(0, u64 x), (2, ptr n2 0), (3, ptr n3 0), (4, i64 (k : Int))], [⟨n3, bytesV (padW 32 x.toNat k), 30, 32⟩, ⟨n2, bytesV (List.replicate 32 0), 30, 32⟩]⟩) (fun k => k ≤ 8) (fun k => 8 - k) (0) ?_ ?_ ?_
  · omega
  · exact weak_of (wk1 rfl (wk1 rfl (wk1 rfl (wk1 rfl wk0)))) (wh1 (by rw [padW_zero]; exact mem0) (wh1 mM wh0)) nD
  ·
    rintro k hi
    have hpl := padW_length 32 x.toNat k oM
    refine Sat.seq ?_
    refine Sat.seq ?_
    refine Sat.region ?_
    refine Tr.move rfl rfl rfl ?_
    refine Tr.lss rfl rfl rfl rfl rfl ?_
    refine Tr.nil ?_
    refine at_n ?_
    first
      | refine Sat.condP rfl (fun hc0 => ?_) (fun hc0 => ?_)
      | refine Sat.condNP rfl (fun hc0 => ?_) (fun hc0 => ?_)
      | refine Sat.cond rfl (fun hc0 => ?_) (fun hc0 => ?_)
    ·
      refine Sat.skip ?_
      refine at_n ?_
      refine Sat.seq ?_
      refine Sat.block ?_
      refine Sat.region ?_
      refine Tr.move rfl rfl rfl ?_
      refine Tr.move rfl rfl rfl ?_
      refine Tr.move rfl rfl rfl ?_
      refine Tr.mul_i64 rfl rfl rfl rfl oM ?_
      refine Tr.conv rfl rfl rfl Try.underlying3 Try.underlying91 (cv_i64_u64 _) ?_
      refine Tr.shr_u64 rfl rfl rfl rfl (8 * k) (by rw [wordOf_id _ oM]; omega) oM ?_
      refine Tr.conv rfl rfl rfl Try.underlying65 Try.underlying5 (cv_u64_u8 _) ?_
      first
        | refine Tr.idxArr1 rfl rfl rfl rfl Try.underlying30 Sz5 _ rfl oM ?_
        | refine Tr.idxArrO rfl rfl rfl rfl Try.underlying30 Sz5 _ rfl oM ?_
        | refine Tr.idxArr1 rfl rfl rfl rfl Try.underlying30 Sz5 _ (toNat_back oM) oM ?_
        | refine Tr.idxArrO rfl rfl rfl rfl Try.underlying30 Sz5 _ (toNat_back oM) oM ?_
      refine Tr.store1 rfl rfl rfl rfl rfl Sz5 mM (by first | (simp [natsV_length, fb_length, hpl, leb_length]; done) | (simp [natsV_length, fb_length, hpl, leb_length]; omega)) (by first | exact set_nats _ _ _ | exact set_words _ _ _ | exact set_bytes _ _ _ | exact set_ints _ _ _ | rfl) uU ?_
      refine Tr.nil ?_
      refine bl_n ?_
      refine at_n ?_
      refine Sat.region ?_
      refine Tr.move rfl rfl rfl ?_
      refine Tr.add_i64 rfl rfl rfl rfl oM ?_
      refine Tr.assign rfl rfl rfl ?_
      refine Tr.nil ?_
      refine at_n ?_
      exact ⟨k + 1, by omega, by omega, weak_of (wk1 rfl (wk1 rfl (wk1 rfl (wk1 rfl wk0)))) (wh1 (by rw [← zero_set x k oM]; exact mem0) (wh1 mM wh0)) nD⟩
    ·
      obtain rfl : k = 8 := by omega
      rw [pad_small] at *
      refine Sat.exit ?_
      refine at_x ?_
      refine at_x ?_
      refine bl_h ?_
      refine at_n ?_
      refine Sat.seq ?_
      refine Sat.region ?_
      first
        | refine Tr.loadAll rfl rfl rfl Try.underlying30 rfl Sz30 mM (by first | (simp [natsV_length, fb_length, hpl, leb_length]; done) | assumption | (rw [bytesV, List.length_map]; assumption)) ?_
        | refine Tr.loadN _ rfl rfl rfl Try.underlying30 rfl Sz30 mM (by exact rfl) (by first | (simp [natsV_length, fb_length, hpl, leb_length]; done) | assumption | (rw [bytesV, List.length_map]; assumption)) ?_
      first
        | refine Tr.storeAll rfl rfl rfl rfl (by first | exact bytesV_cell _ | exact natsV_cell _ | simp [isCell]) Sz30 (by first | (simp [natsV_length, fb_length, hpl, leb_length]; done) | assumption | (rw [bytesV, List.length_map]; assumption)) mM (by first | (simp [natsV_length, fb_length, hpl, leb_length]; done) | assumption | (rw [bytesV, List.length_map]; assumption)) uU ?_
        | refine Tr.storeN _ rfl rfl rfl rfl rfl (by first | exact bytesV_cell _ | exact natsV_cell _ | simp [isCell]) Sz30 (by first | (simp [natsV_length, fb_length, hpl, leb_length]; done) | assumption | (rw [bytesV, List.length_map]; assumption)) mM (by first | (simp [natsV_length, fb_length, hpl, leb_length]; done) | assumption | (rw [bytesV, List.length_map]; assumption)) (by exact rfl) uU ?_
      refine Tr.nil ?_
      refine at_n ?_
      refine Sat.ret ?_
      refine en_r ?_
      refine ⟨_, [], res_cell rfl rfl Try.underlying30 rfl Sz30 mM (by simp [natsV_length, fb_length, hpl, leb_length]), sP, sP, ?_, rfl⟩
      rw [fe_small]

theorem mul_ab {a b : List UInt8} (ha : a.length = 32) (hb : b.length = 32) : fe (v10 (mulT (openT (le a)) (openT (le b)))) = fe (le a) * fe (le b) := by rw [mulT_v (o_fit ha).len (o_fit hb).len, o_v ha, o_v hb]
theorem sub_ab {a b : List UInt8} (ha : a.length = 32) (hb : b.length = 32) : fe (v10 (minusT (openT (le a)) (openT (le b)))) = fe (le a) - fe (le b) := by rw [minusT_v (o_fit ha).len (o_fit hb), o_v ha, o_v hb]

set_option maxRecDepth 100000 in
set_option maxHeartbeats 1000000 in
theorem r3_Mul (a b : List UInt8) (ha : a.length = 32) (hb : b.length = 32) : Meets Try.prog 39 [agg (bytesV a), agg (bytesV b)] [] (fun _ => True) (fun v out => v = agg (bytesV (fb (fe (le a) * fe (le b)))) ∧ out = []) := by
  intro W hW
  refine calls_of (hp0 := []) Try.func39 rfl 11 Try.ntmps39 rfl (HRep.nil _) ?_
  refine Sat.seq ?_
  refine Sat.region ?_
  refine Tr.boxA rfl rfl ?_
  intro n2 hn2 hf2
  refine Tr.boxA rfl rfl ?_
  intro n3 hn3 hf3
  refine Tr.alloc (cs := (bytesV (List.replicate 32 0))) rfl Zr30 rfl ?_
  intro n4 hn4 hf4
  refine Tr.nil ?_
  refine at_n ?_
  refine Sat.seq ?_
  refine Sat.draw [(1, 0), (1, 2), (3, 1), (3, 3), (3, 4), (3, 5), (4, 6)] Mixed (by kernel_rfl) ?_
  first
    | refine Tr.loadAll rfl rfl rfl Try.underlying30 rfl Sz30 mM (by first | (simp [natsV_length, fb_length, ha, hb]; done) | assumption | (rw [bytesV, List.length_map]; assumption)) ?_
    | refine Tr.loadN _ rfl rfl rfl Try.underlying30 rfl Sz30 mM (by exact rfl) (by first | (simp [natsV_length, fb_length, ha, hb]; done) | assumption | (rw [bytesV, List.length_map]; assumption)) ?_
  first
    | refine Tr.loadAll rfl rfl rfl Try.underlying30 rfl Sz30 mM (by first | (simp [natsV_length, fb_length, ha, hb]; done) | assumption | (rw [bytesV, List.length_map]; assumption)) ?_
    | refine Tr.loadN _ rfl rfl rfl Try.underlying30 rfl Sz30 mM (by exact rfl) (by first | (simp [natsV_length, fb_length, ha, hb]; done) | assumption | (rw [bytesV, List.length_map]; assumption)) ?_
  refine Tr.callV rfl rfl rfl rfl Body70 (r3_Open (a) (ha)) (fun _ _ => trivial) ?_
  refine Tr.callV rfl rfl rfl rfl Body70 (r3_Open (b) (hb)) (fun _ _ => trivial) ?_
  refine Tr.callV rfl rfl rfl rfl Body71 (r3_Times (_) (_) (o_fit ha) (o_fit hb)) (fun _ _ => trivial) ?_
  refine Tr.callV rfl rfl rfl rfl Body69 (r3_Close_v (_) (mulT_fit (o_fit ha) (o_fit hb)) (_) (mul_ab ha hb)) (fun _ _ => trivial) ?_
  first
    | refine Tr.storeAll rfl rfl rfl rfl (by first | exact bytesV_cell _ | exact natsV_cell _ | simp [isCell]) Sz30 (by first | (simp [natsV_length, fb_length, ha, hb]; done) | assumption | (rw [bytesV, List.length_map]; assumption)) mM (by first | (simp [natsV_length, fb_length, ha, hb]; done) | assumption | (rw [bytesV, List.length_map]; assumption)) uU ?_
    | refine Tr.storeN _ rfl rfl rfl rfl rfl (by first | exact bytesV_cell _ | exact natsV_cell _ | simp [isCell]) Sz30 (by first | (simp [natsV_length, fb_length, ha, hb]; done) | assumption | (rw [bytesV, List.length_map]; assumption)) mM (by first | (simp [natsV_length, fb_length, ha, hb]; done) | assumption | (rw [bytesV, List.length_map]; assumption)) (by exact rfl) uU ?_
  refine Tr.nil ?_
  refine at_n ?_
  refine Sat.ret ?_
  refine en_r ?_
  refine ⟨_, [], res_cell rfl rfl Try.underlying30 rfl Sz30 mM (by simp [natsV_length, fb_length, ha, hb]), sP, sP, ?_, rfl⟩
  rfl

set_option maxRecDepth 100000 in
set_option maxHeartbeats 1000000 in
theorem r3_Sub (a b : List UInt8) (ha : a.length = 32) (hb : b.length = 32) : Meets Try.prog 41 [agg (bytesV a), agg (bytesV b)] [] (fun _ => True) (fun v out => v = agg (bytesV (fb (fe (le a) - fe (le b)))) ∧ out = []) := by
  intro W hW
  refine calls_of (hp0 := []) Try.func41 rfl 11 Try.ntmps41 rfl (HRep.nil _) ?_
  refine Sat.seq ?_
  refine Sat.region ?_
  refine Tr.boxA rfl rfl ?_
  intro n2 hn2 hf2
  refine Tr.boxA rfl rfl ?_
  intro n3 hn3 hf3
  refine Tr.alloc (cs := (bytesV (List.replicate 32 0))) rfl Zr30 rfl ?_
  intro n4 hn4 hf4
  refine Tr.nil ?_
  refine at_n ?_
  refine Sat.seq ?_
  refine Sat.draw [(1, 0), (1, 2), (3, 1), (3, 3), (3, 4), (3, 5), (4, 6)] Mixed (by kernel_rfl) ?_
  first
    | refine Tr.loadAll rfl rfl rfl Try.underlying30 rfl Sz30 mM (by first | (simp [natsV_length, fb_length, ha, hb]; done) | assumption | (rw [bytesV, List.length_map]; assumption)) ?_
    | refine Tr.loadN _ rfl rfl rfl Try.underlying30 rfl Sz30 mM (by exact rfl) (by first | (simp [natsV_length, fb_length, ha, hb]; done) | assumption | (rw [bytesV, List.length_map]; assumption)) ?_
  first
    | refine Tr.loadAll rfl rfl rfl Try.underlying30 rfl Sz30 mM (by first | (simp [natsV_length, fb_length, ha, hb]; done) | assumption | (rw [bytesV, List.length_map]; assumption)) ?_
    | refine Tr.loadN _ rfl rfl rfl Try.underlying30 rfl Sz30 mM (by exact rfl) (by first | (simp [natsV_length, fb_length, ha, hb]; done) | assumption | (rw [bytesV, List.length_map]; assumption)) ?_
  refine Tr.callV rfl rfl rfl rfl Body70 (r3_Open (a) (ha)) (fun _ _ => trivial) ?_
  refine Tr.callV rfl rfl rfl rfl Body70 (r3_Open (b) (hb)) (fun _ _ => trivial) ?_
  refine Tr.callV rfl rfl rfl rfl Body72 (r3_Minus (_) (_) (o_fit ha) (o_fit hb)) (fun _ _ => trivial) ?_
  refine Tr.callV rfl rfl rfl rfl Body69 (r3_Close_v (_) (minusT_fit (o_fit ha) (o_fit hb)) (_) (sub_ab ha hb)) (fun _ _ => trivial) ?_
  first
    | refine Tr.storeAll rfl rfl rfl rfl (by first | exact bytesV_cell _ | exact natsV_cell _ | simp [isCell]) Sz30 (by first | (simp [natsV_length, fb_length, ha, hb]; done) | assumption | (rw [bytesV, List.length_map]; assumption)) mM (by first | (simp [natsV_length, fb_length, ha, hb]; done) | assumption | (rw [bytesV, List.length_map]; assumption)) uU ?_
    | refine Tr.storeN _ rfl rfl rfl rfl rfl (by first | exact bytesV_cell _ | exact natsV_cell _ | simp [isCell]) Sz30 (by first | (simp [natsV_length, fb_length, ha, hb]; done) | assumption | (rw [bytesV, List.length_map]; assumption)) mM (by first | (simp [natsV_length, fb_length, ha, hb]; done) | assumption | (rw [bytesV, List.length_map]; assumption)) (by exact rfl) uU ?_
  refine Tr.nil ?_
  refine at_n ?_
  refine Sat.ret ?_
  refine en_r ?_
  refine ⟨_, [], res_cell rfl rfl Try.underlying30 rfl Sz30 mM (by simp [natsV_length, fb_length, ha, hb]), sP, sP, ?_, rfl⟩
  rfl

set_option maxRecDepth 100000 in
set_option maxHeartbeats 1000000 in
theorem r3_Neg (a : List UInt8) (ha : a.length = 32) : Meets Try.prog 21 [agg (bytesV a)] [] (fun _ => True) (fun v out => v = agg (bytesV (fb (- fe (le a)))) ∧ out = []) := by
  intro W hW
  refine calls_of (hp0 := []) Try.func21 rfl 6 Try.ntmps21 rfl (HRep.nil _) ?_
  refine Sat.seq ?_
  refine Sat.region ?_
  refine Tr.boxA rfl rfl ?_
  intro n1 hn1 hf1
  refine Tr.alloc (cs := (bytesV (List.replicate 32 0))) rfl Zr30 rfl ?_
  intro n2 hn2 hf2
  refine Tr.nil ?_
  refine at_n ?_
  refine Sat.seq ?_
  refine Sat.region ?_
  refine Tr.build (cs := bytesV (List.replicate 32 0)) rfl rfl rfl (fun w => by kernel_rfl) ?_
  first
    | refine Tr.loadAll rfl rfl rfl Try.underlying30 rfl Sz30 mM (by first | (simp [natsV_length, fb_length, ha]; done) | assumption | (rw [bytesV, List.length_map]; assumption)) ?_
    | refine Tr.loadN _ rfl rfl rfl Try.underlying30 rfl Sz30 mM (by exact rfl) (by first | (simp [natsV_length, fb_length, ha]; done) | assumption | (rw [bytesV, List.length_map]; assumption)) ?_
  refine Tr.callV rfl rfl rfl rfl Body41 (r3_Sub (List.replicate 32 0) (a) (rfl) (ha)) (fun _ _ => trivial) ?_
  first
    | refine Tr.storeAll rfl rfl rfl rfl (by first | exact bytesV_cell _ | exact natsV_cell _ | simp [isCell]) Sz30 (by first | (simp [natsV_length, fb_length, ha]; done) | assumption | (rw [bytesV, List.length_map]; assumption)) mM (by first | (simp [natsV_length, fb_length, ha]; done) | assumption | (rw [bytesV, List.length_map]; assumption)) uU ?_
    | refine Tr.storeN _ rfl rfl rfl rfl rfl (by first | exact bytesV_cell _ | exact natsV_cell _ | simp [isCell]) Sz30 (by first | (simp [natsV_length, fb_length, ha]; done) | assumption | (rw [bytesV, List.length_map]; assumption)) mM (by first | (simp [natsV_length, fb_length, ha]; done) | assumption | (rw [bytesV, List.length_map]; assumption)) (by exact rfl) uU ?_
  refine Tr.nil ?_
  refine at_n ?_
  refine Sat.ret ?_
  refine en_r ?_
  refine ⟨_, [], res_cell rfl rfl Try.underlying30 rfl Sz30 mM (by simp [natsV_length, fb_length, ha]), sP, sP, ?_, rfl⟩
  rw [show fe (le (List.replicate 32 0)) - fe (le a) = - fe (le a) from by rw [show fe (le (List.replicate 32 0)) = 0 by kernel_rfl]; grind]

theorem oneT_l : oneT.length = 10 := rfl

set_option maxRecDepth 100000 in
set_option maxHeartbeats 8000000 in
theorem r3_Power (x : List Nat) (e : List UInt8) (hx : Fit10 x) (he : e.length = 32) : Meets Try.prog 94 [agg (natsV x), agg (bytesV e)] [] (fun _ => True) (fun v out => v = agg (natsV (powT x (le e) 256)) ∧ out = []) := by
  intro W hW
  have hxl := hx.len
  have hE := le32 he
  obtain ⟨U, hU⟩ : ∃ U, Hid (powT x (le e) 256 = U) := ⟨_, ⟨rfl⟩⟩
  have hUl : U.length = 10 := by rw [← hU.out]; exact (powT_ok hx hE 256 (Nat.le_refl _)).1.len
  rw [hU.out]
  have hpl := hUl
  refine calls_of (hp0 := []) Try.func94 rfl 29 Try.ntmps94 rfl (HRep.nil _) ?_
  refine Sat.seq ?_
  refine Sat.region ?_
  refine Tr.boxA rfl rfl ?_
  intro n2 hn2 hf2
  refine Tr.boxA rfl rfl ?_
  intro n3 hn3 hf3
  refine Tr.alloc (cs := (intsV (List.replicate 10 0))) rfl Zr96 rfl ?_
  intro n4 hn4 hf4
  refine Tr.nil ?_
  refine at_n ?_
  refine Sat.seq ?_
  refine Sat.region ?_
  refine Tr.build (cs := natsV oneT) rfl rfl rfl (fun w => by kernel_rfl) ?_
  refine Tr.alloc (cs := (intsV (List.replicate 10 0))) rfl Zr96 rfl ?_
  intro n5 hn5 hf5
  first
    | refine Tr.storeAll rfl rfl rfl rfl (by first | exact bytesV_cell _ | exact natsV_cell _ | simp [isCell]) Sz96 (by first | (simp [natsV_length, fb_length, he, hxl, hUl, hpl, mulT_length, oneT_l]; done) | assumption | (rw [bytesV, List.length_map]; assumption)) mM (by first | (simp [natsV_length, fb_length, he, hxl, hUl, hpl, mulT_length, oneT_l]; done) | assumption | (rw [bytesV, List.length_map]; assumption)) uU ?_
    | refine Tr.storeN _ rfl rfl rfl rfl rfl (by first | exact bytesV_cell _ | exact natsV_cell _ | simp [isCell]) Sz96 (by first | (simp [natsV_length, fb_length, he, hxl, hUl, hpl, mulT_length, oneT_l]; done) | assumption | (rw [bytesV, List.length_map]; assumption)) mM (by first | (simp [natsV_length, fb_length, he, hxl, hUl, hpl, mulT_length, oneT_l]; done) | assumption | (rw [bytesV, List.length_map]; assumption)) (by exact rfl) uU ?_
  refine Tr.nil ?_
  refine at_n ?_
  refine Sat.seq ?_
  refine Sat.seq ?_
  refine Sat.region ?_
  refine Tr.assign rfl rfl rfl ?_
  refine Tr.nil ?_
  refine at_n ?_
  refine Sat.block ?_
  refine Sat.loop (ι := Nat) (fun j => ⟨[(2, ptr n2 0), (3, ptr n3 0), (4, ptr n4 0), (5, ptr n5 0), (6, i64 (255 - (j : Int)))], [⟨n5, natsV (powT x (le e) j), 96, 10⟩, ⟨n4, (intsV (List.replicate 10 0)), 96, 10⟩, ⟨n3, bytesV e, 30, (bytesV e).length⟩, ⟨n2, natsV x, 96, (natsV x).length⟩]⟩) (fun j => j ≤ 256) (fun j => 256 - j) (0) ?_ ?_ ?_
  · omega
  · exact weak_of (wk1 rfl (wk1 rfl (wk1 rfl (wk1 rfl (wk1 rfl wk0))))) (wh1 (by rw [show powT x (le e) 0 = oneT from rfl]; exact mem0) (wh1 mM (wh1 mM (wh1 mM wh0)))) nD
  ·
    rintro j hj
    obtain ⟨hfit, hfv⟩ := powT_ok hx hE j hj
    have hpl := hfit.len
    have hml : (mulT (powT x (le e) j) (powT x (le e) j)).length = 10 := mulT_length _ _
    refine Sat.seq ?_
    refine Sat.seq ?_
    refine Sat.region ?_
    refine Tr.move rfl rfl rfl ?_
    refine Tr.geq rfl rfl rfl rfl rfl ?_
    refine Tr.nil ?_
    refine at_n ?_
    first
      | refine Sat.condP rfl (fun hc0 => ?_) (fun hc0 => ?_)
      | refine Sat.condNP rfl (fun hc0 => ?_) (fun hc0 => ?_)
      | refine Sat.cond rfl (fun hc0 => ?_) (fun hc0 => ?_)
    ·
      have hj2 : j < 256 := by omega
      rw [show (255 : Int) - (j : Int) = ((255 - j : Nat) : Int) by omega]
      refine Sat.skip ?_
      refine at_n ?_
      refine Sat.seq ?_
      refine Sat.block ?_
      refine Sat.seq ?_
      refine Sat.region ?_
      first
        | refine Tr.loadAll rfl rfl rfl Try.underlying96 rfl Sz96 mM (by first | (simp [natsV_length, fb_length, he, hxl, hUl, hpl, mulT_length, oneT_l]; done) | assumption | (rw [bytesV, List.length_map]; assumption)) ?_
        | refine Tr.loadN _ rfl rfl rfl Try.underlying96 rfl Sz96 mM (by exact rfl) (by first | (simp [natsV_length, fb_length, he, hxl, hUl, hpl, mulT_length, oneT_l]; done) | assumption | (rw [bytesV, List.length_map]; assumption)) ?_
      first
        | refine Tr.loadAll rfl rfl rfl Try.underlying96 rfl Sz96 mM (by first | (simp [natsV_length, fb_length, he, hxl, hUl, hpl, mulT_length, oneT_l]; done) | assumption | (rw [bytesV, List.length_map]; assumption)) ?_
        | refine Tr.loadN _ rfl rfl rfl Try.underlying96 rfl Sz96 mM (by exact rfl) (by first | (simp [natsV_length, fb_length, he, hxl, hUl, hpl, mulT_length, oneT_l]; done) | assumption | (rw [bytesV, List.length_map]; assumption)) ?_
      refine Tr.callV rfl rfl rfl rfl Body71 (r3_Times _ _ hfit hfit) (fun _ _ => trivial) ?_
      first
        | refine Tr.storeAll rfl rfl rfl rfl (by first | exact bytesV_cell _ | exact natsV_cell _ | simp [isCell]) Sz96 (by first | (simp [natsV_length, fb_length, he, hxl, hUl, hpl, mulT_length, oneT_l]; done) | assumption | (rw [bytesV, List.length_map]; assumption)) mM (by first | (simp [natsV_length, fb_length, he, hxl, hUl, hpl, mulT_length, oneT_l]; done) | assumption | (rw [bytesV, List.length_map]; assumption)) uU ?_
        | refine Tr.storeN _ rfl rfl rfl rfl rfl (by first | exact bytesV_cell _ | exact natsV_cell _ | simp [isCell]) Sz96 (by first | (simp [natsV_length, fb_length, he, hxl, hUl, hpl, mulT_length, oneT_l]; done) | assumption | (rw [bytesV, List.length_map]; assumption)) mM (by first | (simp [natsV_length, fb_length, he, hxl, hUl, hpl, mulT_length, oneT_l]; done) | assumption | (rw [bytesV, List.length_map]; assumption)) (by exact rfl) uU ?_
      refine Tr.nil ?_
      refine at_n ?_
      refine Sat.seq ?_
      refine Sat.region ?_
      refine Tr.move rfl rfl rfl ?_
      refine Tr.quoN (255 - j) (8) rfl rfl rfl rfl ⟨by decide, by omega⟩ ?_
      first
        | refine Tr.idxArr1 rfl rfl rfl rfl Try.underlying30 Sz5 _ rfl oM ?_
        | refine Tr.idxArrO rfl rfl rfl rfl Try.underlying30 Sz5 _ rfl oM ?_
        | refine Tr.idxArr1 rfl rfl rfl rfl Try.underlying30 Sz5 _ (toNat_back oM) oM ?_
        | refine Tr.idxArrO rfl rfl rfl rfl Try.underlying30 Sz5 _ (toNat_back oM) oM ?_
      refine Tr.load1 rfl rfl rfl Try.underlying5 rfl mM (by first | rfl | exact get_nats (by first | omega | (simp [natsV_length, fb_length, he, hxl, hUl, hpl, mulT_length, oneT_l]; omega)) | exact get_words (by first | omega | (simp [natsV_length, fb_length, he, hxl, hUl, hpl, mulT_length, oneT_l]; done) | (simp [natsV_length, fb_length, he, hxl, hUl, hpl, mulT_length, oneT_l]; omega)) | exact get_bytes (by first | omega | (simp [natsV_length, fb_length, he, hxl, hUl, hpl, mulT_length, oneT_l]; done) | (simp [natsV_length, fb_length, he, hxl, hUl, hpl, mulT_length, oneT_l]; omega)) | exact get_ints (by first | omega | (simp [natsV_length, fb_length, he, hxl, hUl, hpl, mulT_length, oneT_l]; done) | (simp [natsV_length, fb_length, he, hxl, hUl, hpl, mulT_length, oneT_l]; omega))) ?_
      refine Tr.move rfl rfl rfl ?_
      refine Tr.remN (255 - j) (8) rfl rfl rfl rfl dE ?_
      refine Tr.conv rfl rfl rfl Try.underlying3 Try.underlying91 (cv_i64_u64 _) ?_
      refine Tr.shr_u8 rfl rfl rfl rfl ((255 - j) % 8) (by rw [wordOf_id _ oM]) oM ?_
      refine Tr.rem_u8 rfl rfl rfl rfl 2 rfl dE ?_
      refine Tr.eqi rfl rfl rfl rfl rfl ?_
      refine Tr.nil ?_
      refine at_n ?_
      first
        | refine Sat.condP rfl (fun hc1 => ?_) (fun hc1 => ?_)
        | refine Sat.condNP rfl (fun hc1 => ?_) (fun hc1 => ?_)
        | refine Sat.cond rfl (fun hc1 => ?_) (fun hc1 => ?_)
      ·
        have hbt := bit_is hc1
        refine Sat.region ?_
        first
          | refine Tr.loadAll rfl rfl rfl Try.underlying96 rfl Sz96 mM (by first | (simp [natsV_length, fb_length, he, hxl, hUl, hpl, mulT_length, oneT_l]; done) | assumption | (rw [bytesV, List.length_map]; assumption)) ?_
          | refine Tr.loadN _ rfl rfl rfl Try.underlying96 rfl Sz96 mM (by exact rfl) (by first | (simp [natsV_length, fb_length, he, hxl, hUl, hpl, mulT_length, oneT_l]; done) | assumption | (rw [bytesV, List.length_map]; assumption)) ?_
        first
          | refine Tr.loadAll rfl rfl rfl Try.underlying96 rfl Sz96 mM (by first | (simp [natsV_length, fb_length, he, hxl, hUl, hpl, mulT_length, oneT_l]; done) | assumption | (rw [bytesV, List.length_map]; assumption)) ?_
          | refine Tr.loadN _ rfl rfl rfl Try.underlying96 rfl Sz96 mM (by exact rfl) (by first | (simp [natsV_length, fb_length, he, hxl, hUl, hpl, mulT_length, oneT_l]; done) | assumption | (rw [bytesV, List.length_map]; assumption)) ?_
        refine Tr.callV rfl rfl rfl rfl Body71 (r3_Times _ _ (mulT_fit hfit hfit) hx) (fun _ _ => trivial) ?_
        first
          | refine Tr.storeAll rfl rfl rfl rfl (by first | exact bytesV_cell _ | exact natsV_cell _ | simp [isCell]) Sz96 (by first | (simp [natsV_length, fb_length, he, hxl, hUl, hpl, mulT_length, oneT_l]; done) | assumption | (rw [bytesV, List.length_map]; assumption)) mM (by first | (simp [natsV_length, fb_length, he, hxl, hUl, hpl, mulT_length, oneT_l]; done) | assumption | (rw [bytesV, List.length_map]; assumption)) uU ?_
          | refine Tr.storeN _ rfl rfl rfl rfl rfl (by first | exact bytesV_cell _ | exact natsV_cell _ | simp [isCell]) Sz96 (by first | (simp [natsV_length, fb_length, he, hxl, hUl, hpl, mulT_length, oneT_l]; done) | assumption | (rw [bytesV, List.length_map]; assumption)) mM (by first | (simp [natsV_length, fb_length, he, hxl, hUl, hpl, mulT_length, oneT_l]; done) | assumption | (rw [bytesV, List.length_map]; assumption)) (by exact rfl) uU ?_
        refine Tr.nil ?_
        refine bl_n ?_
        refine at_n ?_
        refine Sat.region ?_
        refine Tr.move rfl rfl rfl ?_
        refine Tr.sub_i64 rfl rfl rfl rfl oM ?_
        refine Tr.assign rfl rfl rfl ?_
        refine Tr.nil ?_
        refine at_n ?_
        exact ⟨j + 1, by omega, by omega, weak_of (wk1 rfl (wk1 rfl (wk1 rfl (wk1 rfl (wk1 (congrArg (fun z => some (i64 z)) (show ((255 - j : Nat) : Int) - 1 = 255 - ((j + 1 : Nat) : Int) by omega)) wk0))))) (wh1 (by first | (rw [powT_t hbt]; exact mem0) | (rw [powT_f hbf]; exact mem0)) (wh1 mM (wh1 mM (wh1 mM wh0)))) nD⟩
      ·
        have hbf := bit_isn hc1
        refine Sat.skip ?_
        refine bl_n ?_
        refine at_n ?_
        refine Sat.region ?_
        refine Tr.move rfl rfl rfl ?_
        refine Tr.sub_i64 rfl rfl rfl rfl oM ?_
        refine Tr.assign rfl rfl rfl ?_
        refine Tr.nil ?_
        refine at_n ?_
        exact ⟨j + 1, by omega, by omega, weak_of (wk1 rfl (wk1 rfl (wk1 rfl (wk1 rfl (wk1 (congrArg (fun z => some (i64 z)) (show ((255 - j : Nat) : Int) - 1 = 255 - ((j + 1 : Nat) : Int) by omega)) wk0))))) (wh1 (by first | (rw [powT_t hbt]; exact mem0) | (rw [powT_f hbf]; exact mem0)) (wh1 mM (wh1 mM (wh1 mM wh0)))) nD⟩
    ·
      rw [show powT x (le e) j = U from by rw [show j = 256 by omega]; exact hU.out]
      refine Sat.exit ?_
      refine at_x ?_
      refine at_x ?_
      refine bl_h ?_
      refine at_n ?_
      refine Sat.seq ?_
      refine Sat.region ?_
      first
        | refine Tr.loadAll rfl rfl rfl Try.underlying96 rfl Sz96 mM (by first | (simp [natsV_length, fb_length, he, hxl, hUl, hpl, mulT_length, oneT_l]; done) | assumption | (rw [bytesV, List.length_map]; assumption)) ?_
        | refine Tr.loadN _ rfl rfl rfl Try.underlying96 rfl Sz96 mM (by exact rfl) (by first | (simp [natsV_length, fb_length, he, hxl, hUl, hpl, mulT_length, oneT_l]; done) | assumption | (rw [bytesV, List.length_map]; assumption)) ?_
      first
        | refine Tr.storeAll rfl rfl rfl rfl (by first | exact bytesV_cell _ | exact natsV_cell _ | simp [isCell]) Sz96 (by first | (simp [natsV_length, fb_length, he, hxl, hUl, hpl, mulT_length, oneT_l]; done) | assumption | (rw [bytesV, List.length_map]; assumption)) mM (by first | (simp [natsV_length, fb_length, he, hxl, hUl, hpl, mulT_length, oneT_l]; done) | assumption | (rw [bytesV, List.length_map]; assumption)) uU ?_
        | refine Tr.storeN _ rfl rfl rfl rfl rfl (by first | exact bytesV_cell _ | exact natsV_cell _ | simp [isCell]) Sz96 (by first | (simp [natsV_length, fb_length, he, hxl, hUl, hpl, mulT_length, oneT_l]; done) | assumption | (rw [bytesV, List.length_map]; assumption)) mM (by first | (simp [natsV_length, fb_length, he, hxl, hUl, hpl, mulT_length, oneT_l]; done) | assumption | (rw [bytesV, List.length_map]; assumption)) (by exact rfl) uU ?_
      refine Tr.nil ?_
      refine at_n ?_
      refine Sat.ret ?_
      refine en_r ?_
      refine ⟨_, [], res_cell rfl rfl Try.underlying96 rfl Sz96 mM (by simp [natsV_length, fb_length, he, hxl, hUl, hpl, mulT_length, oneT_l]), sP, sP, ?_, rfl⟩
      rfl

theorem pow_ab {a e : List UInt8} (ha : a.length = 32) (he : e.length = 32) : fe (v10 (powT (openT (le a)) (le e) 256)) = fpow (fe (le a)) (le e) := by rw [powT_all (o_fit ha) (le32 he), o_v ha]

set_option maxRecDepth 100000 in
set_option maxHeartbeats 1000000 in
theorem r3_Pow (a e : List UInt8) (ha : a.length = 32) (he : e.length = 32) : Meets Try.prog 73 [agg (bytesV a), agg (bytesV e)] [] (fun _ => True) (fun v out => v = agg (bytesV (fb (fpow (fe (le a)) (le e)))) ∧ out = []) := by
  intro W hW
  refine calls_of (hp0 := []) Try.func73 rfl 10 Try.ntmps73 rfl (HRep.nil _) ?_
  refine Sat.seq ?_
  refine Sat.region ?_
  refine Tr.boxA rfl rfl ?_
  intro n2 hn2 hf2
  refine Tr.boxA rfl rfl ?_
  intro n3 hn3 hf3
  refine Tr.alloc (cs := (bytesV (List.replicate 32 0))) rfl Zr30 rfl ?_
  intro n4 hn4 hf4
  refine Tr.nil ?_
  refine at_n ?_
  refine Sat.seq ?_
  refine Sat.draw [(1, 0), (1, 2), (3, 1), (3, 3), (3, 4), (4, 5)] Mixed (by kernel_rfl) ?_
  first
    | refine Tr.loadAll rfl rfl rfl Try.underlying30 rfl Sz30 mM (by first | (simp [natsV_length, fb_length, ha, he]; done) | assumption | (rw [bytesV, List.length_map]; assumption)) ?_
    | refine Tr.loadN _ rfl rfl rfl Try.underlying30 rfl Sz30 mM (by exact rfl) (by first | (simp [natsV_length, fb_length, ha, he]; done) | assumption | (rw [bytesV, List.length_map]; assumption)) ?_
  first
    | refine Tr.loadAll rfl rfl rfl Try.underlying30 rfl Sz30 mM (by first | (simp [natsV_length, fb_length, ha, he]; done) | assumption | (rw [bytesV, List.length_map]; assumption)) ?_
    | refine Tr.loadN _ rfl rfl rfl Try.underlying30 rfl Sz30 mM (by exact rfl) (by first | (simp [natsV_length, fb_length, ha, he]; done) | assumption | (rw [bytesV, List.length_map]; assumption)) ?_
  refine Tr.callV rfl rfl rfl rfl Body70 (r3_Open (a) (ha)) (fun _ _ => trivial) ?_
  refine Tr.callV rfl rfl rfl rfl Body94 (r3_Power (_) (e) (o_fit ha) (he)) (fun _ _ => trivial) ?_
  refine Tr.callV rfl rfl rfl rfl Body69 (r3_Close_v (_) ((powT_ok (o_fit ha) (le32 he) 256 (Nat.le_refl _)).1) (_) (pow_ab ha he)) (fun _ _ => trivial) ?_
  first
    | refine Tr.storeAll rfl rfl rfl rfl (by first | exact bytesV_cell _ | exact natsV_cell _ | simp [isCell]) Sz30 (by first | (simp [natsV_length, fb_length, ha, he]; done) | assumption | (rw [bytesV, List.length_map]; assumption)) mM (by first | (simp [natsV_length, fb_length, ha, he]; done) | assumption | (rw [bytesV, List.length_map]; assumption)) uU ?_
    | refine Tr.storeN _ rfl rfl rfl rfl rfl (by first | exact bytesV_cell _ | exact natsV_cell _ | simp [isCell]) Sz30 (by first | (simp [natsV_length, fb_length, ha, he]; done) | assumption | (rw [bytesV, List.length_map]; assumption)) mM (by first | (simp [natsV_length, fb_length, ha, he]; done) | assumption | (rw [bytesV, List.length_map]; assumption)) (by exact rfl) uU ?_
  refine Tr.nil ?_
  refine at_n ?_
  refine Sat.ret ?_
  refine en_r ?_
  refine ⟨_, [], res_cell rfl rfl Try.underlying30 rfl Sz30 mM (by simp [natsV_length, fb_length, ha, he]), sP, sP, ?_, rfl⟩
  rfl

theorem half_rem {p : UInt8} : ((UInt8.ofNat (p.toNat % 2)).toNat : Int) = 1 ↔ p.toNat % 2 = 1 := by
  rw [UInt8.toNat_ofNat']
  omega
theorem ones_three (n : Nat) : ((List.replicate 32 (255 : UInt8)).set 0 (UInt8.ofNat (237 - n))).set 31 127 = leb 32 (le (onesB (UInt8.ofNat (237 - n)) 127) / 2 ^ 0) := by
  rw [Nat.pow_zero, Nat.div_one, ones_leb]; rfl
theorem half_pow (V j : Nat) : leb 32 (V / 2 ^ (j + 1)) = halfAt (V / 2 ^ j) 32 := by
  rw [halfAt_end, Nat.div_div_eq_div_mul, ← Nat.pow_succ]

set_option maxRecDepth 100000 in
set_option maxHeartbeats 8000000 in
theorem r3_shifted (n k : Nat) (hn : n ≤ 237) (hk : k ≤ 9) : Meets Try.prog 74 [i64 (n : Int), i64 (k : Int)] [] (fun _ => True) (fun v out => v = agg (bytesV (expT n k)) ∧ out = []) := by
  intro W hW
  obtain ⟨V, hV⟩ : ∃ V, Hid (le (onesB (UInt8.ofNat (237 - n)) 127) = V) := ⟨_, ⟨rfl⟩⟩
  have hV2 : V < 2 ^ 256 := by rw [← hV.out]; exact le32 (onesB_length _ _)
  have hx : expT n k = leb 32 (V / 2 ^ k) := by rw [expT, hV.out]
  rw [hx]
  have hon := ones_three n
  rw [hV.out] at hon
  have hhl : True := trivial
  have hsl : True := trivial
  refine calls_of (hp0 := []) Try.func74 rfl 50 Try.ntmps74 rfl (HRep.nil _) ?_
  refine Sat.seq ?_
  refine Sat.region ?_
  refine Tr.alloc (cs := (bytesV (List.replicate 32 0))) rfl Zr30 rfl ?_
  intro n4 hn4 hf4
  refine Tr.nil ?_
  refine at_n ?_
  refine Sat.seq ?_
  refine Sat.region ?_
  refine Tr.alloc (cs := (bytesV (List.replicate 32 0))) rfl Zr30 rfl ?_
  intro n5 hn5 hf5
  refine Tr.nil ?_
  refine at_n ?_
  refine Sat.seq ?_
  refine Sat.seq ?_
  refine Sat.region ?_
  refine Tr.assign rfl rfl rfl ?_
  refine Tr.nil ?_
  refine at_n ?_
  refine Sat.block ?_
  refine Sat.loop (ι := Nat) (fun i => ⟨[(0, i64 (n : Int)), (1, i64 (k : Int)), (4, ptr n4 0), (5, ptr n5 0), (6, i64 (i : Int))], [⟨n5, bytesV (List.replicate i 255 ++ List.replicate (32 - i) 0), 30, 32⟩, ⟨n4, bytesV (List.replicate 32 0), 30, 32⟩]⟩) (fun i => i ≤ 32) (fun i => 32 - i) (0) ?_ ?_ ?_
  · omega
  · exact weak_of (wk1 rfl (wk1 rfl (wk1 rfl (wk1 rfl (wk1 rfl wk0))))) (wh1 mM (wh1 mM wh0)) nD
  ·
    rintro i hi
    refine Sat.seq ?_
    refine Sat.seq ?_
    refine Sat.region ?_
    refine Tr.move rfl rfl rfl ?_
    refine Tr.lss rfl rfl rfl rfl rfl ?_
    refine Tr.nil ?_
    refine at_n ?_
    first
      | refine Sat.condP rfl (fun hc0 => ?_) (fun hc0 => ?_)
      | refine Sat.condNP rfl (fun hc0 => ?_) (fun hc0 => ?_)
      | refine Sat.cond rfl (fun hc0 => ?_) (fun hc0 => ?_)
    ·
      have hi2 : i < 32 := by omega
      refine Sat.skip ?_
      refine at_n ?_
      refine Sat.seq ?_
      refine Sat.block ?_
      refine Sat.region ?_
      refine Tr.move rfl rfl rfl ?_
      first
        | refine Tr.idxArr1 rfl rfl rfl rfl Try.underlying30 Sz5 _ rfl oM ?_
        | refine Tr.idxArrO rfl rfl rfl rfl Try.underlying30 Sz5 _ rfl oM ?_
        | refine Tr.idxArr1 rfl rfl rfl rfl Try.underlying30 Sz5 _ (toNat_back oM) oM ?_
        | refine Tr.idxArrO rfl rfl rfl rfl Try.underlying30 Sz5 _ (toNat_back oM) oM ?_
      refine Tr.store1 rfl rfl rfl (show evIn _ _ = some (u8 255) from rfl) rfl Sz5 mM (by first | (simp [natsV_length, fb_length, leb_length, hhl, hsl]; done) | (simp [natsV_length, fb_length, leb_length, hhl, hsl]; omega)) (by first | exact set_nats _ _ _ | exact set_words _ _ _ | exact set_bytes _ _ _ | exact set_ints _ _ _ | rfl) uU ?_
      refine Tr.nil ?_
      refine bl_n ?_
      refine at_n ?_
      refine Sat.region ?_
      refine Tr.move rfl rfl rfl ?_
      refine Tr.add_i64 rfl rfl rfl rfl oM ?_
      refine Tr.assign rfl rfl rfl ?_
      refine Tr.nil ?_
      refine at_n ?_
      exact ⟨i + 1, by omega, by omega, weak_of (wk1 rfl (wk1 rfl (wk1 rfl (wk1 rfl (wk1 rfl wk0))))) (wh1 (by rw [← ones_step hi2]; exact mem0) (wh1 mM wh0)) nD⟩
    ·
      obtain rfl : i = 32 := by omega
      rw [show ((List.replicate 32 255 ++ List.replicate (32 - 32) 0) : List UInt8) = List.replicate 32 255 from rfl]
      refine Sat.exit ?_
      refine at_x ?_
      refine at_x ?_
      refine bl_h ?_
      refine at_n ?_
      refine Sat.seq ?_
      refine Sat.region ?_
      refine Tr.move rfl rfl rfl ?_
      refine Tr.subN (237) (n) rfl rfl rfl rfl oM ?_
      refine Tr.conv rfl rfl rfl Try.underlying3 Try.underlying5 (cv_i64_u8 _) ?_
      first
        | refine Tr.idxArr1 rfl rfl rfl rfl Try.underlying30 Sz5 0 rfl dE ?_
        | refine Tr.idxArrO rfl rfl rfl rfl Try.underlying30 Sz5 0 rfl dE ?_
      rw [byteOf_nat]
      refine Tr.store1 rfl rfl rfl rfl rfl Sz5 mM (by first | (simp [natsV_length, fb_length, leb_length, hhl, hsl]; done) | (simp [natsV_length, fb_length, leb_length, hhl, hsl]; omega)) (by first | exact set_nats _ _ _ | exact set_words _ _ _ | exact set_bytes _ _ _ | exact set_ints _ _ _ | rfl) uU ?_
      first
        | refine Tr.idxArr1 rfl rfl rfl rfl Try.underlying30 Sz5 31 rfl dE ?_
        | refine Tr.idxArrO rfl rfl rfl rfl Try.underlying30 Sz5 31 rfl dE ?_
      refine Tr.store1 rfl rfl rfl (show evIn _ _ = some (u8 127) from rfl) rfl Sz5 mM (by first | (simp [natsV_length, fb_length, leb_length, hhl, hsl]; done) | (simp [natsV_length, fb_length, leb_length, hhl, hsl]; omega)) (by first | exact set_nats _ _ _ | exact set_words _ _ _ | exact set_bytes _ _ _ | exact set_ints _ _ _ | rfl) uU ?_
      refine Tr.nil ?_
      refine at_n ?_
      refine Sat.seq ?_
      refine Sat.block ?_
      refine Sat.loop (ι := Nat) (fun j => ⟨[(1, i64 ((k : Int) - (j : Int))), (4, ptr n4 0), (5, ptr n5 0)], [⟨n5, bytesV (leb 32 (V / 2 ^ j)), 30, 32⟩, ⟨n4, bytesV (List.replicate 32 0), 30, 32⟩]⟩) (fun j => j ≤ k) (fun j => k - j) (0) ?_ ?_ ?_
      · exact Nat.zero_le _
      · exact weak_of (wk1 (congrArg (fun z => some (i64 z)) (show (k : Int) = (k : Int) - ((0 : Nat) : Int) by omega)) (wk1 rfl (wk1 rfl wk0))) (wh1 (by rw [← hon]; exact mem0) (wh1 mM wh0)) nD
      ·
        rintro j hj
        refine Sat.seq ?_
        refine Sat.seq ?_
        refine Sat.region ?_
        refine Tr.move rfl rfl rfl ?_
        refine Tr.gtr rfl rfl rfl rfl rfl ?_
        refine Tr.nil ?_
        refine at_n ?_
        first
          | refine Sat.condP rfl (fun hc1 => ?_) (fun hc1 => ?_)
          | refine Sat.condNP rfl (fun hc1 => ?_) (fun hc1 => ?_)
          | refine Sat.cond rfl (fun hc1 => ?_) (fun hc1 => ?_)
        ·
          have hVj : V / 2 ^ j < 2 ^ 256 := Nat.lt_of_le_of_lt (Nat.div_le_self _ _) hV2
          refine Sat.skip ?_
          refine at_n ?_
          refine Sat.seq ?_
          refine Sat.block ?_
          refine Sat.seq ?_
          refine Sat.region ?_
          refine Tr.assign rfl rfl rfl ?_
          refine Tr.nil ?_
          refine at_n ?_
          refine Sat.block ?_
          refine Sat.loop (ι := Nat) (fun i => ⟨[(1, i64 ((k : Int) - (j : Int))), (4, ptr n4 0), (5, ptr n5 0), (7, i64 (i : Int))], [⟨n5, bytesV (halfAt (V / 2 ^ j) i), 30, 32⟩, ⟨n4, bytesV (List.replicate 32 0), 30, 32⟩]⟩) (fun i => i ≤ 32) (fun i => 32 - i) (0) ?_ ?_ ?_
          · omega
          · exact weak_of (wk1 rfl (wk1 rfl (wk1 rfl (wk1 rfl wk0)))) (wh1 (by rw [halfAt_zero]; exact mem0) (wh1 mM wh0)) nD
          ·
            rintro i hi
            have hhl := halfAt_length (V / 2 ^ j) i hi
            have hsl : ((halfAt (V / 2 ^ j) i).set i (UInt8.ofNat (((halfAt (V / 2 ^ j) i).getD i 0).toNat / 2))).length = 32 := by rw [List.length_set]; exact hhl
            refine Sat.seq ?_
            refine Sat.seq ?_
            refine Sat.region ?_
            refine Tr.move rfl rfl rfl ?_
            refine Tr.lss rfl rfl rfl rfl rfl ?_
            refine Tr.nil ?_
            refine at_n ?_
            first
              | refine Sat.condP rfl (fun hc2 => ?_) (fun hc2 => ?_)
              | refine Sat.condNP rfl (fun hc2 => ?_) (fun hc2 => ?_)
              | refine Sat.cond rfl (fun hc2 => ?_) (fun hc2 => ?_)
            ·
              have hi2 : i < 32 := by omega
              refine Sat.skip ?_
              refine at_n ?_
              refine Sat.seq ?_
              refine Sat.block ?_
              refine Sat.seq ?_
              refine Sat.region ?_
              refine Tr.move rfl rfl rfl ?_
              refine Tr.move rfl rfl rfl ?_
              first
                | refine Tr.idxArr1 rfl rfl rfl rfl Try.underlying30 Sz5 _ rfl oM ?_
                | refine Tr.idxArrO rfl rfl rfl rfl Try.underlying30 Sz5 _ rfl oM ?_
                | refine Tr.idxArr1 rfl rfl rfl rfl Try.underlying30 Sz5 _ (toNat_back oM) oM ?_
                | refine Tr.idxArrO rfl rfl rfl rfl Try.underlying30 Sz5 _ (toNat_back oM) oM ?_
              refine Tr.load1 rfl rfl rfl Try.underlying5 rfl mM (by first | rfl | exact get_nats (by first | omega | (simp [natsV_length, fb_length, leb_length, hhl, hsl]; omega)) | exact get_words (by first | omega | (simp [natsV_length, fb_length, leb_length, hhl, hsl]; done) | (simp [natsV_length, fb_length, leb_length, hhl, hsl]; omega)) | exact get_bytes (by first | omega | (simp [natsV_length, fb_length, leb_length, hhl, hsl]; done) | (simp [natsV_length, fb_length, leb_length, hhl, hsl]; omega)) | exact get_ints (by first | omega | (simp [natsV_length, fb_length, leb_length, hhl, hsl]; done) | (simp [natsV_length, fb_length, leb_length, hhl, hsl]; omega))) ?_
              refine Tr.quo_u8 rfl rfl rfl rfl 2 rfl dE ?_
              first
                | refine Tr.idxArr1 rfl rfl rfl rfl Try.underlying30 Sz5 _ rfl oM ?_
                | refine Tr.idxArrO rfl rfl rfl rfl Try.underlying30 Sz5 _ rfl oM ?_
                | refine Tr.idxArr1 rfl rfl rfl rfl Try.underlying30 Sz5 _ (toNat_back oM) oM ?_
                | refine Tr.idxArrO rfl rfl rfl rfl Try.underlying30 Sz5 _ (toNat_back oM) oM ?_
              refine Tr.store1 rfl rfl rfl rfl rfl Sz5 mM (by first | (simp [natsV_length, fb_length, leb_length, hhl, hsl]; done) | (simp [natsV_length, fb_length, leb_length, hhl, hsl]; omega)) (by first | exact set_nats _ _ _ | exact set_words _ _ _ | exact set_bytes _ _ _ | exact set_ints _ _ _ | rfl) uU ?_
              refine Tr.nil ?_
              refine at_n ?_
              refine Sat.seq ?_
              refine Sat.region ?_
              refine Tr.move rfl rfl rfl ?_
              refine two (fun r hr k => Tr.lss rfl rfl rfl rfl hr k) (fun hs13_10 => ?_) (fun hs13_10 => ?_)
              ·
                first | have hs13_1 := of_decide_eq_true hs13_10 | have hs13_1 := of_decide_eq_false hs13_10 | have hs13_1 := nd_t hs13_10 | have hs13_1 := nd_f hs13_10 | have hs13_1 := hs13_10
                refine Tr.move rfl rfl rfl ?_
                refine Tr.move rfl rfl rfl ?_
                refine Tr.addN (i) (1) rfl rfl rfl rfl oM ?_
                first
                  | refine Tr.idxArr1 rfl rfl rfl rfl Try.underlying30 Sz5 _ rfl oM ?_
                  | refine Tr.idxArrO rfl rfl rfl rfl Try.underlying30 Sz5 _ rfl oM ?_
                  | refine Tr.idxArr1 rfl rfl rfl rfl Try.underlying30 Sz5 _ (toNat_back oM) oM ?_
                  | refine Tr.idxArrO rfl rfl rfl rfl Try.underlying30 Sz5 _ (toNat_back oM) oM ?_
                refine Tr.load1 rfl rfl rfl Try.underlying5 rfl mM (by first | rfl | exact get_nats (by first | omega | (simp [natsV_length, fb_length, leb_length, hhl, hsl]; omega)) | exact get_words (by first | omega | (simp [natsV_length, fb_length, leb_length, hhl, hsl]; done) | (simp [natsV_length, fb_length, leb_length, hhl, hsl]; omega)) | exact get_bytes (by first | omega | (simp [natsV_length, fb_length, leb_length, hhl, hsl]; done) | (simp [natsV_length, fb_length, leb_length, hhl, hsl]; omega)) | exact get_ints (by first | omega | (simp [natsV_length, fb_length, leb_length, hhl, hsl]; done) | (simp [natsV_length, fb_length, leb_length, hhl, hsl]; omega))) ?_
                refine Tr.rem_u8 rfl rfl rfl rfl 2 rfl dE ?_
                refine two (fun r hr k => Tr.eqi rfl rfl rfl rfl hr k) (fun hs13_80 => ?_) (fun hs13_80 => ?_)
                ·
                  first | have hs13_8 := of_decide_eq_true hs13_80 | have hs13_8 := of_decide_eq_false hs13_80 | have hs13_8 := nd_t hs13_80 | have hs13_8 := nd_f hs13_80 | have hs13_8 := hs13_80
                  refine Tr.pick rfl rfl rfl rfl rfl rfl ?_
                  refine Tr.nil ?_
                  refine at_n ?_
                  refine Sat.cond_t rfl rfl ?_
                  refine Sat.region ?_
                  refine Tr.move rfl rfl rfl ?_
                  refine Tr.move rfl rfl rfl ?_
                  first
                    | refine Tr.idxArr1 rfl rfl rfl rfl Try.underlying30 Sz5 _ rfl oM ?_
                    | refine Tr.idxArrO rfl rfl rfl rfl Try.underlying30 Sz5 _ rfl oM ?_
                    | refine Tr.idxArr1 rfl rfl rfl rfl Try.underlying30 Sz5 _ (toNat_back oM) oM ?_
                    | refine Tr.idxArrO rfl rfl rfl rfl Try.underlying30 Sz5 _ (toNat_back oM) oM ?_
                  refine Tr.load1 rfl rfl rfl Try.underlying5 rfl mM (by first | rfl | exact get_nats (by first | omega | (simp [natsV_length, fb_length, leb_length, hhl, hsl]; omega)) | exact get_words (by first | omega | (simp [natsV_length, fb_length, leb_length, hhl, hsl]; done) | (simp [natsV_length, fb_length, leb_length, hhl, hsl]; omega)) | exact get_bytes (by first | omega | (simp [natsV_length, fb_length, leb_length, hhl, hsl]; done) | (simp [natsV_length, fb_length, leb_length, hhl, hsl]; omega)) | exact get_ints (by first | omega | (simp [natsV_length, fb_length, leb_length, hhl, hsl]; done) | (simp [natsV_length, fb_length, leb_length, hhl, hsl]; omega))) ?_
                  refine Tr.add_u8 rfl rfl rfl (show evIn _ _ = some (u8 128) from rfl) ?_
                  first
                    | refine Tr.idxArr1 rfl rfl rfl rfl Try.underlying30 Sz5 _ rfl oM ?_
                    | refine Tr.idxArrO rfl rfl rfl rfl Try.underlying30 Sz5 _ rfl oM ?_
                    | refine Tr.idxArr1 rfl rfl rfl rfl Try.underlying30 Sz5 _ (toNat_back oM) oM ?_
                    | refine Tr.idxArrO rfl rfl rfl rfl Try.underlying30 Sz5 _ (toNat_back oM) oM ?_
                  refine Tr.store1 rfl rfl rfl rfl rfl Sz5 mM (by first | (simp [natsV_length, fb_length, leb_length, hhl, hsl]; done) | (simp [natsV_length, fb_length, leb_length, hhl, hsl]; omega)) (by first | exact set_nats _ _ _ | exact set_words _ _ _ | exact set_bytes _ _ _ | exact set_ints _ _ _ | rfl) uU ?_
                  refine Tr.nil ?_
                  refine bl_n ?_
                  refine at_n ?_
                  refine Sat.region ?_
                  refine Tr.move rfl rfl rfl ?_
                  refine Tr.add_i64 rfl rfl rfl rfl oM ?_
                  refine Tr.assign rfl rfl rfl ?_
                  refine Tr.nil ?_
                  refine at_n ?_
                  exact ⟨i + 1, by omega, by omega, weak_of (wk1 rfl (wk1 rfl (wk1 rfl (wk1 rfl wk0)))) (wh1 (by first | (rw [show i = 31 by omega, ← half_last _ hVj]; exact mem0) | (rw [← half_odd (V / 2 ^ j) oM (half_rem.1 hs13_8)]; exact mem0) | (rw [← half_even (V / 2 ^ j) oM (fun e => hs13_8 (half_rem.2 e))]; exact mem0)) (wh1 mM wh0)) nD⟩
                ·
                  first | have hs13_8 := of_decide_eq_true hs13_80 | have hs13_8 := of_decide_eq_false hs13_80 | have hs13_8 := nd_t hs13_80 | have hs13_8 := nd_f hs13_80 | have hs13_8 := hs13_80
                  refine Tr.pick rfl rfl rfl rfl rfl rfl ?_
                  refine Tr.nil ?_
                  refine at_n ?_
                  refine Sat.cond_f rfl rfl ?_
                  refine Sat.skip ?_
                  refine bl_n ?_
                  refine at_n ?_
                  refine Sat.region ?_
                  refine Tr.move rfl rfl rfl ?_
                  refine Tr.add_i64 rfl rfl rfl rfl oM ?_
                  refine Tr.assign rfl rfl rfl ?_
                  refine Tr.nil ?_
                  refine at_n ?_
                  exact ⟨i + 1, by omega, by omega, weak_of (wk1 rfl (wk1 rfl (wk1 rfl (wk1 rfl wk0)))) (wh1 (by first | (rw [show i = 31 by omega, ← half_last _ hVj]; exact mem0) | (rw [← half_odd (V / 2 ^ j) oM (half_rem.1 hs13_8)]; exact mem0) | (rw [← half_even (V / 2 ^ j) oM (fun e => hs13_8 (half_rem.2 e))]; exact mem0)) (wh1 mM wh0)) nD⟩
              ·
                first | have hs13_1 := of_decide_eq_true hs13_10 | have hs13_1 := of_decide_eq_false hs13_10 | have hs13_1 := nd_t hs13_10 | have hs13_1 := nd_f hs13_10 | have hs13_1 := hs13_10
                refine Tr.move rfl rfl rfl ?_
                refine Tr.skp rfl rfl ?_
                refine Tr.skp rfl rfl ?_
                refine Tr.skp rfl rfl ?_
                refine Tr.skp rfl rfl ?_
                refine Tr.skp rfl rfl ?_
                refine Tr.skp rfl rfl ?_
                refine Tr.pick rfl rfl rfl rfl rfl rfl ?_
                refine Tr.nil ?_
                refine at_n ?_
                refine Sat.cond_f rfl rfl ?_
                refine Sat.skip ?_
                refine bl_n ?_
                refine at_n ?_
                refine Sat.region ?_
                refine Tr.move rfl rfl rfl ?_
                refine Tr.add_i64 rfl rfl rfl rfl oM ?_
                refine Tr.assign rfl rfl rfl ?_
                refine Tr.nil ?_
                refine at_n ?_
                exact ⟨i + 1, by omega, by omega, weak_of (wk1 rfl (wk1 rfl (wk1 rfl (wk1 rfl wk0)))) (wh1 (by first | (rw [show i = 31 by omega, ← half_last _ hVj]; exact mem0) | (rw [← half_odd (V / 2 ^ j) oM (half_rem.1 hs13_8)]; exact mem0) | (rw [← half_even (V / 2 ^ j) oM (fun e => hs13_8 (half_rem.2 e))]; exact mem0)) (wh1 mM wh0)) nD⟩
            ·
              refine Sat.exit ?_
              refine at_x ?_
              refine at_x ?_
              refine bl_h ?_
              refine bl_n ?_
              refine at_n ?_
              refine Sat.region ?_
              refine Tr.move rfl rfl rfl ?_
              refine Tr.sub_i64 rfl rfl rfl rfl oM ?_
              refine Tr.assign rfl rfl rfl ?_
              refine Tr.nil ?_
              refine at_n ?_
              exact ⟨j + 1, by omega, by omega, weak_of (wk1 (congrArg (fun z => some (i64 z)) (show (k : Int) - (j : Int) - 1 = (k : Int) - ((j + 1 : Nat) : Int) by omega)) (wk1 rfl (wk1 rfl wk0))) (wh1 (by rw [half_pow, show (32 : Nat) = i by omega]; exact mem0) (wh1 mM wh0)) nD⟩
        ·
          obtain rfl : j = k := by omega
          refine Sat.exit ?_
          refine at_x ?_
          refine at_x ?_
          refine bl_h ?_
          refine at_n ?_
          refine Sat.seq ?_
          refine Sat.region ?_
          first
            | refine Tr.loadAll rfl rfl rfl Try.underlying30 rfl Sz30 mM (by first | (simp [natsV_length, fb_length, leb_length, hhl, hsl]; done) | assumption | (rw [bytesV, List.length_map]; assumption)) ?_
            | refine Tr.loadN _ rfl rfl rfl Try.underlying30 rfl Sz30 mM (by exact rfl) (by first | (simp [natsV_length, fb_length, leb_length, hhl, hsl]; done) | assumption | (rw [bytesV, List.length_map]; assumption)) ?_
          first
            | refine Tr.storeAll rfl rfl rfl rfl (by first | exact bytesV_cell _ | exact natsV_cell _ | simp [isCell]) Sz30 (by first | (simp [natsV_length, fb_length, leb_length, hhl, hsl]; done) | assumption | (rw [bytesV, List.length_map]; assumption)) mM (by first | (simp [natsV_length, fb_length, leb_length, hhl, hsl]; done) | assumption | (rw [bytesV, List.length_map]; assumption)) uU ?_
            | refine Tr.storeN _ rfl rfl rfl rfl rfl (by first | exact bytesV_cell _ | exact natsV_cell _ | simp [isCell]) Sz30 (by first | (simp [natsV_length, fb_length, leb_length, hhl, hsl]; done) | assumption | (rw [bytesV, List.length_map]; assumption)) mM (by first | (simp [natsV_length, fb_length, leb_length, hhl, hsl]; done) | assumption | (rw [bytesV, List.length_map]; assumption)) (by exact rfl) uU ?_
          refine Tr.nil ?_
          refine at_n ?_
          refine Sat.ret ?_
          refine en_r ?_
          refine ⟨_, [], res_cell rfl rfl Try.underlying30 rfl Sz30 mM (by simp [natsV_length, fb_length, leb_length, hhl, hsl]), sP, sP, ?_, rfl⟩
          rfl

theorem r3_Pow_e (a e : List UInt8) (ha : a.length = 32) (he : e.length = 32) (N : Nat) (X : Fp) (hN : le e = N) (hX : fe (le a) = X) : Meets Try.prog 73 [agg (bytesV a), agg (bytesV e)] [] (fun _ => True) (fun v out => v = agg (bytesV (fb (fpow X N))) ∧ out = []) := by
  rw [← hN, ← hX]; exact r3_Pow a e ha he

set_option maxRecDepth 100000 in
set_option maxHeartbeats 1000000 in
theorem r3_Inv (a : List UInt8) (ha : a.length = 32) : Meets Try.prog 43 [agg (bytesV a)] [] (fun _ => True) (fun v out => v = agg (bytesV (fb (finv (fe (le a))))) ∧ out = []) := by
  intro W hW
  obtain ⟨E, hE⟩ : ∃ E, Hid (expT 2 0 = E) := ⟨_, ⟨rfl⟩⟩
  have hEl : E.length = 32 := by rw [← hE.out]; exact expT_length _ _
  have hs := r3_shifted 2 0 dE dE
  rw [hE.out] at hs
  have hp := r3_Pow_e a E ha hEl (PF - 2) _ (by rw [← hE.out]; exact expT_inv) rfl
  rw [show fpow (fe (le a)) (PF - 2) = finv (fe (le a)) from rfl] at hp
  obtain ⟨R, hR⟩ : ∃ R, Hid (finv (fe (le a)) = R) := ⟨_, ⟨rfl⟩⟩
  rw [hR.out] at hp ⊢
  refine calls_of (hp0 := []) Try.func43 rfl 6 Try.ntmps43 rfl (HRep.nil _) ?_
  refine Sat.seq ?_
  refine Sat.region ?_
  refine Tr.boxA rfl rfl ?_
  intro n1 hn1 hf1
  refine Tr.alloc (cs := (bytesV (List.replicate 32 0))) rfl Zr30 rfl ?_
  intro n2 hn2 hf2
  refine Tr.nil ?_
  refine at_n ?_
  refine Sat.seq ?_
  refine Sat.draw [(1, 0), (3, 1), (3, 2), (4, 3)] Mixed (by kernel_rfl) ?_
  first
    | refine Tr.loadAll rfl rfl rfl Try.underlying30 rfl Sz30 mM (by first | (simp [natsV_length, fb_length, ha]; done) | assumption | (rw [bytesV, List.length_map]; assumption)) ?_
    | refine Tr.loadN _ rfl rfl rfl Try.underlying30 rfl Sz30 mM (by exact rfl) (by first | (simp [natsV_length, fb_length, ha]; done) | assumption | (rw [bytesV, List.length_map]; assumption)) ?_
  refine Tr.callV rfl rfl rfl rfl Body74 (hs) (fun _ _ => trivial) ?_
  refine Tr.callV rfl rfl rfl rfl Body73 (hp) (fun _ _ => trivial) ?_
  first
    | refine Tr.storeAll rfl rfl rfl rfl (by first | exact bytesV_cell _ | exact natsV_cell _ | simp [isCell]) Sz30 (by first | (simp [natsV_length, fb_length, ha]; done) | assumption | (rw [bytesV, List.length_map]; assumption)) mM (by first | (simp [natsV_length, fb_length, ha]; done) | assumption | (rw [bytesV, List.length_map]; assumption)) uU ?_
    | refine Tr.storeN _ rfl rfl rfl rfl rfl (by first | exact bytesV_cell _ | exact natsV_cell _ | simp [isCell]) Sz30 (by first | (simp [natsV_length, fb_length, ha]; done) | assumption | (rw [bytesV, List.length_map]; assumption)) mM (by first | (simp [natsV_length, fb_length, ha]; done) | assumption | (rw [bytesV, List.length_map]; assumption)) (by exact rfl) uU ?_
  refine Tr.nil ?_
  refine at_n ?_
  refine Sat.ret ?_
  refine en_r ?_
  refine ⟨_, [], res_cell rfl rfl Try.underlying30 rfl Sz30 mM (by simp [natsV_length, fb_length, ha]), sP, sP, ?_, rfl⟩
  rfl

end Go.Proofs.Ytmddgelpllffoaa
end

section
namespace Go.Proofs.Ytmddgelpllffoaa
open Go Hw
set_option linter.unusedVariables false
set_option linter.unusedSimpArgs false

set_option maxRecDepth 100000 in
set_option maxHeartbeats 1000000 in
theorem ref_L  : Meets Try.prog 29 [] [] (fun _ => True) (fun v out => v = agg (bytesV (leb 32 L)) ∧ out = []) := by
  intro W hW
  refine calls_of (hp0 := []) Try.func29 rfl 2 Try.ntmps29 rfl (HRep.nil _) ?_
  refine Sat.seq ?_
  refine Sat.region ?_
  refine Tr.alloc (cs := (bytesV (List.replicate 32 0))) rfl Zr30 rfl ?_
  intro n0 hn0 hf0
  refine Tr.nil ?_
  refine at_n ?_
  refine Sat.seq ?_
  refine Sat.region ?_
  refine Tr.build (cs := bytesV (leb 32 L)) rfl rfl rfl (fun w => by kernel_rfl) ?_
  first
    | refine Tr.storeAll rfl rfl rfl rfl cB Sz30 (by first | (simp [leb_length, words4_length, List.length_replicate, subB_all, padW_all]; done) | assumption | (rw [bytesV, List.length_map]; assumption)) mM (by first | (simp [leb_length, words4_length, List.length_replicate, subB_all, padW_all]; done) | assumption | (rw [bytesV, List.length_map]; assumption)) uU ?_
    | refine Tr.storeN _ rfl rfl rfl rfl rfl cB Sz30 (by first | (simp [leb_length, words4_length, List.length_replicate, subB_all, padW_all]; done) | assumption | (rw [bytesV, List.length_map]; assumption)) mM (by first | (simp [leb_length, words4_length, List.length_replicate, subB_all, padW_all]; done) | assumption | (rw [bytesV, List.length_map]; assumption)) (by exact rfl) uU ?_
  refine Tr.nil ?_
  refine at_n ?_
  refine Sat.ret ?_
  refine en_r ?_
  refine ⟨_, [], res_cell rfl rfl Try.underlying30 rfl Sz30 mM (by simp [leb_length, words4_length, List.length_replicate, subB_all, padW_all]), sP, sP, ?_, rfl⟩
  rfl

set_option maxRecDepth 100000 in
set_option maxHeartbeats 1000000 in
theorem ref_below (a b : List UInt8) (ha : a.length = 32) (hb : b.length = 32) : Meets Try.prog 28 [agg (bytesV a), agg (bytesV b)] [] (fun _ => True) (fun v out => v = .bool (decide (le a < le b)) ∧ out = []) := by
  intro W hW
  refine calls_of (hp0 := []) Try.func28 rfl 24 Try.ntmps28 rfl (HRep.nil _) ?_
  refine Sat.seq ?_
  refine Sat.region ?_
  refine Tr.boxA rfl rfl ?_
  intro n2 hn2 hf2
  refine Tr.boxA rfl rfl ?_
  intro n3 hn3 hf3
  refine Tr.assign rfl rfl rfl ?_
  refine Tr.nil ?_
  refine at_n ?_
  refine Sat.seq ?_
  refine Sat.seq ?_
  refine Sat.region ?_
  refine Tr.assign rfl rfl rfl ?_
  refine Tr.nil ?_
  refine at_n ?_
  refine Sat.block ?_
  refine Sat.loop (ι := Nat) (fun k => ⟨[(2, ptr n2 0), (3, ptr n3 0), (5, i64 (31 - (k : Int)))], [⟨n3, bytesV b, 30, (bytesV b).length⟩, ⟨n2, bytesV a, 30, (bytesV a).length⟩]⟩) (fun k => k ≤ 32 ∧ a.drop (32 - k) = b.drop (32 - k)) (fun k => 32 - k) (0) ?_ ?_ ?_
  · exact ⟨by omega, by rw [List.drop_of_length_le oM, List.drop_of_length_le oM]⟩
  · exact weak_of (wk1 rfl (wk1 rfl (wk1 rfl wk0))) (wh1 mM (wh1 mM wh0)) nD
  ·
    rintro k ⟨hk, hd⟩
    refine Sat.seq ?_
    refine Sat.seq ?_
    refine Sat.region ?_
    refine Tr.move rfl rfl rfl ?_
    refine Tr.geq rfl rfl rfl rfl rfl ?_
    refine Tr.nil ?_
    refine at_n ?_
    first
      | refine Sat.condP rfl (fun hc0 => ?_) (fun hc0 => ?_)
      | refine Sat.condNP rfl (fun hc0 => ?_) (fun hc0 => ?_)
      | refine Sat.cond rfl (fun hc0 => ?_) (fun hc0 => ?_)
    ·
      have hk2 : k < 32 := by omega
      refine Sat.skip ?_
      refine at_n ?_
      refine Sat.seq ?_
      refine Sat.block ?_
      refine Sat.seq ?_
      refine Sat.draw [(0, 0), (0, 1), (1, 2), (0, 3), (0, 4), (1, 5), (0, 6)] Mixed (by kernel_rfl) ?_
      refine Tr.move rfl rfl rfl ?_
      first
        | refine Tr.idxArr1 rfl rfl rfl rfl Try.underlying30 Sz5 (31 - k) oM oM ?_
        | refine Tr.idxArrO rfl rfl rfl rfl Try.underlying30 Sz5 (31 - k) oM oM ?_
      refine Tr.load1 rfl rfl rfl Try.underlying5 rfl mM (by first | rfl | exact get_words (by first | omega | (simp [leb_length, words4_length, List.length_replicate, subB_all, padW_all, ha, hb]; done) | (simp [leb_length, words4_length, List.length_replicate, subB_all, padW_all, ha, hb]; omega)) | exact get_bytes (by first | omega | (simp [leb_length, words4_length, List.length_replicate, subB_all, padW_all, ha, hb]; done) | (simp [leb_length, words4_length, List.length_replicate, subB_all, padW_all, ha, hb]; omega)) | exact get_ints (by first | omega | (simp [leb_length, words4_length, List.length_replicate, subB_all, padW_all, ha, hb]; done) | (simp [leb_length, words4_length, List.length_replicate, subB_all, padW_all, ha, hb]; omega))) ?_
      refine Tr.move rfl rfl rfl ?_
      first
        | refine Tr.idxArr1 rfl rfl rfl rfl Try.underlying30 Sz5 (31 - k) oM oM ?_
        | refine Tr.idxArrO rfl rfl rfl rfl Try.underlying30 Sz5 (31 - k) oM oM ?_
      refine Tr.load1 rfl rfl rfl Try.underlying5 rfl mM (by first | rfl | exact get_words (by first | omega | (simp [leb_length, words4_length, List.length_replicate, subB_all, padW_all, ha, hb]; done) | (simp [leb_length, words4_length, List.length_replicate, subB_all, padW_all, ha, hb]; omega)) | exact get_bytes (by first | omega | (simp [leb_length, words4_length, List.length_replicate, subB_all, padW_all, ha, hb]; done) | (simp [leb_length, words4_length, List.length_replicate, subB_all, padW_all, ha, hb]; omega)) | exact get_ints (by first | omega | (simp [leb_length, words4_length, List.length_replicate, subB_all, padW_all, ha, hb]; done) | (simp [leb_length, words4_length, List.length_replicate, subB_all, padW_all, ha, hb]; omega))) ?_
      refine Tr.nei rfl rfl rfl rfl rfl ?_
      refine Tr.nil ?_
      refine at_n ?_
      first
        | refine Sat.condP rfl (fun hc1 => ?_) (fun hc1 => ?_)
        | refine Sat.condNP rfl (fun hc1 => ?_) (fun hc1 => ?_)
        | refine Sat.cond rfl (fun hc1 => ?_) (fun hc1 => ?_)
      ·
        have hlt := le_lt_at ha hb (i := 31 - k) oM (by rw [show 31 - k + 1 = 32 - k by omega]; exact hd) oM
        refine Sat.seq ?_
        refine Sat.draw [(0, 0), (0, 1), (1, 2), (0, 3), (0, 4), (1, 5), (0, 6), (0, 7)] Mixed (by kernel_rfl) ?_
        refine Tr.move rfl rfl rfl ?_
        first
          | refine Tr.idxArr1 rfl rfl rfl rfl Try.underlying30 Sz5 (31 - k) oM oM ?_
          | refine Tr.idxArrO rfl rfl rfl rfl Try.underlying30 Sz5 (31 - k) oM oM ?_
        refine Tr.load1 rfl rfl rfl Try.underlying5 rfl mM (by first | rfl | exact get_words (by first | omega | (simp [leb_length, words4_length, List.length_replicate, subB_all, padW_all, ha, hb]; done) | (simp [leb_length, words4_length, List.length_replicate, subB_all, padW_all, ha, hb]; omega)) | exact get_bytes (by first | omega | (simp [leb_length, words4_length, List.length_replicate, subB_all, padW_all, ha, hb]; done) | (simp [leb_length, words4_length, List.length_replicate, subB_all, padW_all, ha, hb]; omega)) | exact get_ints (by first | omega | (simp [leb_length, words4_length, List.length_replicate, subB_all, padW_all, ha, hb]; done) | (simp [leb_length, words4_length, List.length_replicate, subB_all, padW_all, ha, hb]; omega))) ?_
        refine Tr.move rfl rfl rfl ?_
        first
          | refine Tr.idxArr1 rfl rfl rfl rfl Try.underlying30 Sz5 (31 - k) oM oM ?_
          | refine Tr.idxArrO rfl rfl rfl rfl Try.underlying30 Sz5 (31 - k) oM oM ?_
        refine Tr.load1 rfl rfl rfl Try.underlying5 rfl mM (by first | rfl | exact get_words (by first | omega | (simp [leb_length, words4_length, List.length_replicate, subB_all, padW_all, ha, hb]; done) | (simp [leb_length, words4_length, List.length_replicate, subB_all, padW_all, ha, hb]; omega)) | exact get_bytes (by first | omega | (simp [leb_length, words4_length, List.length_replicate, subB_all, padW_all, ha, hb]; done) | (simp [leb_length, words4_length, List.length_replicate, subB_all, padW_all, ha, hb]; omega)) | exact get_ints (by first | omega | (simp [leb_length, words4_length, List.length_replicate, subB_all, padW_all, ha, hb]; done) | (simp [leb_length, words4_length, List.length_replicate, subB_all, padW_all, ha, hb]; omega))) ?_
        refine Tr.lss rfl rfl rfl rfl rfl ?_
        refine Tr.assign rfl rfl rfl ?_
        refine Tr.nil ?_
        refine at_n ?_
        refine Sat.ret ?_
        refine bl_r ?_
        refine at_r ?_
        refine at_r ?_
        refine bl_r ?_
        refine at_r ?_
        refine en_r ?_
        refine ⟨_, [], res_tmp rfl rfl, sP, sP, ?_, rfl⟩
        first
          | (rw [show decide (le a < le b) = decide (((a.getD (31 - k) 0).toNat : Int) < ((b.getD (31 - k) 0).toNat : Int)) from decide_eq_decide.2 (hlt.symm.trans oM)])
          | (have he : a = b := by simpa using hd
             rw [he, decide_eq_false (Nat.lt_irrefl _)])
      ·
        refine Sat.skip ?_
        refine bl_n ?_
        refine at_n ?_
        refine Sat.region ?_
        refine Tr.move rfl rfl rfl ?_
        refine Tr.sub_i64 rfl rfl rfl rfl oM ?_
        refine Tr.assign rfl rfl rfl ?_
        refine Tr.nil ?_
        refine at_n ?_
        exact ⟨k + 1, ⟨by omega, drop_step ha hb oM (by rw [show 32 - (k + 1) + 1 = 32 - k by omega]; exact hd) (by rw [show 32 - (k + 1) = 31 - k by omega]; omega)⟩, by omega, weak_of (wk1 rfl (wk1 rfl (wk1 (by rw [show (31 - ((k + 1 : Nat) : Int)) = 31 - (k : Int) - 1 by omega]; rfl) wk0))) (wh1 mM (wh1 mM wh0)) nD⟩
    ·
      obtain rfl : k = 32 := by omega
      refine Sat.exit ?_
      refine at_x ?_
      refine at_x ?_
      refine bl_h ?_
      refine at_n ?_
      refine Sat.seq ?_
      refine Sat.region ?_
      refine Tr.assign rfl rfl rfl ?_
      refine Tr.nil ?_
      refine at_n ?_
      refine Sat.ret ?_
      refine en_r ?_
      refine ⟨_, [], res_tmp rfl rfl, sP, sP, ?_, rfl⟩
      first
        | (rw [show decide (le a < le b) = decide (((a.getD (31 - k) 0).toNat : Int) < ((b.getD (31 - k) 0).toNat : Int)) from decide_eq_decide.2 (hlt.symm.trans oM)])
        | (have he : a = b := by simpa using hd
           rw [he, decide_eq_false (Nat.lt_irrefl _)])



set_option maxRecDepth 100000 in
set_option maxHeartbeats 1000000 in
theorem ref_canon (a : List UInt8) (ha : a.length = 32)  : Meets Try.prog 12 [agg (bytesV a)] [] (fun _ => True) (fun v out => v = .bool (decide (le a < L)) ∧ out = []) := by
  intro W hW
  refine calls_of (hp0 := []) Try.func12 rfl 6 Try.ntmps12 rfl (HRep.nil _) ?_
  refine Sat.seq ?_
  refine Sat.region ?_
  refine Tr.boxA rfl rfl ?_
  intro n1 hn1 hf1
  refine Tr.assign rfl rfl rfl ?_
  refine Tr.nil ?_
  refine at_n ?_
  refine Sat.seq ?_
  refine Sat.draw [(1, 0), (3, 1), (3, 2), (0, 3)] Mixed (by kernel_rfl) ?_
  first
    | refine Tr.loadAll rfl rfl rfl Try.underlying30 rfl Sz30 mM (by first | (simp [leb_length, words4_length, List.length_replicate, subB_all, padW_all, ha]; done) | assumption | (rw [bytesV, List.length_map]; assumption)) ?_
    | refine Tr.loadN _ rfl rfl rfl Try.underlying30 rfl Sz30 mM (by exact rfl) (by first | (simp [leb_length, words4_length, List.length_replicate, subB_all, padW_all, ha]; done) | assumption | (rw [bytesV, List.length_map]; assumption)) ?_
  refine Tr.callV rfl rfl rfl rfl Body29 (ref_L) (fun _ _ => trivial) ?_
  refine Tr.callV rfl rfl rfl rfl Body28 (ref_below _ _ (by simp [leb_length, words4_length, List.length_replicate, subB_all, padW_all, ha]) (by simp [leb_length, words4_length, List.length_replicate, subB_all, padW_all, ha])) (fun _ _ => trivial) ?_
  refine Tr.assign rfl rfl rfl ?_
  refine Tr.nil ?_
  refine at_n ?_
  refine Sat.ret ?_
  refine en_r ?_
  refine ⟨_, [], res_tmp rfl rfl, sP, sP, ?_, rfl⟩
  rw [le_leb32 L_lt]



end Go.Proofs.Ytmddgelpllffoaa
end

section
namespace Go.Proofs.Ytmddgelpllffoaa
open Go Hw
set_option linter.unusedVariables false
set_option linter.unusedSimpArgs false

open Ed

theorem r_mul (x y : Fp) : Meets Try.prog 39 [agg (bytesV (fb x)), agg (bytesV (fb y))] [] (fun _ => True) (fun v out => v = agg (bytesV (fb (x * y))) ∧ out = []) := by
  have h := r3_Mul (fb x) (fb y) (fb_length x) (fb_length y)
  rwa [fe_fb x, fe_fb y] at h

theorem r_sub (x y : Fp) : Meets Try.prog 41 [agg (bytesV (fb x)), agg (bytesV (fb y))] [] (fun _ => True) (fun v out => v = agg (bytesV (fb (x - y))) ∧ out = []) := by
  have h := r3_Sub (fb x) (fb y) (fb_length x) (fb_length y)
  rwa [fe_fb x, fe_fb y] at h

theorem r_neg (x : Fp) : Meets Try.prog 21 [agg (bytesV (fb x))] [] (fun _ => True) (fun v out => v = agg (bytesV (fb (-x))) ∧ out = []) := by
  have h := r3_Neg (fb x) (fb_length x)
  rwa [fe_fb x] at h

theorem r_inv (x : Fp) : Meets Try.prog 43 [agg (bytesV (fb x))] [] (fun _ => True) (fun v out => v = agg (bytesV (fb (finv x))) ∧ out = []) := by
  have h := r3_Inv (fb x) (fb_length x)
  rwa [fe_fb x] at h

theorem r_odd (x : Fp) : Meets Try.prog 76 [agg (bytesV (fb x))] [] (fun _ => True) (fun v out => v = .bool (decide (x.val % 2 = 1)) ∧ out = []) := by
  have h := r3_Odd (fb x) (fb_length x)
  rwa [fe_fb x] at h

theorem r_same_raw (x : Fp) (a : List UInt8) (ha : a.length = 32) : Meets Try.prog 75 [agg (bytesV (fb x)), agg (bytesV a)] [] (fun _ => True) (fun v out => v = .bool (decide (x = fe (le a))) ∧ out = []) := by
  have h := r3_Same (fb x) a (fb_length x) ha
  rwa [fe_fb x] at h
theorem r_of (x : UInt64) (X : Fp) (h : fe x.toNat = X) : Meets Try.prog 40 [u64 x] [] (fun _ => True) (fun v out => v = agg (bytesV (fb X)) ∧ out = []) := by
  rw [← h]; exact r3_Of x
theorem r_one : Meets Try.prog 40 [u64 1] [] (fun _ => True) (fun v out => v = agg (bytesV (fb 1)) ∧ out = []) := r_of 1 1 rfl
theorem r_cA : Meets Try.prog 40 [u64 121666] [] (fun _ => True) (fun v out => v = agg (bytesV (fb cA)) ∧ out = []) := r_of 121666 cA rfl
theorem r_cB : Meets Try.prog 40 [u64 121665] [] (fun _ => True) (fun v out => v = agg (bytesV (fb cB)) ∧ out = []) := r_of 121665 cB rfl
theorem r_pow_root (a : List UInt8) (ha : a.length = 32) (X : Fp) (hX : fe (le a) = X) : Meets Try.prog 73 [agg (bytesV a), agg (bytesV (expT 5 3))] [] (fun _ => True) (fun v out => v = agg (bytesV (fb (fpow X ((PF - 5) / 8)))) ∧ out = []) := r3_Pow_e a _ ha (expT_length _ _) _ X expT_root hX
theorem r_pow_unit : Meets Try.prog 73 [agg (bytesV (fb (fe 2))), agg (bytesV (expT 1 2))] [] (fun _ => True) (fun v out => v = agg (bytesV (fb (fpow (fe 2) ((PF - 1) / 4)))) ∧ out = []) := r3_Pow_e _ _ (fb_length _) (expT_length _ _) _ _ expT_unit (fe_fb _)
theorem r_mul_a (p r : Fp) (a : List UInt8) (ha : a.length = 32) (h : p * fe (le a) = r) : Meets Try.prog 39 [agg (bytesV (fb p)), agg (bytesV a)] [] (fun _ => True) (fun v out => v = agg (bytesV (fb r)) ∧ out = []) := by
  have h1 := r3_Mul (fb p) a (fb_length p) ha
  rwa [fe_fb p, h] at h1

set_option maxRecDepth 100000 in
set_option maxHeartbeats 4000000 in
theorem r3_Root (a : List UInt8) (X : Fp) (ha : a.length = 32) (hX : fe (le a) = X) : Meets Try.prog 42 [agg (bytesV a)] [] (fun _ => True) (fun v out => v = .tuple #[agg (bytesV (fb (fRoot X).1)), .bool (fRoot X).2] ∧ out = []) := by
  intro W hW
  obtain ⟨r0, hr0⟩ : ∃ r, fpow X ((PF + 3) / 8) = r := ⟨_, rfl⟩
  obtain ⟨un, hun⟩ : ∃ r, fpow (fe 2) ((PF - 1) / 4) = r := ⟨_, rfl⟩
  obtain ⟨r1, hr1⟩ : ∃ r, fRoot1 X = r := ⟨_, rfl⟩
  have hp0 := r_pow_root a ha X hX
  have hstep := root_step X
  obtain ⟨p0, hpp⟩ : ∃ r, fpow X ((PF - 5) / 8) = r := ⟨_, rfl⟩
  rw [hpp] at hp0 hstep
  rw [hr0] at hstep
  have hm0 := r_mul_a p0 r0 a ha (by rw [hX]; exact hstep)
  have hpu := r_pow_unit
  rw [hun] at hpu
  have hm := fun y => r_same_raw y a ha
  rw [hX] at hm
  have hr1' : r1 = if r0 * r0 = X then r0 else r0 * un := by rw [← hr1, fRoot1, hr0, hun]
  have hR : fRoot X = if r1 * r1 = X then ((if r1.val % 2 = 1 then -r1 else r1), true) else (0, false) := by rw [fRoot, hr1]
  clear hr1 hstep
  have hs53 := r3_shifted 5 3 dE dE
  have hs12 := r3_shifted 1 2 dE dE
  obtain ⟨E, hE⟩ : ∃ E, Hid (expT 5 3 = E) := ⟨_, ⟨rfl⟩⟩
  obtain ⟨G, hG⟩ : ∃ E, Hid (expT 1 2 = E) := ⟨_, ⟨rfl⟩⟩
  have hEl : E.length = 32 := by rw [← hE.out]; exact expT_length _ _
  have hGl : G.length = 32 := by rw [← hG.out]; exact expT_length _ _
  rw [hE.out] at hs53 hp0
  rw [hG.out] at hs12 hpu
  refine calls_of (hp0 := []) Try.func42 rfl 33 Try.ntmps42 rfl (HRep.nil _) ?_
  refine Sat.seq ?_
  refine Sat.region ?_
  refine Tr.boxA rfl rfl ?_
  intro n1 hn1 hf1
  refine Tr.alloc (cs := (bytesV (List.replicate 32 0))) rfl Zr30 rfl ?_
  intro n2 hn2 hf2
  refine Tr.assign rfl rfl rfl ?_
  refine Tr.nil ?_
  refine at_n ?_
  refine Sat.seq ?_
  refine Sat.draw [(1, 0), (1, 3), (3, 1), (3, 2), (3, 4), (2, 5), (4, 6)] Mixed (by kernel_rfl) ?_
  first
    | refine Tr.loadAll rfl rfl rfl Try.underlying30 rfl Sz30 mM (by first | (simp [natsV_length, fb_length, ha, hEl, hGl]; done) | assumption | (rw [bytesV, List.length_map]; assumption)) ?_
    | refine Tr.loadN _ rfl rfl rfl Try.underlying30 rfl Sz30 mM (by exact rfl) (by first | (simp [natsV_length, fb_length, ha, hEl, hGl]; done) | assumption | (rw [bytesV, List.length_map]; assumption)) ?_
  first
    | refine Tr.loadAll rfl rfl rfl Try.underlying30 rfl Sz30 mM (by first | (simp [natsV_length, fb_length, ha, hEl, hGl]; done) | assumption | (rw [bytesV, List.length_map]; assumption)) ?_
    | refine Tr.loadN _ rfl rfl rfl Try.underlying30 rfl Sz30 mM (by exact rfl) (by first | (simp [natsV_length, fb_length, ha, hEl, hGl]; done) | assumption | (rw [bytesV, List.length_map]; assumption)) ?_
  refine Tr.callV rfl rfl rfl rfl Body74 (hs53) (fun _ _ => trivial) ?_
  refine Tr.callV rfl rfl rfl rfl Body73 (hp0) (fun _ _ => trivial) ?_
  refine Tr.callV rfl rfl rfl rfl Body39 (hm0) (fun _ _ => trivial) ?_
  refine Tr.alloc (cs := (bytesV (List.replicate 32 0))) rfl Zr30 rfl ?_
  intro n4 hn4 hf4
  first
    | refine Tr.storeAll rfl rfl rfl rfl (by first | exact bytesV_cell _ | exact natsV_cell _ | simp [isCell]) Sz30 (by first | (simp [natsV_length, fb_length, ha, hEl, hGl]; done) | assumption | (rw [bytesV, List.length_map]; assumption)) mM (by first | (simp [natsV_length, fb_length, ha, hEl, hGl]; done) | assumption | (rw [bytesV, List.length_map]; assumption)) uU ?_
    | refine Tr.storeN _ rfl rfl rfl rfl rfl (by first | exact bytesV_cell _ | exact natsV_cell _ | simp [isCell]) Sz30 (by first | (simp [natsV_length, fb_length, ha, hEl, hGl]; done) | assumption | (rw [bytesV, List.length_map]; assumption)) mM (by first | (simp [natsV_length, fb_length, ha, hEl, hGl]; done) | assumption | (rw [bytesV, List.length_map]; assumption)) (by exact rfl) uU ?_
  refine Tr.nil ?_
  refine at_n ?_
  refine Sat.join (ι := Unit) (fun _u => ⟨[(1, ptr n1 0), (2, ptr n2 0), (4, ptr n4 0)], [⟨n4, bytesV (fb r1), 30, 32⟩, ⟨n2, bytesV (List.replicate 32 0), 30, 32⟩, ⟨n1, bytesV a, 30, (bytesV a).length⟩]⟩) (fun _u => True) ?_ ?_
  ·
    refine Sat.seq ?_
    refine Sat.draw [(1, 0), (1, 1), (1, 3), (3, 2), (3, 4), (0, 5)] Mixed (by kernel_rfl) ?_
    first
      | refine Tr.loadAll rfl rfl rfl Try.underlying30 rfl Sz30 mM (by first | (simp [natsV_length, fb_length, ha, hEl, hGl]; done) | assumption | (rw [bytesV, List.length_map]; assumption)) ?_
      | refine Tr.loadN _ rfl rfl rfl Try.underlying30 rfl Sz30 mM (by exact rfl) (by first | (simp [natsV_length, fb_length, ha, hEl, hGl]; done) | assumption | (rw [bytesV, List.length_map]; assumption)) ?_
    first
      | refine Tr.loadAll rfl rfl rfl Try.underlying30 rfl Sz30 mM (by first | (simp [natsV_length, fb_length, ha, hEl, hGl]; done) | assumption | (rw [bytesV, List.length_map]; assumption)) ?_
      | refine Tr.loadN _ rfl rfl rfl Try.underlying30 rfl Sz30 mM (by exact rfl) (by first | (simp [natsV_length, fb_length, ha, hEl, hGl]; done) | assumption | (rw [bytesV, List.length_map]; assumption)) ?_
    first
      | refine Tr.loadAll rfl rfl rfl Try.underlying30 rfl Sz30 mM (by first | (simp [natsV_length, fb_length, ha, hEl, hGl]; done) | assumption | (rw [bytesV, List.length_map]; assumption)) ?_
      | refine Tr.loadN _ rfl rfl rfl Try.underlying30 rfl Sz30 mM (by exact rfl) (by first | (simp [natsV_length, fb_length, ha, hEl, hGl]; done) | assumption | (rw [bytesV, List.length_map]; assumption)) ?_
    refine Tr.callV rfl rfl rfl rfl Body39 (r_mul r0 r0) (fun _ _ => trivial) ?_
    refine Tr.callV rfl rfl rfl rfl Body75 (hm (r0 * r0)) (fun _ _ => trivial) ?_
    refine Tr.not rfl rfl rfl ?_
    refine Tr.nil ?_
    refine at_n ?_
    first
      | refine Sat.condP rfl (fun hc0 => ?_) (fun hc0 => ?_)
      | refine Sat.condNP rfl (fun hc0 => ?_) (fun hc0 => ?_)
      | refine Sat.cond rfl (fun hc0 => ?_) (fun hc0 => ?_)
    ·
      refine Sat.draw [(1, 0), (3, 1), (3, 2), (3, 3), (3, 4), (4, 5)] Mixed (by kernel_rfl) ?_
      first
        | refine Tr.loadAll rfl rfl rfl Try.underlying30 rfl Sz30 mM (by first | (simp [natsV_length, fb_length, ha, hEl, hGl]; done) | assumption | (rw [bytesV, List.length_map]; assumption)) ?_
        | refine Tr.loadN _ rfl rfl rfl Try.underlying30 rfl Sz30 mM (by exact rfl) (by first | (simp [natsV_length, fb_length, ha, hEl, hGl]; done) | assumption | (rw [bytesV, List.length_map]; assumption)) ?_
      refine Tr.callV rfl rfl rfl rfl Body40 (r_of 2 (fe 2) rfl) (fun _ _ => trivial) ?_
      refine Tr.callV rfl rfl rfl rfl Body74 (hs12) (fun _ _ => trivial) ?_
      refine Tr.callV rfl rfl rfl rfl Body73 (hpu) (fun _ _ => trivial) ?_
      refine Tr.callV rfl rfl rfl rfl Body39 (r_mul r0 un) (fun _ _ => trivial) ?_
      first
        | refine Tr.storeAll rfl rfl rfl rfl (by first | exact bytesV_cell _ | exact natsV_cell _ | simp [isCell]) Sz30 (by first | (simp [natsV_length, fb_length, ha, hEl, hGl]; done) | assumption | (rw [bytesV, List.length_map]; assumption)) mM (by first | (simp [natsV_length, fb_length, ha, hEl, hGl]; done) | assumption | (rw [bytesV, List.length_map]; assumption)) uU ?_
        | refine Tr.storeN _ rfl rfl rfl rfl rfl (by first | exact bytesV_cell _ | exact natsV_cell _ | simp [isCell]) Sz30 (by first | (simp [natsV_length, fb_length, ha, hEl, hGl]; done) | assumption | (rw [bytesV, List.length_map]; assumption)) mM (by first | (simp [natsV_length, fb_length, ha, hEl, hGl]; done) | assumption | (rw [bytesV, List.length_map]; assumption)) (by exact rfl) uU ?_
      refine Tr.nil ?_
      refine at_n ?_
      first
        | (rw [hr1', if_neg hc0]; exact ⟨(), trivial, weak_of (wk1 rfl (wk1 rfl (wk1 rfl wk0))) (wh1 mM (wh1 mM (wh1 mM wh0))) nD⟩)
        | (rw [hr1', if_pos hc0]; exact ⟨(), trivial, weak_of (wk1 rfl (wk1 rfl (wk1 rfl wk0))) (wh1 mM (wh1 mM (wh1 mM wh0))) nD⟩)
    ·
      refine Sat.skip ?_
      refine at_n ?_
      first
        | (rw [hr1', if_neg hc0]; exact ⟨(), trivial, weak_of (wk1 rfl (wk1 rfl (wk1 rfl wk0))) (wh1 mM (wh1 mM (wh1 mM wh0))) nD⟩)
        | (rw [hr1', if_pos hc0]; exact ⟨(), trivial, weak_of (wk1 rfl (wk1 rfl (wk1 rfl wk0))) (wh1 mM (wh1 mM (wh1 mM wh0))) nD⟩)
  ·
    intro _u hj
    skip
    refine Sat.seq ?_
    refine Sat.seq ?_
    refine Sat.draw [(1, 0), (1, 1), (1, 3), (3, 2), (3, 4), (0, 5)] Mixed (by kernel_rfl) ?_
    first
      | refine Tr.loadAll rfl rfl rfl Try.underlying30 rfl Sz30 mM (by first | (simp [natsV_length, fb_length, ha, hEl, hGl]; done) | assumption | (rw [bytesV, List.length_map]; assumption)) ?_
      | refine Tr.loadN _ rfl rfl rfl Try.underlying30 rfl Sz30 mM (by exact rfl) (by first | (simp [natsV_length, fb_length, ha, hEl, hGl]; done) | assumption | (rw [bytesV, List.length_map]; assumption)) ?_
    first
      | refine Tr.loadAll rfl rfl rfl Try.underlying30 rfl Sz30 mM (by first | (simp [natsV_length, fb_length, ha, hEl, hGl]; done) | assumption | (rw [bytesV, List.length_map]; assumption)) ?_
      | refine Tr.loadN _ rfl rfl rfl Try.underlying30 rfl Sz30 mM (by exact rfl) (by first | (simp [natsV_length, fb_length, ha, hEl, hGl]; done) | assumption | (rw [bytesV, List.length_map]; assumption)) ?_
    first
      | refine Tr.loadAll rfl rfl rfl Try.underlying30 rfl Sz30 mM (by first | (simp [natsV_length, fb_length, ha, hEl, hGl]; done) | assumption | (rw [bytesV, List.length_map]; assumption)) ?_
      | refine Tr.loadN _ rfl rfl rfl Try.underlying30 rfl Sz30 mM (by exact rfl) (by first | (simp [natsV_length, fb_length, ha, hEl, hGl]; done) | assumption | (rw [bytesV, List.length_map]; assumption)) ?_
    refine Tr.callV rfl rfl rfl rfl Body39 (r_mul r1 r1) (fun _ _ => trivial) ?_
    refine Tr.callV rfl rfl rfl rfl Body75 (hm (r1 * r1)) (fun _ _ => trivial) ?_
    refine Tr.not rfl rfl rfl ?_
    refine Tr.nil ?_
    refine at_n ?_
    first
      | refine Sat.condP rfl (fun hc1 => ?_) (fun hc1 => ?_)
      | refine Sat.condNP rfl (fun hc1 => ?_) (fun hc1 => ?_)
      | refine Sat.cond rfl (fun hc1 => ?_) (fun hc1 => ?_)
    ·
      refine Sat.seq ?_
      refine Sat.region ?_
      refine Tr.build (cs := bytesV (List.replicate 32 0)) rfl rfl rfl (fun w => by kernel_rfl) ?_
      first
        | refine Tr.storeAll rfl rfl rfl rfl (by first | exact bytesV_cell _ | exact natsV_cell _ | simp [isCell]) Sz30 (by first | (simp [natsV_length, fb_length, ha, hEl, hGl]; done) | assumption | (rw [bytesV, List.length_map]; assumption)) mM (by first | (simp [natsV_length, fb_length, ha, hEl, hGl]; done) | assumption | (rw [bytesV, List.length_map]; assumption)) uU ?_
        | refine Tr.storeN _ rfl rfl rfl rfl rfl (by first | exact bytesV_cell _ | exact natsV_cell _ | simp [isCell]) Sz30 (by first | (simp [natsV_length, fb_length, ha, hEl, hGl]; done) | assumption | (rw [bytesV, List.length_map]; assumption)) mM (by first | (simp [natsV_length, fb_length, ha, hEl, hGl]; done) | assumption | (rw [bytesV, List.length_map]; assumption)) (by exact rfl) uU ?_
      refine Tr.assign rfl rfl rfl ?_
      refine Tr.nil ?_
      refine at_n ?_
      refine Sat.ret ?_
      refine at_r ?_
      refine en_r ?_
      refine ⟨_, [], res_cell_tmp rfl rfl rfl Try.underlying30 rfl Sz30 mM (by simp [natsV_length, fb_length, ha, hEl, hGl]), sP, sP, ?_, rfl⟩
      first
        | (rw [hR, if_neg hc1, fb_zero]; done)
        | (rw [hR, if_pos hc1]; done)
    ·
      refine Sat.skip ?_
      refine at_n ?_
      refine Sat.join (ι := Unit) (fun _u => ⟨[(2, ptr n2 0), (4, ptr n4 0)], [⟨n4, bytesV (fb (if r1.val % 2 = 1 then -r1 else r1)), 30, 32⟩, ⟨n2, bytesV (List.replicate 32 0), 30, 32⟩]⟩) (fun _u => True) ?_ ?_
      ·
        refine Sat.seq ?_
        refine Sat.region ?_
        first
          | refine Tr.loadAll rfl rfl rfl Try.underlying30 rfl Sz30 mM (by first | (simp [natsV_length, fb_length, ha, hEl, hGl]; done) | assumption | (rw [bytesV, List.length_map]; assumption)) ?_
          | refine Tr.loadN _ rfl rfl rfl Try.underlying30 rfl Sz30 mM (by exact rfl) (by first | (simp [natsV_length, fb_length, ha, hEl, hGl]; done) | assumption | (rw [bytesV, List.length_map]; assumption)) ?_
        refine Tr.callV rfl rfl rfl rfl Body76 (r_odd r1) (fun _ _ => trivial) ?_
        refine Tr.nil ?_
        refine at_n ?_
        first
          | refine Sat.condP rfl (fun hc2 => ?_) (fun hc2 => ?_)
          | refine Sat.condNP rfl (fun hc2 => ?_) (fun hc2 => ?_)
          | refine Sat.cond rfl (fun hc2 => ?_) (fun hc2 => ?_)
        ·
          refine Sat.region ?_
          first
            | refine Tr.loadAll rfl rfl rfl Try.underlying30 rfl Sz30 mM (by first | (simp [natsV_length, fb_length, ha, hEl, hGl]; done) | assumption | (rw [bytesV, List.length_map]; assumption)) ?_
            | refine Tr.loadN _ rfl rfl rfl Try.underlying30 rfl Sz30 mM (by exact rfl) (by first | (simp [natsV_length, fb_length, ha, hEl, hGl]; done) | assumption | (rw [bytesV, List.length_map]; assumption)) ?_
          refine Tr.callV rfl rfl rfl rfl Body21 (r_neg r1) (fun _ _ => trivial) ?_
          first
            | refine Tr.storeAll rfl rfl rfl rfl (by first | exact bytesV_cell _ | exact natsV_cell _ | simp [isCell]) Sz30 (by first | (simp [natsV_length, fb_length, ha, hEl, hGl]; done) | assumption | (rw [bytesV, List.length_map]; assumption)) mM (by first | (simp [natsV_length, fb_length, ha, hEl, hGl]; done) | assumption | (rw [bytesV, List.length_map]; assumption)) uU ?_
            | refine Tr.storeN _ rfl rfl rfl rfl rfl (by first | exact bytesV_cell _ | exact natsV_cell _ | simp [isCell]) Sz30 (by first | (simp [natsV_length, fb_length, ha, hEl, hGl]; done) | assumption | (rw [bytesV, List.length_map]; assumption)) mM (by first | (simp [natsV_length, fb_length, ha, hEl, hGl]; done) | assumption | (rw [bytesV, List.length_map]; assumption)) (by exact rfl) uU ?_
          refine Tr.nil ?_
          refine at_n ?_
          first
            | (rw [if_pos hc2]; exact ⟨(), trivial, weak_of (wk1 rfl (wk1 rfl wk0)) (wh1 mM (wh1 mM wh0)) nD⟩)
            | (rw [if_neg hc2]; exact ⟨(), trivial, weak_of (wk1 rfl (wk1 rfl wk0)) (wh1 mM (wh1 mM wh0)) nD⟩)
        ·
          refine Sat.skip ?_
          refine at_n ?_
          first
            | (rw [if_pos hc2]; exact ⟨(), trivial, weak_of (wk1 rfl (wk1 rfl wk0)) (wh1 mM (wh1 mM wh0)) nD⟩)
            | (rw [if_neg hc2]; exact ⟨(), trivial, weak_of (wk1 rfl (wk1 rfl wk0)) (wh1 mM (wh1 mM wh0)) nD⟩)
      ·
        intro _u hj
        skip
        refine Sat.seq ?_
        refine Sat.region ?_
        first
          | refine Tr.loadAll rfl rfl rfl Try.underlying30 rfl Sz30 mM (by first | (simp [natsV_length, fb_length, ha, hEl, hGl]; done) | assumption | (rw [bytesV, List.length_map]; assumption)) ?_
          | refine Tr.loadN _ rfl rfl rfl Try.underlying30 rfl Sz30 mM (by exact rfl) (by first | (simp [natsV_length, fb_length, ha, hEl, hGl]; done) | assumption | (rw [bytesV, List.length_map]; assumption)) ?_
        first
          | refine Tr.storeAll rfl rfl rfl rfl (by first | exact bytesV_cell _ | exact natsV_cell _ | simp [isCell]) Sz30 (by first | (simp [natsV_length, fb_length, ha, hEl, hGl]; done) | assumption | (rw [bytesV, List.length_map]; assumption)) mM (by first | (simp [natsV_length, fb_length, ha, hEl, hGl]; done) | assumption | (rw [bytesV, List.length_map]; assumption)) uU ?_
          | refine Tr.storeN _ rfl rfl rfl rfl rfl (by first | exact bytesV_cell _ | exact natsV_cell _ | simp [isCell]) Sz30 (by first | (simp [natsV_length, fb_length, ha, hEl, hGl]; done) | assumption | (rw [bytesV, List.length_map]; assumption)) mM (by first | (simp [natsV_length, fb_length, ha, hEl, hGl]; done) | assumption | (rw [bytesV, List.length_map]; assumption)) (by exact rfl) uU ?_
        refine Tr.assign rfl rfl rfl ?_
        refine Tr.nil ?_
        refine at_n ?_
        refine Sat.ret ?_
        refine en_r ?_
        refine ⟨_, [], res_cell_tmp rfl rfl rfl Try.underlying30 rfl Sz30 mM (by simp [natsV_length, fb_length, ha, hEl, hGl]), sP, sP, ?_, rfl⟩
        first
          | (rw [hR, if_neg hc1, fb_zero]; done)
          | (rw [hR, if_pos hc1]; done)

set_option maxRecDepth 100000 in
set_option maxHeartbeats 4000000 in
theorem r5_root (Y : Fp) : Meets Try.prog 20 [agg (bytesV (fb Y))] [] (fun _ => True) (fun v out => v = .tuple #[agg (bytesV (fb (xOf Y).1)), .bool (xOf Y).2] ∧ out = []) := by
  intro W hW
  have hq := ref_quot Y
  have hxo : xOf Y = fRoot ((Y * Y - 1) * finv (fD * (Y * Y) + 1)) := rfl
  rw [← hq] at hxo
  have hinv := r_inv (cA - cB * (Y * Y))
  revert hinv hxo
  clear hq
  generalize finv (cA - cB * (Y * Y)) = iz
  intro hxo hinv
  have hroot := r3_Root (fb (cA * (Y * Y - 1) * iz)) (cA * (Y * Y - 1) * iz) (fb_length _) (fe_fb _)
  rw [← hxo] at hroot
  clear hxo
  revert hroot
  generalize xOf Y = xr
  intro hroot
  refine calls_of (hp0 := []) Try.func20 rfl 27 Try.ntmps20 rfl (HRep.nil _) ?_
  refine Sat.seq ?_
  refine Sat.region ?_
  refine Tr.boxA rfl rfl ?_
  intro n1 hn1 hf1
  refine Tr.alloc (cs := (bytesV (List.replicate 32 0))) rfl Zr30 rfl ?_
  intro n2 hn2 hf2
  refine Tr.assign rfl rfl rfl ?_
  refine Tr.nil ?_
  refine at_n ?_
  refine Sat.seq ?_
  refine Sat.region ?_
  first
    | refine Tr.loadAll rfl rfl rfl Try.underlying30 rfl Sz30 mM (by first | (simp [natsV_length, fb_length]; done) | assumption | (rw [bytesV, List.length_map]; assumption)) ?_
    | refine Tr.loadN _ rfl rfl rfl Try.underlying30 rfl Sz30 mM (by exact rfl) (by first | (simp [natsV_length, fb_length]; done) | assumption | (rw [bytesV, List.length_map]; assumption)) ?_
  first
    | refine Tr.loadAll rfl rfl rfl Try.underlying30 rfl Sz30 mM (by first | (simp [natsV_length, fb_length]; done) | assumption | (rw [bytesV, List.length_map]; assumption)) ?_
    | refine Tr.loadN _ rfl rfl rfl Try.underlying30 rfl Sz30 mM (by exact rfl) (by first | (simp [natsV_length, fb_length]; done) | assumption | (rw [bytesV, List.length_map]; assumption)) ?_
  refine Tr.callV rfl rfl rfl rfl Body39 (r_mul Y Y) (fun _ _ => trivial) ?_
  refine Tr.alloc (cs := (bytesV (List.replicate 32 0))) rfl Zr30 rfl ?_
  intro n4 hn4 hf4
  first
    | refine Tr.storeAll rfl rfl rfl rfl (by first | exact bytesV_cell _ | exact natsV_cell _ | simp [isCell]) Sz30 (by first | (simp [natsV_length, fb_length]; done) | assumption | (rw [bytesV, List.length_map]; assumption)) mM (by first | (simp [natsV_length, fb_length]; done) | assumption | (rw [bytesV, List.length_map]; assumption)) uU ?_
    | refine Tr.storeN _ rfl rfl rfl rfl rfl (by first | exact bytesV_cell _ | exact natsV_cell _ | simp [isCell]) Sz30 (by first | (simp [natsV_length, fb_length]; done) | assumption | (rw [bytesV, List.length_map]; assumption)) mM (by first | (simp [natsV_length, fb_length]; done) | assumption | (rw [bytesV, List.length_map]; assumption)) (by exact rfl) uU ?_
  refine Tr.nil ?_
  refine at_n ?_
  refine Sat.seq ?_
  refine Sat.draw [(1, 1), (3, 0), (3, 2), (3, 3), (3, 4), (2, 5), (4, 6)] Mixed (by kernel_rfl) ?_
  first
    | refine Tr.loadAll rfl rfl rfl Try.underlying30 rfl Sz30 mM (by first | (simp [natsV_length, fb_length]; done) | assumption | (rw [bytesV, List.length_map]; assumption)) ?_
    | refine Tr.loadN _ rfl rfl rfl Try.underlying30 rfl Sz30 mM (by exact rfl) (by first | (simp [natsV_length, fb_length]; done) | assumption | (rw [bytesV, List.length_map]; assumption)) ?_
  refine Tr.callV rfl rfl rfl rfl Body40 (r_cA) (fun _ _ => trivial) ?_
  refine Tr.callV rfl rfl rfl rfl Body40 (r_one) (fun _ _ => trivial) ?_
  refine Tr.callV rfl rfl rfl rfl Body41 (r_sub (Y * Y) 1) (fun _ _ => trivial) ?_
  refine Tr.callV rfl rfl rfl rfl Body39 (r_mul cA (Y * Y - 1)) (fun _ _ => trivial) ?_
  refine Tr.alloc (cs := (bytesV (List.replicate 32 0))) rfl Zr30 rfl ?_
  intro n5 hn5 hf5
  first
    | refine Tr.storeAll rfl rfl rfl rfl (by first | exact bytesV_cell _ | exact natsV_cell _ | simp [isCell]) Sz30 (by first | (simp [natsV_length, fb_length]; done) | assumption | (rw [bytesV, List.length_map]; assumption)) mM (by first | (simp [natsV_length, fb_length]; done) | assumption | (rw [bytesV, List.length_map]; assumption)) uU ?_
    | refine Tr.storeN _ rfl rfl rfl rfl rfl (by first | exact bytesV_cell _ | exact natsV_cell _ | simp [isCell]) Sz30 (by first | (simp [natsV_length, fb_length]; done) | assumption | (rw [bytesV, List.length_map]; assumption)) mM (by first | (simp [natsV_length, fb_length]; done) | assumption | (rw [bytesV, List.length_map]; assumption)) (by exact rfl) uU ?_
  refine Tr.nil ?_
  refine at_n ?_
  refine Sat.seq ?_
  refine Sat.draw [(1, 2), (3, 0), (3, 1), (3, 3), (3, 4), (2, 5), (4, 6)] Mixed (by kernel_rfl) ?_
  first
    | refine Tr.loadAll rfl rfl rfl Try.underlying30 rfl Sz30 mM (by first | (simp [natsV_length, fb_length]; done) | assumption | (rw [bytesV, List.length_map]; assumption)) ?_
    | refine Tr.loadN _ rfl rfl rfl Try.underlying30 rfl Sz30 mM (by exact rfl) (by first | (simp [natsV_length, fb_length]; done) | assumption | (rw [bytesV, List.length_map]; assumption)) ?_
  refine Tr.callV rfl rfl rfl rfl Body40 (r_cA) (fun _ _ => trivial) ?_
  refine Tr.callV rfl rfl rfl rfl Body40 (r_cB) (fun _ _ => trivial) ?_
  refine Tr.callV rfl rfl rfl rfl Body39 (r_mul cB (Y * Y)) (fun _ _ => trivial) ?_
  refine Tr.callV rfl rfl rfl rfl Body41 (r_sub cA (cB * (Y * Y))) (fun _ _ => trivial) ?_
  refine Tr.alloc (cs := (bytesV (List.replicate 32 0))) rfl Zr30 rfl ?_
  intro n6 hn6 hf6
  first
    | refine Tr.storeAll rfl rfl rfl rfl (by first | exact bytesV_cell _ | exact natsV_cell _ | simp [isCell]) Sz30 (by first | (simp [natsV_length, fb_length]; done) | assumption | (rw [bytesV, List.length_map]; assumption)) mM (by first | (simp [natsV_length, fb_length]; done) | assumption | (rw [bytesV, List.length_map]; assumption)) uU ?_
    | refine Tr.storeN _ rfl rfl rfl rfl rfl (by first | exact bytesV_cell _ | exact natsV_cell _ | simp [isCell]) Sz30 (by first | (simp [natsV_length, fb_length]; done) | assumption | (rw [bytesV, List.length_map]; assumption)) mM (by first | (simp [natsV_length, fb_length]; done) | assumption | (rw [bytesV, List.length_map]; assumption)) (by exact rfl) uU ?_
  refine Tr.nil ?_
  refine at_n ?_
  refine Sat.seq ?_
  refine Sat.draw [(1, 0), (1, 1), (3, 2), (3, 3), (3, 4), (0, 5), (0, 6), (4, 7), (0, 8)] Mixed (by kernel_rfl) ?_
  first
    | refine Tr.loadAll rfl rfl rfl Try.underlying30 rfl Sz30 mM (by first | (simp [natsV_length, fb_length]; done) | assumption | (rw [bytesV, List.length_map]; assumption)) ?_
    | refine Tr.loadN _ rfl rfl rfl Try.underlying30 rfl Sz30 mM (by exact rfl) (by first | (simp [natsV_length, fb_length]; done) | assumption | (rw [bytesV, List.length_map]; assumption)) ?_
  first
    | refine Tr.loadAll rfl rfl rfl Try.underlying30 rfl Sz30 mM (by first | (simp [natsV_length, fb_length]; done) | assumption | (rw [bytesV, List.length_map]; assumption)) ?_
    | refine Tr.loadN _ rfl rfl rfl Try.underlying30 rfl Sz30 mM (by exact rfl) (by first | (simp [natsV_length, fb_length]; done) | assumption | (rw [bytesV, List.length_map]; assumption)) ?_
  refine Tr.callV rfl rfl rfl rfl Body43 (hinv) (fun _ _ => trivial) ?_
  refine Tr.callV rfl rfl rfl rfl Body39 (r_mul (cA * (Y * Y - 1)) iz) (fun _ _ => trivial) ?_
  refine Tr.callV rfl rfl rfl rfl Body42 (hroot) (fun _ _ => trivial) ?_
  refine Tr.extract rfl rfl rfl rfl ?_
  refine Tr.extract rfl rfl rfl rfl ?_
  first
    | refine Tr.storeAll rfl rfl rfl rfl (by first | exact bytesV_cell _ | exact natsV_cell _ | simp [isCell]) Sz30 (by first | (simp [natsV_length, fb_length]; done) | assumption | (rw [bytesV, List.length_map]; assumption)) mM (by first | (simp [natsV_length, fb_length]; done) | assumption | (rw [bytesV, List.length_map]; assumption)) uU ?_
    | refine Tr.storeN _ rfl rfl rfl rfl rfl (by first | exact bytesV_cell _ | exact natsV_cell _ | simp [isCell]) Sz30 (by first | (simp [natsV_length, fb_length]; done) | assumption | (rw [bytesV, List.length_map]; assumption)) mM (by first | (simp [natsV_length, fb_length]; done) | assumption | (rw [bytesV, List.length_map]; assumption)) (by exact rfl) uU ?_
  refine Tr.assign rfl rfl rfl ?_
  refine Tr.nil ?_
  refine at_n ?_
  refine Sat.ret ?_
  refine en_r ?_
  refine ⟨_, [], res_cell_tmp rfl rfl rfl Try.underlying30 rfl Sz30 mM (by simp [natsV_length, fb_length]), sP, sP, ?_, rfl⟩
  rfl

end Go.Proofs.Ytmddgelpllffoaa
end

section
namespace Go.Proofs.Ytmddgelpllffoaa
open Go Hw
set_option linter.unusedVariables false
set_option linter.unusedSimpArgs false

open Ed

set_option maxRecDepth 100000 in
theorem byte_low : ∀ b : UInt8, UInt8.ofNat (b.toNat % 128) = b &&& 127 ∧ ((128 ≤ b.toNat) ↔ ¬ ((b &&& 128).toNat : Int) = 0) := by
  intro b
  have h : ∀ n, n < 256 → UInt8.ofNat ((UInt8.ofNat n).toNat % 128) = UInt8.ofNat n &&& 127 ∧ ((128 ≤ (UInt8.ofNat n).toNat) ↔ ¬ ((UInt8.ofNat n &&& 128).toNat : Int) = 0) := by decide
  have h2 := h b.toNat b.toNat_lt
  rwa [UInt8.ofNat_toNat] at h2
theorem top_t5 {b : List UInt8} (h : (128 : Int) ≤ ((b.getD 31 0).toNat : Int)) : topB b = true := by
  have h1 := (byte_low (b.getD 31 0)).2.1 oM
  rw [topB, decide_eq_false h1]; rfl
theorem top_f5 {b : List UInt8} (h : ¬ (128 : Int) ≤ ((b.getD 31 0).toNat : Int)) : topB b = false := by
  have h1 : ((b.getD 31 0 &&& 128).toNat : Int) = 0 := by
    by_cases e : ((b.getD 31 0 &&& 128).toNat : Int) = 0
    · exact e
    · exact absurd ((byte_low (b.getD 31 0)).2.2 e) oM
  rw [topB, decide_eq_true h1]; rfl

set_option maxRecDepth 100000 in
set_option maxHeartbeats 8000000 in
theorem r5_Read (b : List UInt8) (hb : b.length = 32) : Meets Try.prog 8 [agg (bytesV b)] [] (fun _ => True) (fun v out => v = rdV b ∧ out = []) := by
  intro W hW
  have hll := lowB_length hb
  obtain ⟨Y, hY⟩ : ∃ Y, fe (le (lowB b)) = Y := ⟨_, rfl⟩
  have hcan := r3_Canon (lowB b) hll
  have hroot := r5_root Y
  obtain ⟨xr, hxo⟩ : ∃ xr, xOf Y = xr := ⟨_, rfl⟩
  rw [hxo] at hroot
  rw [← hY] at hxo
  rw [hY] at hcan
  refine calls_of (hp0 := []) Try.func8 rfl 42 Try.ntmps8 rfl (HRep.nil _) ?_
  refine Sat.seq ?_
  refine Sat.region ?_
  refine Tr.boxA rfl rfl ?_
  intro n1 hn1 hf1
  refine Tr.alloc (cs := Point.zero.cells) rfl Point.zr rfl ?_
  intro n2 hn2 hf2
  refine Tr.assign rfl rfl rfl ?_
  refine Tr.nil ?_
  refine at_n ?_
  refine Sat.seq ?_
  refine Sat.region ?_
  first
    | refine Tr.loadAll rfl rfl rfl Try.underlying22 rfl Sz22 mM (by first | (simp [natsV_length, fb_length, hb, hll]; done) | assumption | (rw [bytesV, List.length_map]; assumption)) ?_
    | refine Tr.loadN _ rfl rfl rfl Try.underlying22 rfl Sz22 mM (by exact rfl) (by first | (simp [natsV_length, fb_length, hb, hll]; done) | assumption | (rw [bytesV, List.length_map]; assumption)) ?_
  refine Tr.alloc (cs := (bytesV (List.replicate 32 0))) rfl Zr30 rfl ?_
  intro n4 hn4 hf4
  first
    | refine Tr.storeAll rfl rfl rfl rfl (by first | exact bytesV_cell _ | exact natsV_cell _ | simp [isCell]) Sz30 (by first | (simp [natsV_length, fb_length, hb, hll]; done) | assumption | (rw [bytesV, List.length_map]; assumption)) mM (by first | (simp [natsV_length, fb_length, hb, hll]; done) | assumption | (rw [bytesV, List.length_map]; assumption)) uU ?_
    | refine Tr.storeN _ rfl rfl rfl rfl rfl (by first | exact bytesV_cell _ | exact natsV_cell _ | simp [isCell]) Sz30 (by first | (simp [natsV_length, fb_length, hb, hll]; done) | assumption | (rw [bytesV, List.length_map]; assumption)) mM (by first | (simp [natsV_length, fb_length, hb, hll]; done) | assumption | (rw [bytesV, List.length_map]; assumption)) (by exact rfl) uU ?_
  refine Tr.nil ?_
  refine at_n ?_
  refine Sat.seq ?_
  refine Sat.region ?_
  first
    | refine Tr.idxArr1 rfl rfl rfl rfl Try.underlying30 Sz5 31 rfl dE ?_
    | refine Tr.idxArrO rfl rfl rfl rfl Try.underlying30 Sz5 31 rfl dE ?_
  refine Tr.load1 rfl rfl rfl Try.underlying5 rfl mM (by first | rfl | exact get_nats (by first | omega | (simp [natsV_length, fb_length, hb, hll]; omega)) | exact get_words (by first | omega | (simp [natsV_length, fb_length, hb, hll]; done) | (simp [natsV_length, fb_length, hb, hll]; omega)) | exact get_bytes (by first | omega | (simp [natsV_length, fb_length, hb, hll]; done) | (simp [natsV_length, fb_length, hb, hll]; omega)) | exact get_ints (by first | omega | (simp [natsV_length, fb_length, hb, hll]; done) | (simp [natsV_length, fb_length, hb, hll]; omega))) ?_
  refine two (fun r hr k => Tr.geq rfl rfl rfl rfl hr k) (fun hs2_20 => ?_) (fun hs2_20 => ?_)
  ·
    first | have hs2_2 := of_decide_eq_true hs2_20 | have hs2_2 := of_decide_eq_false hs2_20 | have hs2_2 := nd_t hs2_20 | have hs2_2 := nd_f hs2_20 | have hs2_2 := hs2_20
    refine Tr.assign rfl rfl rfl ?_
    refine Tr.nil ?_
    refine at_n ?_
    refine Sat.seq ?_
    refine Sat.region ?_
    first
      | refine Tr.idxArr1 rfl rfl rfl rfl Try.underlying30 Sz5 31 rfl dE ?_
      | refine Tr.idxArrO rfl rfl rfl rfl Try.underlying30 Sz5 31 rfl dE ?_
    refine Tr.load1 rfl rfl rfl Try.underlying5 rfl mM (by first | rfl | exact get_nats (by first | omega | (simp [natsV_length, fb_length, hb, hll]; omega)) | exact get_words (by first | omega | (simp [natsV_length, fb_length, hb, hll]; done) | (simp [natsV_length, fb_length, hb, hll]; omega)) | exact get_bytes (by first | omega | (simp [natsV_length, fb_length, hb, hll]; done) | (simp [natsV_length, fb_length, hb, hll]; omega)) | exact get_ints (by first | omega | (simp [natsV_length, fb_length, hb, hll]; done) | (simp [natsV_length, fb_length, hb, hll]; omega))) ?_
    refine Tr.rem_u8 rfl rfl rfl rfl 128 rfl dE ?_
    first
      | refine Tr.idxArr1 rfl rfl rfl rfl Try.underlying30 Sz5 31 rfl dE ?_
      | refine Tr.idxArrO rfl rfl rfl rfl Try.underlying30 Sz5 31 rfl dE ?_
    rw [(byte_low _).1]
    refine Tr.store1 rfl rfl rfl rfl rfl Sz5 mM (by first | (simp [natsV_length, fb_length, hb, hll]; done) | (simp [natsV_length, fb_length, hb, hll]; omega)) (by first | exact set_nats _ _ _ | exact set_words _ _ _ | exact set_bytes _ _ _ | exact set_ints _ _ _ | rfl) uU ?_
    refine Tr.nil ?_
    refine at_n ?_
    refine Sat.seq ?_
    refine Sat.seq ?_
    refine Sat.region ?_
    first
      | refine Tr.loadAll rfl rfl rfl Try.underlying30 rfl Sz30 mM (by first | (simp [natsV_length, fb_length, hb, hll]; done) | assumption | (rw [bytesV, List.length_map]; assumption)) ?_
      | refine Tr.loadN _ rfl rfl rfl Try.underlying30 rfl Sz30 mM (by exact rfl) (by first | (simp [natsV_length, fb_length, hb, hll]; done) | assumption | (rw [bytesV, List.length_map]; assumption)) ?_
    refine Tr.callV rfl rfl rfl rfl Body19 (hcan) (fun _ _ => trivial) ?_
    refine Tr.not rfl rfl rfl ?_
    refine Tr.nil ?_
    refine at_n ?_
    refine Sat.cond rfl (fun hc0 => ?_) (fun hc0 => ?_)
    ·
      have hcn : ¬ fb Y = lowB b := of_decide_eq_false (by simpa using hc0)
      refine Sat.seq ?_
      refine Sat.region ?_
      refine Tr.build (cs := Point.zero.cells) rfl rfl rfl (fun w => by kernel_rfl) ?_
      refine Tr.storeAll rfl rfl rfl rfl (Point.isCell (by first | exact ptc_ok _ | exact ⟨fb32 _, fb32 _⟩ | (simp [natsV_length, fb_length, hb, hll]; done) | exact oK | exact Point.zero_ok | exact wide.zero_ok | exact secrets.zero_ok | exact far.zero_ok )) Sz32 (Point.length (by first | exact ptc_ok _ | exact ⟨fb32 _, fb32 _⟩ | (simp [natsV_length, fb_length, hb, hll]; done) | exact oK | exact Point.zero_ok | exact wide.zero_ok | exact secrets.zero_ok | exact far.zero_ok )) mM (Point.length (by first | exact ptc_ok _ | exact ⟨fb32 _, fb32 _⟩ | (simp [natsV_length, fb_length, hb, hll]; done) | exact oK | exact Point.zero_ok | exact wide.zero_ok | exact secrets.zero_ok | exact far.zero_ok )) uU ?_
      refine Tr.assign rfl rfl rfl ?_
      refine Tr.nil ?_
      refine at_n ?_
      refine Sat.ret ?_
      refine at_r ?_
      refine en_r ?_
      refine ⟨_, [], res_cell_tmp rfl rfl rfl Try.underlying32 rfl Sz32 mM (by first | (simp [natsV_length, fb_length, hb, hll]; done) | exact Point.length (by first | exact ptc_ok _ | exact ⟨fb32 _, fb32 _⟩ | (simp [natsV_length, fb_length, hb, hll]; done) | exact oK | exact Point.zero_ok | exact wide.zero_ok | exact secrets.zero_ok | exact far.zero_ok )), sP, sP, ?_, rfl⟩
      first
        | exact (rdV_none (rd_n1 (by rw [hY]; exact hcn))).symm
        | exact (rdV_none (rd_n2 hxo hs6_4)).symm
        | exact (rdV_none (rd_n3 hxo (top_t5 hs2_2) hs7_7)).symm
        | (rw [rdV_some (rd_s1 (by rw [hY]; exact hcy) hxo hs6_4 (top_t5 hs2_2) hs7_7), hY]; rfl)
        | (rw [rdV_some (rd_s2 (by rw [hY]; exact hcy) hxo hs6_4 (top_f5 hs2_2)), hY]; rfl)
    ·
      have hcy : fb Y = lowB b := of_decide_eq_true (by simpa using hc0)
      rw [show b.set 31 (b.getD 31 0 &&& 127) = fb Y from hcy.symm]
      refine Sat.skip ?_
      refine at_n ?_
      refine Sat.seq ?_
      refine Sat.region ?_
      first
        | refine Tr.loadAll rfl rfl rfl Try.underlying30 rfl Sz30 mM (by first | (simp [natsV_length, fb_length, hb, hll]; done) | assumption | (rw [bytesV, List.length_map]; assumption)) ?_
        | refine Tr.loadN _ rfl rfl rfl Try.underlying30 rfl Sz30 mM (by exact rfl) (by first | (simp [natsV_length, fb_length, hb, hll]; done) | assumption | (rw [bytesV, List.length_map]; assumption)) ?_
      refine Tr.callV rfl rfl rfl rfl Body20 (hroot) (fun _ _ => trivial) ?_
      refine Tr.move rfl rfl rfl ?_
      refine Tr.extract rfl rfl rfl rfl ?_
      refine Tr.extractB rfl rfl rfl rfl (fun hs6_40 => ?_) (fun hs6_40 => ?_)
      ·
        first | have hs6_4 := of_decide_eq_true hs6_40 | have hs6_4 := of_decide_eq_false hs6_40 | have hs6_4 := nd_t hs6_40 | have hs6_4 := nd_f hs6_40 | have hs6_4 := hs6_40
        refine Tr.alloc (cs := (bytesV (List.replicate 32 0))) rfl Zr30 rfl ?_
        intro n6 hn6 hf6
        first
          | refine Tr.storeAll rfl rfl rfl rfl (by first | exact bytesV_cell _ | exact natsV_cell _ | simp [isCell]) Sz30 (by first | (simp [natsV_length, fb_length, hb, hll]; done) | assumption | (rw [bytesV, List.length_map]; assumption)) mM (by first | (simp [natsV_length, fb_length, hb, hll]; done) | assumption | (rw [bytesV, List.length_map]; assumption)) uU ?_
          | refine Tr.storeN _ rfl rfl rfl rfl rfl (by first | exact bytesV_cell _ | exact natsV_cell _ | simp [isCell]) Sz30 (by first | (simp [natsV_length, fb_length, hb, hll]; done) | assumption | (rw [bytesV, List.length_map]; assumption)) mM (by first | (simp [natsV_length, fb_length, hb, hll]; done) | assumption | (rw [bytesV, List.length_map]; assumption)) (by exact rfl) uU ?_
        refine Tr.assign rfl rfl rfl ?_
        refine Tr.nil ?_
        refine at_n ?_
        refine Sat.seq ?_
        refine Sat.seq ?_
        refine Sat.region ?_
        refine Tr.move rfl rfl rfl ?_
        refine Tr.not rfl rfl rfl ?_
        refine Tr.move rfl rfl rfl ?_
        refine Tr.move rfl rfl rfl ?_
        refine Tr.move rfl rfl rfl ?_
        first
          | refine Tr.loadAll rfl rfl rfl Try.underlying30 rfl Sz30 mM (by first | (simp [natsV_length, fb_length, hb, hll]; done) | assumption | (rw [bytesV, List.length_map]; assumption)) ?_
          | refine Tr.loadN _ rfl rfl rfl Try.underlying30 rfl Sz30 mM (by exact rfl) (by first | (simp [natsV_length, fb_length, hb, hll]; done) | assumption | (rw [bytesV, List.length_map]; assumption)) ?_
        refine Tr.build (cs := bytesV (List.replicate 32 0)) rfl rfl rfl (fun w => by kernel_rfl) ?_
        refine two (fun r hr k => Tr.eql_bytes rfl rfl rfl rfl Try.eqGuardType30 Try.underlying30 Try.underlying5 Sz5 (by first | (simp [natsV_length, fb_length, hb, hll]; done) | assumption | (rw [bytesV, List.length_map]; assumption)) (by first | (simp [natsV_length, fb_length, hb, hll]; done) | assumption | (rw [bytesV, List.length_map]; assumption)) hr k) (fun hs7_70 => ?_) (fun hs7_70 => ?_)
        ·
          first | have hs7_7 := of_decide_eq_true hs7_70 | have hs7_7 := of_decide_eq_false hs7_70 | have hs7_7 := nd_t hs7_70 | have hs7_7 := nd_f hs7_70 | have hs7_7 := hs7_70
          refine Tr.pick rfl rfl rfl rfl rfl rfl ?_
          refine Tr.pick rfl rfl rfl rfl rfl rfl ?_
          refine Tr.nil ?_
          refine at_n ?_
          refine Sat.cond_t rfl rfl ?_
          refine Sat.seq ?_
          refine Sat.region ?_
          refine Tr.build (cs := Point.zero.cells) rfl rfl rfl (fun w => by kernel_rfl) ?_
          refine Tr.storeAll rfl rfl rfl rfl (Point.isCell (by first | exact ptc_ok _ | exact ⟨fb32 _, fb32 _⟩ | (simp [natsV_length, fb_length, hb, hll]; done) | exact oK | exact Point.zero_ok | exact wide.zero_ok | exact secrets.zero_ok | exact far.zero_ok )) Sz32 (Point.length (by first | exact ptc_ok _ | exact ⟨fb32 _, fb32 _⟩ | (simp [natsV_length, fb_length, hb, hll]; done) | exact oK | exact Point.zero_ok | exact wide.zero_ok | exact secrets.zero_ok | exact far.zero_ok )) mM (Point.length (by first | exact ptc_ok _ | exact ⟨fb32 _, fb32 _⟩ | (simp [natsV_length, fb_length, hb, hll]; done) | exact oK | exact Point.zero_ok | exact wide.zero_ok | exact secrets.zero_ok | exact far.zero_ok )) uU ?_
          refine Tr.assign rfl rfl rfl ?_
          refine Tr.nil ?_
          refine at_n ?_
          refine Sat.ret ?_
          refine at_r ?_
          refine en_r ?_
          refine ⟨_, [], res_cell_tmp rfl rfl rfl Try.underlying32 rfl Sz32 mM (by first | (simp [natsV_length, fb_length, hb, hll]; done) | exact Point.length (by first | exact ptc_ok _ | exact ⟨fb32 _, fb32 _⟩ | (simp [natsV_length, fb_length, hb, hll]; done) | exact oK | exact Point.zero_ok | exact wide.zero_ok | exact secrets.zero_ok | exact far.zero_ok )), sP, sP, ?_, rfl⟩
          first
            | exact (rdV_none (rd_n1 (by rw [hY]; exact hcn))).symm
            | exact (rdV_none (rd_n2 hxo hs6_4)).symm
            | exact (rdV_none (rd_n3 hxo (top_t5 hs2_2) hs7_7)).symm
            | (rw [rdV_some (rd_s1 (by rw [hY]; exact hcy) hxo hs6_4 (top_t5 hs2_2) hs7_7), hY]; rfl)
            | (rw [rdV_some (rd_s2 (by rw [hY]; exact hcy) hxo hs6_4 (top_f5 hs2_2)), hY]; rfl)
        ·
          first | have hs7_7 := of_decide_eq_true hs7_70 | have hs7_7 := of_decide_eq_false hs7_70 | have hs7_7 := nd_t hs7_70 | have hs7_7 := nd_f hs7_70 | have hs7_7 := hs7_70
          refine Tr.pick rfl rfl rfl rfl rfl rfl ?_
          refine Tr.pick rfl rfl rfl rfl rfl rfl ?_
          refine Tr.nil ?_
          refine at_n ?_
          refine Sat.cond_f rfl rfl ?_
          refine Sat.skip ?_
          refine at_n ?_
          refine Sat.seq ?_
          refine Sat.seq ?_
          refine Sat.region ?_
          refine Tr.move rfl rfl rfl ?_
          refine Tr.nil ?_
          refine at_n ?_
          refine Sat.cond_t rfl rfl ?_
          refine Sat.region ?_
          first
            | refine Tr.loadAll rfl rfl rfl Try.underlying30 rfl Sz30 mM (by first | (simp [natsV_length, fb_length, hb, hll]; done) | assumption | (rw [bytesV, List.length_map]; assumption)) ?_
            | refine Tr.loadN _ rfl rfl rfl Try.underlying30 rfl Sz30 mM (by exact rfl) (by first | (simp [natsV_length, fb_length, hb, hll]; done) | assumption | (rw [bytesV, List.length_map]; assumption)) ?_
          refine Tr.callV rfl rfl rfl rfl Body21 (r_neg xr.1) (fun _ _ => trivial) ?_
          first
            | refine Tr.storeAll rfl rfl rfl rfl (by first | exact bytesV_cell _ | exact natsV_cell _ | simp [isCell]) Sz30 (by first | (simp [natsV_length, fb_length, hb, hll]; done) | assumption | (rw [bytesV, List.length_map]; assumption)) mM (by first | (simp [natsV_length, fb_length, hb, hll]; done) | assumption | (rw [bytesV, List.length_map]; assumption)) uU ?_
            | refine Tr.storeN _ rfl rfl rfl rfl rfl (by first | exact bytesV_cell _ | exact natsV_cell _ | simp [isCell]) Sz30 (by first | (simp [natsV_length, fb_length, hb, hll]; done) | assumption | (rw [bytesV, List.length_map]; assumption)) mM (by first | (simp [natsV_length, fb_length, hb, hll]; done) | assumption | (rw [bytesV, List.length_map]; assumption)) (by exact rfl) uU ?_
          refine Tr.nil ?_
          refine at_n ?_
          refine Sat.seq ?_
          refine Sat.region ?_
          first
            | refine Tr.loadAll rfl rfl rfl Try.underlying30 rfl Sz30 mM (by first | (simp [natsV_length, fb_length, hb, hll]; done) | assumption | (rw [bytesV, List.length_map]; assumption)) ?_
            | refine Tr.loadN _ rfl rfl rfl Try.underlying30 rfl Sz30 mM (by exact rfl) (by first | (simp [natsV_length, fb_length, hb, hll]; done) | assumption | (rw [bytesV, List.length_map]; assumption)) ?_
          first
            | refine Tr.loadAll rfl rfl rfl Try.underlying30 rfl Sz30 mM (by first | (simp [natsV_length, fb_length, hb, hll]; done) | assumption | (rw [bytesV, List.length_map]; assumption)) ?_
            | refine Tr.loadN _ rfl rfl rfl Try.underlying30 rfl Sz30 mM (by exact rfl) (by first | (simp [natsV_length, fb_length, hb, hll]; done) | assumption | (rw [bytesV, List.length_map]; assumption)) ?_
          refine Tr.build (cs := (⟨fb (-xr.1), fb Y⟩ : Point).cells) rfl rfl rfl (fun w => by kernel_rfl) ?_
          refine Tr.storeAll rfl rfl rfl rfl (Point.isCell (by first | exact ptc_ok _ | exact ⟨fb32 _, fb32 _⟩ | (simp [natsV_length, fb_length, hb, hll]; done) | exact oK | exact Point.zero_ok | exact wide.zero_ok | exact secrets.zero_ok | exact far.zero_ok )) Sz32 (Point.length (by first | exact ptc_ok _ | exact ⟨fb32 _, fb32 _⟩ | (simp [natsV_length, fb_length, hb, hll]; done) | exact oK | exact Point.zero_ok | exact wide.zero_ok | exact secrets.zero_ok | exact far.zero_ok )) mM (Point.length (by first | exact ptc_ok _ | exact ⟨fb32 _, fb32 _⟩ | (simp [natsV_length, fb_length, hb, hll]; done) | exact oK | exact Point.zero_ok | exact wide.zero_ok | exact secrets.zero_ok | exact far.zero_ok )) uU ?_
          refine Tr.assign rfl rfl rfl ?_
          refine Tr.nil ?_
          refine at_n ?_
          refine Sat.ret ?_
          refine en_r ?_
          refine ⟨_, [], res_cell_tmp rfl rfl rfl Try.underlying32 rfl Sz32 mM (by first | (simp [natsV_length, fb_length, hb, hll]; done) | exact Point.length (by first | exact ptc_ok _ | exact ⟨fb32 _, fb32 _⟩ | (simp [natsV_length, fb_length, hb, hll]; done) | exact oK | exact Point.zero_ok | exact wide.zero_ok | exact secrets.zero_ok | exact far.zero_ok )), sP, sP, ?_, rfl⟩
          first
            | exact (rdV_none (rd_n1 (by rw [hY]; exact hcn))).symm
            | exact (rdV_none (rd_n2 hxo hs6_4)).symm
            | exact (rdV_none (rd_n3 hxo (top_t5 hs2_2) hs7_7)).symm
            | (rw [rdV_some (rd_s1 (by rw [hY]; exact hcy) hxo hs6_4 (top_t5 hs2_2) hs7_7), hY]; rfl)
            | (rw [rdV_some (rd_s2 (by rw [hY]; exact hcy) hxo hs6_4 (top_f5 hs2_2)), hY]; rfl)
      ·
        first | have hs6_4 := of_decide_eq_true hs6_40 | have hs6_4 := of_decide_eq_false hs6_40 | have hs6_4 := nd_t hs6_40 | have hs6_4 := nd_f hs6_40 | have hs6_4 := hs6_40
        refine Tr.alloc (cs := (bytesV (List.replicate 32 0))) rfl Zr30 rfl ?_
        intro n6 hn6 hf6
        first
          | refine Tr.storeAll rfl rfl rfl rfl (by first | exact bytesV_cell _ | exact natsV_cell _ | simp [isCell]) Sz30 (by first | (simp [natsV_length, fb_length, hb, hll]; done) | assumption | (rw [bytesV, List.length_map]; assumption)) mM (by first | (simp [natsV_length, fb_length, hb, hll]; done) | assumption | (rw [bytesV, List.length_map]; assumption)) uU ?_
          | refine Tr.storeN _ rfl rfl rfl rfl rfl (by first | exact bytesV_cell _ | exact natsV_cell _ | simp [isCell]) Sz30 (by first | (simp [natsV_length, fb_length, hb, hll]; done) | assumption | (rw [bytesV, List.length_map]; assumption)) mM (by first | (simp [natsV_length, fb_length, hb, hll]; done) | assumption | (rw [bytesV, List.length_map]; assumption)) (by exact rfl) uU ?_
        refine Tr.assign rfl rfl rfl ?_
        refine Tr.nil ?_
        refine at_n ?_
        refine Sat.seq ?_
        refine Sat.seq ?_
        refine Sat.region ?_
        refine Tr.move rfl rfl rfl ?_
        refine Tr.not rfl rfl rfl ?_
        refine Tr.move rfl rfl rfl ?_
        refine Tr.skp rfl rfl ?_
        refine Tr.skp rfl rfl ?_
        refine Tr.skp rfl rfl ?_
        refine Tr.skp rfl rfl ?_
        refine Tr.skp rfl rfl ?_
        refine Tr.skp rfl rfl ?_
        refine Tr.pick rfl rfl rfl rfl rfl rfl ?_
        refine Tr.nil ?_
        refine at_n ?_
        refine Sat.cond_t rfl rfl ?_
        refine Sat.seq ?_
        refine Sat.region ?_
        refine Tr.build (cs := Point.zero.cells) rfl rfl rfl (fun w => by kernel_rfl) ?_
        refine Tr.storeAll rfl rfl rfl rfl (Point.isCell (by first | exact ptc_ok _ | exact ⟨fb32 _, fb32 _⟩ | (simp [natsV_length, fb_length, hb, hll]; done) | exact oK | exact Point.zero_ok | exact wide.zero_ok | exact secrets.zero_ok | exact far.zero_ok )) Sz32 (Point.length (by first | exact ptc_ok _ | exact ⟨fb32 _, fb32 _⟩ | (simp [natsV_length, fb_length, hb, hll]; done) | exact oK | exact Point.zero_ok | exact wide.zero_ok | exact secrets.zero_ok | exact far.zero_ok )) mM (Point.length (by first | exact ptc_ok _ | exact ⟨fb32 _, fb32 _⟩ | (simp [natsV_length, fb_length, hb, hll]; done) | exact oK | exact Point.zero_ok | exact wide.zero_ok | exact secrets.zero_ok | exact far.zero_ok )) uU ?_
        refine Tr.assign rfl rfl rfl ?_
        refine Tr.nil ?_
        refine at_n ?_
        refine Sat.ret ?_
        refine at_r ?_
        refine en_r ?_
        refine ⟨_, [], res_cell_tmp rfl rfl rfl Try.underlying32 rfl Sz32 mM (by first | (simp [natsV_length, fb_length, hb, hll]; done) | exact Point.length (by first | exact ptc_ok _ | exact ⟨fb32 _, fb32 _⟩ | (simp [natsV_length, fb_length, hb, hll]; done) | exact oK | exact Point.zero_ok | exact wide.zero_ok | exact secrets.zero_ok | exact far.zero_ok )), sP, sP, ?_, rfl⟩
        first
          | exact (rdV_none (rd_n1 (by rw [hY]; exact hcn))).symm
          | exact (rdV_none (rd_n2 hxo hs6_4)).symm
          | exact (rdV_none (rd_n3 hxo (top_t5 hs2_2) hs7_7)).symm
          | (rw [rdV_some (rd_s1 (by rw [hY]; exact hcy) hxo hs6_4 (top_t5 hs2_2) hs7_7), hY]; rfl)
          | (rw [rdV_some (rd_s2 (by rw [hY]; exact hcy) hxo hs6_4 (top_f5 hs2_2)), hY]; rfl)
  ·
    first | have hs2_2 := of_decide_eq_true hs2_20 | have hs2_2 := of_decide_eq_false hs2_20 | have hs2_2 := nd_t hs2_20 | have hs2_2 := nd_f hs2_20 | have hs2_2 := hs2_20
    refine Tr.assign rfl rfl rfl ?_
    refine Tr.nil ?_
    refine at_n ?_
    refine Sat.seq ?_
    refine Sat.region ?_
    first
      | refine Tr.idxArr1 rfl rfl rfl rfl Try.underlying30 Sz5 31 rfl dE ?_
      | refine Tr.idxArrO rfl rfl rfl rfl Try.underlying30 Sz5 31 rfl dE ?_
    refine Tr.load1 rfl rfl rfl Try.underlying5 rfl mM (by first | rfl | exact get_nats (by first | omega | (simp [natsV_length, fb_length, hb, hll]; omega)) | exact get_words (by first | omega | (simp [natsV_length, fb_length, hb, hll]; done) | (simp [natsV_length, fb_length, hb, hll]; omega)) | exact get_bytes (by first | omega | (simp [natsV_length, fb_length, hb, hll]; done) | (simp [natsV_length, fb_length, hb, hll]; omega)) | exact get_ints (by first | omega | (simp [natsV_length, fb_length, hb, hll]; done) | (simp [natsV_length, fb_length, hb, hll]; omega))) ?_
    refine Tr.rem_u8 rfl rfl rfl rfl 128 rfl dE ?_
    first
      | refine Tr.idxArr1 rfl rfl rfl rfl Try.underlying30 Sz5 31 rfl dE ?_
      | refine Tr.idxArrO rfl rfl rfl rfl Try.underlying30 Sz5 31 rfl dE ?_
    rw [(byte_low _).1]
    refine Tr.store1 rfl rfl rfl rfl rfl Sz5 mM (by first | (simp [natsV_length, fb_length, hb, hll]; done) | (simp [natsV_length, fb_length, hb, hll]; omega)) (by first | exact set_nats _ _ _ | exact set_words _ _ _ | exact set_bytes _ _ _ | exact set_ints _ _ _ | rfl) uU ?_
    refine Tr.nil ?_
    refine at_n ?_
    refine Sat.seq ?_
    refine Sat.seq ?_
    refine Sat.region ?_
    first
      | refine Tr.loadAll rfl rfl rfl Try.underlying30 rfl Sz30 mM (by first | (simp [natsV_length, fb_length, hb, hll]; done) | assumption | (rw [bytesV, List.length_map]; assumption)) ?_
      | refine Tr.loadN _ rfl rfl rfl Try.underlying30 rfl Sz30 mM (by exact rfl) (by first | (simp [natsV_length, fb_length, hb, hll]; done) | assumption | (rw [bytesV, List.length_map]; assumption)) ?_
    refine Tr.callV rfl rfl rfl rfl Body19 (hcan) (fun _ _ => trivial) ?_
    refine Tr.not rfl rfl rfl ?_
    refine Tr.nil ?_
    refine at_n ?_
    refine Sat.cond rfl (fun hc0 => ?_) (fun hc0 => ?_)
    ·
      have hcn : ¬ fb Y = lowB b := of_decide_eq_false (by simpa using hc0)
      refine Sat.seq ?_
      refine Sat.region ?_
      refine Tr.build (cs := Point.zero.cells) rfl rfl rfl (fun w => by kernel_rfl) ?_
      refine Tr.storeAll rfl rfl rfl rfl (Point.isCell (by first | exact ptc_ok _ | exact ⟨fb32 _, fb32 _⟩ | (simp [natsV_length, fb_length, hb, hll]; done) | exact oK | exact Point.zero_ok | exact wide.zero_ok | exact secrets.zero_ok | exact far.zero_ok )) Sz32 (Point.length (by first | exact ptc_ok _ | exact ⟨fb32 _, fb32 _⟩ | (simp [natsV_length, fb_length, hb, hll]; done) | exact oK | exact Point.zero_ok | exact wide.zero_ok | exact secrets.zero_ok | exact far.zero_ok )) mM (Point.length (by first | exact ptc_ok _ | exact ⟨fb32 _, fb32 _⟩ | (simp [natsV_length, fb_length, hb, hll]; done) | exact oK | exact Point.zero_ok | exact wide.zero_ok | exact secrets.zero_ok | exact far.zero_ok )) uU ?_
      refine Tr.assign rfl rfl rfl ?_
      refine Tr.nil ?_
      refine at_n ?_
      refine Sat.ret ?_
      refine at_r ?_
      refine en_r ?_
      refine ⟨_, [], res_cell_tmp rfl rfl rfl Try.underlying32 rfl Sz32 mM (by first | (simp [natsV_length, fb_length, hb, hll]; done) | exact Point.length (by first | exact ptc_ok _ | exact ⟨fb32 _, fb32 _⟩ | (simp [natsV_length, fb_length, hb, hll]; done) | exact oK | exact Point.zero_ok | exact wide.zero_ok | exact secrets.zero_ok | exact far.zero_ok )), sP, sP, ?_, rfl⟩
      first
        | exact (rdV_none (rd_n1 (by rw [hY]; exact hcn))).symm
        | exact (rdV_none (rd_n2 hxo hs6_4)).symm
        | exact (rdV_none (rd_n3 hxo (top_t5 hs2_2) hs7_7)).symm
        | (rw [rdV_some (rd_s1 (by rw [hY]; exact hcy) hxo hs6_4 (top_t5 hs2_2) hs7_7), hY]; rfl)
        | (rw [rdV_some (rd_s2 (by rw [hY]; exact hcy) hxo hs6_4 (top_f5 hs2_2)), hY]; rfl)
    ·
      have hcy : fb Y = lowB b := of_decide_eq_true (by simpa using hc0)
      rw [show b.set 31 (b.getD 31 0 &&& 127) = fb Y from hcy.symm]
      refine Sat.skip ?_
      refine at_n ?_
      refine Sat.seq ?_
      refine Sat.region ?_
      first
        | refine Tr.loadAll rfl rfl rfl Try.underlying30 rfl Sz30 mM (by first | (simp [natsV_length, fb_length, hb, hll]; done) | assumption | (rw [bytesV, List.length_map]; assumption)) ?_
        | refine Tr.loadN _ rfl rfl rfl Try.underlying30 rfl Sz30 mM (by exact rfl) (by first | (simp [natsV_length, fb_length, hb, hll]; done) | assumption | (rw [bytesV, List.length_map]; assumption)) ?_
      refine Tr.callV rfl rfl rfl rfl Body20 (hroot) (fun _ _ => trivial) ?_
      refine Tr.move rfl rfl rfl ?_
      refine Tr.extract rfl rfl rfl rfl ?_
      refine Tr.extractB rfl rfl rfl rfl (fun hs6_40 => ?_) (fun hs6_40 => ?_)
      ·
        first | have hs6_4 := of_decide_eq_true hs6_40 | have hs6_4 := of_decide_eq_false hs6_40 | have hs6_4 := nd_t hs6_40 | have hs6_4 := nd_f hs6_40 | have hs6_4 := hs6_40
        refine Tr.alloc (cs := (bytesV (List.replicate 32 0))) rfl Zr30 rfl ?_
        intro n6 hn6 hf6
        first
          | refine Tr.storeAll rfl rfl rfl rfl (by first | exact bytesV_cell _ | exact natsV_cell _ | simp [isCell]) Sz30 (by first | (simp [natsV_length, fb_length, hb, hll]; done) | assumption | (rw [bytesV, List.length_map]; assumption)) mM (by first | (simp [natsV_length, fb_length, hb, hll]; done) | assumption | (rw [bytesV, List.length_map]; assumption)) uU ?_
          | refine Tr.storeN _ rfl rfl rfl rfl rfl (by first | exact bytesV_cell _ | exact natsV_cell _ | simp [isCell]) Sz30 (by first | (simp [natsV_length, fb_length, hb, hll]; done) | assumption | (rw [bytesV, List.length_map]; assumption)) mM (by first | (simp [natsV_length, fb_length, hb, hll]; done) | assumption | (rw [bytesV, List.length_map]; assumption)) (by exact rfl) uU ?_
        refine Tr.assign rfl rfl rfl ?_
        refine Tr.nil ?_
        refine at_n ?_
        refine Sat.seq ?_
        refine Sat.seq ?_
        refine Sat.region ?_
        refine Tr.move rfl rfl rfl ?_
        refine Tr.not rfl rfl rfl ?_
        refine Tr.move rfl rfl rfl ?_
        refine Tr.move rfl rfl rfl ?_
        refine Tr.move rfl rfl rfl ?_
        refine Tr.skp rfl rfl ?_
        refine Tr.skp rfl rfl ?_
        refine Tr.skp rfl rfl ?_
        refine Tr.pick rfl rfl rfl rfl rfl rfl ?_
        refine Tr.pick rfl rfl rfl rfl rfl rfl ?_
        refine Tr.nil ?_
        refine at_n ?_
        refine Sat.cond_f rfl rfl ?_
        refine Sat.skip ?_
        refine at_n ?_
        refine Sat.seq ?_
        refine Sat.seq ?_
        refine Sat.region ?_
        refine Tr.move rfl rfl rfl ?_
        refine Tr.nil ?_
        refine at_n ?_
        refine Sat.cond_f rfl rfl ?_
        refine Sat.skip ?_
        refine at_n ?_
        refine Sat.seq ?_
        refine Sat.region ?_
        first
          | refine Tr.loadAll rfl rfl rfl Try.underlying30 rfl Sz30 mM (by first | (simp [natsV_length, fb_length, hb, hll]; done) | assumption | (rw [bytesV, List.length_map]; assumption)) ?_
          | refine Tr.loadN _ rfl rfl rfl Try.underlying30 rfl Sz30 mM (by exact rfl) (by first | (simp [natsV_length, fb_length, hb, hll]; done) | assumption | (rw [bytesV, List.length_map]; assumption)) ?_
        first
          | refine Tr.loadAll rfl rfl rfl Try.underlying30 rfl Sz30 mM (by first | (simp [natsV_length, fb_length, hb, hll]; done) | assumption | (rw [bytesV, List.length_map]; assumption)) ?_
          | refine Tr.loadN _ rfl rfl rfl Try.underlying30 rfl Sz30 mM (by exact rfl) (by first | (simp [natsV_length, fb_length, hb, hll]; done) | assumption | (rw [bytesV, List.length_map]; assumption)) ?_
        refine Tr.build (cs := (⟨fb xr.1, fb Y⟩ : Point).cells) rfl rfl rfl (fun w => by kernel_rfl) ?_
        refine Tr.storeAll rfl rfl rfl rfl (Point.isCell (by first | exact ptc_ok _ | exact ⟨fb32 _, fb32 _⟩ | (simp [natsV_length, fb_length, hb, hll]; done) | exact oK | exact Point.zero_ok | exact wide.zero_ok | exact secrets.zero_ok | exact far.zero_ok )) Sz32 (Point.length (by first | exact ptc_ok _ | exact ⟨fb32 _, fb32 _⟩ | (simp [natsV_length, fb_length, hb, hll]; done) | exact oK | exact Point.zero_ok | exact wide.zero_ok | exact secrets.zero_ok | exact far.zero_ok )) mM (Point.length (by first | exact ptc_ok _ | exact ⟨fb32 _, fb32 _⟩ | (simp [natsV_length, fb_length, hb, hll]; done) | exact oK | exact Point.zero_ok | exact wide.zero_ok | exact secrets.zero_ok | exact far.zero_ok )) uU ?_
        refine Tr.assign rfl rfl rfl ?_
        refine Tr.nil ?_
        refine at_n ?_
        refine Sat.ret ?_
        refine en_r ?_
        refine ⟨_, [], res_cell_tmp rfl rfl rfl Try.underlying32 rfl Sz32 mM (by first | (simp [natsV_length, fb_length, hb, hll]; done) | exact Point.length (by first | exact ptc_ok _ | exact ⟨fb32 _, fb32 _⟩ | (simp [natsV_length, fb_length, hb, hll]; done) | exact oK | exact Point.zero_ok | exact wide.zero_ok | exact secrets.zero_ok | exact far.zero_ok )), sP, sP, ?_, rfl⟩
        first
          | exact (rdV_none (rd_n1 (by rw [hY]; exact hcn))).symm
          | exact (rdV_none (rd_n2 hxo hs6_4)).symm
          | exact (rdV_none (rd_n3 hxo (top_t5 hs2_2) hs7_7)).symm
          | (rw [rdV_some (rd_s1 (by rw [hY]; exact hcy) hxo hs6_4 (top_t5 hs2_2) hs7_7), hY]; rfl)
          | (rw [rdV_some (rd_s2 (by rw [hY]; exact hcy) hxo hs6_4 (top_f5 hs2_2)), hY]; rfl)
      ·
        first | have hs6_4 := of_decide_eq_true hs6_40 | have hs6_4 := of_decide_eq_false hs6_40 | have hs6_4 := nd_t hs6_40 | have hs6_4 := nd_f hs6_40 | have hs6_4 := hs6_40
        refine Tr.alloc (cs := (bytesV (List.replicate 32 0))) rfl Zr30 rfl ?_
        intro n6 hn6 hf6
        first
          | refine Tr.storeAll rfl rfl rfl rfl (by first | exact bytesV_cell _ | exact natsV_cell _ | simp [isCell]) Sz30 (by first | (simp [natsV_length, fb_length, hb, hll]; done) | assumption | (rw [bytesV, List.length_map]; assumption)) mM (by first | (simp [natsV_length, fb_length, hb, hll]; done) | assumption | (rw [bytesV, List.length_map]; assumption)) uU ?_
          | refine Tr.storeN _ rfl rfl rfl rfl rfl (by first | exact bytesV_cell _ | exact natsV_cell _ | simp [isCell]) Sz30 (by first | (simp [natsV_length, fb_length, hb, hll]; done) | assumption | (rw [bytesV, List.length_map]; assumption)) mM (by first | (simp [natsV_length, fb_length, hb, hll]; done) | assumption | (rw [bytesV, List.length_map]; assumption)) (by exact rfl) uU ?_
        refine Tr.assign rfl rfl rfl ?_
        refine Tr.nil ?_
        refine at_n ?_
        refine Sat.seq ?_
        refine Sat.seq ?_
        refine Sat.region ?_
        refine Tr.move rfl rfl rfl ?_
        refine Tr.not rfl rfl rfl ?_
        refine Tr.move rfl rfl rfl ?_
        refine Tr.skp rfl rfl ?_
        refine Tr.skp rfl rfl ?_
        refine Tr.skp rfl rfl ?_
        refine Tr.skp rfl rfl ?_
        refine Tr.skp rfl rfl ?_
        refine Tr.skp rfl rfl ?_
        refine Tr.pick rfl rfl rfl rfl rfl rfl ?_
        refine Tr.nil ?_
        refine at_n ?_
        refine Sat.cond_t rfl rfl ?_
        refine Sat.seq ?_
        refine Sat.region ?_
        refine Tr.build (cs := Point.zero.cells) rfl rfl rfl (fun w => by kernel_rfl) ?_
        refine Tr.storeAll rfl rfl rfl rfl (Point.isCell (by first | exact ptc_ok _ | exact ⟨fb32 _, fb32 _⟩ | (simp [natsV_length, fb_length, hb, hll]; done) | exact oK | exact Point.zero_ok | exact wide.zero_ok | exact secrets.zero_ok | exact far.zero_ok )) Sz32 (Point.length (by first | exact ptc_ok _ | exact ⟨fb32 _, fb32 _⟩ | (simp [natsV_length, fb_length, hb, hll]; done) | exact oK | exact Point.zero_ok | exact wide.zero_ok | exact secrets.zero_ok | exact far.zero_ok )) mM (Point.length (by first | exact ptc_ok _ | exact ⟨fb32 _, fb32 _⟩ | (simp [natsV_length, fb_length, hb, hll]; done) | exact oK | exact Point.zero_ok | exact wide.zero_ok | exact secrets.zero_ok | exact far.zero_ok )) uU ?_
        refine Tr.assign rfl rfl rfl ?_
        refine Tr.nil ?_
        refine at_n ?_
        refine Sat.ret ?_
        refine at_r ?_
        refine en_r ?_
        refine ⟨_, [], res_cell_tmp rfl rfl rfl Try.underlying32 rfl Sz32 mM (by first | (simp [natsV_length, fb_length, hb, hll]; done) | exact Point.length (by first | exact ptc_ok _ | exact ⟨fb32 _, fb32 _⟩ | (simp [natsV_length, fb_length, hb, hll]; done) | exact oK | exact Point.zero_ok | exact wide.zero_ok | exact secrets.zero_ok | exact far.zero_ok )), sP, sP, ?_, rfl⟩
        first
          | exact (rdV_none (rd_n1 (by rw [hY]; exact hcn))).symm
          | exact (rdV_none (rd_n2 hxo hs6_4)).symm
          | exact (rdV_none (rd_n3 hxo (top_t5 hs2_2) hs7_7)).symm
          | (rw [rdV_some (rd_s1 (by rw [hY]; exact hcy) hxo hs6_4 (top_t5 hs2_2) hs7_7), hY]; rfl)
          | (rw [rdV_some (rd_s2 (by rw [hY]; exact hcy) hxo hs6_4 (top_f5 hs2_2)), hY]; rfl)

end Go.Proofs.Ytmddgelpllffoaa
end

section
namespace Go.Proofs.Ytmddgelpllffoaa
open Go Hw
set_option linter.unusedVariables false
set_option linter.unusedSimpArgs false

open Ed

theorem take_cat {a b : List UInt8} (h : a.length = 32) : (bytesV (a ++ b)).take 32 = bytesV a := by
  rw [bytesV, List.map_append, List.take_left' (by rw [List.length_map]; exact h)]
theorem drop_cat {a b : List UInt8} (h : a.length = 32) (hb : b.length = 32) : ((bytesV (a ++ b)).drop 32).take 32 = bytesV b := by
  rw [bytesV, List.map_append, List.drop_left' (by rw [List.length_map]; exact h), List.take_of_length_le (by rw [List.length_map]; omega)]
theorem own_bytes {W : World} {q n c : Nat} {l : List UInt8} (hs : SeesP W (some ⟨q, 0, none⟩) (bytesV l)) (hl : l.length = n) (hc : n ≤ c) (hm : n ≤ maxLen) : BytesAt W ⟨some ⟨q, 0, none⟩, n, c⟩ l := ⟨hl, hc, hs, hm, fun e => by cases e⟩

set_option maxRecDepth 100000 in
set_option maxHeartbeats 1000000 in
theorem law_signgood_long (seed : List UInt8) (h32 : seed.length = 32) (sb : Sl) (bb : List UInt8) (hn : 1000 < sb.n) : Meets Try.prog 3 [agg (bytesV seed), sb.v] [] (fun W => BytesAt W sb bb) (fun v out => v = .bool true ∧ out = []) := by
  intro W hW
  refine calls_of (hp0 := []) Try.func3 rfl 58 Try.ntmps3 rfl (HRep.nil _) ?_
  refine Sat.seq ?_
  refine Sat.region ?_
  refine Tr.boxA rfl rfl ?_
  intro n2 hn2 hf2
  refine Tr.assign rfl rfl rfl ?_
  refine Tr.nil ?_
  refine at_n ?_
  refine Sat.seq ?_
  refine Sat.seq ?_
  refine Sat.region ?_
  refine Tr.callV rfl rfl rfl rfl Body5 (law06_lives) (fun _ _ => trivial) ?_
  refine Tr.not rfl rfl rfl ?_
  refine Tr.nil ?_
  refine at_n ?_
  refine Sat.cond_f rfl (rfl) ?_
  refine Sat.skip ?_
  refine at_n ?_
  refine Sat.seq ?_
  refine Sat.seq ?_
  refine Sat.region ?_
  refine Tr.move rfl rfl rfl ?_
  refine Tr.lenSl rfl rfl rfl Try.underlying23 ?_
  refine Tr.gtr rfl rfl rfl rfl rfl ?_
  refine Tr.nil ?_
  refine at_n ?_
  refine Sat.cond_t rfl (decide_eq_true oM) ?_
  refine Sat.seq ?_
  refine Sat.region ?_
  refine Tr.assign rfl rfl rfl ?_
  refine Tr.nil ?_
  refine at_n ?_
  refine Sat.ret ?_
  refine at_r ?_
  refine en_r ?_
  refine ⟨_, [], res_tmp rfl rfl, sP, sP, ?_, rfl⟩
  rfl

set_option maxRecDepth 100000 in
set_option maxHeartbeats 8000000 in
theorem law_signgood (seed : List UInt8) (h32 : seed.length = 32) (sb : Sl) (bb : List UInt8) (hn : sb.n ≤ 1000) (hbl : bb.length = sb.n) : Meets Try.prog 3 [agg (bytesV seed), sb.v] [] (fun W => BytesAt W sb bb) (fun v out => v = .bool true ∧ out = []) := by
  intro W hW
  obtain ⟨s, hs⟩ : ∃ s, Hid (sha512 seed = s) := ⟨_, ⟨rfl⟩⟩
  have hs64 : s.length = 64 := by rw [← hs.out]; exact sha512_length seed
  obtain ⟨s1, hs1⟩ : ∃ s1, Hid (sha512 (s.drop 32 ++ bb) = s1) := ⟨_, ⟨rfl⟩⟩
  obtain ⟨s2, hs2⟩ : ∃ s2, Hid (sha512 (sgF s1 ++ (sgK s ++ bb)) = s2) := ⟨_, ⟨rfl⟩⟩
  have hbb : bb.length ≤ 80000 := by omega
  have cS := sign_Sign seed h32 sb bb hbb s s1 s2 hs hs1 hs2
  have cO := fun (x : Sl) => sign_Sign seed h32 x bb hbb s s1 s2 hs hs1 hs2
  have cK : Meets Try.prog 6 [agg (bytesV seed)] [] (fun _ => True) (fun v out => v = agg (bytesV (sgK s)) ∧ out = []) := sign_Key seed h32 s hs
  have cG := sign_Good (sgK s) (sgK_length s) sb bb hbb (sgF s1 ++ sgS s s1 s2) (by rw [List.length_append, sgF_length, sgS_length])
  rw [good_self s s1 bb hs2.out] at cG
  have cV := sign_Valid (sgK s) (sgK_length s)
  rw [valid_self oM] at cV
  have lK := sgK_length s
  have lF := sgF_length s1
  have lS := sgS_length s s1 s2
  have cR := r5_Read (sgF s1) (sgF_length s1)
  rw [rdV_some (sgF_read s1)] at cR
  have cC := ref_canon (sgS s s1 s2) (sgS_length s s1 s2)
  rw [decide_eq_true (sgS_lt s s1 s2)] at cC
  revert cS cO cK cG cV cR cC lK lF lS
  generalize sgK s = K
  generalize cv.mul (le (sgR s1)) bP = P
  generalize sgS s s1 s2 = S3
  generalize sgF s1 = F
  intro cS cO cK cG cV lK lF lS cR cC
  refine calls_of (hp0 := []) Try.func3 rfl 58 Try.ntmps3 rfl (HRep.nil _) ?_
  refine Sat.seq ?_
  refine Sat.region ?_
  refine Tr.boxA rfl rfl ?_
  intro n2 hn2 hf2
  refine Tr.assign rfl rfl rfl ?_
  refine Tr.nil ?_
  refine at_n ?_
  refine Sat.seq ?_
  refine Sat.seq ?_
  refine Sat.region ?_
  refine Tr.callV rfl rfl rfl rfl Body5 (law06_lives) (fun _ _ => trivial) ?_
  refine Tr.not rfl rfl rfl ?_
  refine Tr.nil ?_
  refine at_n ?_
  refine Sat.cond_f rfl (rfl) ?_
  refine Sat.skip ?_
  refine at_n ?_
  refine Sat.seq ?_
  refine Sat.seq ?_
  refine Sat.region ?_
  refine Tr.move rfl rfl rfl ?_
  refine Tr.lenSl rfl rfl rfl Try.underlying23 ?_
  refine Tr.gtr rfl rfl rfl rfl (decide_eq_false oM) ?_
  refine Tr.nil ?_
  refine at_n ?_
  refine Sat.cond_f rfl rfl ?_
  refine Sat.skip ?_
  refine at_n ?_
  refine Sat.seq ?_
  refine Sat.region ?_
  first
    | refine Tr.loadAll rfl rfl rfl Try.underlying22 rfl Sz22 mM (by first | (simp [rfcB_l, rfcK_l, rfcS_l, rfcN_l, rfcP_l, h32, lK, lF, lS]; done) | assumption | (rw [bytesV, List.length_map]; assumption)) ?_
    | refine Tr.loadN _ rfl rfl rfl Try.underlying22 rfl Sz22 mM (by exact rfl) (by first | (simp [rfcB_l, rfcK_l, rfcS_l, rfcN_l, rfcP_l, h32, lK, lF, lS]; done) | assumption | (rw [bytesV, List.length_map]; assumption)) ?_
  refine Tr.callV rfl rfl rfl rfl Body6 (cK) (fun _ _ => trivial) ?_
  refine Tr.alloc (cs := (bytesV (List.replicate 32 0))) rfl Zr25 rfl ?_
  intro n5 hn5 hf5
  first
    | refine Tr.storeAll rfl rfl rfl rfl cB Sz25 (by first | (simp [rfcB_l, rfcK_l, rfcS_l, rfcN_l, rfcP_l, h32, lK, lF, lS]; done) | assumption | (rw [bytesV, List.length_map]; assumption)) mM (by first | (simp [rfcB_l, rfcK_l, rfcS_l, rfcN_l, rfcP_l, h32, lK, lF, lS]; done) | assumption | (rw [bytesV, List.length_map]; assumption)) uU ?_
    | refine Tr.storeN _ rfl rfl rfl rfl rfl cB Sz25 (by first | (simp [rfcB_l, rfcK_l, rfcS_l, rfcN_l, rfcP_l, h32, lK, lF, lS]; done) | assumption | (rw [bytesV, List.length_map]; assumption)) mM (by first | (simp [rfcB_l, rfcK_l, rfcS_l, rfcN_l, rfcP_l, h32, lK, lF, lS]; done) | assumption | (rw [bytesV, List.length_map]; assumption)) (by exact rfl) uU ?_
  refine Tr.nil ?_
  refine at_n ?_
  refine Sat.seq ?_
  refine Sat.region ?_
  first
    | refine Tr.loadAll rfl rfl rfl Try.underlying22 rfl Sz22 mM (by first | (simp [rfcB_l, rfcK_l, rfcS_l, rfcN_l, rfcP_l, h32, lK, lF, lS]; done) | assumption | (rw [bytesV, List.length_map]; assumption)) ?_
    | refine Tr.loadN _ rfl rfl rfl Try.underlying22 rfl Sz22 mM (by exact rfl) (by first | (simp [rfcB_l, rfcK_l, rfcS_l, rfcN_l, rfcP_l, h32, lK, lF, lS]; done) | assumption | (rw [bytesV, List.length_map]; assumption)) ?_
  refine Tr.move rfl rfl rfl ?_
  refine Tr.callV rfl rfl rfl rfl Body7 (cS) (fun w h => bytes_ext h rfl hW) ?_
  refine Tr.alloc (cs := (bytesV (List.replicate 64 0))) rfl Zr28 rfl ?_
  intro n6 hn6 hf6
  first
    | refine Tr.storeAll rfl rfl rfl rfl cB Sz28 (by first | (simp [rfcB_l, rfcK_l, rfcS_l, rfcN_l, rfcP_l, h32, lK, lF, lS]; done) | assumption | (rw [bytesV, List.length_map]; assumption)) mM (by first | (simp [rfcB_l, rfcK_l, rfcS_l, rfcN_l, rfcP_l, h32, lK, lF, lS]; done) | assumption | (rw [bytesV, List.length_map]; assumption)) uU ?_
    | refine Tr.storeN _ rfl rfl rfl rfl rfl cB Sz28 (by first | (simp [rfcB_l, rfcK_l, rfcS_l, rfcN_l, rfcP_l, h32, lK, lF, lS]; done) | assumption | (rw [bytesV, List.length_map]; assumption)) mM (by first | (simp [rfcB_l, rfcK_l, rfcS_l, rfcN_l, rfcP_l, h32, lK, lF, lS]; done) | assumption | (rw [bytesV, List.length_map]; assumption)) (by exact rfl) uU ?_
  refine Tr.nil ?_
  refine at_n ?_
  refine Sat.seq ?_
  refine Sat.region ?_
  refine Tr.sliceArrHi 32 rfl rfl rfl rfl rfl dE dE Try.underlying28 Sz5 ?_
  refine Tr.s2a rfl rfl rfl Try.underlying22 oM ?_
  refine Tr.loadN (bytesV F) rfl rfl rfl Try.underlying22 rfl Sz22 mM (by rw [List.drop_zero]; exact take_cat lF) (by rw [bytesV, List.length_map]; exact lF) ?_
  refine Tr.callV rfl rfl rfl rfl Body8 (cR) (fun _ _ => trivial) ?_
  refine Tr.move rfl rfl rfl ?_
  refine Tr.extract rfl rfl rfl rfl ?_
  refine Tr.extract rfl rfl rfl rfl ?_
  refine Tr.alloc (cs := Point.zero.cells) rfl Point.zr rfl ?_
  intro n7 hn7 hf7
  refine Tr.storeAll rfl rfl rfl rfl (Point.isCell (by first | exact ptc_ok _ | exact wdc_ok _ | exact ⟨fb32 _, fb32 _⟩ | (simp [rfcB_l, rfcK_l, rfcS_l, rfcN_l, rfcP_l, h32, lK, lF, lS]; done) | exact oK | exact Point.zero_ok | exact wide.zero_ok | exact secrets.zero_ok )) Sz32 (Point.length (by first | exact ptc_ok _ | exact wdc_ok _ | exact ⟨fb32 _, fb32 _⟩ | (simp [rfcB_l, rfcK_l, rfcS_l, rfcN_l, rfcP_l, h32, lK, lF, lS]; done) | exact oK | exact Point.zero_ok | exact wide.zero_ok | exact secrets.zero_ok )) mM (Point.length (by first | exact ptc_ok _ | exact wdc_ok _ | exact ⟨fb32 _, fb32 _⟩ | (simp [rfcB_l, rfcK_l, rfcS_l, rfcN_l, rfcP_l, h32, lK, lF, lS]; done) | exact oK | exact Point.zero_ok | exact wide.zero_ok | exact secrets.zero_ok )) uU ?_
  refine Tr.assign rfl rfl rfl ?_
  refine Tr.nil ?_
  refine at_n ?_
  refine Sat.seq ?_
  refine Sat.draw [(1, 0), (1, 1), (0, 2), (3, 3), (3, 4), (0, 5), (0, 6), (1, 7), (0, 8), (1, 9), (3, 10), (0, 11), (0, 12), (1, 13), (0, 14), (1, 15), (3, 16), (0, 17), (0, 18), (1, 19), (3, 20), (0, 21), (0, 22), (0, 23), (0, 24), (0, 25), (0, 26), (0, 27), (0, 28), (1, 29), (3, 30), (0, 31), (0, 32)] Mixed (by kernel_rfl) ?_
  first
    | refine Tr.loadAll rfl rfl rfl Try.underlying28 rfl Sz28 mM (by first | (simp [rfcB_l, rfcK_l, rfcS_l, rfcN_l, rfcP_l, h32, lK, lF, lS]; done) | assumption | (rw [bytesV, List.length_map]; assumption)) ?_
    | refine Tr.loadN _ rfl rfl rfl Try.underlying28 rfl Sz28 mM (by exact rfl) (by first | (simp [rfcB_l, rfcK_l, rfcS_l, rfcN_l, rfcP_l, h32, lK, lF, lS]; done) | assumption | (rw [bytesV, List.length_map]; assumption)) ?_
  first
    | refine Tr.loadAll rfl rfl rfl Try.underlying22 rfl Sz22 mM (by first | (simp [rfcB_l, rfcK_l, rfcS_l, rfcN_l, rfcP_l, h32, lK, lF, lS]; done) | assumption | (rw [bytesV, List.length_map]; assumption)) ?_
    | refine Tr.loadN _ rfl rfl rfl Try.underlying22 rfl Sz22 mM (by exact rfl) (by first | (simp [rfcB_l, rfcK_l, rfcS_l, rfcN_l, rfcP_l, h32, lK, lF, lS]; done) | assumption | (rw [bytesV, List.length_map]; assumption)) ?_
  refine Tr.move rfl rfl rfl ?_
  refine Tr.call rfl rfl rfl rfl Body9 (kit_own sb bb oM) (FreshRow.loose _ _ _ _) (fun w h => bytes_ext h rfl hW) ?_
  rintro v29 out29 ⟨q29, c29, rfl, hc29, rfl⟩
  refine Tr.callV rfl rfl rfl rfl Body7 (cO ⟨some ⟨q29, 0, none⟩, sb.n, c29⟩) (fun w h => own_bytes (SeesP.of (sees_own (cs := bytesV bb) h mM)) hW.len oM hW.max) ?_
  refine Tr.eql_bytes rfl rfl rfl rfl Try.eqGuardType28 Try.underlying28 Try.underlying5 Sz5 (by first | (simp [rfcB_l, rfcK_l, rfcS_l, rfcN_l, rfcP_l, h32, lK, lF, lS]; done) | assumption | (rw [bytesV, List.length_map]; assumption)) (by first | (simp [rfcB_l, rfcK_l, rfcS_l, rfcN_l, rfcP_l, h32, lK, lF, lS]; done) | assumption | (rw [bytesV, List.length_map]; assumption)) (decide_eq_true (rfl)) ?_
  refine Tr.move rfl rfl rfl ?_
  first
    | refine Tr.loadAll rfl rfl rfl Try.underlying25 rfl Sz25 mM (by first | (simp [rfcB_l, rfcK_l, rfcS_l, rfcN_l, rfcP_l, h32, lK, lF, lS]; done) | assumption | (rw [bytesV, List.length_map]; assumption)) ?_
    | refine Tr.loadN _ rfl rfl rfl Try.underlying25 rfl Sz25 mM (by exact rfl) (by first | (simp [rfcB_l, rfcK_l, rfcS_l, rfcN_l, rfcP_l, h32, lK, lF, lS]; done) | assumption | (rw [bytesV, List.length_map]; assumption)) ?_
  refine Tr.move rfl rfl rfl ?_
  first
    | refine Tr.loadAll rfl rfl rfl Try.underlying28 rfl Sz28 mM (by first | (simp [rfcB_l, rfcK_l, rfcS_l, rfcN_l, rfcP_l, h32, lK, lF, lS]; done) | assumption | (rw [bytesV, List.length_map]; assumption)) ?_
    | refine Tr.loadN _ rfl rfl rfl Try.underlying28 rfl Sz28 mM (by exact rfl) (by first | (simp [rfcB_l, rfcK_l, rfcS_l, rfcN_l, rfcP_l, h32, lK, lF, lS]; done) | assumption | (rw [bytesV, List.length_map]; assumption)) ?_
  refine Tr.callV rfl rfl rfl rfl Body10 (cG) (fun w h => bytes_ext h rfl hW) ?_
  refine Tr.pick rfl rfl rfl rfl rfl rfl ?_
  refine Tr.move rfl rfl rfl ?_
  first
    | refine Tr.loadAll rfl rfl rfl Try.underlying25 rfl Sz25 mM (by first | (simp [rfcB_l, rfcK_l, rfcS_l, rfcN_l, rfcP_l, h32, lK, lF, lS]; done) | assumption | (rw [bytesV, List.length_map]; assumption)) ?_
    | refine Tr.loadN _ rfl rfl rfl Try.underlying25 rfl Sz25 mM (by exact rfl) (by first | (simp [rfcB_l, rfcK_l, rfcS_l, rfcN_l, rfcP_l, h32, lK, lF, lS]; done) | assumption | (rw [bytesV, List.length_map]; assumption)) ?_
  refine Tr.move rfl rfl rfl ?_
  first
    | refine Tr.loadAll rfl rfl rfl Try.underlying28 rfl Sz28 mM (by first | (simp [rfcB_l, rfcK_l, rfcS_l, rfcN_l, rfcP_l, h32, lK, lF, lS]; done) | assumption | (rw [bytesV, List.length_map]; assumption)) ?_
    | refine Tr.loadN _ rfl rfl rfl Try.underlying28 rfl Sz28 mM (by exact rfl) (by first | (simp [rfcB_l, rfcK_l, rfcS_l, rfcN_l, rfcP_l, h32, lK, lF, lS]; done) | assumption | (rw [bytesV, List.length_map]; assumption)) ?_
  refine Tr.callV rfl rfl rfl rfl Body10 (cG) (fun w h => bytes_ext h rfl hW) ?_
  refine Tr.pick rfl rfl rfl rfl rfl rfl ?_
  refine Tr.move rfl rfl rfl ?_
  first
    | refine Tr.loadAll rfl rfl rfl Try.underlying25 rfl Sz25 mM (by first | (simp [rfcB_l, rfcK_l, rfcS_l, rfcN_l, rfcP_l, h32, lK, lF, lS]; done) | assumption | (rw [bytesV, List.length_map]; assumption)) ?_
    | refine Tr.loadN _ rfl rfl rfl Try.underlying25 rfl Sz25 mM (by exact rfl) (by first | (simp [rfcB_l, rfcK_l, rfcS_l, rfcN_l, rfcP_l, h32, lK, lF, lS]; done) | assumption | (rw [bytesV, List.length_map]; assumption)) ?_
  refine Tr.callV rfl rfl rfl rfl Body11 (cV) (fun _ _ => trivial) ?_
  refine Tr.pick rfl rfl rfl rfl rfl rfl ?_
  refine Tr.move rfl rfl rfl ?_
  refine Tr.move rfl rfl rfl ?_
  refine Tr.eqi rfl rfl rfl rfl (decide_eq_true (rfl)) ?_
  refine Tr.pick rfl rfl rfl rfl rfl rfl ?_
  refine Tr.move rfl rfl rfl ?_
  refine Tr.sliceArrLo 32 rfl rfl rfl rfl rfl dE Try.underlying28 Sz5 ?_
  refine Tr.s2a rfl rfl rfl Try.underlying30 oM ?_
  refine Tr.loadN (bytesV S3) rfl rfl rfl Try.underlying30 rfl Sz30 mM (drop_cat lF lS) (by rw [bytesV, List.length_map]; exact lS) ?_
  refine Tr.callV rfl rfl rfl rfl Body12 (cC) (fun _ _ => trivial) ?_
  refine Tr.pick rfl rfl rfl rfl rfl rfl ?_
  refine Tr.assign rfl rfl rfl ?_
  refine Tr.nil ?_
  refine at_n ?_
  refine Sat.ret ?_
  refine en_r ?_
  refine ⟨_, [], res_tmp rfl rfl, sP, sP, ?_, rfl⟩
  rfl

theorem law_signgood_all (seed : List UInt8) (h32 : seed.length = 32) (sb : Sl) (bb : List UInt8) : Meets Try.prog 3 [agg (bytesV seed), sb.v] [] (fun W => BytesAt W sb bb) (fun v out => v = .bool true ∧ out = []) := by
  intro W hW
  rcases Nat.lt_or_ge 1000 sb.n with h | h
  · exact law_signgood_long seed h32 sb bb h W hW
  · exact law_signgood seed h32 sb bb h hW.len W hW

end Go.Proofs.Ytmddgelpllffoaa
end

section
namespace Go.Proofs.Ytmddgelpllffoaa
open Go Go.ChangeShapes Go.WideShapes Go.ChangeAt Go.RowKit
set_option linter.unusedVariables false

theorem ownSGood : ownKnob Try.prog.godebug = none := by kernel_rfl
theorem laidOutSGood : laidOutB Try.prog = true := by kernel_rfl

theorem openSlSGood {H : Type} {enc : TypeId × Value → H} {P : Program} {W : World} {base : Nat} {sp : Nat → Bool} {held : Bool} {k e : TypeId} (hu : P.underlying k = some (.slice e)) (he : P.underlying e = some (.int .u8)) (hc : P.cellsOf e = 1) {r : Reach} {b0 : Nat} {v : Value} {d : DataW H} {ps : List MemPlace}
    (hval : Value.okWide P W r b0 k v) (hd : DataW.Trod enc P W base sp held k v d ps) : ∃ s l, v = Hw.Sl.v s ∧ Hw.BytesAt W s l := by
  simp only [Value.okWide, hu, Cell.okWide] at hval
  obtain ⟨a1, len, cap, rfl⟩ : ∃ a1 len cap, v = .slice a1 len cap := by
    unfold Cell.ok at hval
    rw [hu] at hval
    split at hval <;> first | exact hval.elim | exact ⟨_, _, _, rfl⟩ | simp_all
  obtain ⟨fuel, hf⟩ := hd
  obtain ⟨s, l, h1, h2⟩ := Hw.open_bytesS hu he hc hf
  refine ⟨s, l, ?_, h2⟩
  simp [Value.cells] at h1
  exact h1

theorem walkSGood (w : World) (l0 : List UInt8) (hl0 : l0.length = 32) (s1 : Hw.Sl) (l1 : List UInt8) (hs1 : Hw.BytesAt w s1 l1) : Calls Try.prog 3 #[Hw.agg (Hw.bytesV l0), Hw.Sl.v s1] w fun e w' => e = .returned (.bool true) ∧ Below w.heap.size w w' :=
  by
  have fin : ∀ {us : Array Value}, Calls Try.prog 3 us w (fun e W' => ∃ v out, e = .returned v ∧ (v = .bool true ∧ out = []) ∧ Hw.Ret [] out w W') → Calls Try.prog 3 us w (fun e w' => e = .returned (.bool true) ∧ Below w.heap.size w w') :=
    fun h => h.mono fun e w' ⟨v, out, he, ⟨hv, ho⟩, hr⟩ => ⟨by rw [he, hv], Hw.Keeps.below hr.keeps⟩
  exact fin (law_signgood_all l0 hl0 s1 l1 w hs1)

set_option maxRecDepth 100000 in
theorem liftedSGood (os : Os) (started : os.Started) (H : Type) (enc : TypeId × Value → H) :
    ReturnsInHanded {} Try.checked os 3 .any (Rows.signGoodSpec.pre6 enc Try.prog Try.f3 Rows.signGoodRow.domain false) (Rows.signGoodSpec.post enc Try.prog Try.f3 false true false false) := by
  refine returnsInHanded_of_change (C := Try.checked) ownSGood started (by kernel_rfl) Try.func3
    (ChangeSpec.witness6 (enc := enc) (C := Try.checked) false ⟨#[], #[.agg (Array.replicate 32 (.int .u8 0)), .slice none 0 0], []⟩ 8 (by kernel_rfl) (by kernel_rfl) (by kernel_rfl) (by kernel_rfl)) ?_
  intro W base args ds gs before hval0 hW hcnd _
  have hval : ∀ (j : Nat) t v, Try.f3.params[j]? = some t → args[j]? = some v → Value.okWide Try.prog W .any base t v := hval0
  have hW' := hW
  obtain ⟨p, q, hA0, hV, rfl, hfz, hnd⟩ := hW
  have hA : DataW.TrodAll enc Try.prog W 0 (fun _ => true) true Try.f3.params.toList args.toList ds p := hA0
  rw [Try.params3] at hA hval
  obtain ⟨v0, vs0, d0, ds0, p0, q0, hargs, rfl, rfl, h0, r0⟩ := trodAll_cons hA
  obtain ⟨v1, vs1, d1, ds1, p1, q1, rfl, rfl, rfl, h1, r1⟩ := trodAll_cons r0
  obtain ⟨rfl, rfl, rfl⟩ := trodAll_nil r1
  obtain rfl : args = #[v0, v1] := by cases args; simp_all
  obtain ⟨rfl, rfl⟩ := trodVars_none hV
  have k0 := h0
  have lt0 : ∀ x ∈ p0, x.block < W.heap.size := by obtain ⟨m, hm⟩ := k0; exact DataW.trod_lt m _ _ _ hm
  have k1 := h1
  have lt1 : ∀ x ∈ p1, x.block < W.heap.size := by obtain ⟨m, hm⟩ := k1; exact DataW.trod_lt m _ _ _ hm
  obtain ⟨l0, rfl, hl0⟩ := Hw.open_bytes Try.underlying22 Try.underlying5 (by kernel_rfl) (by kernel_rfl) (hval 0 22 v0 rfl rfl) h0
  obtain ⟨s1, l1, rfl, hs1⟩ := openSlSGood Try.underlying23 Try.underlying5 (by kernel_rfl) (hval 1 23 v1 rfl rfl) h1
  clear hA0 hval0
  refine (walkSGood W l0 hl0 s1 l1 hs1).mono fun e W' ⟨he, bel⟩ => ?_
  subst he
  exact ⟨_, rfl, _, _, _, [], _, [], hW', trodAll_mk1 (shut_bool Try.underlying4 _), (trodAll_cons_mk (Below.trod laidOutSGood (by kernel_rfl) (of_decide_eq_true (by kernel_rfl)) k0 bel lt0) (trodAll_cons_mk (Below.trod laidOutSGood (by kernel_rfl) (of_decide_eq_true (by kernel_rfl)) k1 bel lt1) trodAll_mk0)), rfl, bel.frame _, fun h => by cases h⟩

theorem signGood_holds : Rows.SignGoodSaid :=
  OpenClaim.holds_of_wide 3 Try.f3 rfl rfl rfl rfl rfl rfl rfl ⟨rfl, rfl, rfl, rfl, rfl⟩ rfl rfl rfl rfl rfl (by kernel_rfl) Try.func3 (by kernel_rfl)
    (of_decide_eq_true (by kernel_rfl)) (by unfold Func.isWrapper; first | (rw [if_pos (by decide +kernel)]; kernel_rfl) | (rw [if_neg (by decide +kernel)]; exact ⟨rfl, rfl⟩))
    (fun os started H enc _ => liftedSGood os started H enc)

end Go.Proofs.Ytmddgelpllffoaa
end
