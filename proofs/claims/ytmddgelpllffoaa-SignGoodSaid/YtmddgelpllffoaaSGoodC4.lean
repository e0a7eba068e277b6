/- Contracts of functions of the loaded program, and the lemmas that they need (part 4). It proves no statement by itself; it has no conditions. -/
import Derived.WalkKit
import Derived.Orders
import Derived.Deep.LoopGhost
import Derived.IntWalk
import Derived.Laws.StructEq
import Derived.Test.YtmddgelpllffoaaRows
import Derived.KernelRfl
import Derived.Laws.MathBits
import Derived.ArgAppend
import Derived.Deep.AppendSrc
import Derived.Lib.Bytealg
import Derived.Lib.BytesEntry
import Derived.Laws.IdiomStrings
import Derived.WideKeyArr2
import Derived.ProofKit
import Derived.OpenShut
import Derived.Deep.Slices
import Derived.Laws.Pointers
import Derived.Laws.Cover3
import Derived.LaidEqlPtr
import Derived.LoopN
import Derived.Laws.Externs
import Derived.RangeFuncLeaves
import Derived.RangeFuncSeq
import Derived.OrdersIn
import Derived.ChangeOld
import Derived.Below
import Derived.Test.YtmddgelpllffoaaSGoodC3
section
namespace Go.Proofs.Ytmddgelpllffoaa
open Go Hw
set_option linter.unusedVariables false
set_option linter.unusedSimpArgs false

open Ed

/-- a point, and four numbers, in memory -/
def ptc (P : Pt Fp) : Point := ⟨fb P.x, fb P.y⟩
def wdc (w : Wd Fp) : wide := ⟨fb w.x, fb w.y, fb w.z, fb w.t⟩
theorem ptc_ok (P : Pt Fp) : (ptc P).ok := ⟨fb32 _, fb32 _⟩
theorem wdc_ok (w : Wd Fp) : (wdc w).ok := ⟨fb32 _, fb32 _, fb32 _, fb32 _⟩
theorem sees_subC {w : World} {b o off : Nat} {cs l : List Value} (hs : Sees w b o cs) (h : ∀ (j : Nat) (v : Value), l[j]? = some v → cs[off + j]? = some v) : Sees w b (o + off) l := fun j v hj => by
  have := hs _ v (h j v hj)
  rwa [← Nat.add_assoc] at this
theorem ptc_inj {P Q : Pt Fp} : ptc P = ptc Q ↔ P = Q := ⟨fun h => by
  obtain ⟨x, y⟩ := P
  obtain ⟨z, w⟩ := Q
  simp only [ptc, Point.mk.injEq, fb_inj] at h
  rw [h.1, h.2], fun h => by rw [h]⟩

set_option maxRecDepth 100000 in
set_option maxHeartbeats 1000000 in
theorem curve_D  : Meets Try.prog 51 [] [] (fun _ => True) (fun v out => v = agg (bytesV (fb fD)) ∧ out = []) := by
  intro W hW
  refine calls_of (hp0 := []) Try.func51 rfl 2 Try.ntmps51 rfl (HRep.nil _) ?_
  refine Sat.seq ?_
  refine Sat.region ?_
  refine Tr.alloc (cs := (bytesV (List.replicate 32 0))) rfl Zr30 rfl ?_
  intro n0 hn0 hf0
  refine Tr.nil ?_
  refine at_n ?_
  refine Sat.seq ?_
  refine Sat.region ?_
  refine Tr.build (cs := bytesV (fb fD)) rfl rfl rfl (fun w => by kernel_rfl) ?_
  first
    | refine Tr.storeAll rfl rfl rfl rfl cB Sz30 (by first | (simp [fb_length]; done) | assumption | (rw [bytesV, List.length_map]; assumption)) mM (by first | (simp [fb_length]; done) | assumption | (rw [bytesV, List.length_map]; assumption)) uU ?_
    | refine Tr.storeN _ rfl rfl rfl rfl rfl cB Sz30 (by first | (simp [fb_length]; done) | assumption | (rw [bytesV, List.length_map]; assumption)) mM (by first | (simp [fb_length]; done) | assumption | (rw [bytesV, List.length_map]; assumption)) (by exact rfl) uU ?_
  refine Tr.nil ?_
  refine at_n ?_
  refine Sat.ret ?_
  refine en_r ?_
  refine ⟨_, [], res_cell rfl rfl Try.underlying30 rfl Sz30 mM (by simp [fb_length]), sP, sP, ?_, rfl⟩
  rfl

set_option maxRecDepth 100000 in
set_option maxHeartbeats 1000000 in
theorem curve_Zero  : Meets Try.prog 56 [] [] (fun _ => True) (fun v out => v = agg (ptc (zero : Pt Fp)).cells ∧ out = []) := by
  intro W hW
  refine calls_of (hp0 := []) Try.func56 rfl 3 Try.ntmps56 rfl (HRep.nil _) ?_
  refine Sat.seq ?_
  refine Sat.region ?_
  refine Tr.alloc (cs := Point.zero.cells) rfl Point.zr rfl ?_
  intro n0 hn0 hf0
  refine Tr.nil ?_
  refine at_n ?_
  refine Sat.seq ?_
  refine Sat.region ?_
  refine Tr.callV rfl rfl rfl rfl Body49 (f_one) (fun _ _ => trivial) ?_
  refine Tr.build (cs := (⟨fb 0, fb 1⟩ : Point).cells) rfl rfl rfl (fun w => by kernel_rfl) ?_
  refine Tr.storeAll rfl rfl rfl rfl (Point.isCell (by first | exact ptc_ok _ | exact wdc_ok _ | exact ⟨fb32 _, fb32 _⟩ | assumption | (simp [fb_length]; done) | exact Point.zero_ok | exact wide.zero_ok )) Sz32 (Point.length (by first | exact ptc_ok _ | exact wdc_ok _ | exact ⟨fb32 _, fb32 _⟩ | assumption | (simp [fb_length]; done) | exact Point.zero_ok | exact wide.zero_ok )) mM (Point.length (by first | exact ptc_ok _ | exact wdc_ok _ | exact ⟨fb32 _, fb32 _⟩ | assumption | (simp [fb_length]; done) | exact Point.zero_ok | exact wide.zero_ok )) uU ?_
  refine Tr.nil ?_
  refine at_n ?_
  refine Sat.ret ?_
  refine en_r ?_
  refine ⟨_, [], res_cell rfl rfl Try.underlying32 rfl Sz32 mM (by first | (simp [fb_length]; done) | exact Point.length (by first | exact ptc_ok _ | exact wdc_ok _ | exact ⟨fb32 _, fb32 _⟩ | assumption | (simp [fb_length]; done) | exact Point.zero_ok | exact wide.zero_ok )), sP, sP, ?_, rfl⟩
  rfl

theorem base_len {k : Nat} (h : k ≤ 32) : (bytesV (bX ++ (List.replicate k 102 ++ List.replicate (32 - k) 0))).length = 64 := by
  rw [bytesV, List.length_map, List.length_append, List.length_append, List.length_replicate, List.length_replicate, show bX.length = 32 from rfl]; omega
theorem base_step {k : Nat} (h : k < 32) : (bX ++ (List.replicate k (102 : UInt8) ++ List.replicate (32 - k) 0)).set (32 + k) 102 = bX ++ (List.replicate (k + 1) 102 ++ List.replicate (32 - (k + 1)) 0) := by
  rw [List.set_append_right _ _ (by rw [show bX.length = 32 from rfl]; omega), show bX.length = 32 from rfl, show 32 + k - 32 = k by omega, show 32 - k = (32 - (k + 1)) + 1 by omega, List.replicate_succ, List.set_append_right _ _ sP]
  simp [List.replicate_succ']
theorem base_end : bytesV ((bX ++ (List.replicate 32 (102 : UInt8) ++ List.replicate (32 - 32) 0)).set 32 88) = (ptc bP).cells := by
  show _ = bytesV (fb bP.x) ++ bytesV (fb bP.y)
  rw [bP_x, bP_y]
  kernel_rfl

set_option maxRecDepth 100000 in
set_option maxHeartbeats 2000000 in
theorem curve_Base  : Meets Try.prog 25 [] [] (fun _ => True) (fun v out => v = agg (ptc bP).cells ∧ out = []) := by
  intro W hW
  refine calls_of (hp0 := []) Try.func25 rfl 15 Try.ntmps25 rfl (HRep.nil _) ?_
  refine Sat.seq ?_
  refine Sat.region ?_
  refine Tr.alloc (cs := Point.zero.cells) rfl Point.zr rfl ?_
  intro n0 hn0 hf0
  refine Tr.nil ?_
  refine at_n ?_
  refine Sat.seq ?_
  refine Sat.region ?_
  refine Tr.build (cs := bytesV bX) rfl rfl rfl (fun w => by kernel_rfl) ?_
  refine Tr.build (cs := (⟨bX, List.replicate 32 0⟩ : Point).cells) rfl rfl rfl (fun w => by kernel_rfl) ?_
  refine Tr.alloc (cs := Point.zero.cells) rfl Point.zr rfl ?_
  intro n1 hn1 hf1
  refine Tr.storeAll rfl rfl rfl rfl (Point.isCell (by first | exact ptc_ok _ | exact wdc_ok _ | exact ⟨fb32 _, fb32 _⟩ | exact ⟨rfl, rfl⟩ | assumption | (simp [fb_length]; done) | exact Point.zero_ok | exact wide.zero_ok )) Sz32 (Point.length (by first | exact ptc_ok _ | exact wdc_ok _ | exact ⟨fb32 _, fb32 _⟩ | exact ⟨rfl, rfl⟩ | assumption | (simp [fb_length]; done) | exact Point.zero_ok | exact wide.zero_ok )) mM (Point.length (by first | exact ptc_ok _ | exact wdc_ok _ | exact ⟨fb32 _, fb32 _⟩ | exact ⟨rfl, rfl⟩ | assumption | (simp [fb_length]; done) | exact Point.zero_ok | exact wide.zero_ok )) uU ?_
  refine Tr.nil ?_
  refine at_n ?_
  refine Sat.seq ?_
  refine Sat.seq ?_
  refine Sat.region ?_
  refine Tr.move rfl rfl rfl ?_
  refine Tr.nil ?_
  refine at_n ?_
  refine Sat.block ?_
  refine Sat.loop (ι := Nat) (fun k => ⟨[(0, ptr n0 0), (1, ptr n1 0), (5, i64 (k : Int))], [⟨n1, bytesV (bX ++ (List.replicate k 102 ++ List.replicate (32 - k) 0)), 32, 64⟩, ⟨n0, Point.zero.cells, 32, 64⟩]⟩) (fun k => k ≤ 32) (fun k => 32 - k) (0) ?_ ?_ ?_
  · omega
  · exact weak_of (wk1 rfl (wk1 rfl (wk1 rfl wk0))) (wh1 (by rw [show bytesV (bX ++ (List.replicate 0 102 ++ List.replicate (32 - 0) 0)) = (⟨bX, List.replicate 32 0⟩ : Point).cells from by kernel_rfl]; exact mem0) (wh1 mM wh0)) nD
  ·
    rintro k hi
    refine Sat.seq ?_
    refine Sat.region ?_
    refine Tr.lss rfl rfl rfl rfl rfl ?_
    refine Tr.nil ?_
    refine at_n ?_
    refine Sat.seq ?_
    first
      | refine Sat.condP rfl (fun hc0 => ?_) (fun hc0 => ?_)
      | refine Sat.condNP rfl (fun hc0 => ?_) (fun hc0 => ?_)
      | refine Sat.cond rfl (fun hc0 => ?_) (fun hc0 => ?_)
    ·
      have hk2 : k < 32 := by omega
      refine Sat.skip ?_
      refine at_n ?_
      refine Sat.seq ?_
      refine Sat.block ?_
      refine Sat.seq ?_
      refine Sat.region ?_
      refine Tr.move rfl rfl rfl ?_
      refine Tr.assign rfl rfl rfl ?_
      refine Tr.nil ?_
      refine at_n ?_
      refine Sat.region ?_
      refine Tr.move rfl rfl rfl ?_
      refine Tr.fld rfl rfl rfl Try.underlying32 rfl Sz30 dE _ rfl ?_
      first
        | refine Tr.idxArr1 rfl rfl rfl rfl Try.underlying30 Sz5 k rfl oM ?_
        | refine Tr.idxArrO rfl rfl rfl rfl Try.underlying30 Sz5 k rfl oM ?_
      refine Tr.store1 rfl rfl rfl rfl rfl Sz5 mM (by rw [base_len oM]; exact (show 32 + k < 64 by omega)) (by exact set_bytes _ (32 + k) 102) uU ?_
      refine Tr.nil ?_
      refine bl_n ?_
      refine at_n ?_
      refine Sat.region ?_
      refine Tr.add_i64 rfl rfl rfl rfl oM ?_
      refine Tr.move rfl rfl rfl ?_
      refine Tr.nil ?_
      refine at_n ?_
      exact ⟨k + 1, by omega, by omega, weak_of (wk1 rfl (wk1 rfl (wk1 rfl wk0))) (wh1 (by rw [← base_step hk2]; exact mem0) (wh1 mM wh0)) nD⟩
    ·
      obtain rfl : k = 32 := by omega
      refine Sat.exit ?_
      refine at_x ?_
      refine at_x ?_
      refine bl_h ?_
      refine at_n ?_
      refine Sat.seq ?_
      refine Sat.region ?_
      refine Tr.fld rfl rfl rfl Try.underlying32 rfl Sz30 dE _ rfl ?_
      first
        | refine Tr.idxArr1 rfl rfl rfl rfl Try.underlying30 Sz5 0 rfl dE ?_
        | refine Tr.idxArrO rfl rfl rfl rfl Try.underlying30 Sz5 0 rfl dE ?_
      refine Tr.store1 rfl rfl rfl rfl rfl Sz5 mM (by rw [base_len oM]; exact (show 32 + 0 < 64 by decide)) (by exact set_bytes _ (32 + 0) 88) uU ?_
      rw [base_end]
      refine Tr.nil ?_
      refine at_n ?_
      refine Sat.seq ?_
      refine Sat.region ?_
      refine Tr.loadAll rfl rfl rfl Try.underlying32 rfl Sz32 mM (Point.length (by first | exact ptc_ok _ | exact wdc_ok _ | exact ⟨fb32 _, fb32 _⟩ | exact ⟨rfl, rfl⟩ | assumption | (simp [fb_length]; done) | exact Point.zero_ok | exact wide.zero_ok )) ?_
      refine Tr.storeAll rfl rfl rfl rfl (Point.isCell (by first | exact ptc_ok _ | exact wdc_ok _ | exact ⟨fb32 _, fb32 _⟩ | exact ⟨rfl, rfl⟩ | assumption | (simp [fb_length]; done) | exact Point.zero_ok | exact wide.zero_ok )) Sz32 (Point.length (by first | exact ptc_ok _ | exact wdc_ok _ | exact ⟨fb32 _, fb32 _⟩ | exact ⟨rfl, rfl⟩ | assumption | (simp [fb_length]; done) | exact Point.zero_ok | exact wide.zero_ok )) mM (Point.length (by first | exact ptc_ok _ | exact wdc_ok _ | exact ⟨fb32 _, fb32 _⟩ | exact ⟨rfl, rfl⟩ | assumption | (simp [fb_length]; done) | exact Point.zero_ok | exact wide.zero_ok )) uU ?_
      refine Tr.nil ?_
      refine at_n ?_
      refine Sat.ret ?_
      refine en_r ?_
      refine ⟨_, [], res_cell rfl rfl Try.underlying32 rfl Sz32 mM (by first | (simp [fb_length]; done) | exact Point.length (by first | exact ptc_ok _ | exact wdc_ok _ | exact ⟨fb32 _, fb32 _⟩ | exact ⟨rfl, rfl⟩ | assumption | (simp [fb_length]; done) | exact Point.zero_ok | exact wide.zero_ok )), sP, sP, ?_, rfl⟩
      rfl

set_option maxRecDepth 100000 in
set_option maxHeartbeats 4000000 in
theorem curve_Check (p : Point) (hp : p.ok) : Meets Try.prog 55 [agg p.cells] [] (fun _ => True) (fun v out => v = i64 (pchk p.fX p.fY) ∧ out = []) := by
  intro W hW
  refine calls_of (hp0 := []) Try.func55 rfl 38 Try.ntmps55 rfl (HRep.nil _) ?_
  refine Sat.seq ?_
  refine Sat.region ?_
  refine Tr.boxA rfl rfl ?_
  intro n1 hn1 hf1
  refine Tr.assign rfl rfl rfl ?_
  refine Tr.nil ?_
  refine at_n ?_
  refine Sat.seq ?_
  refine Sat.seq ?_
  refine Sat.region ?_
  refine Tr.fld rfl rfl rfl Try.underlying32 rfl Sz30 dE _ rfl ?_
  first
    | refine Tr.loadN (bytesV _) rfl rfl rfl Try.underlying30 rfl Sz30 mM (Point.row_fX (by first | exact ptc_ok _ | exact wdc_ok _ | exact ⟨fb32 _, fb32 _⟩ | exact hp | assumption | (simp [fb_length, hp.l_fX, hp.l_fY]; done) | exact Point.zero_ok | exact wide.zero_ok )) (Point.rl_fX (by first | exact ptc_ok _ | exact wdc_ok _ | exact ⟨fb32 _, fb32 _⟩ | exact hp | assumption | (simp [fb_length, hp.l_fX, hp.l_fY]; done) | exact Point.zero_ok | exact wide.zero_ok )) ?_
  refine Tr.callB rfl rfl rfl rfl Body46 (field_Canon p.fX hp.l_fX) (fun _ _ => trivial) (fun hs1_20 => ?_) (fun hs1_20 => ?_)
  ·
    first | have hs1_2 := of_decide_eq_true hs1_20 | have hs1_2 := of_decide_eq_false hs1_20 | have hs1_2 := nd_t hs1_20 | have hs1_2 := nd_f hs1_20 | have hs1_2 := hs1_20
    refine Tr.not rfl rfl rfl ?_
    refine Tr.move rfl rfl rfl ?_
    refine Tr.fld rfl rfl rfl Try.underlying32 rfl Sz30 dE _ rfl ?_
    first
      | refine Tr.loadN (bytesV _) rfl rfl rfl Try.underlying30 rfl Sz30 mM (Point.row_fY (by first | exact ptc_ok _ | exact wdc_ok _ | exact ⟨fb32 _, fb32 _⟩ | exact hp | assumption | (simp [fb_length, hp.l_fX, hp.l_fY]; done) | exact Point.zero_ok | exact wide.zero_ok )) (Point.rl_fY (by first | exact ptc_ok _ | exact wdc_ok _ | exact ⟨fb32 _, fb32 _⟩ | exact hp | assumption | (simp [fb_length, hp.l_fX, hp.l_fY]; done) | exact Point.zero_ok | exact wide.zero_ok )) ?_
    refine Tr.callB rfl rfl rfl rfl Body46 (field_Canon p.fY hp.l_fY) (fun _ _ => trivial) (fun hs1_70 => ?_) (fun hs1_70 => ?_)
    ·
      first | have hs1_7 := of_decide_eq_true hs1_70 | have hs1_7 := of_decide_eq_false hs1_70 | have hs1_7 := nd_t hs1_70 | have hs1_7 := nd_f hs1_70 | have hs1_7 := hs1_70
      refine Tr.not rfl rfl rfl ?_
      refine Tr.pick rfl rfl rfl rfl rfl rfl ?_
      refine Tr.nil ?_
      refine at_n ?_
      refine Sat.cond_f rfl rfl ?_
      refine Sat.skip ?_
      refine at_n ?_
      refine Sat.seq ?_
      refine Sat.draw [(0, 0), (1, 1), (0, 2), (1, 3), (0, 5), (1, 6), (0, 7), (1, 8), (3, 4), (3, 9), (2, 10), (2, 11), (4, 12), (4, 13)] Mixed (by kernel_rfl) ?_
      refine Tr.fld rfl rfl rfl Try.underlying32 rfl Sz30 dE _ rfl ?_
      first
        | refine Tr.loadN (bytesV _) rfl rfl rfl Try.underlying30 rfl Sz30 mM (Point.row_fX (by first | exact ptc_ok _ | exact wdc_ok _ | exact ⟨fb32 _, fb32 _⟩ | exact hp | assumption | (simp [fb_length, hp.l_fX, hp.l_fY]; done) | exact Point.zero_ok | exact wide.zero_ok )) (Point.rl_fX (by first | exact ptc_ok _ | exact wdc_ok _ | exact ⟨fb32 _, fb32 _⟩ | exact hp | assumption | (simp [fb_length, hp.l_fX, hp.l_fY]; done) | exact Point.zero_ok | exact wide.zero_ok )) ?_
      refine Tr.fld rfl rfl rfl Try.underlying32 rfl Sz30 dE _ rfl ?_
      first
        | refine Tr.loadN (bytesV _) rfl rfl rfl Try.underlying30 rfl Sz30 mM (Point.row_fX (by first | exact ptc_ok _ | exact wdc_ok _ | exact ⟨fb32 _, fb32 _⟩ | exact hp | assumption | (simp [fb_length, hp.l_fX, hp.l_fY]; done) | exact Point.zero_ok | exact wide.zero_ok )) (Point.rl_fX (by first | exact ptc_ok _ | exact wdc_ok _ | exact ⟨fb32 _, fb32 _⟩ | exact hp | assumption | (simp [fb_length, hp.l_fX, hp.l_fY]; done) | exact Point.zero_ok | exact wide.zero_ok )) ?_
      refine Tr.fld rfl rfl rfl Try.underlying32 rfl Sz30 dE _ rfl ?_
      first
        | refine Tr.loadN (bytesV _) rfl rfl rfl Try.underlying30 rfl Sz30 mM (Point.row_fY (by first | exact ptc_ok _ | exact wdc_ok _ | exact ⟨fb32 _, fb32 _⟩ | exact hp | assumption | (simp [fb_length, hp.l_fX, hp.l_fY]; done) | exact Point.zero_ok | exact wide.zero_ok )) (Point.rl_fY (by first | exact ptc_ok _ | exact wdc_ok _ | exact ⟨fb32 _, fb32 _⟩ | exact hp | assumption | (simp [fb_length, hp.l_fX, hp.l_fY]; done) | exact Point.zero_ok | exact wide.zero_ok )) ?_
      refine Tr.fld rfl rfl rfl Try.underlying32 rfl Sz30 dE _ rfl ?_
      first
        | refine Tr.loadN (bytesV _) rfl rfl rfl Try.underlying30 rfl Sz30 mM (Point.row_fY (by first | exact ptc_ok _ | exact wdc_ok _ | exact ⟨fb32 _, fb32 _⟩ | exact hp | assumption | (simp [fb_length, hp.l_fX, hp.l_fY]; done) | exact Point.zero_ok | exact wide.zero_ok )) (Point.rl_fY (by first | exact ptc_ok _ | exact wdc_ok _ | exact ⟨fb32 _, fb32 _⟩ | exact hp | assumption | (simp [fb_length, hp.l_fX, hp.l_fY]; done) | exact Point.zero_ok | exact wide.zero_ok )) ?_
      refine Tr.callV rfl rfl rfl rfl Body47 (field_Mul p.fX p.fX hp.l_fX hp.l_fX) (fun _ _ => trivial) ?_
      refine Tr.callV rfl rfl rfl rfl Body47 (field_Mul p.fY p.fY hp.l_fY hp.l_fY) (fun _ _ => trivial) ?_
      refine Tr.alloc (cs := (bytesV (List.replicate 32 0))) rfl Zr30 rfl ?_
      intro n3 hn3 hf3
      refine Tr.alloc (cs := (bytesV (List.replicate 32 0))) rfl Zr30 rfl ?_
      intro n4 hn4 hf4
      first
        | refine Tr.storeAll rfl rfl rfl rfl cB Sz30 (by first | (simp [fb_length, hp.l_fX, hp.l_fY]; done) | assumption | (rw [bytesV, List.length_map]; assumption)) mM (by first | (simp [fb_length, hp.l_fX, hp.l_fY]; done) | assumption | (rw [bytesV, List.length_map]; assumption)) uU ?_
        | refine Tr.storeN _ rfl rfl rfl rfl rfl cB Sz30 (by first | (simp [fb_length, hp.l_fX, hp.l_fY]; done) | assumption | (rw [bytesV, List.length_map]; assumption)) mM (by first | (simp [fb_length, hp.l_fX, hp.l_fY]; done) | assumption | (rw [bytesV, List.length_map]; assumption)) (by exact rfl) uU ?_
      first
        | refine Tr.storeAll rfl rfl rfl rfl cB Sz30 (by first | (simp [fb_length, hp.l_fX, hp.l_fY]; done) | assumption | (rw [bytesV, List.length_map]; assumption)) mM (by first | (simp [fb_length, hp.l_fX, hp.l_fY]; done) | assumption | (rw [bytesV, List.length_map]; assumption)) uU ?_
        | refine Tr.storeN _ rfl rfl rfl rfl rfl cB Sz30 (by first | (simp [fb_length, hp.l_fX, hp.l_fY]; done) | assumption | (rw [bytesV, List.length_map]; assumption)) mM (by first | (simp [fb_length, hp.l_fX, hp.l_fY]; done) | assumption | (rw [bytesV, List.length_map]; assumption)) (by exact rfl) uU ?_
      refine Tr.nil ?_
      refine at_n ?_
      refine Sat.seq ?_
      refine Sat.draw [(1, 2), (1, 3), (3, 0), (3, 1), (3, 4), (3, 5), (3, 6), (2, 7), (4, 8)] Mixed (by kernel_rfl) ?_
      first
        | refine Tr.loadAll rfl rfl rfl Try.underlying30 rfl Sz30 mM (by first | (simp [fb_length, hp.l_fX, hp.l_fY]; done) | assumption | (rw [bytesV, List.length_map]; assumption)) ?_
        | refine Tr.loadN _ rfl rfl rfl Try.underlying30 rfl Sz30 mM (by exact rfl) (by first | (simp [fb_length, hp.l_fX, hp.l_fY]; done) | assumption | (rw [bytesV, List.length_map]; assumption)) ?_
      first
        | refine Tr.loadAll rfl rfl rfl Try.underlying30 rfl Sz30 mM (by first | (simp [fb_length, hp.l_fX, hp.l_fY]; done) | assumption | (rw [bytesV, List.length_map]; assumption)) ?_
        | refine Tr.loadN _ rfl rfl rfl Try.underlying30 rfl Sz30 mM (by exact rfl) (by first | (simp [fb_length, hp.l_fX, hp.l_fY]; done) | assumption | (rw [bytesV, List.length_map]; assumption)) ?_
      refine Tr.callV rfl rfl rfl rfl Body49 (f_one) (fun _ _ => trivial) ?_
      refine Tr.callV rfl rfl rfl rfl Body51 (curve_D) (fun _ _ => trivial) ?_
      refine Tr.callV rfl rfl rfl rfl Body47 (f_mul _ _) (fun _ _ => trivial) ?_
      refine Tr.callV rfl rfl rfl rfl Body47 (f_mul _ _) (fun _ _ => trivial) ?_
      refine Tr.callV rfl rfl rfl rfl Body50 (f_add _ _) (fun _ _ => trivial) ?_
      refine Tr.alloc (cs := (bytesV (List.replicate 32 0))) rfl Zr30 rfl ?_
      intro n5 hn5 hf5
      first
        | refine Tr.storeAll rfl rfl rfl rfl cB Sz30 (by first | (simp [fb_length, hp.l_fX, hp.l_fY]; done) | assumption | (rw [bytesV, List.length_map]; assumption)) mM (by first | (simp [fb_length, hp.l_fX, hp.l_fY]; done) | assumption | (rw [bytesV, List.length_map]; assumption)) uU ?_
        | refine Tr.storeN _ rfl rfl rfl rfl rfl cB Sz30 (by first | (simp [fb_length, hp.l_fX, hp.l_fY]; done) | assumption | (rw [bytesV, List.length_map]; assumption)) mM (by first | (simp [fb_length, hp.l_fX, hp.l_fY]; done) | assumption | (rw [bytesV, List.length_map]; assumption)) (by exact rfl) uU ?_
      refine Tr.nil ?_
      refine at_n ?_
      refine Sat.seq ?_
      refine Sat.seq ?_
      refine Sat.draw [(1, 0), (1, 1), (1, 3), (3, 2), (0, 4)] Mixed (by kernel_rfl) ?_
      first
        | refine Tr.loadAll rfl rfl rfl Try.underlying30 rfl Sz30 mM (by first | (simp [fb_length, hp.l_fX, hp.l_fY]; done) | assumption | (rw [bytesV, List.length_map]; assumption)) ?_
        | refine Tr.loadN _ rfl rfl rfl Try.underlying30 rfl Sz30 mM (by exact rfl) (by first | (simp [fb_length, hp.l_fX, hp.l_fY]; done) | assumption | (rw [bytesV, List.length_map]; assumption)) ?_
      first
        | refine Tr.loadAll rfl rfl rfl Try.underlying30 rfl Sz30 mM (by first | (simp [fb_length, hp.l_fX, hp.l_fY]; done) | assumption | (rw [bytesV, List.length_map]; assumption)) ?_
        | refine Tr.loadN _ rfl rfl rfl Try.underlying30 rfl Sz30 mM (by exact rfl) (by first | (simp [fb_length, hp.l_fX, hp.l_fY]; done) | assumption | (rw [bytesV, List.length_map]; assumption)) ?_
      first
        | refine Tr.loadAll rfl rfl rfl Try.underlying30 rfl Sz30 mM (by first | (simp [fb_length, hp.l_fX, hp.l_fY]; done) | assumption | (rw [bytesV, List.length_map]; assumption)) ?_
        | refine Tr.loadN _ rfl rfl rfl Try.underlying30 rfl Sz30 mM (by exact rfl) (by first | (simp [fb_length, hp.l_fX, hp.l_fY]; done) | assumption | (rw [bytesV, List.length_map]; assumption)) ?_
      refine Tr.callV rfl rfl rfl rfl Body48 (f_sub _ _) (fun _ _ => trivial) ?_
      refine Tr.neq_bytes rfl rfl rfl rfl Try.eqGuardType30 Try.underlying30 Try.underlying5 Sz5 (by first | (simp [fb_length, hp.l_fX, hp.l_fY]; done) | assumption | (rw [bytesV, List.length_map]; assumption)) (by first | (simp [fb_length, hp.l_fX, hp.l_fY]; done) | assumption | (rw [bytesV, List.length_map]; assumption)) rfl ?_
      refine Tr.nil ?_
      refine at_n ?_
      first
        | refine Sat.condP rfl (fun hc1 => ?_) (fun hc1 => ?_)
        | refine Sat.condNP rfl (fun hc1 => ?_) (fun hc1 => ?_)
        | refine Sat.cond rfl (fun hc1 => ?_) (fun hc1 => ?_)
      ·
        refine Sat.seq ?_
        refine Sat.region ?_
        refine Tr.assign rfl rfl rfl ?_
        refine Tr.nil ?_
        refine at_n ?_
        refine Sat.ret ?_
        refine at_r ?_
        refine en_r ?_
        refine ⟨_, [], res_tmp rfl rfl, sP, sP, ?_, rfl⟩
        unfold pchk
        first
          | exact congrArg i64 (if_neg (fun h => by first | exact hs1_2 h.1 | exact hs1_7 h.2.1 | exact hc1 (fb_inj.2 h.2.2))).symm
          | exact congrArg i64 (if_pos ⟨hs1_2, hs1_7, fb_inj.1 hc1⟩).symm
      ·
        refine Sat.skip ?_
        refine at_n ?_
        refine Sat.seq ?_
        refine Sat.region ?_
        refine Tr.assign rfl rfl rfl ?_
        refine Tr.nil ?_
        refine at_n ?_
        refine Sat.ret ?_
        refine en_r ?_
        refine ⟨_, [], res_tmp rfl rfl, sP, sP, ?_, rfl⟩
        unfold pchk
        first
          | exact congrArg i64 (if_neg (fun h => by first | exact hs1_2 h.1 | exact hs1_7 h.2.1 | exact hc1 (fb_inj.2 h.2.2))).symm
          | exact congrArg i64 (if_pos ⟨hs1_2, hs1_7, fb_inj.1 hc1⟩).symm
    ·
      first | have hs1_7 := of_decide_eq_true hs1_70 | have hs1_7 := of_decide_eq_false hs1_70 | have hs1_7 := nd_t hs1_70 | have hs1_7 := nd_f hs1_70 | have hs1_7 := hs1_70
      refine Tr.not rfl rfl rfl ?_
      refine Tr.pick rfl rfl rfl rfl rfl rfl ?_
      refine Tr.nil ?_
      refine at_n ?_
      refine Sat.cond_t rfl rfl ?_
      refine Sat.seq ?_
      refine Sat.region ?_
      refine Tr.assign rfl rfl rfl ?_
      refine Tr.nil ?_
      refine at_n ?_
      refine Sat.ret ?_
      refine at_r ?_
      refine en_r ?_
      refine ⟨_, [], res_tmp rfl rfl, sP, sP, ?_, rfl⟩
      unfold pchk
      first
        | exact congrArg i64 (if_neg (fun h => by first | exact hs1_2 h.1 | exact hs1_7 h.2.1 | exact hc1 (fb_inj.2 h.2.2))).symm
        | exact congrArg i64 (if_pos ⟨hs1_2, hs1_7, fb_inj.1 hc1⟩).symm
  ·
    first | have hs1_2 := of_decide_eq_true hs1_20 | have hs1_2 := of_decide_eq_false hs1_20 | have hs1_2 := nd_t hs1_20 | have hs1_2 := nd_f hs1_20 | have hs1_2 := hs1_20
    refine Tr.not rfl rfl rfl ?_
    refine Tr.move rfl rfl rfl ?_
    refine Tr.skp rfl rfl ?_
    refine Tr.skp rfl rfl ?_
    refine Tr.skp rfl rfl ?_
    refine Tr.skp rfl rfl ?_
    refine Tr.pick rfl rfl rfl rfl rfl rfl ?_
    refine Tr.nil ?_
    refine at_n ?_
    refine Sat.cond_t rfl rfl ?_
    refine Sat.seq ?_
    refine Sat.region ?_
    refine Tr.assign rfl rfl rfl ?_
    refine Tr.nil ?_
    refine at_n ?_
    refine Sat.ret ?_
    refine at_r ?_
    refine en_r ?_
    refine ⟨_, [], res_tmp rfl rfl, sP, sP, ?_, rfl⟩
    unfold pchk
    first
      | exact congrArg i64 (if_neg (fun h => by first | exact hs1_2 h.1 | exact hs1_7 h.2.1 | exact hc1 (fb_inj.2 h.2.2))).symm
      | exact congrArg i64 (if_pos ⟨hs1_2, hs1_7, fb_inj.1 hc1⟩).symm

theorem curve_Check_on (P : Pt Fp) (h : cv.on P) : Meets Try.prog 55 [agg (ptc P).cells] [] (fun _ => True) (fun v out => v = i64 0 ∧ out = []) := by
  have h1 := curve_Check (ptc P) (ptc_ok P)
  rwa [show pchk (ptc P).fX (ptc P).fY = 0 from pchk_on h] at h1

set_option maxRecDepth 100000 in
set_option maxHeartbeats 2000000 in
theorem curve_widen (P : Pt Fp) : Meets Try.prog 57 [agg (ptc P).cells] [] (fun _ => True) (fun v out => v = agg (wdc (Wd.of P)).cells ∧ out = []) := by
  intro W hW
  refine calls_of (hp0 := []) Try.func57 rfl 14 Try.ntmps57 rfl (HRep.nil _) ?_
  refine Sat.seq ?_
  refine Sat.region ?_
  refine Tr.boxA rfl rfl ?_
  intro n1 hn1 hf1
  refine Tr.alloc (cs := wide.zero.cells) rfl wide.zr rfl ?_
  intro n2 hn2 hf2
  refine Tr.nil ?_
  refine at_n ?_
  refine Sat.seq ?_
  refine Sat.draw [(0, 0), (1, 1), (0, 2), (1, 3), (0, 5), (1, 6), (0, 7), (1, 8), (3, 4), (3, 9), (0, 10), (4, 11)] Mixed (by kernel_rfl) ?_
  refine Tr.fld rfl rfl rfl Try.underlying32 rfl Sz30 dE _ rfl ?_
  first
    | refine Tr.loadN (bytesV _) rfl rfl rfl Try.underlying30 rfl Sz30 mM (Point.row_fX (by first | exact ptc_ok _ | exact wdc_ok _ | exact ⟨fb32 _, fb32 _⟩ | assumption | (simp [fb_length]; done) | exact Point.zero_ok | exact wide.zero_ok )) (Point.rl_fX (by first | exact ptc_ok _ | exact wdc_ok _ | exact ⟨fb32 _, fb32 _⟩ | assumption | (simp [fb_length]; done) | exact Point.zero_ok | exact wide.zero_ok )) ?_
  refine Tr.fld rfl rfl rfl Try.underlying32 rfl Sz30 dE _ rfl ?_
  first
    | refine Tr.loadN (bytesV _) rfl rfl rfl Try.underlying30 rfl Sz30 mM (Point.row_fY (by first | exact ptc_ok _ | exact wdc_ok _ | exact ⟨fb32 _, fb32 _⟩ | assumption | (simp [fb_length]; done) | exact Point.zero_ok | exact wide.zero_ok )) (Point.rl_fY (by first | exact ptc_ok _ | exact wdc_ok _ | exact ⟨fb32 _, fb32 _⟩ | assumption | (simp [fb_length]; done) | exact Point.zero_ok | exact wide.zero_ok )) ?_
  refine Tr.fld rfl rfl rfl Try.underlying32 rfl Sz30 dE _ rfl ?_
  first
    | refine Tr.loadN (bytesV _) rfl rfl rfl Try.underlying30 rfl Sz30 mM (Point.row_fX (by first | exact ptc_ok _ | exact wdc_ok _ | exact ⟨fb32 _, fb32 _⟩ | assumption | (simp [fb_length]; done) | exact Point.zero_ok | exact wide.zero_ok )) (Point.rl_fX (by first | exact ptc_ok _ | exact wdc_ok _ | exact ⟨fb32 _, fb32 _⟩ | assumption | (simp [fb_length]; done) | exact Point.zero_ok | exact wide.zero_ok )) ?_
  refine Tr.fld rfl rfl rfl Try.underlying32 rfl Sz30 dE _ rfl ?_
  first
    | refine Tr.loadN (bytesV _) rfl rfl rfl Try.underlying30 rfl Sz30 mM (Point.row_fY (by first | exact ptc_ok _ | exact wdc_ok _ | exact ⟨fb32 _, fb32 _⟩ | assumption | (simp [fb_length]; done) | exact Point.zero_ok | exact wide.zero_ok )) (Point.rl_fY (by first | exact ptc_ok _ | exact wdc_ok _ | exact ⟨fb32 _, fb32 _⟩ | assumption | (simp [fb_length]; done) | exact Point.zero_ok | exact wide.zero_ok )) ?_
  refine Tr.callV rfl rfl rfl rfl Body49 (f_one) (fun _ _ => trivial) ?_
  refine Tr.callV rfl rfl rfl rfl Body47 (f_mul P.x P.y) (fun _ _ => trivial) ?_
  refine Tr.build (cs := (wdc (Wd.of P)).cells) rfl rfl rfl (fun w => by kernel_rfl) ?_
  refine Tr.storeAll rfl rfl rfl rfl (wide.isCell (by first | exact ptc_ok _ | exact wdc_ok _ | exact ⟨fb32 _, fb32 _⟩ | assumption | (simp [fb_length]; done) | exact Point.zero_ok | exact wide.zero_ok )) Sz81 (wide.length (by first | exact ptc_ok _ | exact wdc_ok _ | exact ⟨fb32 _, fb32 _⟩ | assumption | (simp [fb_length]; done) | exact Point.zero_ok | exact wide.zero_ok )) mM (wide.length (by first | exact ptc_ok _ | exact wdc_ok _ | exact ⟨fb32 _, fb32 _⟩ | assumption | (simp [fb_length]; done) | exact Point.zero_ok | exact wide.zero_ok )) uU ?_
  refine Tr.nil ?_
  refine at_n ?_
  refine Sat.ret ?_
  refine en_r ?_
  refine ⟨_, [], res_cell rfl rfl Try.underlying81 rfl Sz81 mM (by first | (simp [fb_length]; done) | exact wide.length (by first | exact ptc_ok _ | exact wdc_ok _ | exact ⟨fb32 _, fb32 _⟩ | assumption | (simp [fb_length]; done) | exact Point.zero_ok | exact wide.zero_ok )), sP, sP, ?_, rfl⟩
  rfl

set_option maxRecDepth 100000 in
set_option maxHeartbeats 2000000 in
theorem wide_point (n : Nat) (w : Wd Fp) : Meets Try.prog 61 [ptr n 0] [] (fun W => Sees W n 0 (wdc w).cells) (fun v out => v = agg (ptc (⟨w.x * finv w.z, w.y * finv w.z⟩ : Pt Fp)).cells ∧ out = []) := by
  intro W hW
  have hinv := f_inv w.z
  revert hinv
  generalize finv w.z = iz
  intro hinv
  refine calls_of (hp0 := []) Try.func61 rfl 22 Try.ntmps61 rfl (HRep.nil _) ?_
  refine Sat.seq ?_
  refine Sat.region ?_
  refine Tr.alloc (cs := Point.zero.cells) rfl Point.zr rfl ?_
  intro n2 hn2 hf2
  refine Tr.nil ?_
  refine at_n ?_
  refine Sat.seq ?_
  refine Sat.region ?_
  refine Tr.move rfl rfl rfl ?_
  refine Tr.nilChk rfl rfl rfl ?_
  refine Tr.fld rfl rfl rfl Try.underlying81 rfl Sz30 dE _ rfl ?_
  refine Tr.loadEN (bytesV (fb w.z)) rfl rfl rfl Try.underlying30 rfl Sz30 sP (by rw [bytesV, List.length_map, fb_length]) (sees_subC hW (wide.see_fZ (wdc_ok w))) ?_
  refine Tr.callV rfl rfl rfl rfl Body53 (hinv) (fun _ _ => trivial) ?_
  refine Tr.alloc (cs := (bytesV (List.replicate 32 0))) rfl Zr30 rfl ?_
  intro n3 hn3 hf3
  first
    | refine Tr.storeAll rfl rfl rfl rfl cB Sz30 (by first | (simp [fb_length]; done) | assumption | (rw [bytesV, List.length_map]; assumption)) mM (by first | (simp [fb_length]; done) | assumption | (rw [bytesV, List.length_map]; assumption)) uU ?_
    | refine Tr.storeN _ rfl rfl rfl rfl rfl cB Sz30 (by first | (simp [fb_length]; done) | assumption | (rw [bytesV, List.length_map]; assumption)) mM (by first | (simp [fb_length]; done) | assumption | (rw [bytesV, List.length_map]; assumption)) (by exact rfl) uU ?_
  refine Tr.nil ?_
  refine at_n ?_
  refine Sat.seq ?_
  refine Sat.draw [(0, 0), (0, 1), (0, 2), (1, 3), (1, 4), (0, 6), (0, 7), (0, 8), (1, 9), (1, 10), (3, 5), (3, 11), (0, 12), (4, 13)] Mixed (by kernel_rfl) ?_
  refine Tr.move rfl rfl rfl ?_
  refine Tr.nilChk rfl rfl rfl ?_
  refine Tr.fld rfl rfl rfl Try.underlying81 rfl Sz30 dE _ rfl ?_
  refine Tr.loadEN (bytesV (fb w.x)) rfl rfl rfl Try.underlying30 rfl Sz30 sP (by rw [bytesV, List.length_map, fb_length]) (sees_subC hW (wide.see_fX (wdc_ok w))) ?_
  first
    | refine Tr.loadAll rfl rfl rfl Try.underlying30 rfl Sz30 mM (by first | (simp [fb_length]; done) | assumption | (rw [bytesV, List.length_map]; assumption)) ?_
    | refine Tr.loadN _ rfl rfl rfl Try.underlying30 rfl Sz30 mM (by exact rfl) (by first | (simp [fb_length]; done) | assumption | (rw [bytesV, List.length_map]; assumption)) ?_
  refine Tr.move rfl rfl rfl ?_
  refine Tr.nilChk rfl rfl rfl ?_
  refine Tr.fld rfl rfl rfl Try.underlying81 rfl Sz30 dE _ rfl ?_
  refine Tr.loadEN (bytesV (fb w.y)) rfl rfl rfl Try.underlying30 rfl Sz30 sP (by rw [bytesV, List.length_map, fb_length]) (sees_subC hW (wide.see_fY (wdc_ok w))) ?_
  first
    | refine Tr.loadAll rfl rfl rfl Try.underlying30 rfl Sz30 mM (by first | (simp [fb_length]; done) | assumption | (rw [bytesV, List.length_map]; assumption)) ?_
    | refine Tr.loadN _ rfl rfl rfl Try.underlying30 rfl Sz30 mM (by exact rfl) (by first | (simp [fb_length]; done) | assumption | (rw [bytesV, List.length_map]; assumption)) ?_
  refine Tr.callV rfl rfl rfl rfl Body47 (f_mul _ _) (fun _ _ => trivial) ?_
  refine Tr.callV rfl rfl rfl rfl Body47 (f_mul _ _) (fun _ _ => trivial) ?_
  refine Tr.build (cs := (ptc (⟨w.x * iz, w.y * iz⟩ : Pt Fp)).cells) rfl rfl rfl (fun w => by kernel_rfl) ?_
  refine Tr.storeAll rfl rfl rfl rfl (Point.isCell (by first | exact ptc_ok _ | exact wdc_ok _ | exact ⟨fb32 _, fb32 _⟩ | assumption | (simp [fb_length]; done) | exact Point.zero_ok | exact wide.zero_ok )) Sz32 (Point.length (by first | exact ptc_ok _ | exact wdc_ok _ | exact ⟨fb32 _, fb32 _⟩ | assumption | (simp [fb_length]; done) | exact Point.zero_ok | exact wide.zero_ok )) mM (Point.length (by first | exact ptc_ok _ | exact wdc_ok _ | exact ⟨fb32 _, fb32 _⟩ | assumption | (simp [fb_length]; done) | exact Point.zero_ok | exact wide.zero_ok )) uU ?_
  refine Tr.nil ?_
  refine at_n ?_
  refine Sat.ret ?_
  refine en_r ?_
  refine ⟨_, [], res_cell rfl rfl Try.underlying32 rfl Sz32 mM (by first | (simp [fb_length]; done) | exact Point.length (by first | exact ptc_ok _ | exact wdc_ok _ | exact ⟨fb32 _, fb32 _⟩ | assumption | (simp [fb_length]; done) | exact Point.zero_ok | exact wide.zero_ok )), sP, sP, ?_, rfl⟩
  rfl

set_option maxRecDepth 100000 in
set_option maxHeartbeats 4000000 in
theorem wide_finish (n : Nat) (w : Wd Fp) (e f g h : Fp) : Meets Try.prog 87 [ptr n 0, agg (bytesV (fb e)), agg (bytesV (fb f)), agg (bytesV (fb g)), agg (bytesV (fb h))] [n] (fun W => BlkOk W ⟨n, (wdc w).cells, 81, 128⟩) (fun v out => out = [⟨n, (wdc (Wd.fin e f g h)).cells, 81, 128⟩]) := by
  intro W hW
  refine calls_of (hp0 := [⟨n, (wdc w).cells, 81, 128⟩]) Try.func87 rfl 34 Try.ntmps87 rfl (HRep.one hW) ?_
  refine Sat.seq ?_
  refine Sat.region ?_
  refine Tr.boxA rfl rfl ?_
  intro n6 hn6 hf6
  refine Tr.boxA rfl rfl ?_
  intro n7 hn7 hf7
  refine Tr.boxA rfl rfl ?_
  intro n8 hn8 hf8
  refine Tr.boxA rfl rfl ?_
  intro n9 hn9 hf9
  refine Tr.nil ?_
  refine at_n ?_
  refine Sat.seq ?_
  refine Sat.draw [(0, 0), (0, 1), (1, 2), (1, 3), (1, 5), (1, 6), (3, 4), (3, 7), (0, 8), (0, 9), (4, 10), (0, 11), (0, 12), (4, 13)] Mixed (by kernel_rfl) ?_
  refine Tr.move rfl rfl rfl ?_
  refine Tr.move rfl rfl rfl ?_
  first
    | refine Tr.loadAll rfl rfl rfl Try.underlying30 rfl Sz30 mM (by first | (simp [fb_length]; done) | assumption | (rw [bytesV, List.length_map]; assumption)) ?_
    | refine Tr.loadN _ rfl rfl rfl Try.underlying30 rfl Sz30 mM (by exact rfl) (by first | (simp [fb_length]; done) | assumption | (rw [bytesV, List.length_map]; assumption)) ?_
  first
    | refine Tr.loadAll rfl rfl rfl Try.underlying30 rfl Sz30 mM (by first | (simp [fb_length]; done) | assumption | (rw [bytesV, List.length_map]; assumption)) ?_
    | refine Tr.loadN _ rfl rfl rfl Try.underlying30 rfl Sz30 mM (by exact rfl) (by first | (simp [fb_length]; done) | assumption | (rw [bytesV, List.length_map]; assumption)) ?_
  first
    | refine Tr.loadAll rfl rfl rfl Try.underlying30 rfl Sz30 mM (by first | (simp [fb_length]; done) | assumption | (rw [bytesV, List.length_map]; assumption)) ?_
    | refine Tr.loadN _ rfl rfl rfl Try.underlying30 rfl Sz30 mM (by exact rfl) (by first | (simp [fb_length]; done) | assumption | (rw [bytesV, List.length_map]; assumption)) ?_
  first
    | refine Tr.loadAll rfl rfl rfl Try.underlying30 rfl Sz30 mM (by first | (simp [fb_length]; done) | assumption | (rw [bytesV, List.length_map]; assumption)) ?_
    | refine Tr.loadN _ rfl rfl rfl Try.underlying30 rfl Sz30 mM (by exact rfl) (by first | (simp [fb_length]; done) | assumption | (rw [bytesV, List.length_map]; assumption)) ?_
  refine Tr.callV rfl rfl rfl rfl Body47 (f_mul _ _) (fun _ _ => trivial) ?_
  refine Tr.callV rfl rfl rfl rfl Body47 (f_mul _ _) (fun _ _ => trivial) ?_
  refine Tr.nilChk rfl rfl rfl ?_
  refine Tr.fld rfl rfl rfl Try.underlying81 rfl Sz30 dE _ rfl ?_
  refine Tr.storeN (bytesV _) rfl rfl rfl rfl rfl cB Sz30 (by simp [fb_length]) mM (by rw [wide.length (by first | exact ptc_ok _ | exact wdc_ok _ | exact ⟨fb32 _, fb32 _⟩ | exact ⟨fb32 _, fb32 _, fb32 _, fb32 _⟩ | assumption | (simp [fb_length]; done) | exact Point.zero_ok | exact wide.zero_ok )]; simp [fb_length]) (wide.upd_fX (by first | exact ptc_ok _ | exact wdc_ok _ | exact ⟨fb32 _, fb32 _⟩ | exact ⟨fb32 _, fb32 _, fb32 _, fb32 _⟩ | assumption | (simp [fb_length]; done) | exact Point.zero_ok | exact wide.zero_ok ) _ (by simp [fb_length])) uU ?_
  refine Tr.nilChk rfl rfl rfl ?_
  refine Tr.fld rfl rfl rfl Try.underlying81 rfl Sz30 dE _ rfl ?_
  refine Tr.storeN (bytesV _) rfl rfl rfl rfl rfl cB Sz30 (by simp [fb_length]) mM (by rw [wide.length (by first | exact ptc_ok _ | exact wdc_ok _ | exact ⟨fb32 _, fb32 _⟩ | exact ⟨fb32 _, fb32 _, fb32 _, fb32 _⟩ | assumption | (simp [fb_length]; done) | exact Point.zero_ok | exact wide.zero_ok )]; simp [fb_length]) (wide.upd_fY (by first | exact ptc_ok _ | exact wdc_ok _ | exact ⟨fb32 _, fb32 _⟩ | exact ⟨fb32 _, fb32 _, fb32 _, fb32 _⟩ | assumption | (simp [fb_length]; done) | exact Point.zero_ok | exact wide.zero_ok ) _ (by simp [fb_length])) uU ?_
  refine Tr.nil ?_
  refine at_n ?_
  refine Sat.draw [(0, 0), (0, 1), (1, 2), (1, 3), (1, 5), (1, 6), (3, 4), (3, 7), (0, 8), (0, 9), (4, 10), (0, 11), (0, 12), (4, 13)] Mixed (by kernel_rfl) ?_
  refine Tr.move rfl rfl rfl ?_
  refine Tr.move rfl rfl rfl ?_
  first
    | refine Tr.loadAll rfl rfl rfl Try.underlying30 rfl Sz30 mM (by first | (simp [fb_length]; done) | assumption | (rw [bytesV, List.length_map]; assumption)) ?_
    | refine Tr.loadN _ rfl rfl rfl Try.underlying30 rfl Sz30 mM (by exact rfl) (by first | (simp [fb_length]; done) | assumption | (rw [bytesV, List.length_map]; assumption)) ?_
  first
    | refine Tr.loadAll rfl rfl rfl Try.underlying30 rfl Sz30 mM (by first | (simp [fb_length]; done) | assumption | (rw [bytesV, List.length_map]; assumption)) ?_
    | refine Tr.loadN _ rfl rfl rfl Try.underlying30 rfl Sz30 mM (by exact rfl) (by first | (simp [fb_length]; done) | assumption | (rw [bytesV, List.length_map]; assumption)) ?_
  first
    | refine Tr.loadAll rfl rfl rfl Try.underlying30 rfl Sz30 mM (by first | (simp [fb_length]; done) | assumption | (rw [bytesV, List.length_map]; assumption)) ?_
    | refine Tr.loadN _ rfl rfl rfl Try.underlying30 rfl Sz30 mM (by exact rfl) (by first | (simp [fb_length]; done) | assumption | (rw [bytesV, List.length_map]; assumption)) ?_
  first
    | refine Tr.loadAll rfl rfl rfl Try.underlying30 rfl Sz30 mM (by first | (simp [fb_length]; done) | assumption | (rw [bytesV, List.length_map]; assumption)) ?_
    | refine Tr.loadN _ rfl rfl rfl Try.underlying30 rfl Sz30 mM (by exact rfl) (by first | (simp [fb_length]; done) | assumption | (rw [bytesV, List.length_map]; assumption)) ?_
  refine Tr.callV rfl rfl rfl rfl Body47 (f_mul _ _) (fun _ _ => trivial) ?_
  refine Tr.callV rfl rfl rfl rfl Body47 (f_mul _ _) (fun _ _ => trivial) ?_
  refine Tr.nilChk rfl rfl rfl ?_
  refine Tr.fld rfl rfl rfl Try.underlying81 rfl Sz30 dE _ rfl ?_
  refine Tr.storeN (bytesV _) rfl rfl rfl rfl rfl cB Sz30 (by simp [fb_length]) mM (by rw [wide.length (by first | exact ptc_ok _ | exact wdc_ok _ | exact ⟨fb32 _, fb32 _⟩ | exact ⟨fb32 _, fb32 _, fb32 _, fb32 _⟩ | assumption | (simp [fb_length]; done) | exact Point.zero_ok | exact wide.zero_ok )]; simp [fb_length]) (wide.upd_fZ (by first | exact ptc_ok _ | exact wdc_ok _ | exact ⟨fb32 _, fb32 _⟩ | exact ⟨fb32 _, fb32 _, fb32 _, fb32 _⟩ | assumption | (simp [fb_length]; done) | exact Point.zero_ok | exact wide.zero_ok ) _ (by simp [fb_length])) uU ?_
  refine Tr.nilChk rfl rfl rfl ?_
  refine Tr.fld rfl rfl rfl Try.underlying81 rfl Sz30 dE _ rfl ?_
  refine Tr.storeN (bytesV _) rfl rfl rfl rfl rfl cB Sz30 (by simp [fb_length]) mM (by rw [wide.length (by first | exact ptc_ok _ | exact wdc_ok _ | exact ⟨fb32 _, fb32 _⟩ | exact ⟨fb32 _, fb32 _, fb32 _, fb32 _⟩ | assumption | (simp [fb_length]; done) | exact Point.zero_ok | exact wide.zero_ok )]; simp [fb_length]) (wide.upd_fT (by first | exact ptc_ok _ | exact wdc_ok _ | exact ⟨fb32 _, fb32 _⟩ | exact ⟨fb32 _, fb32 _, fb32 _, fb32 _⟩ | assumption | (simp [fb_length]; done) | exact Point.zero_ok | exact wide.zero_ok ) _ (by simp [fb_length])) uU ?_
  refine Tr.nil ?_
  refine en_n ?_
  exact ⟨_, [⟨n, (wdc (Wd.fin e f g h)).cells, 81, 128⟩], res_none rfl, (fun b hb => by rw [List.mem_singleton.1 hb]; exact mM), nodup1, rfl⟩

set_option maxRecDepth 100000 in
set_option maxHeartbeats 8000000 in
theorem wide_add (n q : Nat) (w p : Wd Fp) (tw : Fp) : Meets Try.prog 58 [ptr n 0, ptr q 0, agg (bytesV (fb tw))] [n] (fun W => BlkOk W ⟨n, (wdc w).cells, 81, 128⟩ ∧ Sees W q 0 (wdc p).cells ∧ q ≠ n) (fun v out => out = [⟨n, (wdc (Wd.fin ((w.y + w.x) * (p.y + p.x) - (w.y - w.x) * (p.y - p.x)) (w.z * p.z + w.z * p.z - w.t * tw * p.t) (w.z * p.z + w.z * p.z + w.t * tw * p.t) ((w.y + w.x) * (p.y + p.x) + (w.y - w.x) * (p.y - p.x)))).cells, 81, 128⟩]) := by
  intro W hW
  refine calls_of (hp0 := [⟨n, (wdc w).cells, 81, 128⟩]) Try.func58 rfl 85 Try.ntmps58 rfl (HRep.one hW.1) ?_
  refine Sat.seq ?_
  refine Sat.region ?_
  refine Tr.boxA rfl rfl ?_
  intro n5 hn5 hf5
  refine Tr.nil ?_
  refine at_n ?_
  refine Sat.seq ?_
  refine Sat.draw [(0, 0), (0, 1), (0, 2), (1, 3), (0, 4), (0, 5), (0, 6), (1, 7), (0, 9), (0, 10), (0, 11), (1, 12), (0, 13), (0, 14), (0, 15), (1, 16), (3, 8), (3, 17), (3, 18), (2, 19), (4, 20)] Mixed (by kernel_rfl) ?_
  refine Tr.move rfl rfl rfl ?_
  refine Tr.nilChk rfl rfl rfl ?_
  refine Tr.fld rfl rfl rfl Try.underlying81 rfl Sz30 dE _ rfl ?_
  first
    | refine Tr.loadN (bytesV _) rfl rfl rfl Try.underlying30 rfl Sz30 mM (wide.row_fY (by first | exact ptc_ok _ | exact wdc_ok _ | exact ⟨fb32 _, fb32 _⟩ | exact ⟨fb32 _, fb32 _, fb32 _, fb32 _⟩ | assumption | (simp [fb_length]; done) | exact Point.zero_ok | exact wide.zero_ok )) (wide.rl_fY (by first | exact ptc_ok _ | exact wdc_ok _ | exact ⟨fb32 _, fb32 _⟩ | exact ⟨fb32 _, fb32 _, fb32 _, fb32 _⟩ | assumption | (simp [fb_length]; done) | exact Point.zero_ok | exact wide.zero_ok )) ?_
  refine Tr.move rfl rfl rfl ?_
  refine Tr.nilChk rfl rfl rfl ?_
  refine Tr.fld rfl rfl rfl Try.underlying81 rfl Sz30 dE _ rfl ?_
  first
    | refine Tr.loadN (bytesV _) rfl rfl rfl Try.underlying30 rfl Sz30 mM (wide.row_fX (by first | exact ptc_ok _ | exact wdc_ok _ | exact ⟨fb32 _, fb32 _⟩ | exact ⟨fb32 _, fb32 _, fb32 _, fb32 _⟩ | assumption | (simp [fb_length]; done) | exact Point.zero_ok | exact wide.zero_ok )) (wide.rl_fX (by first | exact ptc_ok _ | exact wdc_ok _ | exact ⟨fb32 _, fb32 _⟩ | exact ⟨fb32 _, fb32 _, fb32 _, fb32 _⟩ | assumption | (simp [fb_length]; done) | exact Point.zero_ok | exact wide.zero_ok )) ?_
  refine Tr.move rfl rfl rfl ?_
  refine Tr.nilChk rfl rfl rfl ?_
  refine Tr.fld rfl rfl rfl Try.underlying81 rfl Sz30 dE _ rfl ?_
  refine Tr.loadEN (bytesV (fb p.y)) rfl rfl rfl Try.underlying30 rfl Sz30 (by simp; exact hW.2.2) (by rw [bytesV, List.length_map, fb_length]) (sees_subC hW.2.1 (wide.see_fY (wdc_ok p))) ?_
  refine Tr.move rfl rfl rfl ?_
  refine Tr.nilChk rfl rfl rfl ?_
  refine Tr.fld rfl rfl rfl Try.underlying81 rfl Sz30 dE _ rfl ?_
  refine Tr.loadEN (bytesV (fb p.x)) rfl rfl rfl Try.underlying30 rfl Sz30 (by simp; exact hW.2.2) (by rw [bytesV, List.length_map, fb_length]) (sees_subC hW.2.1 (wide.see_fX (wdc_ok p))) ?_
  refine Tr.callV rfl rfl rfl rfl Body48 (f_sub _ _) (fun _ _ => trivial) ?_
  refine Tr.callV rfl rfl rfl rfl Body48 (f_sub _ _) (fun _ _ => trivial) ?_
  refine Tr.callV rfl rfl rfl rfl Body47 (f_mul _ _) (fun _ _ => trivial) ?_
  refine Tr.alloc (cs := (bytesV (List.replicate 32 0))) rfl Zr30 rfl ?_
  intro n6 hn6 hf6
  first
    | refine Tr.storeAll rfl rfl rfl rfl cB Sz30 (by first | (simp [fb_length]; done) | assumption | (rw [bytesV, List.length_map]; assumption)) mM (by first | (simp [fb_length]; done) | assumption | (rw [bytesV, List.length_map]; assumption)) uU ?_
    | refine Tr.storeN _ rfl rfl rfl rfl rfl cB Sz30 (by first | (simp [fb_length]; done) | assumption | (rw [bytesV, List.length_map]; assumption)) mM (by first | (simp [fb_length]; done) | assumption | (rw [bytesV, List.length_map]; assumption)) (by exact rfl) uU ?_
  refine Tr.nil ?_
  refine at_n ?_
  refine Sat.seq ?_
  refine Sat.draw [(0, 0), (0, 1), (0, 2), (1, 3), (0, 4), (0, 5), (0, 6), (1, 7), (0, 9), (0, 10), (0, 11), (1, 12), (0, 13), (0, 14), (0, 15), (1, 16), (3, 8), (3, 17), (3, 18), (2, 19), (4, 20)] Mixed (by kernel_rfl) ?_
  refine Tr.move rfl rfl rfl ?_
  refine Tr.nilChk rfl rfl rfl ?_
  refine Tr.fld rfl rfl rfl Try.underlying81 rfl Sz30 dE _ rfl ?_
  first
    | refine Tr.loadN (bytesV _) rfl rfl rfl Try.underlying30 rfl Sz30 mM (wide.row_fY (by first | exact ptc_ok _ | exact wdc_ok _ | exact ⟨fb32 _, fb32 _⟩ | exact ⟨fb32 _, fb32 _, fb32 _, fb32 _⟩ | assumption | (simp [fb_length]; done) | exact Point.zero_ok | exact wide.zero_ok )) (wide.rl_fY (by first | exact ptc_ok _ | exact wdc_ok _ | exact ⟨fb32 _, fb32 _⟩ | exact ⟨fb32 _, fb32 _, fb32 _, fb32 _⟩ | assumption | (simp [fb_length]; done) | exact Point.zero_ok | exact wide.zero_ok )) ?_
  refine Tr.move rfl rfl rfl ?_
  refine Tr.nilChk rfl rfl rfl ?_
  refine Tr.fld rfl rfl rfl Try.underlying81 rfl Sz30 dE _ rfl ?_
  first
    | refine Tr.loadN (bytesV _) rfl rfl rfl Try.underlying30 rfl Sz30 mM (wide.row_fX (by first | exact ptc_ok _ | exact wdc_ok _ | exact ⟨fb32 _, fb32 _⟩ | exact ⟨fb32 _, fb32 _, fb32 _, fb32 _⟩ | assumption | (simp [fb_length]; done) | exact Point.zero_ok | exact wide.zero_ok )) (wide.rl_fX (by first | exact ptc_ok _ | exact wdc_ok _ | exact ⟨fb32 _, fb32 _⟩ | exact ⟨fb32 _, fb32 _, fb32 _, fb32 _⟩ | assumption | (simp [fb_length]; done) | exact Point.zero_ok | exact wide.zero_ok )) ?_
  refine Tr.move rfl rfl rfl ?_
  refine Tr.nilChk rfl rfl rfl ?_
  refine Tr.fld rfl rfl rfl Try.underlying81 rfl Sz30 dE _ rfl ?_
  refine Tr.loadEN (bytesV (fb p.y)) rfl rfl rfl Try.underlying30 rfl Sz30 (by simp; exact hW.2.2) (by rw [bytesV, List.length_map, fb_length]) (sees_subC hW.2.1 (wide.see_fY (wdc_ok p))) ?_
  refine Tr.move rfl rfl rfl ?_
  refine Tr.nilChk rfl rfl rfl ?_
  refine Tr.fld rfl rfl rfl Try.underlying81 rfl Sz30 dE _ rfl ?_
  refine Tr.loadEN (bytesV (fb p.x)) rfl rfl rfl Try.underlying30 rfl Sz30 (by simp; exact hW.2.2) (by rw [bytesV, List.length_map, fb_length]) (sees_subC hW.2.1 (wide.see_fX (wdc_ok p))) ?_
  refine Tr.callV rfl rfl rfl rfl Body50 (f_add _ _) (fun _ _ => trivial) ?_
  refine Tr.callV rfl rfl rfl rfl Body50 (f_add _ _) (fun _ _ => trivial) ?_
  refine Tr.callV rfl rfl rfl rfl Body47 (f_mul _ _) (fun _ _ => trivial) ?_
  refine Tr.alloc (cs := (bytesV (List.replicate 32 0))) rfl Zr30 rfl ?_
  intro n7 hn7 hf7
  first
    | refine Tr.storeAll rfl rfl rfl rfl cB Sz30 (by first | (simp [fb_length]; done) | assumption | (rw [bytesV, List.length_map]; assumption)) mM (by first | (simp [fb_length]; done) | assumption | (rw [bytesV, List.length_map]; assumption)) uU ?_
    | refine Tr.storeN _ rfl rfl rfl rfl rfl cB Sz30 (by first | (simp [fb_length]; done) | assumption | (rw [bytesV, List.length_map]; assumption)) mM (by first | (simp [fb_length]; done) | assumption | (rw [bytesV, List.length_map]; assumption)) (by exact rfl) uU ?_
  refine Tr.nil ?_
  refine at_n ?_
  refine Sat.seq ?_
  refine Sat.draw [(0, 0), (0, 1), (0, 2), (1, 3), (1, 4), (0, 6), (0, 7), (0, 8), (1, 9), (3, 5), (3, 10), (2, 11), (4, 12)] Mixed (by kernel_rfl) ?_
  refine Tr.move rfl rfl rfl ?_
  refine Tr.nilChk rfl rfl rfl ?_
  refine Tr.fld rfl rfl rfl Try.underlying81 rfl Sz30 dE _ rfl ?_
  first
    | refine Tr.loadN (bytesV _) rfl rfl rfl Try.underlying30 rfl Sz30 mM (wide.row_fT (by first | exact ptc_ok _ | exact wdc_ok _ | exact ⟨fb32 _, fb32 _⟩ | exact ⟨fb32 _, fb32 _, fb32 _, fb32 _⟩ | assumption | (simp [fb_length]; done) | exact Point.zero_ok | exact wide.zero_ok )) (wide.rl_fT (by first | exact ptc_ok _ | exact wdc_ok _ | exact ⟨fb32 _, fb32 _⟩ | exact ⟨fb32 _, fb32 _, fb32 _, fb32 _⟩ | assumption | (simp [fb_length]; done) | exact Point.zero_ok | exact wide.zero_ok )) ?_
  first
    | refine Tr.loadAll rfl rfl rfl Try.underlying30 rfl Sz30 mM (by first | (simp [fb_length]; done) | assumption | (rw [bytesV, List.length_map]; assumption)) ?_
    | refine Tr.loadN _ rfl rfl rfl Try.underlying30 rfl Sz30 mM (by exact rfl) (by first | (simp [fb_length]; done) | assumption | (rw [bytesV, List.length_map]; assumption)) ?_
  refine Tr.move rfl rfl rfl ?_
  refine Tr.nilChk rfl rfl rfl ?_
  refine Tr.fld rfl rfl rfl Try.underlying81 rfl Sz30 dE _ rfl ?_
  refine Tr.loadEN (bytesV (fb p.t)) rfl rfl rfl Try.underlying30 rfl Sz30 (by simp; exact hW.2.2) (by rw [bytesV, List.length_map, fb_length]) (sees_subC hW.2.1 (wide.see_fT (wdc_ok p))) ?_
  refine Tr.callV rfl rfl rfl rfl Body47 (f_mul _ _) (fun _ _ => trivial) ?_
  refine Tr.callV rfl rfl rfl rfl Body47 (f_mul _ _) (fun _ _ => trivial) ?_
  refine Tr.alloc (cs := (bytesV (List.replicate 32 0))) rfl Zr30 rfl ?_
  intro n8 hn8 hf8
  first
    | refine Tr.storeAll rfl rfl rfl rfl cB Sz30 (by first | (simp [fb_length]; done) | assumption | (rw [bytesV, List.length_map]; assumption)) mM (by first | (simp [fb_length]; done) | assumption | (rw [bytesV, List.length_map]; assumption)) uU ?_
    | refine Tr.storeN _ rfl rfl rfl rfl rfl cB Sz30 (by first | (simp [fb_length]; done) | assumption | (rw [bytesV, List.length_map]; assumption)) mM (by first | (simp [fb_length]; done) | assumption | (rw [bytesV, List.length_map]; assumption)) (by exact rfl) uU ?_
  refine Tr.nil ?_
  refine at_n ?_
  refine Sat.seq ?_
  refine Sat.draw [(0, 0), (0, 1), (0, 2), (1, 3), (0, 4), (0, 5), (0, 6), (1, 7), (3, 8), (2, 9), (4, 10)] Mixed (by kernel_rfl) ?_
  refine Tr.move rfl rfl rfl ?_
  refine Tr.nilChk rfl rfl rfl ?_
  refine Tr.fld rfl rfl rfl Try.underlying81 rfl Sz30 dE _ rfl ?_
  first
    | refine Tr.loadN (bytesV _) rfl rfl rfl Try.underlying30 rfl Sz30 mM (wide.row_fZ (by first | exact ptc_ok _ | exact wdc_ok _ | exact ⟨fb32 _, fb32 _⟩ | exact ⟨fb32 _, fb32 _, fb32 _, fb32 _⟩ | assumption | (simp [fb_length]; done) | exact Point.zero_ok | exact wide.zero_ok )) (wide.rl_fZ (by first | exact ptc_ok _ | exact wdc_ok _ | exact ⟨fb32 _, fb32 _⟩ | exact ⟨fb32 _, fb32 _, fb32 _, fb32 _⟩ | assumption | (simp [fb_length]; done) | exact Point.zero_ok | exact wide.zero_ok )) ?_
  refine Tr.move rfl rfl rfl ?_
  refine Tr.nilChk rfl rfl rfl ?_
  refine Tr.fld rfl rfl rfl Try.underlying81 rfl Sz30 dE _ rfl ?_
  refine Tr.loadEN (bytesV (fb p.z)) rfl rfl rfl Try.underlying30 rfl Sz30 (by simp; exact hW.2.2) (by rw [bytesV, List.length_map, fb_length]) (sees_subC hW.2.1 (wide.see_fZ (wdc_ok p))) ?_
  refine Tr.callV rfl rfl rfl rfl Body47 (f_mul _ _) (fun _ _ => trivial) ?_
  refine Tr.alloc (cs := (bytesV (List.replicate 32 0))) rfl Zr30 rfl ?_
  intro n9 hn9 hf9
  first
    | refine Tr.storeAll rfl rfl rfl rfl cB Sz30 (by first | (simp [fb_length]; done) | assumption | (rw [bytesV, List.length_map]; assumption)) mM (by first | (simp [fb_length]; done) | assumption | (rw [bytesV, List.length_map]; assumption)) uU ?_
    | refine Tr.storeN _ rfl rfl rfl rfl rfl cB Sz30 (by first | (simp [fb_length]; done) | assumption | (rw [bytesV, List.length_map]; assumption)) mM (by first | (simp [fb_length]; done) | assumption | (rw [bytesV, List.length_map]; assumption)) (by exact rfl) uU ?_
  refine Tr.nil ?_
  refine at_n ?_
  refine Sat.seq ?_
  refine Sat.region ?_
  first
    | refine Tr.loadAll rfl rfl rfl Try.underlying30 rfl Sz30 mM (by first | (simp [fb_length]; done) | assumption | (rw [bytesV, List.length_map]; assumption)) ?_
    | refine Tr.loadN _ rfl rfl rfl Try.underlying30 rfl Sz30 mM (by exact rfl) (by first | (simp [fb_length]; done) | assumption | (rw [bytesV, List.length_map]; assumption)) ?_
  first
    | refine Tr.loadAll rfl rfl rfl Try.underlying30 rfl Sz30 mM (by first | (simp [fb_length]; done) | assumption | (rw [bytesV, List.length_map]; assumption)) ?_
    | refine Tr.loadN _ rfl rfl rfl Try.underlying30 rfl Sz30 mM (by exact rfl) (by first | (simp [fb_length]; done) | assumption | (rw [bytesV, List.length_map]; assumption)) ?_
  refine Tr.callV rfl rfl rfl rfl Body50 (f_add _ _) (fun _ _ => trivial) ?_
  first
    | refine Tr.storeAll rfl rfl rfl rfl cB Sz30 (by first | (simp [fb_length]; done) | assumption | (rw [bytesV, List.length_map]; assumption)) mM (by first | (simp [fb_length]; done) | assumption | (rw [bytesV, List.length_map]; assumption)) uU ?_
    | refine Tr.storeN _ rfl rfl rfl rfl rfl cB Sz30 (by first | (simp [fb_length]; done) | assumption | (rw [bytesV, List.length_map]; assumption)) mM (by first | (simp [fb_length]; done) | assumption | (rw [bytesV, List.length_map]; assumption)) (by exact rfl) uU ?_
  refine Tr.nil ?_
  refine at_n ?_
  refine Sat.draw [(0, 0), (1, 1), (1, 2), (1, 4), (1, 5), (1, 7), (1, 8), (1, 10), (1, 11), (3, 3), (3, 6), (3, 9), (3, 12), (4, 13)] Mixed (by kernel_rfl) ?_
  refine Tr.move rfl rfl rfl ?_
  first
    | refine Tr.loadAll rfl rfl rfl Try.underlying30 rfl Sz30 mM (by first | (simp [fb_length]; done) | assumption | (rw [bytesV, List.length_map]; assumption)) ?_
    | refine Tr.loadN _ rfl rfl rfl Try.underlying30 rfl Sz30 mM (by exact rfl) (by first | (simp [fb_length]; done) | assumption | (rw [bytesV, List.length_map]; assumption)) ?_
  first
    | refine Tr.loadAll rfl rfl rfl Try.underlying30 rfl Sz30 mM (by first | (simp [fb_length]; done) | assumption | (rw [bytesV, List.length_map]; assumption)) ?_
    | refine Tr.loadN _ rfl rfl rfl Try.underlying30 rfl Sz30 mM (by exact rfl) (by first | (simp [fb_length]; done) | assumption | (rw [bytesV, List.length_map]; assumption)) ?_
  first
    | refine Tr.loadAll rfl rfl rfl Try.underlying30 rfl Sz30 mM (by first | (simp [fb_length]; done) | assumption | (rw [bytesV, List.length_map]; assumption)) ?_
    | refine Tr.loadN _ rfl rfl rfl Try.underlying30 rfl Sz30 mM (by exact rfl) (by first | (simp [fb_length]; done) | assumption | (rw [bytesV, List.length_map]; assumption)) ?_
  first
    | refine Tr.loadAll rfl rfl rfl Try.underlying30 rfl Sz30 mM (by first | (simp [fb_length]; done) | assumption | (rw [bytesV, List.length_map]; assumption)) ?_
    | refine Tr.loadN _ rfl rfl rfl Try.underlying30 rfl Sz30 mM (by exact rfl) (by first | (simp [fb_length]; done) | assumption | (rw [bytesV, List.length_map]; assumption)) ?_
  first
    | refine Tr.loadAll rfl rfl rfl Try.underlying30 rfl Sz30 mM (by first | (simp [fb_length]; done) | assumption | (rw [bytesV, List.length_map]; assumption)) ?_
    | refine Tr.loadN _ rfl rfl rfl Try.underlying30 rfl Sz30 mM (by exact rfl) (by first | (simp [fb_length]; done) | assumption | (rw [bytesV, List.length_map]; assumption)) ?_
  first
    | refine Tr.loadAll rfl rfl rfl Try.underlying30 rfl Sz30 mM (by first | (simp [fb_length]; done) | assumption | (rw [bytesV, List.length_map]; assumption)) ?_
    | refine Tr.loadN _ rfl rfl rfl Try.underlying30 rfl Sz30 mM (by exact rfl) (by first | (simp [fb_length]; done) | assumption | (rw [bytesV, List.length_map]; assumption)) ?_
  first
    | refine Tr.loadAll rfl rfl rfl Try.underlying30 rfl Sz30 mM (by first | (simp [fb_length]; done) | assumption | (rw [bytesV, List.length_map]; assumption)) ?_
    | refine Tr.loadN _ rfl rfl rfl Try.underlying30 rfl Sz30 mM (by exact rfl) (by first | (simp [fb_length]; done) | assumption | (rw [bytesV, List.length_map]; assumption)) ?_
  first
    | refine Tr.loadAll rfl rfl rfl Try.underlying30 rfl Sz30 mM (by first | (simp [fb_length]; done) | assumption | (rw [bytesV, List.length_map]; assumption)) ?_
    | refine Tr.loadN _ rfl rfl rfl Try.underlying30 rfl Sz30 mM (by exact rfl) (by first | (simp [fb_length]; done) | assumption | (rw [bytesV, List.length_map]; assumption)) ?_
  refine Tr.callV rfl rfl rfl rfl Body48 (f_sub _ _) (fun _ _ => trivial) ?_
  refine Tr.callV rfl rfl rfl rfl Body48 (f_sub _ _) (fun _ _ => trivial) ?_
  refine Tr.callV rfl rfl rfl rfl Body50 (f_add _ _) (fun _ _ => trivial) ?_
  refine Tr.callV rfl rfl rfl rfl Body50 (f_add _ _) (fun _ _ => trivial) ?_
  refine Tr.callL (L := [⟨n, (wdc w).cells, 81, 128⟩]) rfl rfl rfl rfl rfl Body87 (wide_finish n w ((w.y + w.x) * (p.y + p.x) - (w.y - w.x) * (p.y - p.x)) (w.z * p.z + w.z * p.z - w.t * tw * p.t) (w.z * p.z + w.z * p.z + w.t * tw * p.t) ((w.y + w.x) * (p.y + p.x) + (w.y - w.x) * (p.y - p.x))) (pm_cons rM pm_nil) (lent_ok rfl) (fun w h => own_blk h mM) ?_
  rintro v84 out84 rfl
  refine Tr.nil ?_
  refine en_n ?_
  exact ⟨_, [⟨n, (wdc (Wd.fin ((w.y + w.x) * (p.y + p.x) - (w.y - w.x) * (p.y - p.x)) (w.z * p.z + w.z * p.z - w.t * tw * p.t) (w.z * p.z + w.z * p.z + w.t * tw * p.t) ((w.y + w.x) * (p.y + p.x) + (w.y - w.x) * (p.y - p.x)))).cells, 81, 128⟩], res_none rfl, (fun b hb => by rw [List.mem_singleton.1 hb]; exact mM), nodup1, rfl⟩

set_option maxRecDepth 100000 in
set_option maxHeartbeats 8000000 in
theorem wide_double (n : Nat) (w : Wd Fp) : Meets Try.prog 59 [ptr n 0] [n] (fun W => BlkOk W ⟨n, (wdc w).cells, 81, 128⟩) (fun v out => out = [⟨n, (wdc (Wd.dbl w)).cells, 81, 128⟩]) := by
  intro W hW
  refine calls_of (hp0 := [⟨n, (wdc w).cells, 81, 128⟩]) Try.func59 rfl 66 Try.ntmps59 rfl (HRep.one hW) ?_
  refine Sat.seq ?_
  refine Sat.draw [(0, 0), (0, 1), (0, 2), (1, 3), (0, 4), (0, 5), (0, 6), (1, 7), (0, 9), (0, 10), (0, 11), (1, 12), (0, 13), (0, 14), (0, 15), (1, 16), (0, 18), (0, 19), (0, 20), (1, 21), (0, 22), (0, 23), (0, 24), (1, 25), (3, 8), (3, 17), (3, 26), (2, 27), (2, 28), (2, 29), (4, 30), (4, 31), (4, 32)] Mixed (by kernel_rfl) ?_
  refine Tr.move rfl rfl rfl ?_
  refine Tr.nilChk rfl rfl rfl ?_
  refine Tr.fld rfl rfl rfl Try.underlying81 rfl Sz30 dE _ rfl ?_
  first
    | refine Tr.loadN (bytesV _) rfl rfl rfl Try.underlying30 rfl Sz30 mM (wide.row_fX (by first | exact ptc_ok _ | exact wdc_ok _ | exact ⟨fb32 _, fb32 _⟩ | exact ⟨fb32 _, fb32 _, fb32 _, fb32 _⟩ | assumption | (simp [fb_length]; done) | exact Point.zero_ok | exact wide.zero_ok )) (wide.rl_fX (by first | exact ptc_ok _ | exact wdc_ok _ | exact ⟨fb32 _, fb32 _⟩ | exact ⟨fb32 _, fb32 _, fb32 _, fb32 _⟩ | assumption | (simp [fb_length]; done) | exact Point.zero_ok | exact wide.zero_ok )) ?_
  refine Tr.move rfl rfl rfl ?_
  refine Tr.nilChk rfl rfl rfl ?_
  refine Tr.fld rfl rfl rfl Try.underlying81 rfl Sz30 dE _ rfl ?_
  first
    | refine Tr.loadN (bytesV _) rfl rfl rfl Try.underlying30 rfl Sz30 mM (wide.row_fX (by first | exact ptc_ok _ | exact wdc_ok _ | exact ⟨fb32 _, fb32 _⟩ | exact ⟨fb32 _, fb32 _, fb32 _, fb32 _⟩ | assumption | (simp [fb_length]; done) | exact Point.zero_ok | exact wide.zero_ok )) (wide.rl_fX (by first | exact ptc_ok _ | exact wdc_ok _ | exact ⟨fb32 _, fb32 _⟩ | exact ⟨fb32 _, fb32 _, fb32 _, fb32 _⟩ | assumption | (simp [fb_length]; done) | exact Point.zero_ok | exact wide.zero_ok )) ?_
  refine Tr.move rfl rfl rfl ?_
  refine Tr.nilChk rfl rfl rfl ?_
  refine Tr.fld rfl rfl rfl Try.underlying81 rfl Sz30 dE _ rfl ?_
  first
    | refine Tr.loadN (bytesV _) rfl rfl rfl Try.underlying30 rfl Sz30 mM (wide.row_fY (by first | exact ptc_ok _ | exact wdc_ok _ | exact ⟨fb32 _, fb32 _⟩ | exact ⟨fb32 _, fb32 _, fb32 _, fb32 _⟩ | assumption | (simp [fb_length]; done) | exact Point.zero_ok | exact wide.zero_ok )) (wide.rl_fY (by first | exact ptc_ok _ | exact wdc_ok _ | exact ⟨fb32 _, fb32 _⟩ | exact ⟨fb32 _, fb32 _, fb32 _, fb32 _⟩ | assumption | (simp [fb_length]; done) | exact Point.zero_ok | exact wide.zero_ok )) ?_
  refine Tr.move rfl rfl rfl ?_
  refine Tr.nilChk rfl rfl rfl ?_
  refine Tr.fld rfl rfl rfl Try.underlying81 rfl Sz30 dE _ rfl ?_
  first
    | refine Tr.loadN (bytesV _) rfl rfl rfl Try.underlying30 rfl Sz30 mM (wide.row_fY (by first | exact ptc_ok _ | exact wdc_ok _ | exact ⟨fb32 _, fb32 _⟩ | exact ⟨fb32 _, fb32 _, fb32 _, fb32 _⟩ | assumption | (simp [fb_length]; done) | exact Point.zero_ok | exact wide.zero_ok )) (wide.rl_fY (by first | exact ptc_ok _ | exact wdc_ok _ | exact ⟨fb32 _, fb32 _⟩ | exact ⟨fb32 _, fb32 _, fb32 _, fb32 _⟩ | assumption | (simp [fb_length]; done) | exact Point.zero_ok | exact wide.zero_ok )) ?_
  refine Tr.move rfl rfl rfl ?_
  refine Tr.nilChk rfl rfl rfl ?_
  refine Tr.fld rfl rfl rfl Try.underlying81 rfl Sz30 dE _ rfl ?_
  first
    | refine Tr.loadN (bytesV _) rfl rfl rfl Try.underlying30 rfl Sz30 mM (wide.row_fZ (by first | exact ptc_ok _ | exact wdc_ok _ | exact ⟨fb32 _, fb32 _⟩ | exact ⟨fb32 _, fb32 _, fb32 _, fb32 _⟩ | assumption | (simp [fb_length]; done) | exact Point.zero_ok | exact wide.zero_ok )) (wide.rl_fZ (by first | exact ptc_ok _ | exact wdc_ok _ | exact ⟨fb32 _, fb32 _⟩ | exact ⟨fb32 _, fb32 _, fb32 _, fb32 _⟩ | assumption | (simp [fb_length]; done) | exact Point.zero_ok | exact wide.zero_ok )) ?_
  refine Tr.move rfl rfl rfl ?_
  refine Tr.nilChk rfl rfl rfl ?_
  refine Tr.fld rfl rfl rfl Try.underlying81 rfl Sz30 dE _ rfl ?_
  first
    | refine Tr.loadN (bytesV _) rfl rfl rfl Try.underlying30 rfl Sz30 mM (wide.row_fZ (by first | exact ptc_ok _ | exact wdc_ok _ | exact ⟨fb32 _, fb32 _⟩ | exact ⟨fb32 _, fb32 _, fb32 _, fb32 _⟩ | assumption | (simp [fb_length]; done) | exact Point.zero_ok | exact wide.zero_ok )) (wide.rl_fZ (by first | exact ptc_ok _ | exact wdc_ok _ | exact ⟨fb32 _, fb32 _⟩ | exact ⟨fb32 _, fb32 _, fb32 _, fb32 _⟩ | assumption | (simp [fb_length]; done) | exact Point.zero_ok | exact wide.zero_ok )) ?_
  refine Tr.callV rfl rfl rfl rfl Body47 (f_mul _ _) (fun _ _ => trivial) ?_
  refine Tr.callV rfl rfl rfl rfl Body47 (f_mul _ _) (fun _ _ => trivial) ?_
  refine Tr.callV rfl rfl rfl rfl Body47 (f_mul _ _) (fun _ _ => trivial) ?_
  refine Tr.alloc (cs := (bytesV (List.replicate 32 0))) rfl Zr30 rfl ?_
  intro n2 hn2 hf2
  refine Tr.alloc (cs := (bytesV (List.replicate 32 0))) rfl Zr30 rfl ?_
  intro n3 hn3 hf3
  refine Tr.alloc (cs := (bytesV (List.replicate 32 0))) rfl Zr30 rfl ?_
  intro n4 hn4 hf4
  first
    | refine Tr.storeAll rfl rfl rfl rfl cB Sz30 (by first | (simp [fb_length]; done) | assumption | (rw [bytesV, List.length_map]; assumption)) mM (by first | (simp [fb_length]; done) | assumption | (rw [bytesV, List.length_map]; assumption)) uU ?_
    | refine Tr.storeN _ rfl rfl rfl rfl rfl cB Sz30 (by first | (simp [fb_length]; done) | assumption | (rw [bytesV, List.length_map]; assumption)) mM (by first | (simp [fb_length]; done) | assumption | (rw [bytesV, List.length_map]; assumption)) (by exact rfl) uU ?_
  first
    | refine Tr.storeAll rfl rfl rfl rfl cB Sz30 (by first | (simp [fb_length]; done) | assumption | (rw [bytesV, List.length_map]; assumption)) mM (by first | (simp [fb_length]; done) | assumption | (rw [bytesV, List.length_map]; assumption)) uU ?_
    | refine Tr.storeN _ rfl rfl rfl rfl rfl cB Sz30 (by first | (simp [fb_length]; done) | assumption | (rw [bytesV, List.length_map]; assumption)) mM (by first | (simp [fb_length]; done) | assumption | (rw [bytesV, List.length_map]; assumption)) (by exact rfl) uU ?_
  first
    | refine Tr.storeAll rfl rfl rfl rfl cB Sz30 (by first | (simp [fb_length]; done) | assumption | (rw [bytesV, List.length_map]; assumption)) mM (by first | (simp [fb_length]; done) | assumption | (rw [bytesV, List.length_map]; assumption)) uU ?_
    | refine Tr.storeN _ rfl rfl rfl rfl rfl cB Sz30 (by first | (simp [fb_length]; done) | assumption | (rw [bytesV, List.length_map]; assumption)) mM (by first | (simp [fb_length]; done) | assumption | (rw [bytesV, List.length_map]; assumption)) (by exact rfl) uU ?_
  refine Tr.nil ?_
  refine at_n ?_
  refine Sat.seq ?_
  refine Sat.draw [(0, 0), (0, 1), (0, 2), (1, 3), (0, 4), (0, 5), (0, 6), (1, 7), (3, 8), (2, 9), (4, 10)] Mixed (by kernel_rfl) ?_
  refine Tr.move rfl rfl rfl ?_
  refine Tr.nilChk rfl rfl rfl ?_
  refine Tr.fld rfl rfl rfl Try.underlying81 rfl Sz30 dE _ rfl ?_
  first
    | refine Tr.loadN (bytesV _) rfl rfl rfl Try.underlying30 rfl Sz30 mM (wide.row_fX (by first | exact ptc_ok _ | exact wdc_ok _ | exact ⟨fb32 _, fb32 _⟩ | exact ⟨fb32 _, fb32 _, fb32 _, fb32 _⟩ | assumption | (simp [fb_length]; done) | exact Point.zero_ok | exact wide.zero_ok )) (wide.rl_fX (by first | exact ptc_ok _ | exact wdc_ok _ | exact ⟨fb32 _, fb32 _⟩ | exact ⟨fb32 _, fb32 _, fb32 _, fb32 _⟩ | assumption | (simp [fb_length]; done) | exact Point.zero_ok | exact wide.zero_ok )) ?_
  refine Tr.move rfl rfl rfl ?_
  refine Tr.nilChk rfl rfl rfl ?_
  refine Tr.fld rfl rfl rfl Try.underlying81 rfl Sz30 dE _ rfl ?_
  first
    | refine Tr.loadN (bytesV _) rfl rfl rfl Try.underlying30 rfl Sz30 mM (wide.row_fY (by first | exact ptc_ok _ | exact wdc_ok _ | exact ⟨fb32 _, fb32 _⟩ | exact ⟨fb32 _, fb32 _, fb32 _, fb32 _⟩ | assumption | (simp [fb_length]; done) | exact Point.zero_ok | exact wide.zero_ok )) (wide.rl_fY (by first | exact ptc_ok _ | exact wdc_ok _ | exact ⟨fb32 _, fb32 _⟩ | exact ⟨fb32 _, fb32 _, fb32 _, fb32 _⟩ | assumption | (simp [fb_length]; done) | exact Point.zero_ok | exact wide.zero_ok )) ?_
  refine Tr.callV rfl rfl rfl rfl Body50 (f_add _ _) (fun _ _ => trivial) ?_
  refine Tr.alloc (cs := (bytesV (List.replicate 32 0))) rfl Zr30 rfl ?_
  intro n5 hn5 hf5
  first
    | refine Tr.storeAll rfl rfl rfl rfl cB Sz30 (by first | (simp [fb_length]; done) | assumption | (rw [bytesV, List.length_map]; assumption)) mM (by first | (simp [fb_length]; done) | assumption | (rw [bytesV, List.length_map]; assumption)) uU ?_
    | refine Tr.storeN _ rfl rfl rfl rfl rfl cB Sz30 (by first | (simp [fb_length]; done) | assumption | (rw [bytesV, List.length_map]; assumption)) mM (by first | (simp [fb_length]; done) | assumption | (rw [bytesV, List.length_map]; assumption)) (by exact rfl) uU ?_
  refine Tr.nil ?_
  refine at_n ?_
  refine Sat.seq ?_
  refine Sat.region ?_
  first
    | refine Tr.loadAll rfl rfl rfl Try.underlying30 rfl Sz30 mM (by first | (simp [fb_length]; done) | assumption | (rw [bytesV, List.length_map]; assumption)) ?_
    | refine Tr.loadN _ rfl rfl rfl Try.underlying30 rfl Sz30 mM (by exact rfl) (by first | (simp [fb_length]; done) | assumption | (rw [bytesV, List.length_map]; assumption)) ?_
  first
    | refine Tr.loadAll rfl rfl rfl Try.underlying30 rfl Sz30 mM (by first | (simp [fb_length]; done) | assumption | (rw [bytesV, List.length_map]; assumption)) ?_
    | refine Tr.loadN _ rfl rfl rfl Try.underlying30 rfl Sz30 mM (by exact rfl) (by first | (simp [fb_length]; done) | assumption | (rw [bytesV, List.length_map]; assumption)) ?_
  refine Tr.callV rfl rfl rfl rfl Body50 (f_add _ _) (fun _ _ => trivial) ?_
  refine Tr.alloc (cs := (bytesV (List.replicate 32 0))) rfl Zr30 rfl ?_
  intro n6 hn6 hf6
  first
    | refine Tr.storeAll rfl rfl rfl rfl cB Sz30 (by first | (simp [fb_length]; done) | assumption | (rw [bytesV, List.length_map]; assumption)) mM (by first | (simp [fb_length]; done) | assumption | (rw [bytesV, List.length_map]; assumption)) uU ?_
    | refine Tr.storeN _ rfl rfl rfl rfl rfl cB Sz30 (by first | (simp [fb_length]; done) | assumption | (rw [bytesV, List.length_map]; assumption)) mM (by first | (simp [fb_length]; done) | assumption | (rw [bytesV, List.length_map]; assumption)) (by exact rfl) uU ?_
  refine Tr.nil ?_
  refine at_n ?_
  refine Sat.seq ?_
  refine Sat.draw [(1, 0), (1, 1), (1, 2), (3, 3), (3, 4), (2, 5), (4, 6)] Mixed (by kernel_rfl) ?_
  first
    | refine Tr.loadAll rfl rfl rfl Try.underlying30 rfl Sz30 mM (by first | (simp [fb_length]; done) | assumption | (rw [bytesV, List.length_map]; assumption)) ?_
    | refine Tr.loadN _ rfl rfl rfl Try.underlying30 rfl Sz30 mM (by exact rfl) (by first | (simp [fb_length]; done) | assumption | (rw [bytesV, List.length_map]; assumption)) ?_
  first
    | refine Tr.loadAll rfl rfl rfl Try.underlying30 rfl Sz30 mM (by first | (simp [fb_length]; done) | assumption | (rw [bytesV, List.length_map]; assumption)) ?_
    | refine Tr.loadN _ rfl rfl rfl Try.underlying30 rfl Sz30 mM (by exact rfl) (by first | (simp [fb_length]; done) | assumption | (rw [bytesV, List.length_map]; assumption)) ?_
  first
    | refine Tr.loadAll rfl rfl rfl Try.underlying30 rfl Sz30 mM (by first | (simp [fb_length]; done) | assumption | (rw [bytesV, List.length_map]; assumption)) ?_
    | refine Tr.loadN _ rfl rfl rfl Try.underlying30 rfl Sz30 mM (by exact rfl) (by first | (simp [fb_length]; done) | assumption | (rw [bytesV, List.length_map]; assumption)) ?_
  refine Tr.callV rfl rfl rfl rfl Body47 (f_mul _ _) (fun _ _ => trivial) ?_
  refine Tr.callV rfl rfl rfl rfl Body48 (f_sub _ _) (fun _ _ => trivial) ?_
  refine Tr.alloc (cs := (bytesV (List.replicate 32 0))) rfl Zr30 rfl ?_
  intro n7 hn7 hf7
  first
    | refine Tr.storeAll rfl rfl rfl rfl cB Sz30 (by first | (simp [fb_length]; done) | assumption | (rw [bytesV, List.length_map]; assumption)) mM (by first | (simp [fb_length]; done) | assumption | (rw [bytesV, List.length_map]; assumption)) uU ?_
    | refine Tr.storeN _ rfl rfl rfl rfl rfl cB Sz30 (by first | (simp [fb_length]; done) | assumption | (rw [bytesV, List.length_map]; assumption)) mM (by first | (simp [fb_length]; done) | assumption | (rw [bytesV, List.length_map]; assumption)) (by exact rfl) uU ?_
  refine Tr.nil ?_
  refine at_n ?_
  refine Sat.seq ?_
  refine Sat.region ?_
  first
    | refine Tr.loadAll rfl rfl rfl Try.underlying30 rfl Sz30 mM (by first | (simp [fb_length]; done) | assumption | (rw [bytesV, List.length_map]; assumption)) ?_
    | refine Tr.loadN _ rfl rfl rfl Try.underlying30 rfl Sz30 mM (by exact rfl) (by first | (simp [fb_length]; done) | assumption | (rw [bytesV, List.length_map]; assumption)) ?_
  first
    | refine Tr.loadAll rfl rfl rfl Try.underlying30 rfl Sz30 mM (by first | (simp [fb_length]; done) | assumption | (rw [bytesV, List.length_map]; assumption)) ?_
    | refine Tr.loadN _ rfl rfl rfl Try.underlying30 rfl Sz30 mM (by exact rfl) (by first | (simp [fb_length]; done) | assumption | (rw [bytesV, List.length_map]; assumption)) ?_
  refine Tr.callV rfl rfl rfl rfl Body48 (f_sub _ _) (fun _ _ => trivial) ?_
  refine Tr.alloc (cs := (bytesV (List.replicate 32 0))) rfl Zr30 rfl ?_
  intro n8 hn8 hf8
  first
    | refine Tr.storeAll rfl rfl rfl rfl cB Sz30 (by first | (simp [fb_length]; done) | assumption | (rw [bytesV, List.length_map]; assumption)) mM (by first | (simp [fb_length]; done) | assumption | (rw [bytesV, List.length_map]; assumption)) uU ?_
    | refine Tr.storeN _ rfl rfl rfl rfl rfl cB Sz30 (by first | (simp [fb_length]; done) | assumption | (rw [bytesV, List.length_map]; assumption)) mM (by first | (simp [fb_length]; done) | assumption | (rw [bytesV, List.length_map]; assumption)) (by exact rfl) uU ?_
  refine Tr.nil ?_
  refine at_n ?_
  refine Sat.draw [(0, 0), (1, 1), (1, 2), (1, 3), (1, 5), (1, 7), (1, 8), (3, 4), (3, 6), (4, 9)] Mixed (by kernel_rfl) ?_
  refine Tr.move rfl rfl rfl ?_
  first
    | refine Tr.loadAll rfl rfl rfl Try.underlying30 rfl Sz30 mM (by first | (simp [fb_length]; done) | assumption | (rw [bytesV, List.length_map]; assumption)) ?_
    | refine Tr.loadN _ rfl rfl rfl Try.underlying30 rfl Sz30 mM (by exact rfl) (by first | (simp [fb_length]; done) | assumption | (rw [bytesV, List.length_map]; assumption)) ?_
  first
    | refine Tr.loadAll rfl rfl rfl Try.underlying30 rfl Sz30 mM (by first | (simp [fb_length]; done) | assumption | (rw [bytesV, List.length_map]; assumption)) ?_
    | refine Tr.loadN _ rfl rfl rfl Try.underlying30 rfl Sz30 mM (by exact rfl) (by first | (simp [fb_length]; done) | assumption | (rw [bytesV, List.length_map]; assumption)) ?_
  first
    | refine Tr.loadAll rfl rfl rfl Try.underlying30 rfl Sz30 mM (by first | (simp [fb_length]; done) | assumption | (rw [bytesV, List.length_map]; assumption)) ?_
    | refine Tr.loadN _ rfl rfl rfl Try.underlying30 rfl Sz30 mM (by exact rfl) (by first | (simp [fb_length]; done) | assumption | (rw [bytesV, List.length_map]; assumption)) ?_
  first
    | refine Tr.loadAll rfl rfl rfl Try.underlying30 rfl Sz30 mM (by first | (simp [fb_length]; done) | assumption | (rw [bytesV, List.length_map]; assumption)) ?_
    | refine Tr.loadN _ rfl rfl rfl Try.underlying30 rfl Sz30 mM (by exact rfl) (by first | (simp [fb_length]; done) | assumption | (rw [bytesV, List.length_map]; assumption)) ?_
  first
    | refine Tr.loadAll rfl rfl rfl Try.underlying30 rfl Sz30 mM (by first | (simp [fb_length]; done) | assumption | (rw [bytesV, List.length_map]; assumption)) ?_
    | refine Tr.loadN _ rfl rfl rfl Try.underlying30 rfl Sz30 mM (by exact rfl) (by first | (simp [fb_length]; done) | assumption | (rw [bytesV, List.length_map]; assumption)) ?_
  first
    | refine Tr.loadAll rfl rfl rfl Try.underlying30 rfl Sz30 mM (by first | (simp [fb_length]; done) | assumption | (rw [bytesV, List.length_map]; assumption)) ?_
    | refine Tr.loadN _ rfl rfl rfl Try.underlying30 rfl Sz30 mM (by exact rfl) (by first | (simp [fb_length]; done) | assumption | (rw [bytesV, List.length_map]; assumption)) ?_
  refine Tr.callV rfl rfl rfl rfl Body50 (f_add _ _) (fun _ _ => trivial) ?_
  refine Tr.callV rfl rfl rfl rfl Body50 (f_add _ _) (fun _ _ => trivial) ?_
  refine Tr.callL (L := [⟨n, (wdc w).cells, 81, 128⟩]) rfl rfl rfl rfl rfl Body87 (wide_finish n w (w.x * w.x + w.y * w.y - (w.x + w.y) * (w.x + w.y)) (w.z * w.z + w.z * w.z + (w.x * w.x - w.y * w.y)) (w.x * w.x - w.y * w.y) (w.x * w.x + w.y * w.y)) (pm_cons rM pm_nil) (lent_ok rfl) (fun w h => own_blk h mM) ?_
  rintro v65 out65 rfl
  refine Tr.nil ?_
  refine en_n ?_
  exact ⟨_, [⟨n, (wdc (Wd.dbl w)).cells, 81, 128⟩], res_none rfl, (fun b hb => by rw [List.mem_singleton.1 hb]; exact mM), nodup1, rfl⟩

end Go.Proofs.Ytmddgelpllffoaa
end

section
namespace Go.Proofs.Ytmddgelpllffoaa
open Go Hw
set_option linter.unusedVariables false
set_option linter.unusedSimpArgs false

open Ed

theorem own_ne {C : Cx} {hp R : List Blk} {w : World} {b1 b2 : Blk} (h : HRep C hp w) (p : hp.Perm ((b1 :: b2 :: []) ++ R)) : b2.n ≠ b1.n := fun e => by
  have := (p.map (·.n)).nodup_iff.1 h.nodup
  simp [e] at this
theorem wide_addD (n q : Nat) (w p : Wd Fp) : Meets Try.prog 58 [ptr n 0, ptr q 0, agg (bytesV (fb (fD + fD)))] [n] (fun W => BlkOk W ⟨n, (wdc w).cells, 81, 128⟩ ∧ Sees W q 0 (wdc p).cells ∧ q ≠ n) (fun v out => out = [⟨n, (wdc (Wd.add fD w p)).cells, 81, 128⟩]) := wide_add n q w p (fD + fD)
theorem wide_pointR (n : Nat) (w : Wd Fp) (R : Pt Fp) (hw : w.rep R) : Meets Try.prog 61 [ptr n 0] [] (fun W => Sees W n 0 (wdc w).cells) (fun v out => v = agg (ptc R).cells ∧ out = []) := by
  have h := wide_point n w
  have e : (⟨w.x * finv w.z, w.y * finv w.z⟩ : Pt Fp) = R := cv.rep_pt hw
  rwa [e] at h
theorem pair_eg : Try.prog.eqGuardType Try.prog.depth 87 = false := by kernel_rfl
theorem pair_eq (a b c d : Bool) (w : World) : (Op.equalIn 10000 87 (agg [.bool a, .bool b]) (agg [.bool c, .bool d])).run Try.prog w = .ok (a == c && b == d) w := by
  cases a <;> cases b <;> cases c <;> cases d <;> kernel_rfl

set_option maxRecDepth 100000 in
set_option maxHeartbeats 8000000 in
theorem curve_Mul2 (a b : List UInt8) (P Q : Pt Fp) (ha : a.length = 32) (hb : b.length = 32) (hP : cv.on P) (hQ : cv.on Q) : Meets Try.prog 24 [agg (bytesV a), agg (ptc P).cells, agg (bytesV b), agg (ptc Q).cells] [] (fun _ => True) (fun v out => v = agg (ptc (cv.lin (le a) (le b) P Q)).cells ∧ out = []) := by
  intro W hW
  refine calls_of (hp0 := []) Try.func24 rfl 65 Try.ntmps24 rfl (HRep.nil _) ?_
  refine Sat.seq ?_
  refine Sat.region ?_
  refine Tr.boxA rfl rfl ?_
  intro n4 hn4 hf4
  refine Tr.boxA rfl rfl ?_
  intro n5 hn5 hf5
  refine Tr.boxA rfl rfl ?_
  intro n6 hn6 hf6
  refine Tr.boxA rfl rfl ?_
  intro n7 hn7 hf7
  refine Tr.alloc (cs := Point.zero.cells) rfl Point.zr rfl ?_
  intro n8 hn8 hf8
  refine Tr.nil ?_
  refine at_n ?_
  refine Sat.seq ?_
  refine Sat.seq ?_
  refine Sat.region ?_
  refine Tr.loadAll rfl rfl rfl Try.underlying32 rfl Sz32 mM (Point.length (by first | exact ptc_ok _ | exact wdc_ok _ | exact ⟨fb32 _, fb32 _⟩ | exact ⟨fb32 _, fb32 _, fb32 _, fb32 _⟩ | assumption | (simp [fb_length, ha, hb]; done) | exact Point.zero_ok | exact wide.zero_ok )) ?_
  refine Tr.callV rfl rfl rfl rfl Body55 (curve_Check_on P hP) (fun _ _ => trivial) ?_
  refine Tr.nei rfl rfl rfl rfl (show (!decide _) = false from congrArg not (decide_eq_true (rfl))) ?_
  refine Tr.move rfl rfl rfl ?_
  refine Tr.loadAll rfl rfl rfl Try.underlying32 rfl Sz32 mM (Point.length (by first | exact ptc_ok _ | exact wdc_ok _ | exact ⟨fb32 _, fb32 _⟩ | exact ⟨fb32 _, fb32 _, fb32 _, fb32 _⟩ | assumption | (simp [fb_length, ha, hb]; done) | exact Point.zero_ok | exact wide.zero_ok )) ?_
  refine Tr.callV rfl rfl rfl rfl Body55 (curve_Check_on Q hQ) (fun _ _ => trivial) ?_
  refine Tr.nei rfl rfl rfl rfl (show (!decide _) = false from congrArg not (decide_eq_true (rfl))) ?_
  refine Tr.pick rfl rfl rfl rfl rfl rfl ?_
  refine Tr.nil ?_
  refine at_n ?_
  refine Sat.cond_f rfl rfl ?_
  refine Sat.skip ?_
  refine at_n ?_
  refine Sat.seq ?_
  refine Sat.region ?_
  refine Tr.callV rfl rfl rfl rfl Body51 (curve_D) (fun _ _ => trivial) ?_
  refine Tr.callV rfl rfl rfl rfl Body51 (curve_D) (fun _ _ => trivial) ?_
  refine Tr.callV rfl rfl rfl rfl Body50 (f_add _ _) (fun _ _ => trivial) ?_
  refine Tr.alloc (cs := (bytesV (List.replicate 32 0))) rfl Zr30 rfl ?_
  intro n9 hn9 hf9
  first
    | refine Tr.storeAll rfl rfl rfl rfl cB Sz30 (by first | (simp [fb_length, ha, hb]; done) | assumption | (rw [bytesV, List.length_map]; assumption)) mM (by first | (simp [fb_length, ha, hb]; done) | assumption | (rw [bytesV, List.length_map]; assumption)) uU ?_
    | refine Tr.storeN _ rfl rfl rfl rfl rfl cB Sz30 (by first | (simp [fb_length, ha, hb]; done) | assumption | (rw [bytesV, List.length_map]; assumption)) mM (by first | (simp [fb_length, ha, hb]; done) | assumption | (rw [bytesV, List.length_map]; assumption)) (by exact rfl) uU ?_
  refine Tr.nil ?_
  refine at_n ?_
  refine Sat.seq ?_
  refine Sat.draw [(1, 0), (1, 2), (1, 4), (3, 1), (3, 3), (3, 5), (3, 6), (3, 7), (2, 8), (2, 9), (2, 10), (2, 11), (4, 12), (4, 13), (4, 14), (4, 15)] Mixed (by kernel_rfl) ?_
  refine Tr.loadAll rfl rfl rfl Try.underlying32 rfl Sz32 mM (Point.length (by first | exact ptc_ok _ | exact wdc_ok _ | exact ⟨fb32 _, fb32 _⟩ | exact ⟨fb32 _, fb32 _, fb32 _, fb32 _⟩ | assumption | (simp [fb_length, ha, hb]; done) | exact Point.zero_ok | exact wide.zero_ok )) ?_
  refine Tr.loadAll rfl rfl rfl Try.underlying32 rfl Sz32 mM (Point.length (by first | exact ptc_ok _ | exact wdc_ok _ | exact ⟨fb32 _, fb32 _⟩ | exact ⟨fb32 _, fb32 _, fb32 _, fb32 _⟩ | assumption | (simp [fb_length, ha, hb]; done) | exact Point.zero_ok | exact wide.zero_ok )) ?_
  refine Tr.loadAll rfl rfl rfl Try.underlying32 rfl Sz32 mM (Point.length (by first | exact ptc_ok _ | exact wdc_ok _ | exact ⟨fb32 _, fb32 _⟩ | exact ⟨fb32 _, fb32 _, fb32 _, fb32 _⟩ | assumption | (simp [fb_length, ha, hb]; done) | exact Point.zero_ok | exact wide.zero_ok )) ?_
  refine Tr.callV rfl rfl rfl rfl Body57 (curve_widen P) (fun _ _ => trivial) ?_
  refine Tr.callV rfl rfl rfl rfl Body57 (curve_widen Q) (fun _ _ => trivial) ?_
  refine Tr.callV rfl rfl rfl rfl Body57 (curve_widen P) (fun _ _ => trivial) ?_
  refine Tr.callV rfl rfl rfl rfl Body56 (curve_Zero) (fun _ _ => trivial) ?_
  refine Tr.callV rfl rfl rfl rfl Body57 (curve_widen (zero : Pt Fp)) (fun _ _ => trivial) ?_
  refine Tr.alloc (cs := wide.zero.cells) rfl wide.zr rfl ?_
  intro n10 hn10 hf10
  refine Tr.alloc (cs := wide.zero.cells) rfl wide.zr rfl ?_
  intro n11 hn11 hf11
  refine Tr.alloc (cs := wide.zero.cells) rfl wide.zr rfl ?_
  intro n12 hn12 hf12
  refine Tr.alloc (cs := wide.zero.cells) rfl wide.zr rfl ?_
  intro n13 hn13 hf13
  refine Tr.storeAll rfl rfl rfl rfl (wide.isCell (by first | exact ptc_ok _ | exact wdc_ok _ | exact ⟨fb32 _, fb32 _⟩ | exact ⟨fb32 _, fb32 _, fb32 _, fb32 _⟩ | assumption | (simp [fb_length, ha, hb]; done) | exact Point.zero_ok | exact wide.zero_ok )) Sz81 (wide.length (by first | exact ptc_ok _ | exact wdc_ok _ | exact ⟨fb32 _, fb32 _⟩ | exact ⟨fb32 _, fb32 _, fb32 _, fb32 _⟩ | assumption | (simp [fb_length, ha, hb]; done) | exact Point.zero_ok | exact wide.zero_ok )) mM (wide.length (by first | exact ptc_ok _ | exact wdc_ok _ | exact ⟨fb32 _, fb32 _⟩ | exact ⟨fb32 _, fb32 _, fb32 _, fb32 _⟩ | assumption | (simp [fb_length, ha, hb]; done) | exact Point.zero_ok | exact wide.zero_ok )) uU ?_
  refine Tr.storeAll rfl rfl rfl rfl (wide.isCell (by first | exact ptc_ok _ | exact wdc_ok _ | exact ⟨fb32 _, fb32 _⟩ | exact ⟨fb32 _, fb32 _, fb32 _, fb32 _⟩ | assumption | (simp [fb_length, ha, hb]; done) | exact Point.zero_ok | exact wide.zero_ok )) Sz81 (wide.length (by first | exact ptc_ok _ | exact wdc_ok _ | exact ⟨fb32 _, fb32 _⟩ | exact ⟨fb32 _, fb32 _, fb32 _, fb32 _⟩ | assumption | (simp [fb_length, ha, hb]; done) | exact Point.zero_ok | exact wide.zero_ok )) mM (wide.length (by first | exact ptc_ok _ | exact wdc_ok _ | exact ⟨fb32 _, fb32 _⟩ | exact ⟨fb32 _, fb32 _, fb32 _, fb32 _⟩ | assumption | (simp [fb_length, ha, hb]; done) | exact Point.zero_ok | exact wide.zero_ok )) uU ?_
  refine Tr.storeAll rfl rfl rfl rfl (wide.isCell (by first | exact ptc_ok _ | exact wdc_ok _ | exact ⟨fb32 _, fb32 _⟩ | exact ⟨fb32 _, fb32 _, fb32 _, fb32 _⟩ | assumption | (simp [fb_length, ha, hb]; done) | exact Point.zero_ok | exact wide.zero_ok )) Sz81 (wide.length (by first | exact ptc_ok _ | exact wdc_ok _ | exact ⟨fb32 _, fb32 _⟩ | exact ⟨fb32 _, fb32 _, fb32 _, fb32 _⟩ | assumption | (simp [fb_length, ha, hb]; done) | exact Point.zero_ok | exact wide.zero_ok )) mM (wide.length (by first | exact ptc_ok _ | exact wdc_ok _ | exact ⟨fb32 _, fb32 _⟩ | exact ⟨fb32 _, fb32 _, fb32 _, fb32 _⟩ | assumption | (simp [fb_length, ha, hb]; done) | exact Point.zero_ok | exact wide.zero_ok )) uU ?_
  refine Tr.storeAll rfl rfl rfl rfl (wide.isCell (by first | exact ptc_ok _ | exact wdc_ok _ | exact ⟨fb32 _, fb32 _⟩ | exact ⟨fb32 _, fb32 _, fb32 _, fb32 _⟩ | assumption | (simp [fb_length, ha, hb]; done) | exact Point.zero_ok | exact wide.zero_ok )) Sz81 (wide.length (by first | exact ptc_ok _ | exact wdc_ok _ | exact ⟨fb32 _, fb32 _⟩ | exact ⟨fb32 _, fb32 _, fb32 _, fb32 _⟩ | assumption | (simp [fb_length, ha, hb]; done) | exact Point.zero_ok | exact wide.zero_ok )) mM (wide.length (by first | exact ptc_ok _ | exact wdc_ok _ | exact ⟨fb32 _, fb32 _⟩ | exact ⟨fb32 _, fb32 _, fb32 _, fb32 _⟩ | assumption | (simp [fb_length, ha, hb]; done) | exact Point.zero_ok | exact wide.zero_ok )) uU ?_
  refine Tr.nil ?_
  refine at_n ?_
  refine Sat.seq ?_
  refine Sat.region ?_
  first
    | refine Tr.loadAll rfl rfl rfl Try.underlying30 rfl Sz30 mM (by first | (simp [fb_length, ha, hb]; done) | assumption | (rw [bytesV, List.length_map]; assumption)) ?_
    | refine Tr.loadN _ rfl rfl rfl Try.underlying30 rfl Sz30 mM (by exact rfl) (by first | (simp [fb_length, ha, hb]; done) | assumption | (rw [bytesV, List.length_map]; assumption)) ?_
  refine Tr.callL (L := [⟨n12, (wdc (Wd.of P)).cells, 81, 128⟩]) rfl rfl rfl rfl rfl Body58 (wide_addD n12 n11 (Wd.of P) (Wd.of Q)) (pm_cons rM pm_nil) (lent_ok rfl) (fun w h => ⟨own_blk h mM, sees_own h mM, own_ne (b1 := ⟨n12, (wdc (Wd.of P)).cells, 81, 128⟩) (b2 := ⟨n11, (wdc (Wd.of Q)).cells, 81, 128⟩) h (pm_cons rM (pm_cons rM pm_nil))⟩) ?_
  rintro v36 out36 rfl
  simp only [List.cons_append, List.nil_append]
  refine Tr.nil ?_
  refine at_n ?_
  refine Sat.seq ?_
  refine Sat.seq ?_
  refine Sat.region ?_
  refine Tr.assign rfl rfl rfl ?_
  refine Tr.nil ?_
  refine at_n ?_
  refine Sat.block ?_
  refine Sat.loop (ι := Nat × Wd Fp) (fun p => ⟨[(4, ptr n4 0), (6, ptr n6 0), (8, ptr n8 0), (9, ptr n9 0), (10, ptr n10 0), (11, ptr n11 0), (12, ptr n12 0), (13, ptr n13 0), (14, i64 (255 - (p.1 : Int)))], [⟨n13, (wdc p.2).cells, 81, 128⟩, ⟨n12, (wdc (Wd.add fD (Wd.of P) (Wd.of Q))).cells, 81, 128⟩, ⟨n11, (wdc (Wd.of Q)).cells, 81, 128⟩, ⟨n10, (wdc (Wd.of P)).cells, 81, 128⟩, ⟨n9, bytesV (fb (fD + fD)), 30, 32⟩, ⟨n8, Point.zero.cells, 32, 64⟩, ⟨n6, bytesV b, 30, (bytesV b).length⟩, ⟨n4, bytesV a, 30, (bytesV a).length⟩]⟩) (fun p => p.1 ≤ 256 ∧ p.2.rep (cv.lin (le a / 2 ^ (256 - p.1)) (le b / 2 ^ (256 - p.1)) P Q)) (fun p => 256 - p.1) ((0, Wd.of zero)) ?_ ?_ ?_
  · exact ⟨Nat.zero_le _, lin_first a b ha hb P Q⟩
  · exact weak_perm (wk1 rfl (wk1 rfl (wk1 rfl (wk1 rfl (wk1 rfl (wk1 rfl (wk1 rfl (wk1 rfl (wk1 rfl wk0))))))))) (pm_cons rM (pm_cons rM (pm_cons rM (pm_cons rM (pm_cons rM (pm_cons rM (pm_cons rM (pm_cons rM pm_nil))))))))
  ·
    rintro p ⟨hj1, hw⟩
    refine Sat.seq ?_
    refine Sat.seq ?_
    refine Sat.region ?_
    refine Tr.move rfl rfl rfl ?_
    refine Tr.geq rfl rfl rfl rfl rfl ?_
    refine Tr.nil ?_
    refine at_n ?_
    first
      | refine Sat.condP rfl (fun hc1 => ?_) (fun hc1 => ?_)
      | refine Sat.condNP rfl (fun hc1 => ?_) (fun hc1 => ?_)
      | refine Sat.cond rfl (fun hc1 => ?_) (fun hc1 => ?_)
    ·
      have hj : p.1 < 256 := by omega
      refine Sat.skip ?_
      refine at_n ?_
      refine Sat.join (ι := Wd Fp) (fun u => ⟨[(4, ptr n4 0), (6, ptr n6 0), (8, ptr n8 0), (9, ptr n9 0), (10, ptr n10 0), (11, ptr n11 0), (12, ptr n12 0), (13, ptr n13 0), (14, i64 (((255 - p.1 : Nat) : Int)))], [⟨n13, (wdc u).cells, 81, 128⟩, ⟨n12, (wdc (Wd.add fD (Wd.of P) (Wd.of Q))).cells, 81, 128⟩, ⟨n11, (wdc (Wd.of Q)).cells, 81, 128⟩, ⟨n10, (wdc (Wd.of P)).cells, 81, 128⟩, ⟨n9, bytesV (fb (fD + fD)), 30, 32⟩, ⟨n8, Point.zero.cells, 32, 64⟩, ⟨n6, bytesV b, 30, (bytesV b).length⟩, ⟨n4, bytesV a, 30, (bytesV a).length⟩]⟩) (fun u => u.rep (cv.lin (le a / 2 ^ (256 - (p.1 + 1))) (le b / 2 ^ (256 - (p.1 + 1))) P Q)) ?_ ?_
      ·
        refine Sat.block ?_
        refine Sat.seq ?_
        refine Sat.region ?_
        refine Tr.callL (L := [⟨n13, (wdc p.2).cells, 81, 128⟩]) rfl rfl rfl rfl rfl Body59 (wide_double n13 p.2) (pm_cons rM pm_nil) (lent_ok rfl) (fun w h => own_blk h mM) ?_
        rintro v41 out41 rfl
        simp only [List.cons_append, List.nil_append]
        rw [show (255 : Int) - (p.1 : Int) = ((255 - p.1 : Nat) : Int) by omega]
        refine Tr.nil ?_
        refine at_n ?_
        refine Sat.seq ?_
        refine Sat.draw [(1, 0), (0, 1), (1, 3), (0, 4), (3, 2), (3, 5), (0, 6)] Mixed (by kernel_rfl) ?_
        first
          | refine Tr.loadAll rfl rfl rfl Try.underlying30 rfl Sz30 mM (by first | (simp [fb_length, ha, hb]; done) | assumption | (rw [bytesV, List.length_map]; assumption)) ?_
          | refine Tr.loadN _ rfl rfl rfl Try.underlying30 rfl Sz30 mM (by exact rfl) (by first | (simp [fb_length, ha, hb]; done) | assumption | (rw [bytesV, List.length_map]; assumption)) ?_
        refine Tr.move rfl rfl rfl ?_
        first
          | refine Tr.loadAll rfl rfl rfl Try.underlying30 rfl Sz30 mM (by first | (simp [fb_length, ha, hb]; done) | assumption | (rw [bytesV, List.length_map]; assumption)) ?_
          | refine Tr.loadN _ rfl rfl rfl Try.underlying30 rfl Sz30 mM (by exact rfl) (by first | (simp [fb_length, ha, hb]; done) | assumption | (rw [bytesV, List.length_map]; assumption)) ?_
        refine Tr.move rfl rfl rfl ?_
        refine Tr.callB rfl rfl rfl rfl Body60 (scalar_bit_at a ha (255 - p.1) oM) (fun _ _ => trivial) (fun hs10_20 => ?_) (fun hs10_20 => ?_)
        ·
          first | have hs10_2 := of_decide_eq_true hs10_20 | have hs10_2 := of_decide_eq_false hs10_20 | have hs10_2 := nd_t hs10_20 | have hs10_2 := nd_f hs10_20 | have hs10_2 := hs10_20
          have hs10_2 := hs10_20
          refine Tr.callB rfl rfl rfl rfl Body60 (scalar_bit_at b hb (255 - p.1) oM) (fun _ _ => trivial) (fun hs10_50 => ?_) (fun hs10_50 => ?_)
          ·
            first | have hs10_5 := of_decide_eq_true hs10_50 | have hs10_5 := of_decide_eq_false hs10_50 | have hs10_5 := nd_t hs10_50 | have hs10_5 := nd_f hs10_50 | have hs10_5 := hs10_50
            have hs10_5 := hs10_50
            refine Tr.build (cs := [.bool true, .bool true]) rfl rfl rfl (fun w => by kernel_rfl) ?_
            refine Tr.nil ?_
            refine at_n ?_
            refine Sat.block ?_
            refine Sat.seq ?_
            refine Sat.region ?_
            refine Tr.build (cs := [.bool true, .bool true]) rfl rfl rfl (fun w => by kernel_rfl) ?_
            refine Tr.eql_rec (q := (true == true && true == true)) (r := true) rfl rfl rfl rfl pair_eg (fun w => pair_eq true true true true w) rfl ?_
            refine Tr.assign rfl rfl rfl ?_
            refine Tr.nil ?_
            refine at_n ?_
            refine Sat.cond_t rfl rfl ?_
            refine Sat.region ?_
            first
              | refine Tr.loadAll rfl rfl rfl Try.underlying30 rfl Sz30 mM (by first | (simp [fb_length, ha, hb]; done) | assumption | (rw [bytesV, List.length_map]; assumption)) ?_
              | refine Tr.loadN _ rfl rfl rfl Try.underlying30 rfl Sz30 mM (by exact rfl) (by first | (simp [fb_length, ha, hb]; done) | assumption | (rw [bytesV, List.length_map]; assumption)) ?_
            refine Tr.callL (L := [⟨n13, (wdc (Wd.dbl p.2)).cells, 81, 128⟩]) rfl rfl rfl rfl rfl Body58 (wide_addD n13 n12 (Wd.dbl p.2) (Wd.add fD (Wd.of P) (Wd.of Q))) (pm_cons rM pm_nil) (lent_ok rfl) (fun w h => ⟨own_blk h mM, sees_own h mM, own_ne (b1 := ⟨n13, (wdc (Wd.dbl p.2)).cells, 81, 128⟩) (b2 := ⟨n12, (wdc (Wd.add fD (Wd.of P) (Wd.of Q))).cells, 81, 128⟩) h (pm_cons rM (pm_cons rM pm_nil))⟩) ?_
            rintro v53 out53 rfl
            simp only [List.cons_append, List.nil_append]
            refine Tr.nil ?_
            refine bl_n ?_
            refine bl_n ?_
            refine at_n ?_
            first
              | (exact ⟨Wd.add fD (Wd.dbl p.2) (Wd.add fD (Wd.of P) (Wd.of Q)), (by rw [lin_tt hj hP hQ hs10_2 hs10_5]; exact cv.rep_add (cv.rep_dbl hw (cv.on_lin hP hQ _ _)) (cv.rep_add (cv.rep_of P) (cv.rep_of Q) hP hQ) (cv.on_add (cv.on_lin hP hQ _ _) (cv.on_lin hP hQ _ _)) (cv.on_add hP hQ)), weak_perm (wk1 rfl (wk1 rfl (wk1 rfl (wk1 rfl (wk1 rfl (wk1 rfl (wk1 rfl (wk1 rfl (wk1 rfl wk0))))))))) (pm_cons rM (pm_cons rM (pm_cons rM (pm_cons rM (pm_cons rM (pm_cons rM (pm_cons rM (pm_cons rM pm_nil))))))))⟩)
              | (exact ⟨Wd.add fD (Wd.dbl p.2) (Wd.of P), (by rw [lin_tf hj hP hQ hs10_2 hs10_5]; exact cv.rep_add (cv.rep_dbl hw (cv.on_lin hP hQ _ _)) (cv.rep_of P) (cv.on_add (cv.on_lin hP hQ _ _) (cv.on_lin hP hQ _ _)) hP), weak_perm (wk1 rfl (wk1 rfl (wk1 rfl (wk1 rfl (wk1 rfl (wk1 rfl (wk1 rfl (wk1 rfl (wk1 rfl wk0))))))))) (pm_cons rM (pm_cons rM (pm_cons rM (pm_cons rM (pm_cons rM (pm_cons rM (pm_cons rM (pm_cons rM pm_nil))))))))⟩)
              | (exact ⟨Wd.add fD (Wd.dbl p.2) (Wd.of Q), (by rw [lin_ft hj hP hQ hs10_2 hs10_5]; exact cv.rep_add (cv.rep_dbl hw (cv.on_lin hP hQ _ _)) (cv.rep_of Q) (cv.on_add (cv.on_lin hP hQ _ _) (cv.on_lin hP hQ _ _)) hQ), weak_perm (wk1 rfl (wk1 rfl (wk1 rfl (wk1 rfl (wk1 rfl (wk1 rfl (wk1 rfl (wk1 rfl (wk1 rfl wk0))))))))) (pm_cons rM (pm_cons rM (pm_cons rM (pm_cons rM (pm_cons rM (pm_cons rM (pm_cons rM (pm_cons rM pm_nil))))))))⟩)
              | (exact ⟨Wd.dbl p.2, (by rw [lin_ff hj hP hQ hs10_2 hs10_5]; exact (cv.rep_dbl hw (cv.on_lin hP hQ _ _))), weak_perm (wk1 rfl (wk1 rfl (wk1 rfl (wk1 rfl (wk1 rfl (wk1 rfl (wk1 rfl (wk1 rfl (wk1 rfl wk0))))))))) (pm_cons rM (pm_cons rM (pm_cons rM (pm_cons rM (pm_cons rM (pm_cons rM (pm_cons rM (pm_cons rM pm_nil))))))))⟩)
          ·
            first | have hs10_5 := of_decide_eq_true hs10_50 | have hs10_5 := of_decide_eq_false hs10_50 | have hs10_5 := nd_t hs10_50 | have hs10_5 := nd_f hs10_50 | have hs10_5 := hs10_50
            have hs10_5 := hs10_50
            refine Tr.build (cs := [.bool true, .bool false]) rfl rfl rfl (fun w => by kernel_rfl) ?_
            refine Tr.nil ?_
            refine at_n ?_
            refine Sat.block ?_
            refine Sat.seq ?_
            refine Sat.region ?_
            refine Tr.build (cs := [.bool true, .bool true]) rfl rfl rfl (fun w => by kernel_rfl) ?_
            refine Tr.eql_rec (q := (true == true && false == true)) (r := false) rfl rfl rfl rfl pair_eg (fun w => pair_eq true false true true w) rfl ?_
            refine Tr.assign rfl rfl rfl ?_
            refine Tr.nil ?_
            refine at_n ?_
            refine Sat.cond_f rfl rfl ?_
            refine Sat.seq ?_
            refine Sat.region ?_
            refine Tr.build (cs := [.bool true, .bool false]) rfl rfl rfl (fun w => by kernel_rfl) ?_
            refine Tr.eql_rec (q := (true == true && false == false)) (r := true) rfl rfl rfl rfl pair_eg (fun w => pair_eq true false true false w) rfl ?_
            refine Tr.assign rfl rfl rfl ?_
            refine Tr.nil ?_
            refine at_n ?_
            refine Sat.cond_t rfl rfl ?_
            refine Sat.region ?_
            first
              | refine Tr.loadAll rfl rfl rfl Try.underlying30 rfl Sz30 mM (by first | (simp [fb_length, ha, hb]; done) | assumption | (rw [bytesV, List.length_map]; assumption)) ?_
              | refine Tr.loadN _ rfl rfl rfl Try.underlying30 rfl Sz30 mM (by exact rfl) (by first | (simp [fb_length, ha, hb]; done) | assumption | (rw [bytesV, List.length_map]; assumption)) ?_
            refine Tr.callL (L := [⟨n13, (wdc (Wd.dbl p.2)).cells, 81, 128⟩]) rfl rfl rfl rfl rfl Body58 (wide_addD n13 n10 (Wd.dbl p.2) (Wd.of P)) (pm_cons rM pm_nil) (lent_ok rfl) (fun w h => ⟨own_blk h mM, sees_own h mM, own_ne (b1 := ⟨n13, (wdc (Wd.dbl p.2)).cells, 81, 128⟩) (b2 := ⟨n10, (wdc (Wd.of P)).cells, 81, 128⟩) h (pm_cons rM (pm_cons rM pm_nil))⟩) ?_
            rintro v58 out58 rfl
            simp only [List.cons_append, List.nil_append]
            refine Tr.nil ?_
            refine bl_n ?_
            refine bl_n ?_
            refine at_n ?_
            first
              | (exact ⟨Wd.add fD (Wd.dbl p.2) (Wd.add fD (Wd.of P) (Wd.of Q)), (by rw [lin_tt hj hP hQ hs10_2 hs10_5]; exact cv.rep_add (cv.rep_dbl hw (cv.on_lin hP hQ _ _)) (cv.rep_add (cv.rep_of P) (cv.rep_of Q) hP hQ) (cv.on_add (cv.on_lin hP hQ _ _) (cv.on_lin hP hQ _ _)) (cv.on_add hP hQ)), weak_perm (wk1 rfl (wk1 rfl (wk1 rfl (wk1 rfl (wk1 rfl (wk1 rfl (wk1 rfl (wk1 rfl (wk1 rfl wk0))))))))) (pm_cons rM (pm_cons rM (pm_cons rM (pm_cons rM (pm_cons rM (pm_cons rM (pm_cons rM (pm_cons rM pm_nil))))))))⟩)
              | (exact ⟨Wd.add fD (Wd.dbl p.2) (Wd.of P), (by rw [lin_tf hj hP hQ hs10_2 hs10_5]; exact cv.rep_add (cv.rep_dbl hw (cv.on_lin hP hQ _ _)) (cv.rep_of P) (cv.on_add (cv.on_lin hP hQ _ _) (cv.on_lin hP hQ _ _)) hP), weak_perm (wk1 rfl (wk1 rfl (wk1 rfl (wk1 rfl (wk1 rfl (wk1 rfl (wk1 rfl (wk1 rfl (wk1 rfl wk0))))))))) (pm_cons rM (pm_cons rM (pm_cons rM (pm_cons rM (pm_cons rM (pm_cons rM (pm_cons rM (pm_cons rM pm_nil))))))))⟩)
              | (exact ⟨Wd.add fD (Wd.dbl p.2) (Wd.of Q), (by rw [lin_ft hj hP hQ hs10_2 hs10_5]; exact cv.rep_add (cv.rep_dbl hw (cv.on_lin hP hQ _ _)) (cv.rep_of Q) (cv.on_add (cv.on_lin hP hQ _ _) (cv.on_lin hP hQ _ _)) hQ), weak_perm (wk1 rfl (wk1 rfl (wk1 rfl (wk1 rfl (wk1 rfl (wk1 rfl (wk1 rfl (wk1 rfl (wk1 rfl wk0))))))))) (pm_cons rM (pm_cons rM (pm_cons rM (pm_cons rM (pm_cons rM (pm_cons rM (pm_cons rM (pm_cons rM pm_nil))))))))⟩)
              | (exact ⟨Wd.dbl p.2, (by rw [lin_ff hj hP hQ hs10_2 hs10_5]; exact (cv.rep_dbl hw (cv.on_lin hP hQ _ _))), weak_perm (wk1 rfl (wk1 rfl (wk1 rfl (wk1 rfl (wk1 rfl (wk1 rfl (wk1 rfl (wk1 rfl (wk1 rfl wk0))))))))) (pm_cons rM (pm_cons rM (pm_cons rM (pm_cons rM (pm_cons rM (pm_cons rM (pm_cons rM (pm_cons rM pm_nil))))))))⟩)
        ·
          first | have hs10_2 := of_decide_eq_true hs10_20 | have hs10_2 := of_decide_eq_false hs10_20 | have hs10_2 := nd_t hs10_20 | have hs10_2 := nd_f hs10_20 | have hs10_2 := hs10_20
          have hs10_2 := hs10_20
          refine Tr.callB rfl rfl rfl rfl Body60 (scalar_bit_at b hb (255 - p.1) oM) (fun _ _ => trivial) (fun hs10_50 => ?_) (fun hs10_50 => ?_)
          ·
            first | have hs10_5 := of_decide_eq_true hs10_50 | have hs10_5 := of_decide_eq_false hs10_50 | have hs10_5 := nd_t hs10_50 | have hs10_5 := nd_f hs10_50 | have hs10_5 := hs10_50
            have hs10_5 := hs10_50
            refine Tr.build (cs := [.bool false, .bool true]) rfl rfl rfl (fun w => by kernel_rfl) ?_
            refine Tr.nil ?_
            refine at_n ?_
            refine Sat.block ?_
            refine Sat.seq ?_
            refine Sat.region ?_
            refine Tr.build (cs := [.bool true, .bool true]) rfl rfl rfl (fun w => by kernel_rfl) ?_
            refine Tr.eql_rec (q := (false == true && true == true)) (r := false) rfl rfl rfl rfl pair_eg (fun w => pair_eq false true true true w) rfl ?_
            refine Tr.assign rfl rfl rfl ?_
            refine Tr.nil ?_
            refine at_n ?_
            refine Sat.cond_f rfl rfl ?_
            refine Sat.seq ?_
            refine Sat.region ?_
            refine Tr.build (cs := [.bool true, .bool false]) rfl rfl rfl (fun w => by kernel_rfl) ?_
            refine Tr.eql_rec (q := (false == true && true == false)) (r := false) rfl rfl rfl rfl pair_eg (fun w => pair_eq false true true false w) rfl ?_
            refine Tr.assign rfl rfl rfl ?_
            refine Tr.nil ?_
            refine at_n ?_
            refine Sat.cond_f rfl rfl ?_
            refine Sat.seq ?_
            refine Sat.region ?_
            refine Tr.build (cs := [.bool false, .bool true]) rfl rfl rfl (fun w => by kernel_rfl) ?_
            refine Tr.eql_rec (q := (false == false && true == true)) (r := true) rfl rfl rfl rfl pair_eg (fun w => pair_eq false true false true w) rfl ?_
            refine Tr.assign rfl rfl rfl ?_
            refine Tr.nil ?_
            refine at_n ?_
            refine Sat.cond_t rfl rfl ?_
            refine Sat.region ?_
            first
              | refine Tr.loadAll rfl rfl rfl Try.underlying30 rfl Sz30 mM (by first | (simp [fb_length, ha, hb]; done) | assumption | (rw [bytesV, List.length_map]; assumption)) ?_
              | refine Tr.loadN _ rfl rfl rfl Try.underlying30 rfl Sz30 mM (by exact rfl) (by first | (simp [fb_length, ha, hb]; done) | assumption | (rw [bytesV, List.length_map]; assumption)) ?_
            refine Tr.callL (L := [⟨n13, (wdc (Wd.dbl p.2)).cells, 81, 128⟩]) rfl rfl rfl rfl rfl Body58 (wide_addD n13 n11 (Wd.dbl p.2) (Wd.of Q)) (pm_cons rM pm_nil) (lent_ok rfl) (fun w h => ⟨own_blk h mM, sees_own h mM, own_ne (b1 := ⟨n13, (wdc (Wd.dbl p.2)).cells, 81, 128⟩) (b2 := ⟨n11, (wdc (Wd.of Q)).cells, 81, 128⟩) h (pm_cons rM (pm_cons rM pm_nil))⟩) ?_
            rintro v63 out63 rfl
            simp only [List.cons_append, List.nil_append]
            refine Tr.nil ?_
            refine bl_n ?_
            refine bl_n ?_
            refine at_n ?_
            first
              | (exact ⟨Wd.add fD (Wd.dbl p.2) (Wd.add fD (Wd.of P) (Wd.of Q)), (by rw [lin_tt hj hP hQ hs10_2 hs10_5]; exact cv.rep_add (cv.rep_dbl hw (cv.on_lin hP hQ _ _)) (cv.rep_add (cv.rep_of P) (cv.rep_of Q) hP hQ) (cv.on_add (cv.on_lin hP hQ _ _) (cv.on_lin hP hQ _ _)) (cv.on_add hP hQ)), weak_perm (wk1 rfl (wk1 rfl (wk1 rfl (wk1 rfl (wk1 rfl (wk1 rfl (wk1 rfl (wk1 rfl (wk1 rfl wk0))))))))) (pm_cons rM (pm_cons rM (pm_cons rM (pm_cons rM (pm_cons rM (pm_cons rM (pm_cons rM (pm_cons rM pm_nil))))))))⟩)
              | (exact ⟨Wd.add fD (Wd.dbl p.2) (Wd.of P), (by rw [lin_tf hj hP hQ hs10_2 hs10_5]; exact cv.rep_add (cv.rep_dbl hw (cv.on_lin hP hQ _ _)) (cv.rep_of P) (cv.on_add (cv.on_lin hP hQ _ _) (cv.on_lin hP hQ _ _)) hP), weak_perm (wk1 rfl (wk1 rfl (wk1 rfl (wk1 rfl (wk1 rfl (wk1 rfl (wk1 rfl (wk1 rfl (wk1 rfl wk0))))))))) (pm_cons rM (pm_cons rM (pm_cons rM (pm_cons rM (pm_cons rM (pm_cons rM (pm_cons rM (pm_cons rM pm_nil))))))))⟩)
              | (exact ⟨Wd.add fD (Wd.dbl p.2) (Wd.of Q), (by rw [lin_ft hj hP hQ hs10_2 hs10_5]; exact cv.rep_add (cv.rep_dbl hw (cv.on_lin hP hQ _ _)) (cv.rep_of Q) (cv.on_add (cv.on_lin hP hQ _ _) (cv.on_lin hP hQ _ _)) hQ), weak_perm (wk1 rfl (wk1 rfl (wk1 rfl (wk1 rfl (wk1 rfl (wk1 rfl (wk1 rfl (wk1 rfl (wk1 rfl wk0))))))))) (pm_cons rM (pm_cons rM (pm_cons rM (pm_cons rM (pm_cons rM (pm_cons rM (pm_cons rM (pm_cons rM pm_nil))))))))⟩)
              | (exact ⟨Wd.dbl p.2, (by rw [lin_ff hj hP hQ hs10_2 hs10_5]; exact (cv.rep_dbl hw (cv.on_lin hP hQ _ _))), weak_perm (wk1 rfl (wk1 rfl (wk1 rfl (wk1 rfl (wk1 rfl (wk1 rfl (wk1 rfl (wk1 rfl (wk1 rfl wk0))))))))) (pm_cons rM (pm_cons rM (pm_cons rM (pm_cons rM (pm_cons rM (pm_cons rM (pm_cons rM (pm_cons rM pm_nil))))))))⟩)
          ·
            first | have hs10_5 := of_decide_eq_true hs10_50 | have hs10_5 := of_decide_eq_false hs10_50 | have hs10_5 := nd_t hs10_50 | have hs10_5 := nd_f hs10_50 | have hs10_5 := hs10_50
            have hs10_5 := hs10_50
            refine Tr.build (cs := [.bool false, .bool false]) rfl rfl rfl (fun w => by kernel_rfl) ?_
            refine Tr.nil ?_
            refine at_n ?_
            refine Sat.block ?_
            refine Sat.seq ?_
            refine Sat.region ?_
            refine Tr.build (cs := [.bool true, .bool true]) rfl rfl rfl (fun w => by kernel_rfl) ?_
            refine Tr.eql_rec (q := (false == true && false == true)) (r := false) rfl rfl rfl rfl pair_eg (fun w => pair_eq false false true true w) rfl ?_
            refine Tr.assign rfl rfl rfl ?_
            refine Tr.nil ?_
            refine at_n ?_
            refine Sat.cond_f rfl rfl ?_
            refine Sat.seq ?_
            refine Sat.region ?_
            refine Tr.build (cs := [.bool true, .bool false]) rfl rfl rfl (fun w => by kernel_rfl) ?_
            refine Tr.eql_rec (q := (false == true && false == false)) (r := false) rfl rfl rfl rfl pair_eg (fun w => pair_eq false false true false w) rfl ?_
            refine Tr.assign rfl rfl rfl ?_
            refine Tr.nil ?_
            refine at_n ?_
            refine Sat.cond_f rfl rfl ?_
            refine Sat.seq ?_
            refine Sat.region ?_
            refine Tr.build (cs := [.bool false, .bool true]) rfl rfl rfl (fun w => by kernel_rfl) ?_
            refine Tr.eql_rec (q := (false == false && false == true)) (r := false) rfl rfl rfl rfl pair_eg (fun w => pair_eq false false false true w) rfl ?_
            refine Tr.assign rfl rfl rfl ?_
            refine Tr.nil ?_
            refine at_n ?_
            refine Sat.cond_f rfl rfl ?_
            refine Sat.skip ?_
            refine bl_n ?_
            refine bl_n ?_
            refine at_n ?_
            first
              | (exact ⟨Wd.add fD (Wd.dbl p.2) (Wd.add fD (Wd.of P) (Wd.of Q)), (by rw [lin_tt hj hP hQ hs10_2 hs10_5]; exact cv.rep_add (cv.rep_dbl hw (cv.on_lin hP hQ _ _)) (cv.rep_add (cv.rep_of P) (cv.rep_of Q) hP hQ) (cv.on_add (cv.on_lin hP hQ _ _) (cv.on_lin hP hQ _ _)) (cv.on_add hP hQ)), weak_perm (wk1 rfl (wk1 rfl (wk1 rfl (wk1 rfl (wk1 rfl (wk1 rfl (wk1 rfl (wk1 rfl (wk1 rfl wk0))))))))) (pm_cons rM (pm_cons rM (pm_cons rM (pm_cons rM (pm_cons rM (pm_cons rM (pm_cons rM (pm_cons rM pm_nil))))))))⟩)
              | (exact ⟨Wd.add fD (Wd.dbl p.2) (Wd.of P), (by rw [lin_tf hj hP hQ hs10_2 hs10_5]; exact cv.rep_add (cv.rep_dbl hw (cv.on_lin hP hQ _ _)) (cv.rep_of P) (cv.on_add (cv.on_lin hP hQ _ _) (cv.on_lin hP hQ _ _)) hP), weak_perm (wk1 rfl (wk1 rfl (wk1 rfl (wk1 rfl (wk1 rfl (wk1 rfl (wk1 rfl (wk1 rfl (wk1 rfl wk0))))))))) (pm_cons rM (pm_cons rM (pm_cons rM (pm_cons rM (pm_cons rM (pm_cons rM (pm_cons rM (pm_cons rM pm_nil))))))))⟩)
              | (exact ⟨Wd.add fD (Wd.dbl p.2) (Wd.of Q), (by rw [lin_ft hj hP hQ hs10_2 hs10_5]; exact cv.rep_add (cv.rep_dbl hw (cv.on_lin hP hQ _ _)) (cv.rep_of Q) (cv.on_add (cv.on_lin hP hQ _ _) (cv.on_lin hP hQ _ _)) hQ), weak_perm (wk1 rfl (wk1 rfl (wk1 rfl (wk1 rfl (wk1 rfl (wk1 rfl (wk1 rfl (wk1 rfl (wk1 rfl wk0))))))))) (pm_cons rM (pm_cons rM (pm_cons rM (pm_cons rM (pm_cons rM (pm_cons rM (pm_cons rM (pm_cons rM pm_nil))))))))⟩)
              | (exact ⟨Wd.dbl p.2, (by rw [lin_ff hj hP hQ hs10_2 hs10_5]; exact (cv.rep_dbl hw (cv.on_lin hP hQ _ _))), weak_perm (wk1 rfl (wk1 rfl (wk1 rfl (wk1 rfl (wk1 rfl (wk1 rfl (wk1 rfl (wk1 rfl (wk1 rfl wk0))))))))) (pm_cons rM (pm_cons rM (pm_cons rM (pm_cons rM (pm_cons rM (pm_cons rM (pm_cons rM (pm_cons rM pm_nil))))))))⟩)
      ·
        intro u hj
        have hu := hj
        refine Sat.region ?_
        refine Tr.move rfl rfl rfl ?_
        refine Tr.sub_i64 rfl rfl rfl rfl oM ?_
        refine Tr.assign rfl rfl rfl ?_
        refine Tr.nil ?_
        refine at_n ?_
        exact ⟨(p.1 + 1, u), ⟨by simp only []; omega, hu⟩, by simp only []; omega, weak_perm (wk1 rfl (wk1 rfl (wk1 rfl (wk1 rfl (wk1 rfl (wk1 rfl (wk1 rfl (wk1 rfl (wk1 (congrArg (fun z => some (i64 z)) (show ((255 - p.1 : Nat) : Int) - 1 = 255 - ((p.1 + 1 : Nat) : Int) by omega)) wk0))))))))) (pm_cons rM (pm_cons rM (pm_cons rM (pm_cons rM (pm_cons rM (pm_cons rM (pm_cons rM (pm_cons rM pm_nil))))))))⟩
    ·
      have hje : p.1 = 256 := by omega
      have hfin : p.2.rep (cv.lin (le a) (le b) P Q) := by rw [hje, lin_last] at hw; exact hw
      refine Sat.exit ?_
      refine at_x ?_
      refine at_x ?_
      refine bl_h ?_
      refine at_n ?_
      refine Sat.seq ?_
      refine Sat.region ?_
      refine Tr.callV rfl rfl rfl rfl Body61 (wide_pointR n13 p.2 _ hfin) (fun w h => sees_own h mM) ?_
      refine Tr.storeAll rfl rfl rfl rfl (Point.isCell (by first | exact ptc_ok _ | exact wdc_ok _ | exact ⟨fb32 _, fb32 _⟩ | exact ⟨fb32 _, fb32 _, fb32 _, fb32 _⟩ | assumption | (simp [fb_length, ha, hb]; done) | exact Point.zero_ok | exact wide.zero_ok )) Sz32 (Point.length (by first | exact ptc_ok _ | exact wdc_ok _ | exact ⟨fb32 _, fb32 _⟩ | exact ⟨fb32 _, fb32 _, fb32 _, fb32 _⟩ | assumption | (simp [fb_length, ha, hb]; done) | exact Point.zero_ok | exact wide.zero_ok )) mM (Point.length (by first | exact ptc_ok _ | exact wdc_ok _ | exact ⟨fb32 _, fb32 _⟩ | exact ⟨fb32 _, fb32 _, fb32 _, fb32 _⟩ | assumption | (simp [fb_length, ha, hb]; done) | exact Point.zero_ok | exact wide.zero_ok )) uU ?_
      refine Tr.nil ?_
      refine at_n ?_
      refine Sat.ret ?_
      refine en_r ?_
      refine ⟨_, [], res_cell rfl rfl Try.underlying32 rfl Sz32 mM (by first | (simp [fb_length, ha, hb]; done) | exact Point.length (by first | exact ptc_ok _ | exact wdc_ok _ | exact ⟨fb32 _, fb32 _⟩ | exact ⟨fb32 _, fb32 _, fb32 _, fb32 _⟩ | assumption | (simp [fb_length, ha, hb]; done) | exact Point.zero_ok | exact wide.zero_ok )), sP, sP, ?_, rfl⟩
      rfl

theorem ptc_y (P : Pt Fp) : (ptc P).fY = fb P.y := rfl
theorem le_zero32 : le (List.replicate 32 0) = 0 := by kernel_rfl
theorem curve_Mul2z (a : List UInt8) (P : Pt Fp) (ha : a.length = 32) (hP : cv.on P) : Meets Try.prog 24 [agg (bytesV a), agg (ptc P).cells, agg (bytesV (List.replicate 32 0)), agg (ptc (zero : Pt Fp)).cells] [] (fun _ => True) (fun v out => v = agg (ptc (cv.mul (le a) P)).cells ∧ out = []) := by
  have h := curve_Mul2 a (List.replicate 32 0) P zero ha rfl hP cv.on_zero
  rwa [le_zero32, lin_one] at h

set_option maxRecDepth 100000 in
set_option maxHeartbeats 1000000 in
theorem curve_Mul (a : List UInt8) (P : Pt Fp) (ha : a.length = 32) (hP : cv.on P) : Meets Try.prog 31 [agg (bytesV a), agg (ptc P).cells] [] (fun _ => True) (fun v out => v = agg (ptc (cv.mul (le a) P)).cells ∧ out = []) := by
  intro W hW
  refine calls_of (hp0 := []) Try.func31 rfl 10 Try.ntmps31 rfl (HRep.nil _) ?_
  refine Sat.seq ?_
  refine Sat.region ?_
  refine Tr.boxA rfl rfl ?_
  intro n2 hn2 hf2
  refine Tr.boxA rfl rfl ?_
  intro n3 hn3 hf3
  refine Tr.alloc (cs := Point.zero.cells) rfl Point.zr rfl ?_
  intro n4 hn4 hf4
  refine Tr.nil ?_
  refine at_n ?_
  refine Sat.seq ?_
  refine Sat.draw [(1, 0), (1, 1), (0, 2), (3, 3), (3, 4), (4, 5)] Mixed (by kernel_rfl) ?_
  first
    | refine Tr.loadAll rfl rfl rfl Try.underlying30 rfl Sz30 mM (by first | (simp [fb_length, ha]; done) | assumption | (rw [bytesV, List.length_map]; assumption)) ?_
    | refine Tr.loadN _ rfl rfl rfl Try.underlying30 rfl Sz30 mM (by exact rfl) (by first | (simp [fb_length, ha]; done) | assumption | (rw [bytesV, List.length_map]; assumption)) ?_
  refine Tr.loadAll rfl rfl rfl Try.underlying32 rfl Sz32 mM (Point.length (by first | exact ptc_ok _ | exact wdc_ok _ | exact ⟨fb32 _, fb32 _⟩ | assumption | (simp [fb_length, ha]; done) | exact Point.zero_ok | exact wide.zero_ok )) ?_
  refine Tr.build (cs := bytesV (List.replicate 32 0)) rfl rfl rfl (fun w => by kernel_rfl) ?_
  refine Tr.callV rfl rfl rfl rfl Body56 (curve_Zero) (fun _ _ => trivial) ?_
  refine Tr.callV rfl rfl rfl rfl Body24 (curve_Mul2z a P ha hP) (fun _ _ => trivial) ?_
  refine Tr.storeAll rfl rfl rfl rfl (Point.isCell (by first | exact ptc_ok _ | exact wdc_ok _ | exact ⟨fb32 _, fb32 _⟩ | assumption | (simp [fb_length, ha]; done) | exact Point.zero_ok | exact wide.zero_ok )) Sz32 (Point.length (by first | exact ptc_ok _ | exact wdc_ok _ | exact ⟨fb32 _, fb32 _⟩ | assumption | (simp [fb_length, ha]; done) | exact Point.zero_ok | exact wide.zero_ok )) mM (Point.length (by first | exact ptc_ok _ | exact wdc_ok _ | exact ⟨fb32 _, fb32 _⟩ | assumption | (simp [fb_length, ha]; done) | exact Point.zero_ok | exact wide.zero_ok )) uU ?_
  refine Tr.nil ?_
  refine at_n ?_
  refine Sat.ret ?_
  refine en_r ?_
  refine ⟨_, [], res_cell rfl rfl Try.underlying32 rfl Sz32 mM (by first | (simp [fb_length, ha]; done) | exact Point.length (by first | exact ptc_ok _ | exact wdc_ok _ | exact ⟨fb32 _, fb32 _⟩ | assumption | (simp [fb_length, ha]; done) | exact Point.zero_ok | exact wide.zero_ok )), sP, sP, ?_, rfl⟩
  rfl

set_option maxRecDepth 100000 in
set_option maxHeartbeats 2000000 in
theorem curve_Neg (P : Pt Fp) (hP : cv.on P) : Meets Try.prog 26 [agg (ptc P).cells] [] (fun _ => True) (fun v out => v = agg (ptc (neg P)).cells ∧ out = []) := by
  intro W hW
  refine calls_of (hp0 := []) Try.func26 rfl 13 Try.ntmps26 rfl (HRep.nil _) ?_
  refine Sat.seq ?_
  refine Sat.region ?_
  refine Tr.boxA rfl rfl ?_
  intro n1 hn1 hf1
  refine Tr.alloc (cs := Point.zero.cells) rfl Point.zr rfl ?_
  intro n2 hn2 hf2
  refine Tr.nil ?_
  refine at_n ?_
  refine Sat.seq ?_
  refine Sat.seq ?_
  refine Sat.region ?_
  refine Tr.loadAll rfl rfl rfl Try.underlying32 rfl Sz32 mM (Point.length (by first | exact ptc_ok _ | exact wdc_ok _ | exact ⟨fb32 _, fb32 _⟩ | assumption | (simp [fb_length]; done) | exact Point.zero_ok | exact wide.zero_ok )) ?_
  refine Tr.callV rfl rfl rfl rfl Body55 (curve_Check_on P hP) (fun _ _ => trivial) ?_
  refine Tr.nei rfl rfl rfl rfl (show (!decide _) = false from congrArg not (decide_eq_true (rfl))) ?_
  refine Tr.nil ?_
  refine at_n ?_
  refine Sat.cond_f rfl (rfl) ?_
  refine Sat.skip ?_
  refine at_n ?_
  refine Sat.seq ?_
  refine Sat.draw [(0, 0), (1, 1), (0, 3), (1, 4), (3, 2), (0, 5), (4, 6)] Mixed (by kernel_rfl) ?_
  refine Tr.fld rfl rfl rfl Try.underlying32 rfl Sz30 dE _ rfl ?_
  first
    | refine Tr.loadN (bytesV _) rfl rfl rfl Try.underlying30 rfl Sz30 mM (Point.row_fX (by first | exact ptc_ok _ | exact wdc_ok _ | exact ⟨fb32 _, fb32 _⟩ | assumption | (simp [fb_length]; done) | exact Point.zero_ok | exact wide.zero_ok )) (Point.rl_fX (by first | exact ptc_ok _ | exact wdc_ok _ | exact ⟨fb32 _, fb32 _⟩ | assumption | (simp [fb_length]; done) | exact Point.zero_ok | exact wide.zero_ok )) ?_
  refine Tr.fld rfl rfl rfl Try.underlying32 rfl Sz30 dE _ rfl ?_
  first
    | refine Tr.loadN (bytesV _) rfl rfl rfl Try.underlying30 rfl Sz30 mM (Point.row_fY (by first | exact ptc_ok _ | exact wdc_ok _ | exact ⟨fb32 _, fb32 _⟩ | assumption | (simp [fb_length]; done) | exact Point.zero_ok | exact wide.zero_ok )) (Point.rl_fY (by first | exact ptc_ok _ | exact wdc_ok _ | exact ⟨fb32 _, fb32 _⟩ | assumption | (simp [fb_length]; done) | exact Point.zero_ok | exact wide.zero_ok )) ?_
  refine Tr.callV rfl rfl rfl rfl Body54 (f_neg _) (fun _ _ => trivial) ?_
  refine Tr.build (cs := (ptc (neg P)).cells) rfl rfl rfl (fun w => by kernel_rfl) ?_
  refine Tr.storeAll rfl rfl rfl rfl (Point.isCell (by first | exact ptc_ok _ | exact wdc_ok _ | exact ⟨fb32 _, fb32 _⟩ | assumption | (simp [fb_length]; done) | exact Point.zero_ok | exact wide.zero_ok )) Sz32 (Point.length (by first | exact ptc_ok _ | exact wdc_ok _ | exact ⟨fb32 _, fb32 _⟩ | assumption | (simp [fb_length]; done) | exact Point.zero_ok | exact wide.zero_ok )) mM (Point.length (by first | exact ptc_ok _ | exact wdc_ok _ | exact ⟨fb32 _, fb32 _⟩ | assumption | (simp [fb_length]; done) | exact Point.zero_ok | exact wide.zero_ok )) uU ?_
  refine Tr.nil ?_
  refine at_n ?_
  refine Sat.ret ?_
  refine en_r ?_
  refine ⟨_, [], res_cell rfl rfl Try.underlying32 rfl Sz32 mM (by first | (simp [fb_length]; done) | exact Point.length (by first | exact ptc_ok _ | exact wdc_ok _ | exact ⟨fb32 _, fb32 _⟩ | assumption | (simp [fb_length]; done) | exact Point.zero_ok | exact wide.zero_ok )), sP, sP, ?_, rfl⟩
  rfl

set_option maxRecDepth 100000 in
set_option maxHeartbeats 2000000 in
theorem curve_Bytes (P : Pt Fp) (hP : cv.on P) : Meets Try.prog 30 [agg (ptc P).cells] [] (fun _ => True) (fun v out => v = .tuple #[agg (bytesV (pb P)), i64 0] ∧ out = []) := by
  intro W hW
  refine calls_of (hp0 := []) Try.func30 rfl 22 Try.ntmps30 rfl (HRep.nil _) ?_
  refine Sat.seq ?_
  refine Sat.region ?_
  refine Tr.boxA rfl rfl ?_
  intro n1 hn1 hf1
  refine Tr.alloc (cs := (bytesV (List.replicate 32 0))) rfl Zr22 rfl ?_
  intro n2 hn2 hf2
  refine Tr.assign rfl rfl rfl ?_
  refine Tr.nil ?_
  refine at_n ?_
  refine Sat.seq ?_
  refine Sat.seq ?_
  refine Sat.region ?_
  refine Tr.loadAll rfl rfl rfl Try.underlying32 rfl Sz32 mM (Point.length (by first | exact ptc_ok _ | exact wdc_ok _ | exact ⟨fb32 _, fb32 _⟩ | assumption | (simp [fb_length, pb_length, ptc_y]; done) | exact Point.zero_ok | exact wide.zero_ok )) ?_
  refine Tr.callV rfl rfl rfl rfl Body55 (curve_Check_on P hP) (fun _ _ => trivial) ?_
  refine Tr.assign rfl rfl rfl ?_
  refine Tr.nil ?_
  refine at_n ?_
  refine Sat.seq ?_
  refine Sat.region ?_
  refine Tr.move rfl rfl rfl ?_
  refine Tr.nei rfl rfl rfl rfl (show (!decide _) = false from congrArg not (decide_eq_true (rfl))) ?_
  refine Tr.nil ?_
  refine at_n ?_
  refine Sat.cond_f rfl (rfl) ?_
  refine Sat.skip ?_
  refine at_n ?_
  refine Sat.seq ?_
  refine Sat.region ?_
  refine Tr.fld rfl rfl rfl Try.underlying32 rfl Sz30 dE _ rfl ?_
  first
    | refine Tr.loadN (bytesV _) rfl rfl rfl Try.underlying30 rfl Sz30 mM (Point.row_fY (by first | exact ptc_ok _ | exact wdc_ok _ | exact ⟨fb32 _, fb32 _⟩ | assumption | (simp [fb_length, pb_length, ptc_y]; done) | exact Point.zero_ok | exact wide.zero_ok )) (Point.rl_fY (by first | exact ptc_ok _ | exact wdc_ok _ | exact ⟨fb32 _, fb32 _⟩ | assumption | (simp [fb_length, pb_length, ptc_y]; done) | exact Point.zero_ok | exact wide.zero_ok )) ?_
  refine Tr.alloc (cs := (bytesV (List.replicate 32 0))) rfl Zr22 rfl ?_
  intro n5 hn5 hf5
  first
    | refine Tr.storeAll rfl rfl rfl rfl cB Sz22 (by first | (simp [fb_length, pb_length, ptc_y]; done) | assumption | (rw [bytesV, List.length_map]; assumption)) mM (by first | (simp [fb_length, pb_length, ptc_y]; done) | assumption | (rw [bytesV, List.length_map]; assumption)) uU ?_
    | refine Tr.storeN _ rfl rfl rfl rfl rfl cB Sz22 (by first | (simp [fb_length, pb_length, ptc_y]; done) | assumption | (rw [bytesV, List.length_map]; assumption)) mM (by first | (simp [fb_length, pb_length, ptc_y]; done) | assumption | (rw [bytesV, List.length_map]; assumption)) (by exact rfl) uU ?_
  refine Tr.nil ?_
  refine at_n ?_
  refine Sat.join (ι := Unit) (fun _u => ⟨[(2, ptr n2 0), (5, ptr n5 0)], [⟨n5, bytesV (pb P), 22, 32⟩, ⟨n2, bytesV (List.replicate 32 0), 22, 32⟩]⟩) (fun _u => True) ?_ ?_
  ·
    refine Sat.seq ?_
    refine Sat.region ?_
    refine Tr.fld rfl rfl rfl Try.underlying32 rfl Sz30 dE _ rfl ?_
    first
      | refine Tr.loadN (bytesV _) rfl rfl rfl Try.underlying30 rfl Sz30 mM (Point.row_fX (by first | exact ptc_ok _ | exact wdc_ok _ | exact ⟨fb32 _, fb32 _⟩ | assumption | (simp [fb_length, pb_length, ptc_y]; done) | exact Point.zero_ok | exact wide.zero_ok )) (Point.rl_fX (by first | exact ptc_ok _ | exact wdc_ok _ | exact ⟨fb32 _, fb32 _⟩ | assumption | (simp [fb_length, pb_length, ptc_y]; done) | exact Point.zero_ok | exact wide.zero_ok )) ?_
    refine Tr.callV rfl rfl rfl rfl Body62 (f_odd P.x) (fun _ _ => trivial) ?_
    refine Tr.nil ?_
    refine at_n ?_
    first
      | refine Sat.condP rfl (fun hc1 => ?_) (fun hc1 => ?_)
      | refine Sat.condNP rfl (fun hc1 => ?_) (fun hc1 => ?_)
      | refine Sat.cond rfl (fun hc1 => ?_) (fun hc1 => ?_)
    ·
      refine Sat.region ?_
      first
        | refine Tr.idxArr1 rfl rfl rfl rfl Try.underlying22 Sz5 31 rfl dE ?_
        | refine Tr.idxArrO rfl rfl rfl rfl Try.underlying22 Sz5 31 rfl dE ?_
      refine Tr.load1 rfl rfl rfl Try.underlying5 rfl mM (by first | rfl | exact get_words (by first | omega | (simp [fb_length, pb_length, ptc_y]; done) | (simp [fb_length, pb_length, ptc_y]; omega)) | exact get_bytes (by first | omega | (simp [fb_length, pb_length, ptc_y]; done) | (simp [fb_length, pb_length, ptc_y]; omega)) | exact get_ints (by first | omega | (simp [fb_length, pb_length, ptc_y]; done) | (simp [fb_length, pb_length, ptc_y]; omega))) ?_
      refine Tr.or_u8 rfl rfl rfl (show evIn _ _ = some (u8 128) from rfl) ?_
      first
        | refine Tr.idxArr1 rfl rfl rfl rfl Try.underlying22 Sz5 31 rfl dE ?_
        | refine Tr.idxArrO rfl rfl rfl rfl Try.underlying22 Sz5 31 rfl dE ?_
      refine Tr.store1 rfl rfl rfl rfl rfl Sz5 mM (by first | (simp [fb_length, pb_length, ptc_y]; done) | (simp [fb_length, pb_length, ptc_y]; omega)) sT uU ?_
      refine Tr.nil ?_
      refine at_n ?_
      first
        | (rw [show pb P = (fb P.y).set 31 ((fb P.y).getD 31 0 ||| 128) from if_pos hc1]; exact ⟨(), trivial, weak_of (wk1 rfl (wk1 rfl wk0)) (wh1 mM (wh1 mM wh0)) nD⟩)
        | (rw [show pb P = fb P.y from if_neg hc1]; exact ⟨(), trivial, weak_of (wk1 rfl (wk1 rfl wk0)) (wh1 mM (wh1 mM wh0)) nD⟩)
    ·
      refine Sat.skip ?_
      refine at_n ?_
      first
        | (rw [show pb P = (fb P.y).set 31 ((fb P.y).getD 31 0 ||| 128) from if_pos hc1]; exact ⟨(), trivial, weak_of (wk1 rfl (wk1 rfl wk0)) (wh1 mM (wh1 mM wh0)) nD⟩)
        | (rw [show pb P = fb P.y from if_neg hc1]; exact ⟨(), trivial, weak_of (wk1 rfl (wk1 rfl wk0)) (wh1 mM (wh1 mM wh0)) nD⟩)
  ·
    intro _u hj
    skip
    refine Sat.seq ?_
    refine Sat.region ?_
    first
      | refine Tr.loadAll rfl rfl rfl Try.underlying22 rfl Sz22 mM (by first | (simp [fb_length, pb_length, ptc_y]; done) | assumption | (rw [bytesV, List.length_map]; assumption)) ?_
      | refine Tr.loadN _ rfl rfl rfl Try.underlying22 rfl Sz22 mM (by exact rfl) (by first | (simp [fb_length, pb_length, ptc_y]; done) | assumption | (rw [bytesV, List.length_map]; assumption)) ?_
    first
      | refine Tr.storeAll rfl rfl rfl rfl cB Sz22 (by first | (simp [fb_length, pb_length, ptc_y]; done) | assumption | (rw [bytesV, List.length_map]; assumption)) mM (by first | (simp [fb_length, pb_length, ptc_y]; done) | assumption | (rw [bytesV, List.length_map]; assumption)) uU ?_
      | refine Tr.storeN _ rfl rfl rfl rfl rfl cB Sz22 (by first | (simp [fb_length, pb_length, ptc_y]; done) | assumption | (rw [bytesV, List.length_map]; assumption)) mM (by first | (simp [fb_length, pb_length, ptc_y]; done) | assumption | (rw [bytesV, List.length_map]; assumption)) (by exact rfl) uU ?_
    refine Tr.assign rfl rfl rfl ?_
    refine Tr.nil ?_
    refine at_n ?_
    refine Sat.ret ?_
    refine en_r ?_
    refine ⟨_, [], res_cell_tmp rfl rfl rfl Try.underlying22 rfl Sz22 mM (by simp [fb_length, pb_length, ptc_y]), sP, sP, ?_, rfl⟩
    rfl

def rdV (b : List UInt8) : Value := match rdP b with
  | some P => .tuple #[agg (ptc P).cells, i64 0]
  | none => .tuple #[agg Point.zero.cells, i64 4]
theorem rdV_none {b : List UInt8} (h : rdP b = none) : rdV b = .tuple #[agg Point.zero.cells, i64 4] := by rw [rdV, h]
theorem rdV_some {b : List UInt8} {P : Pt Fp} (h : rdP b = some P) : rdV b = .tuple #[agg (ptc P).cells, i64 0] := by rw [rdV, h]
theorem rd_n1 {b : List UInt8} (h : ¬ fb (fe (le (lowB b))) = lowB b) : rdP b = none := by rw [rdP, if_neg h]
theorem rd_n2 {b : List UInt8} {r : Fp × Bool} (hx : xOf (fe (le (lowB b))) = r) (h : r.2 = false) : rdP b = none := by
  rw [rdP]
  split
  · rw [hx, if_neg (by rw [h]; simp)]
  · rfl
theorem rd_n3 {b : List UInt8} {r : Fp × Bool} (hx : xOf (fe (le (lowB b))) = r) (h1 : topB b = true) (h : fb r.1 = List.replicate 32 0) : rdP b = none := by
  have h2 : r.1 = 0 := fb_inj.1 (h.trans fb_zero.symm)
  rw [rdP]
  split
  · rw [hx, if_neg (fun e => e.2 ⟨h1, h2⟩)]
  · rfl
theorem rd_s1 {b : List UInt8} {r : Fp × Bool} (hc : fb (fe (le (lowB b))) = lowB b) (hx : xOf (fe (le (lowB b))) = r) (h2 : r.2 = true) (h1 : topB b = true) (h : ¬ fb r.1 = List.replicate 32 0) : rdP b = some ⟨-r.1, fe (le (lowB b))⟩ := by
  rw [rdP, if_pos hc, hx, if_pos ⟨h2, fun e => h (by rw [e.2, fb_zero])⟩, if_pos h1]
theorem rd_s2 {b : List UInt8} {r : Fp × Bool} (hc : fb (fe (le (lowB b))) = lowB b) (hx : xOf (fe (le (lowB b))) = r) (h2 : r.2 = true) (h1 : topB b = false) : rdP b = some ⟨r.1, fe (le (lowB b))⟩ := by
  rw [rdP, if_pos hc, hx, if_pos ⟨h2, fun e => by rw [h1] at e; cases e.1⟩, if_neg (by rw [h1]; decide)]
theorem topB_t {b : List UInt8} (h : ¬ ((b.getD 31 0 &&& 128).toNat : Int) = 0) : topB b = true := by rw [topB, decide_eq_false h]; rfl
theorem topB_f {b : List UInt8} (h : ((b.getD 31 0 &&& 128).toNat : Int) = 0) : topB b = false := by rw [topB, decide_eq_true h]; rfl

set_option maxRecDepth 100000 in
set_option maxHeartbeats 8000000 in
theorem curve_Read (b : List UInt8) (hb : b.length = 32) : Meets Try.prog 23 [agg (bytesV b)] [] (fun _ => True) (fun v out => v = rdV b ∧ out = []) := by
  intro W hW
  have hll := lowB_length hb
  obtain ⟨Y, hY⟩ : ∃ Y, fe (le (lowB b)) = Y := ⟨_, rfl⟩
  have hcan := field_Canon (lowB b) hll
  have hmul := field_Mul (lowB b) (lowB b) hll hll
  have hinv := f_inv (fD * (Y * Y) + 1)
  have hxo : xOf Y = fRoot ((Y * Y - 1) * finv (fD * (Y * Y) + 1)) := rfl
  revert hinv hxo
  generalize finv (fD * (Y * Y) + 1) = iz
  intro hinv hxo
  have hroot := field_Root (fb ((Y * Y - 1) * iz)) ((Y * Y - 1) * iz) (fb_length _) (fe_fb _)
  revert hroot hxo
  generalize fRoot ((Y * Y - 1) * iz) = xr
  intro hxo hroot
  rw [← hY] at hxo
  rw [hY] at hcan hmul
  refine calls_of (hp0 := []) Try.func23 rfl 60 Try.ntmps23 rfl (HRep.nil _) ?_
  refine Sat.seq ?_
  refine Sat.region ?_
  refine Tr.boxA rfl rfl ?_
  intro n1 hn1 hf1
  refine Tr.alloc (cs := Point.zero.cells) rfl Point.zr rfl ?_
  intro n2 hn2 hf2
  refine Tr.assign rfl rfl rfl ?_
  refine Tr.nil ?_
  refine at_n ?_
  refine Sat.seq ?_
  refine Sat.region ?_
  first
    | refine Tr.idxArr1 rfl rfl rfl rfl Try.underlying22 Sz5 31 rfl dE ?_
    | refine Tr.idxArrO rfl rfl rfl rfl Try.underlying22 Sz5 31 rfl dE ?_
  refine Tr.load1 rfl rfl rfl Try.underlying5 rfl mM (by first | rfl | exact get_words (by first | omega | (simp [fb_length, hb, hll]; done) | (simp [fb_length, hb, hll]; omega)) | exact get_bytes (by first | omega | (simp [fb_length, hb, hll]; done) | (simp [fb_length, hb, hll]; omega)) | exact get_ints (by first | omega | (simp [fb_length, hb, hll]; done) | (simp [fb_length, hb, hll]; omega))) ?_
  refine Tr.and_u8 rfl rfl rfl (show evIn _ _ = some (u8 128) from rfl) ?_
  refine two (fun r hr k => Tr.nei rfl rfl rfl rfl hr k) (fun hs1_30 => ?_) (fun hs1_30 => ?_)
  ·
    first | have hs1_3 := of_decide_eq_true hs1_30 | have hs1_3 := of_decide_eq_false hs1_30 | have hs1_3 := nd_t hs1_30 | have hs1_3 := nd_f hs1_30 | have hs1_3 := hs1_30
    refine Tr.assign rfl rfl rfl ?_
    refine Tr.nil ?_
    refine at_n ?_
    refine Sat.seq ?_
    refine Sat.region ?_
    first
      | refine Tr.loadAll rfl rfl rfl Try.underlying22 rfl Sz22 mM (by first | (simp [fb_length, hb, hll]; done) | assumption | (rw [bytesV, List.length_map]; assumption)) ?_
      | refine Tr.loadN _ rfl rfl rfl Try.underlying22 rfl Sz22 mM (by exact rfl) (by first | (simp [fb_length, hb, hll]; done) | assumption | (rw [bytesV, List.length_map]; assumption)) ?_
    refine Tr.alloc (cs := (bytesV (List.replicate 32 0))) rfl Zr30 rfl ?_
    intro n5 hn5 hf5
    first
      | refine Tr.storeAll rfl rfl rfl rfl cB Sz30 (by first | (simp [fb_length, hb, hll]; done) | assumption | (rw [bytesV, List.length_map]; assumption)) mM (by first | (simp [fb_length, hb, hll]; done) | assumption | (rw [bytesV, List.length_map]; assumption)) uU ?_
      | refine Tr.storeN _ rfl rfl rfl rfl rfl cB Sz30 (by first | (simp [fb_length, hb, hll]; done) | assumption | (rw [bytesV, List.length_map]; assumption)) mM (by first | (simp [fb_length, hb, hll]; done) | assumption | (rw [bytesV, List.length_map]; assumption)) (by exact rfl) uU ?_
    refine Tr.nil ?_
    refine at_n ?_
    refine Sat.seq ?_
    refine Sat.region ?_
    first
      | refine Tr.idxArr1 rfl rfl rfl rfl Try.underlying30 Sz5 31 rfl dE ?_
      | refine Tr.idxArrO rfl rfl rfl rfl Try.underlying30 Sz5 31 rfl dE ?_
    refine Tr.load1 rfl rfl rfl Try.underlying5 rfl mM (by first | rfl | exact get_words (by first | omega | (simp [fb_length, hb, hll]; done) | (simp [fb_length, hb, hll]; omega)) | exact get_bytes (by first | omega | (simp [fb_length, hb, hll]; done) | (simp [fb_length, hb, hll]; omega)) | exact get_ints (by first | omega | (simp [fb_length, hb, hll]; done) | (simp [fb_length, hb, hll]; omega))) ?_
    refine Tr.and_u8 rfl rfl rfl (show evIn _ _ = some (u8 127) from rfl) ?_
    first
      | refine Tr.idxArr1 rfl rfl rfl rfl Try.underlying30 Sz5 31 rfl dE ?_
      | refine Tr.idxArrO rfl rfl rfl rfl Try.underlying30 Sz5 31 rfl dE ?_
    refine Tr.store1 rfl rfl rfl rfl rfl Sz5 mM (by first | (simp [fb_length, hb, hll]; done) | (simp [fb_length, hb, hll]; omega)) sT uU ?_
    refine Tr.nil ?_
    refine at_n ?_
    refine Sat.seq ?_
    refine Sat.seq ?_
    refine Sat.region ?_
    first
      | refine Tr.loadAll rfl rfl rfl Try.underlying30 rfl Sz30 mM (by first | (simp [fb_length, hb, hll]; done) | assumption | (rw [bytesV, List.length_map]; assumption)) ?_
      | refine Tr.loadN _ rfl rfl rfl Try.underlying30 rfl Sz30 mM (by exact rfl) (by first | (simp [fb_length, hb, hll]; done) | assumption | (rw [bytesV, List.length_map]; assumption)) ?_
    refine Tr.callV rfl rfl rfl rfl Body46 (hcan) (fun _ _ => trivial) ?_
    refine Tr.not rfl rfl rfl ?_
    refine Tr.nil ?_
    refine at_n ?_
    refine Sat.cond rfl (fun hc0 => ?_) (fun hc0 => ?_)
    ·
      have hcn : ¬ fb Y = lowB b := of_decide_eq_false (by simpa using hc0)
      refine Sat.seq ?_
      refine Sat.region ?_
      refine Tr.build (cs := Point.zero.cells) rfl rfl rfl (fun w => by kernel_rfl) ?_
      refine Tr.storeAll rfl rfl rfl rfl (Point.isCell (by first | exact ptc_ok _ | exact wdc_ok _ | exact ⟨fb32 _, fb32 _⟩ | assumption | (simp [fb_length, hb, hll]; done) | exact Point.zero_ok | exact wide.zero_ok )) Sz32 (Point.length (by first | exact ptc_ok _ | exact wdc_ok _ | exact ⟨fb32 _, fb32 _⟩ | assumption | (simp [fb_length, hb, hll]; done) | exact Point.zero_ok | exact wide.zero_ok )) mM (Point.length (by first | exact ptc_ok _ | exact wdc_ok _ | exact ⟨fb32 _, fb32 _⟩ | assumption | (simp [fb_length, hb, hll]; done) | exact Point.zero_ok | exact wide.zero_ok )) uU ?_
      refine Tr.assign rfl rfl rfl ?_
      refine Tr.nil ?_
      refine at_n ?_
      refine Sat.ret ?_
      refine at_r ?_
      refine en_r ?_
      refine ⟨_, [], res_cell_tmp rfl rfl rfl Try.underlying32 rfl Sz32 mM (by first | (simp [fb_length, hb, hll]; done) | exact Point.length (by first | exact ptc_ok _ | exact wdc_ok _ | exact ⟨fb32 _, fb32 _⟩ | assumption | (simp [fb_length, hb, hll]; done) | exact Point.zero_ok | exact wide.zero_ok )), sP, sP, ?_, rfl⟩
      first
        | exact (rdV_none (rd_n1 (by rw [hY]; exact hcn))).symm
        | exact (rdV_none (rd_n2 hxo hs9_7)).symm
        | exact (rdV_none (rd_n3 hxo (topB_t hs1_3) hs10_7)).symm
        | (rw [rdV_some (rd_s1 (by rw [hY]; exact hcy) hxo hs9_7 (topB_t hs1_3) hs10_7), hY]; rfl)
        | (rw [rdV_some (rd_s2 (by rw [hY]; exact hcy) hxo hs9_7 (topB_f hs1_3)), hY]; rfl)
    ·
      have hcy : fb Y = lowB b := of_decide_eq_true (by simpa using hc0)
      refine Sat.skip ?_
      refine at_n ?_
      refine Sat.seq ?_
      refine Sat.region ?_
      first
        | refine Tr.loadAll rfl rfl rfl Try.underlying30 rfl Sz30 mM (by first | (simp [fb_length, hb, hll]; done) | assumption | (rw [bytesV, List.length_map]; assumption)) ?_
        | refine Tr.loadN _ rfl rfl rfl Try.underlying30 rfl Sz30 mM (by exact rfl) (by first | (simp [fb_length, hb, hll]; done) | assumption | (rw [bytesV, List.length_map]; assumption)) ?_
      first
        | refine Tr.loadAll rfl rfl rfl Try.underlying30 rfl Sz30 mM (by first | (simp [fb_length, hb, hll]; done) | assumption | (rw [bytesV, List.length_map]; assumption)) ?_
        | refine Tr.loadN _ rfl rfl rfl Try.underlying30 rfl Sz30 mM (by exact rfl) (by first | (simp [fb_length, hb, hll]; done) | assumption | (rw [bytesV, List.length_map]; assumption)) ?_
      refine Tr.callV rfl rfl rfl rfl Body47 (hmul) (fun _ _ => trivial) ?_
      refine Tr.alloc (cs := (bytesV (List.replicate 32 0))) rfl Zr30 rfl ?_
      intro n6 hn6 hf6
      first
        | refine Tr.storeAll rfl rfl rfl rfl cB Sz30 (by first | (simp [fb_length, hb, hll]; done) | assumption | (rw [bytesV, List.length_map]; assumption)) mM (by first | (simp [fb_length, hb, hll]; done) | assumption | (rw [bytesV, List.length_map]; assumption)) uU ?_
        | refine Tr.storeN _ rfl rfl rfl rfl rfl cB Sz30 (by first | (simp [fb_length, hb, hll]; done) | assumption | (rw [bytesV, List.length_map]; assumption)) mM (by first | (simp [fb_length, hb, hll]; done) | assumption | (rw [bytesV, List.length_map]; assumption)) (by exact rfl) uU ?_
      refine Tr.nil ?_
      refine at_n ?_
      refine Sat.seq ?_
      refine Sat.draw [(1, 0), (3, 1), (3, 2), (2, 3), (4, 4)] Mixed (by kernel_rfl) ?_
      first
        | refine Tr.loadAll rfl rfl rfl Try.underlying30 rfl Sz30 mM (by first | (simp [fb_length, hb, hll]; done) | assumption | (rw [bytesV, List.length_map]; assumption)) ?_
        | refine Tr.loadN _ rfl rfl rfl Try.underlying30 rfl Sz30 mM (by exact rfl) (by first | (simp [fb_length, hb, hll]; done) | assumption | (rw [bytesV, List.length_map]; assumption)) ?_
      refine Tr.callV rfl rfl rfl rfl Body49 (f_one) (fun _ _ => trivial) ?_
      refine Tr.callV rfl rfl rfl rfl Body48 (f_sub _ _) (fun _ _ => trivial) ?_
      refine Tr.alloc (cs := (bytesV (List.replicate 32 0))) rfl Zr30 rfl ?_
      intro n7 hn7 hf7
      first
        | refine Tr.storeAll rfl rfl rfl rfl cB Sz30 (by first | (simp [fb_length, hb, hll]; done) | assumption | (rw [bytesV, List.length_map]; assumption)) mM (by first | (simp [fb_length, hb, hll]; done) | assumption | (rw [bytesV, List.length_map]; assumption)) uU ?_
        | refine Tr.storeN _ rfl rfl rfl rfl rfl cB Sz30 (by first | (simp [fb_length, hb, hll]; done) | assumption | (rw [bytesV, List.length_map]; assumption)) mM (by first | (simp [fb_length, hb, hll]; done) | assumption | (rw [bytesV, List.length_map]; assumption)) (by exact rfl) uU ?_
      refine Tr.nil ?_
      refine at_n ?_
      refine Sat.seq ?_
      refine Sat.draw [(1, 1), (3, 0), (3, 2), (3, 3), (3, 4), (2, 5), (4, 6)] Mixed (by kernel_rfl) ?_
      first
        | refine Tr.loadAll rfl rfl rfl Try.underlying30 rfl Sz30 mM (by first | (simp [fb_length, hb, hll]; done) | assumption | (rw [bytesV, List.length_map]; assumption)) ?_
        | refine Tr.loadN _ rfl rfl rfl Try.underlying30 rfl Sz30 mM (by exact rfl) (by first | (simp [fb_length, hb, hll]; done) | assumption | (rw [bytesV, List.length_map]; assumption)) ?_
      refine Tr.callV rfl rfl rfl rfl Body51 (curve_D) (fun _ _ => trivial) ?_
      refine Tr.callV rfl rfl rfl rfl Body47 (f_mul _ _) (fun _ _ => trivial) ?_
      refine Tr.callV rfl rfl rfl rfl Body49 (f_one) (fun _ _ => trivial) ?_
      refine Tr.callV rfl rfl rfl rfl Body50 (f_add _ _) (fun _ _ => trivial) ?_
      refine Tr.alloc (cs := (bytesV (List.replicate 32 0))) rfl Zr30 rfl ?_
      intro n8 hn8 hf8
      first
        | refine Tr.storeAll rfl rfl rfl rfl cB Sz30 (by first | (simp [fb_length, hb, hll]; done) | assumption | (rw [bytesV, List.length_map]; assumption)) mM (by first | (simp [fb_length, hb, hll]; done) | assumption | (rw [bytesV, List.length_map]; assumption)) uU ?_
        | refine Tr.storeN _ rfl rfl rfl rfl rfl cB Sz30 (by first | (simp [fb_length, hb, hll]; done) | assumption | (rw [bytesV, List.length_map]; assumption)) mM (by first | (simp [fb_length, hb, hll]; done) | assumption | (rw [bytesV, List.length_map]; assumption)) (by exact rfl) uU ?_
      refine Tr.nil ?_
      refine at_n ?_
      refine Sat.seq ?_
      refine Sat.draw [(1, 0), (1, 1), (3, 2), (3, 3), (3, 4), (0, 5), (0, 6), (0, 7), (2, 8), (4, 9), (0, 10)] Mixed (by kernel_rfl) ?_
      first
        | refine Tr.loadAll rfl rfl rfl Try.underlying30 rfl Sz30 mM (by first | (simp [fb_length, hb, hll]; done) | assumption | (rw [bytesV, List.length_map]; assumption)) ?_
        | refine Tr.loadN _ rfl rfl rfl Try.underlying30 rfl Sz30 mM (by exact rfl) (by first | (simp [fb_length, hb, hll]; done) | assumption | (rw [bytesV, List.length_map]; assumption)) ?_
      first
        | refine Tr.loadAll rfl rfl rfl Try.underlying30 rfl Sz30 mM (by first | (simp [fb_length, hb, hll]; done) | assumption | (rw [bytesV, List.length_map]; assumption)) ?_
        | refine Tr.loadN _ rfl rfl rfl Try.underlying30 rfl Sz30 mM (by exact rfl) (by first | (simp [fb_length, hb, hll]; done) | assumption | (rw [bytesV, List.length_map]; assumption)) ?_
      refine Tr.callV rfl rfl rfl rfl Body53 (hinv) (fun _ _ => trivial) ?_
      refine Tr.callV rfl rfl rfl rfl Body47 (f_mul _ _) (fun _ _ => trivial) ?_
      refine Tr.callV rfl rfl rfl rfl Body52 (hroot) (fun _ _ => trivial) ?_
      refine Tr.move rfl rfl rfl ?_
      refine Tr.extract rfl rfl rfl rfl ?_
      refine Tr.extractB rfl rfl rfl rfl (fun hs9_70 => ?_) (fun hs9_70 => ?_)
      ·
        first | have hs9_7 := of_decide_eq_true hs9_70 | have hs9_7 := of_decide_eq_false hs9_70 | have hs9_7 := nd_t hs9_70 | have hs9_7 := nd_f hs9_70 | have hs9_7 := hs9_70
        refine Tr.alloc (cs := (bytesV (List.replicate 32 0))) rfl Zr30 rfl ?_
        intro n9 hn9 hf9
        first
          | refine Tr.storeAll rfl rfl rfl rfl cB Sz30 (by first | (simp [fb_length, hb, hll]; done) | assumption | (rw [bytesV, List.length_map]; assumption)) mM (by first | (simp [fb_length, hb, hll]; done) | assumption | (rw [bytesV, List.length_map]; assumption)) uU ?_
          | refine Tr.storeN _ rfl rfl rfl rfl rfl cB Sz30 (by first | (simp [fb_length, hb, hll]; done) | assumption | (rw [bytesV, List.length_map]; assumption)) mM (by first | (simp [fb_length, hb, hll]; done) | assumption | (rw [bytesV, List.length_map]; assumption)) (by exact rfl) uU ?_
        refine Tr.assign rfl rfl rfl ?_
        refine Tr.nil ?_
        refine at_n ?_
        refine Sat.seq ?_
        refine Sat.seq ?_
        refine Sat.region ?_
        refine Tr.move rfl rfl rfl ?_
        refine Tr.not rfl rfl rfl ?_
        refine Tr.move rfl rfl rfl ?_
        refine Tr.move rfl rfl rfl ?_
        refine Tr.move rfl rfl rfl ?_
        first
          | refine Tr.loadAll rfl rfl rfl Try.underlying30 rfl Sz30 mM (by first | (simp [fb_length, hb, hll]; done) | assumption | (rw [bytesV, List.length_map]; assumption)) ?_
          | refine Tr.loadN _ rfl rfl rfl Try.underlying30 rfl Sz30 mM (by exact rfl) (by first | (simp [fb_length, hb, hll]; done) | assumption | (rw [bytesV, List.length_map]; assumption)) ?_
        refine Tr.build (cs := bytesV (List.replicate 32 0)) rfl rfl rfl (fun w => by kernel_rfl) ?_
        refine two (fun r hr k => Tr.eql_bytes rfl rfl rfl rfl Try.eqGuardType30 Try.underlying30 Try.underlying5 Sz5 (by first | (simp [fb_length, hb, hll]; done) | assumption | (rw [bytesV, List.length_map]; assumption)) (by first | (simp [fb_length, hb, hll]; done) | assumption | (rw [bytesV, List.length_map]; assumption)) hr k) (fun hs10_70 => ?_) (fun hs10_70 => ?_)
        ·
          first | have hs10_7 := of_decide_eq_true hs10_70 | have hs10_7 := of_decide_eq_false hs10_70 | have hs10_7 := nd_t hs10_70 | have hs10_7 := nd_f hs10_70 | have hs10_7 := hs10_70
          refine Tr.pick rfl rfl rfl rfl rfl rfl ?_
          refine Tr.pick rfl rfl rfl rfl rfl rfl ?_
          refine Tr.nil ?_
          refine at_n ?_
          refine Sat.cond_t rfl rfl ?_
          refine Sat.seq ?_
          refine Sat.region ?_
          refine Tr.build (cs := Point.zero.cells) rfl rfl rfl (fun w => by kernel_rfl) ?_
          refine Tr.storeAll rfl rfl rfl rfl (Point.isCell (by first | exact ptc_ok _ | exact wdc_ok _ | exact ⟨fb32 _, fb32 _⟩ | assumption | (simp [fb_length, hb, hll]; done) | exact Point.zero_ok | exact wide.zero_ok )) Sz32 (Point.length (by first | exact ptc_ok _ | exact wdc_ok _ | exact ⟨fb32 _, fb32 _⟩ | assumption | (simp [fb_length, hb, hll]; done) | exact Point.zero_ok | exact wide.zero_ok )) mM (Point.length (by first | exact ptc_ok _ | exact wdc_ok _ | exact ⟨fb32 _, fb32 _⟩ | assumption | (simp [fb_length, hb, hll]; done) | exact Point.zero_ok | exact wide.zero_ok )) uU ?_
          refine Tr.assign rfl rfl rfl ?_
          refine Tr.nil ?_
          refine at_n ?_
          refine Sat.ret ?_
          refine at_r ?_
          refine en_r ?_
          refine ⟨_, [], res_cell_tmp rfl rfl rfl Try.underlying32 rfl Sz32 mM (by first | (simp [fb_length, hb, hll]; done) | exact Point.length (by first | exact ptc_ok _ | exact wdc_ok _ | exact ⟨fb32 _, fb32 _⟩ | assumption | (simp [fb_length, hb, hll]; done) | exact Point.zero_ok | exact wide.zero_ok )), sP, sP, ?_, rfl⟩
          first
            | exact (rdV_none (rd_n1 (by rw [hY]; exact hcn))).symm
            | exact (rdV_none (rd_n2 hxo hs9_7)).symm
            | exact (rdV_none (rd_n3 hxo (topB_t hs1_3) hs10_7)).symm
            | (rw [rdV_some (rd_s1 (by rw [hY]; exact hcy) hxo hs9_7 (topB_t hs1_3) hs10_7), hY]; rfl)
            | (rw [rdV_some (rd_s2 (by rw [hY]; exact hcy) hxo hs9_7 (topB_f hs1_3)), hY]; rfl)
        ·
          first | have hs10_7 := of_decide_eq_true hs10_70 | have hs10_7 := of_decide_eq_false hs10_70 | have hs10_7 := nd_t hs10_70 | have hs10_7 := nd_f hs10_70 | have hs10_7 := hs10_70
          refine Tr.pick rfl rfl rfl rfl rfl rfl ?_
          refine Tr.pick rfl rfl rfl rfl rfl rfl ?_
          refine Tr.nil ?_
          refine at_n ?_
          refine Sat.cond_f rfl rfl ?_
          refine Sat.skip ?_
          refine at_n ?_
          refine Sat.seq ?_
          refine Sat.seq ?_
          refine Sat.region ?_
          refine Tr.move rfl rfl rfl ?_
          refine Tr.nil ?_
          refine at_n ?_
          refine Sat.cond_t rfl rfl ?_
          refine Sat.region ?_
          first
            | refine Tr.loadAll rfl rfl rfl Try.underlying30 rfl Sz30 mM (by first | (simp [fb_length, hb, hll]; done) | assumption | (rw [bytesV, List.length_map]; assumption)) ?_
            | refine Tr.loadN _ rfl rfl rfl Try.underlying30 rfl Sz30 mM (by exact rfl) (by first | (simp [fb_length, hb, hll]; done) | assumption | (rw [bytesV, List.length_map]; assumption)) ?_
          refine Tr.callV rfl rfl rfl rfl Body54 (f_neg _) (fun _ _ => trivial) ?_
          first
            | refine Tr.storeAll rfl rfl rfl rfl cB Sz30 (by first | (simp [fb_length, hb, hll]; done) | assumption | (rw [bytesV, List.length_map]; assumption)) mM (by first | (simp [fb_length, hb, hll]; done) | assumption | (rw [bytesV, List.length_map]; assumption)) uU ?_
            | refine Tr.storeN _ rfl rfl rfl rfl rfl cB Sz30 (by first | (simp [fb_length, hb, hll]; done) | assumption | (rw [bytesV, List.length_map]; assumption)) mM (by first | (simp [fb_length, hb, hll]; done) | assumption | (rw [bytesV, List.length_map]; assumption)) (by exact rfl) uU ?_
          refine Tr.nil ?_
          refine at_n ?_
          refine Sat.seq ?_
          refine Sat.region ?_
          rw [show b.set 31 (b.getD 31 0 &&& 127) = fb Y from hcy.symm]
          first
            | refine Tr.loadAll rfl rfl rfl Try.underlying30 rfl Sz30 mM (by first | (simp [fb_length, hb, hll]; done) | assumption | (rw [bytesV, List.length_map]; assumption)) ?_
            | refine Tr.loadN _ rfl rfl rfl Try.underlying30 rfl Sz30 mM (by exact rfl) (by first | (simp [fb_length, hb, hll]; done) | assumption | (rw [bytesV, List.length_map]; assumption)) ?_
          first
            | refine Tr.loadAll rfl rfl rfl Try.underlying30 rfl Sz30 mM (by first | (simp [fb_length, hb, hll]; done) | assumption | (rw [bytesV, List.length_map]; assumption)) ?_
            | refine Tr.loadN _ rfl rfl rfl Try.underlying30 rfl Sz30 mM (by exact rfl) (by first | (simp [fb_length, hb, hll]; done) | assumption | (rw [bytesV, List.length_map]; assumption)) ?_
          refine Tr.build (cs := (⟨fb (-xr.1), fb Y⟩ : Point).cells) rfl rfl rfl (fun w => by kernel_rfl) ?_
          refine Tr.storeAll rfl rfl rfl rfl (Point.isCell (by first | exact ptc_ok _ | exact wdc_ok _ | exact ⟨fb32 _, fb32 _⟩ | assumption | (simp [fb_length, hb, hll]; done) | exact Point.zero_ok | exact wide.zero_ok )) Sz32 (Point.length (by first | exact ptc_ok _ | exact wdc_ok _ | exact ⟨fb32 _, fb32 _⟩ | assumption | (simp [fb_length, hb, hll]; done) | exact Point.zero_ok | exact wide.zero_ok )) mM (Point.length (by first | exact ptc_ok _ | exact wdc_ok _ | exact ⟨fb32 _, fb32 _⟩ | assumption | (simp [fb_length, hb, hll]; done) | exact Point.zero_ok | exact wide.zero_ok )) uU ?_
          refine Tr.assign rfl rfl rfl ?_
          refine Tr.nil ?_
          refine at_n ?_
          refine Sat.ret ?_
          refine en_r ?_
          refine ⟨_, [], res_cell_tmp rfl rfl rfl Try.underlying32 rfl Sz32 mM (by first | (simp [fb_length, hb, hll]; done) | exact Point.length (by first | exact ptc_ok _ | exact wdc_ok _ | exact ⟨fb32 _, fb32 _⟩ | assumption | (simp [fb_length, hb, hll]; done) | exact Point.zero_ok | exact wide.zero_ok )), sP, sP, ?_, rfl⟩
          first
            | exact (rdV_none (rd_n1 (by rw [hY]; exact hcn))).symm
            | exact (rdV_none (rd_n2 hxo hs9_7)).symm
            | exact (rdV_none (rd_n3 hxo (topB_t hs1_3) hs10_7)).symm
            | (rw [rdV_some (rd_s1 (by rw [hY]; exact hcy) hxo hs9_7 (topB_t hs1_3) hs10_7), hY]; rfl)
            | (rw [rdV_some (rd_s2 (by rw [hY]; exact hcy) hxo hs9_7 (topB_f hs1_3)), hY]; rfl)
      ·
        first | have hs9_7 := of_decide_eq_true hs9_70 | have hs9_7 := of_decide_eq_false hs9_70 | have hs9_7 := nd_t hs9_70 | have hs9_7 := nd_f hs9_70 | have hs9_7 := hs9_70
        refine Tr.alloc (cs := (bytesV (List.replicate 32 0))) rfl Zr30 rfl ?_
        intro n9 hn9 hf9
        first
          | refine Tr.storeAll rfl rfl rfl rfl cB Sz30 (by first | (simp [fb_length, hb, hll]; done) | assumption | (rw [bytesV, List.length_map]; assumption)) mM (by first | (simp [fb_length, hb, hll]; done) | assumption | (rw [bytesV, List.length_map]; assumption)) uU ?_
          | refine Tr.storeN _ rfl rfl rfl rfl rfl cB Sz30 (by first | (simp [fb_length, hb, hll]; done) | assumption | (rw [bytesV, List.length_map]; assumption)) mM (by first | (simp [fb_length, hb, hll]; done) | assumption | (rw [bytesV, List.length_map]; assumption)) (by exact rfl) uU ?_
        refine Tr.assign rfl rfl rfl ?_
        refine Tr.nil ?_
        refine at_n ?_
        refine Sat.seq ?_
        refine Sat.seq ?_
        refine Sat.region ?_
        refine Tr.move rfl rfl rfl ?_
        refine Tr.not rfl rfl rfl ?_
        refine Tr.move rfl rfl rfl ?_
        refine Tr.skp rfl rfl ?_
        refine Tr.skp rfl rfl ?_
        refine Tr.skp rfl rfl ?_
        refine Tr.skp rfl rfl ?_
        refine Tr.skp rfl rfl ?_
        refine Tr.skp rfl rfl ?_
        refine Tr.pick rfl rfl rfl rfl rfl rfl ?_
        refine Tr.nil ?_
        refine at_n ?_
        refine Sat.cond_t rfl rfl ?_
        refine Sat.seq ?_
        refine Sat.region ?_
        refine Tr.build (cs := Point.zero.cells) rfl rfl rfl (fun w => by kernel_rfl) ?_
        refine Tr.storeAll rfl rfl rfl rfl (Point.isCell (by first | exact ptc_ok _ | exact wdc_ok _ | exact ⟨fb32 _, fb32 _⟩ | assumption | (simp [fb_length, hb, hll]; done) | exact Point.zero_ok | exact wide.zero_ok )) Sz32 (Point.length (by first | exact ptc_ok _ | exact wdc_ok _ | exact ⟨fb32 _, fb32 _⟩ | assumption | (simp [fb_length, hb, hll]; done) | exact Point.zero_ok | exact wide.zero_ok )) mM (Point.length (by first | exact ptc_ok _ | exact wdc_ok _ | exact ⟨fb32 _, fb32 _⟩ | assumption | (simp [fb_length, hb, hll]; done) | exact Point.zero_ok | exact wide.zero_ok )) uU ?_
        refine Tr.assign rfl rfl rfl ?_
        refine Tr.nil ?_
        refine at_n ?_
        refine Sat.ret ?_
        refine at_r ?_
        refine en_r ?_
        refine ⟨_, [], res_cell_tmp rfl rfl rfl Try.underlying32 rfl Sz32 mM (by first | (simp [fb_length, hb, hll]; done) | exact Point.length (by first | exact ptc_ok _ | exact wdc_ok _ | exact ⟨fb32 _, fb32 _⟩ | assumption | (simp [fb_length, hb, hll]; done) | exact Point.zero_ok | exact wide.zero_ok )), sP, sP, ?_, rfl⟩
        first
          | exact (rdV_none (rd_n1 (by rw [hY]; exact hcn))).symm
          | exact (rdV_none (rd_n2 hxo hs9_7)).symm
          | exact (rdV_none (rd_n3 hxo (topB_t hs1_3) hs10_7)).symm
          | (rw [rdV_some (rd_s1 (by rw [hY]; exact hcy) hxo hs9_7 (topB_t hs1_3) hs10_7), hY]; rfl)
          | (rw [rdV_some (rd_s2 (by rw [hY]; exact hcy) hxo hs9_7 (topB_f hs1_3)), hY]; rfl)
  ·
    first | have hs1_3 := of_decide_eq_true hs1_30 | have hs1_3 := of_decide_eq_false hs1_30 | have hs1_3 := nd_t hs1_30 | have hs1_3 := nd_f hs1_30 | have hs1_3 := hs1_30
    refine Tr.assign rfl rfl rfl ?_
    refine Tr.nil ?_
    refine at_n ?_
    refine Sat.seq ?_
    refine Sat.region ?_
    first
      | refine Tr.loadAll rfl rfl rfl Try.underlying22 rfl Sz22 mM (by first | (simp [fb_length, hb, hll]; done) | assumption | (rw [bytesV, List.length_map]; assumption)) ?_
      | refine Tr.loadN _ rfl rfl rfl Try.underlying22 rfl Sz22 mM (by exact rfl) (by first | (simp [fb_length, hb, hll]; done) | assumption | (rw [bytesV, List.length_map]; assumption)) ?_
    refine Tr.alloc (cs := (bytesV (List.replicate 32 0))) rfl Zr30 rfl ?_
    intro n5 hn5 hf5
    first
      | refine Tr.storeAll rfl rfl rfl rfl cB Sz30 (by first | (simp [fb_length, hb, hll]; done) | assumption | (rw [bytesV, List.length_map]; assumption)) mM (by first | (simp [fb_length, hb, hll]; done) | assumption | (rw [bytesV, List.length_map]; assumption)) uU ?_
      | refine Tr.storeN _ rfl rfl rfl rfl rfl cB Sz30 (by first | (simp [fb_length, hb, hll]; done) | assumption | (rw [bytesV, List.length_map]; assumption)) mM (by first | (simp [fb_length, hb, hll]; done) | assumption | (rw [bytesV, List.length_map]; assumption)) (by exact rfl) uU ?_
    refine Tr.nil ?_
    refine at_n ?_
    refine Sat.seq ?_
    refine Sat.region ?_
    first
      | refine Tr.idxArr1 rfl rfl rfl rfl Try.underlying30 Sz5 31 rfl dE ?_
      | refine Tr.idxArrO rfl rfl rfl rfl Try.underlying30 Sz5 31 rfl dE ?_
    refine Tr.load1 rfl rfl rfl Try.underlying5 rfl mM (by first | rfl | exact get_words (by first | omega | (simp [fb_length, hb, hll]; done) | (simp [fb_length, hb, hll]; omega)) | exact get_bytes (by first | omega | (simp [fb_length, hb, hll]; done) | (simp [fb_length, hb, hll]; omega)) | exact get_ints (by first | omega | (simp [fb_length, hb, hll]; done) | (simp [fb_length, hb, hll]; omega))) ?_
    refine Tr.and_u8 rfl rfl rfl (show evIn _ _ = some (u8 127) from rfl) ?_
    first
      | refine Tr.idxArr1 rfl rfl rfl rfl Try.underlying30 Sz5 31 rfl dE ?_
      | refine Tr.idxArrO rfl rfl rfl rfl Try.underlying30 Sz5 31 rfl dE ?_
    refine Tr.store1 rfl rfl rfl rfl rfl Sz5 mM (by first | (simp [fb_length, hb, hll]; done) | (simp [fb_length, hb, hll]; omega)) sT uU ?_
    refine Tr.nil ?_
    refine at_n ?_
    refine Sat.seq ?_
    refine Sat.seq ?_
    refine Sat.region ?_
    first
      | refine Tr.loadAll rfl rfl rfl Try.underlying30 rfl Sz30 mM (by first | (simp [fb_length, hb, hll]; done) | assumption | (rw [bytesV, List.length_map]; assumption)) ?_
      | refine Tr.loadN _ rfl rfl rfl Try.underlying30 rfl Sz30 mM (by exact rfl) (by first | (simp [fb_length, hb, hll]; done) | assumption | (rw [bytesV, List.length_map]; assumption)) ?_
    refine Tr.callV rfl rfl rfl rfl Body46 (hcan) (fun _ _ => trivial) ?_
    refine Tr.not rfl rfl rfl ?_
    refine Tr.nil ?_
    refine at_n ?_
    refine Sat.cond rfl (fun hc0 => ?_) (fun hc0 => ?_)
    ·
      have hcn : ¬ fb Y = lowB b := of_decide_eq_false (by simpa using hc0)
      refine Sat.seq ?_
      refine Sat.region ?_
      refine Tr.build (cs := Point.zero.cells) rfl rfl rfl (fun w => by kernel_rfl) ?_
      refine Tr.storeAll rfl rfl rfl rfl (Point.isCell (by first | exact ptc_ok _ | exact wdc_ok _ | exact ⟨fb32 _, fb32 _⟩ | assumption | (simp [fb_length, hb, hll]; done) | exact Point.zero_ok | exact wide.zero_ok )) Sz32 (Point.length (by first | exact ptc_ok _ | exact wdc_ok _ | exact ⟨fb32 _, fb32 _⟩ | assumption | (simp [fb_length, hb, hll]; done) | exact Point.zero_ok | exact wide.zero_ok )) mM (Point.length (by first | exact ptc_ok _ | exact wdc_ok _ | exact ⟨fb32 _, fb32 _⟩ | assumption | (simp [fb_length, hb, hll]; done) | exact Point.zero_ok | exact wide.zero_ok )) uU ?_
      refine Tr.assign rfl rfl rfl ?_
      refine Tr.nil ?_
      refine at_n ?_
      refine Sat.ret ?_
      refine at_r ?_
      refine en_r ?_
      refine ⟨_, [], res_cell_tmp rfl rfl rfl Try.underlying32 rfl Sz32 mM (by first | (simp [fb_length, hb, hll]; done) | exact Point.length (by first | exact ptc_ok _ | exact wdc_ok _ | exact ⟨fb32 _, fb32 _⟩ | assumption | (simp [fb_length, hb, hll]; done) | exact Point.zero_ok | exact wide.zero_ok )), sP, sP, ?_, rfl⟩
      first
        | exact (rdV_none (rd_n1 (by rw [hY]; exact hcn))).symm
        | exact (rdV_none (rd_n2 hxo hs9_7)).symm
        | exact (rdV_none (rd_n3 hxo (topB_t hs1_3) hs10_7)).symm
        | (rw [rdV_some (rd_s1 (by rw [hY]; exact hcy) hxo hs9_7 (topB_t hs1_3) hs10_7), hY]; rfl)
        | (rw [rdV_some (rd_s2 (by rw [hY]; exact hcy) hxo hs9_7 (topB_f hs1_3)), hY]; rfl)
    ·
      have hcy : fb Y = lowB b := of_decide_eq_true (by simpa using hc0)
      refine Sat.skip ?_
      refine at_n ?_
      refine Sat.seq ?_
      refine Sat.region ?_
      first
        | refine Tr.loadAll rfl rfl rfl Try.underlying30 rfl Sz30 mM (by first | (simp [fb_length, hb, hll]; done) | assumption | (rw [bytesV, List.length_map]; assumption)) ?_
        | refine Tr.loadN _ rfl rfl rfl Try.underlying30 rfl Sz30 mM (by exact rfl) (by first | (simp [fb_length, hb, hll]; done) | assumption | (rw [bytesV, List.length_map]; assumption)) ?_
      first
        | refine Tr.loadAll rfl rfl rfl Try.underlying30 rfl Sz30 mM (by first | (simp [fb_length, hb, hll]; done) | assumption | (rw [bytesV, List.length_map]; assumption)) ?_
        | refine Tr.loadN _ rfl rfl rfl Try.underlying30 rfl Sz30 mM (by exact rfl) (by first | (simp [fb_length, hb, hll]; done) | assumption | (rw [bytesV, List.length_map]; assumption)) ?_
      refine Tr.callV rfl rfl rfl rfl Body47 (hmul) (fun _ _ => trivial) ?_
      refine Tr.alloc (cs := (bytesV (List.replicate 32 0))) rfl Zr30 rfl ?_
      intro n6 hn6 hf6
      first
        | refine Tr.storeAll rfl rfl rfl rfl cB Sz30 (by first | (simp [fb_length, hb, hll]; done) | assumption | (rw [bytesV, List.length_map]; assumption)) mM (by first | (simp [fb_length, hb, hll]; done) | assumption | (rw [bytesV, List.length_map]; assumption)) uU ?_
        | refine Tr.storeN _ rfl rfl rfl rfl rfl cB Sz30 (by first | (simp [fb_length, hb, hll]; done) | assumption | (rw [bytesV, List.length_map]; assumption)) mM (by first | (simp [fb_length, hb, hll]; done) | assumption | (rw [bytesV, List.length_map]; assumption)) (by exact rfl) uU ?_
      refine Tr.nil ?_
      refine at_n ?_
      refine Sat.seq ?_
      refine Sat.draw [(1, 0), (3, 1), (3, 2), (2, 3), (4, 4)] Mixed (by kernel_rfl) ?_
      first
        | refine Tr.loadAll rfl rfl rfl Try.underlying30 rfl Sz30 mM (by first | (simp [fb_length, hb, hll]; done) | assumption | (rw [bytesV, List.length_map]; assumption)) ?_
        | refine Tr.loadN _ rfl rfl rfl Try.underlying30 rfl Sz30 mM (by exact rfl) (by first | (simp [fb_length, hb, hll]; done) | assumption | (rw [bytesV, List.length_map]; assumption)) ?_
      refine Tr.callV rfl rfl rfl rfl Body49 (f_one) (fun _ _ => trivial) ?_
      refine Tr.callV rfl rfl rfl rfl Body48 (f_sub _ _) (fun _ _ => trivial) ?_
      refine Tr.alloc (cs := (bytesV (List.replicate 32 0))) rfl Zr30 rfl ?_
      intro n7 hn7 hf7
      first
        | refine Tr.storeAll rfl rfl rfl rfl cB Sz30 (by first | (simp [fb_length, hb, hll]; done) | assumption | (rw [bytesV, List.length_map]; assumption)) mM (by first | (simp [fb_length, hb, hll]; done) | assumption | (rw [bytesV, List.length_map]; assumption)) uU ?_
        | refine Tr.storeN _ rfl rfl rfl rfl rfl cB Sz30 (by first | (simp [fb_length, hb, hll]; done) | assumption | (rw [bytesV, List.length_map]; assumption)) mM (by first | (simp [fb_length, hb, hll]; done) | assumption | (rw [bytesV, List.length_map]; assumption)) (by exact rfl) uU ?_
      refine Tr.nil ?_
      refine at_n ?_
      refine Sat.seq ?_
      refine Sat.draw [(1, 1), (3, 0), (3, 2), (3, 3), (3, 4), (2, 5), (4, 6)] Mixed (by kernel_rfl) ?_
      first
        | refine Tr.loadAll rfl rfl rfl Try.underlying30 rfl Sz30 mM (by first | (simp [fb_length, hb, hll]; done) | assumption | (rw [bytesV, List.length_map]; assumption)) ?_
        | refine Tr.loadN _ rfl rfl rfl Try.underlying30 rfl Sz30 mM (by exact rfl) (by first | (simp [fb_length, hb, hll]; done) | assumption | (rw [bytesV, List.length_map]; assumption)) ?_
      refine Tr.callV rfl rfl rfl rfl Body51 (curve_D) (fun _ _ => trivial) ?_
      refine Tr.callV rfl rfl rfl rfl Body47 (f_mul _ _) (fun _ _ => trivial) ?_
      refine Tr.callV rfl rfl rfl rfl Body49 (f_one) (fun _ _ => trivial) ?_
      refine Tr.callV rfl rfl rfl rfl Body50 (f_add _ _) (fun _ _ => trivial) ?_
      refine Tr.alloc (cs := (bytesV (List.replicate 32 0))) rfl Zr30 rfl ?_
      intro n8 hn8 hf8
      first
        | refine Tr.storeAll rfl rfl rfl rfl cB Sz30 (by first | (simp [fb_length, hb, hll]; done) | assumption | (rw [bytesV, List.length_map]; assumption)) mM (by first | (simp [fb_length, hb, hll]; done) | assumption | (rw [bytesV, List.length_map]; assumption)) uU ?_
        | refine Tr.storeN _ rfl rfl rfl rfl rfl cB Sz30 (by first | (simp [fb_length, hb, hll]; done) | assumption | (rw [bytesV, List.length_map]; assumption)) mM (by first | (simp [fb_length, hb, hll]; done) | assumption | (rw [bytesV, List.length_map]; assumption)) (by exact rfl) uU ?_
      refine Tr.nil ?_
      refine at_n ?_
      refine Sat.seq ?_
      refine Sat.draw [(1, 0), (1, 1), (3, 2), (3, 3), (3, 4), (0, 5), (0, 6), (0, 7), (2, 8), (4, 9), (0, 10)] Mixed (by kernel_rfl) ?_
      first
        | refine Tr.loadAll rfl rfl rfl Try.underlying30 rfl Sz30 mM (by first | (simp [fb_length, hb, hll]; done) | assumption | (rw [bytesV, List.length_map]; assumption)) ?_
        | refine Tr.loadN _ rfl rfl rfl Try.underlying30 rfl Sz30 mM (by exact rfl) (by first | (simp [fb_length, hb, hll]; done) | assumption | (rw [bytesV, List.length_map]; assumption)) ?_
      first
        | refine Tr.loadAll rfl rfl rfl Try.underlying30 rfl Sz30 mM (by first | (simp [fb_length, hb, hll]; done) | assumption | (rw [bytesV, List.length_map]; assumption)) ?_
        | refine Tr.loadN _ rfl rfl rfl Try.underlying30 rfl Sz30 mM (by exact rfl) (by first | (simp [fb_length, hb, hll]; done) | assumption | (rw [bytesV, List.length_map]; assumption)) ?_
      refine Tr.callV rfl rfl rfl rfl Body53 (hinv) (fun _ _ => trivial) ?_
      refine Tr.callV rfl rfl rfl rfl Body47 (f_mul _ _) (fun _ _ => trivial) ?_
      refine Tr.callV rfl rfl rfl rfl Body52 (hroot) (fun _ _ => trivial) ?_
      refine Tr.move rfl rfl rfl ?_
      refine Tr.extract rfl rfl rfl rfl ?_
      refine Tr.extractB rfl rfl rfl rfl (fun hs9_70 => ?_) (fun hs9_70 => ?_)
      ·
        first | have hs9_7 := of_decide_eq_true hs9_70 | have hs9_7 := of_decide_eq_false hs9_70 | have hs9_7 := nd_t hs9_70 | have hs9_7 := nd_f hs9_70 | have hs9_7 := hs9_70
        refine Tr.alloc (cs := (bytesV (List.replicate 32 0))) rfl Zr30 rfl ?_
        intro n9 hn9 hf9
        first
          | refine Tr.storeAll rfl rfl rfl rfl cB Sz30 (by first | (simp [fb_length, hb, hll]; done) | assumption | (rw [bytesV, List.length_map]; assumption)) mM (by first | (simp [fb_length, hb, hll]; done) | assumption | (rw [bytesV, List.length_map]; assumption)) uU ?_
          | refine Tr.storeN _ rfl rfl rfl rfl rfl cB Sz30 (by first | (simp [fb_length, hb, hll]; done) | assumption | (rw [bytesV, List.length_map]; assumption)) mM (by first | (simp [fb_length, hb, hll]; done) | assumption | (rw [bytesV, List.length_map]; assumption)) (by exact rfl) uU ?_
        refine Tr.assign rfl rfl rfl ?_
        refine Tr.nil ?_
        refine at_n ?_
        refine Sat.seq ?_
        refine Sat.seq ?_
        refine Sat.region ?_
        refine Tr.move rfl rfl rfl ?_
        refine Tr.not rfl rfl rfl ?_
        refine Tr.move rfl rfl rfl ?_
        refine Tr.move rfl rfl rfl ?_
        refine Tr.move rfl rfl rfl ?_
        refine Tr.skp rfl rfl ?_
        refine Tr.skp rfl rfl ?_
        refine Tr.skp rfl rfl ?_
        refine Tr.pick rfl rfl rfl rfl rfl rfl ?_
        refine Tr.pick rfl rfl rfl rfl rfl rfl ?_
        refine Tr.nil ?_
        refine at_n ?_
        refine Sat.cond_f rfl rfl ?_
        refine Sat.skip ?_
        refine at_n ?_
        refine Sat.seq ?_
        refine Sat.seq ?_
        refine Sat.region ?_
        refine Tr.move rfl rfl rfl ?_
        refine Tr.nil ?_
        refine at_n ?_
        refine Sat.cond_f rfl rfl ?_
        refine Sat.skip ?_
        refine at_n ?_
        refine Sat.seq ?_
        refine Sat.region ?_
        rw [show b.set 31 (b.getD 31 0 &&& 127) = fb Y from hcy.symm]
        first
          | refine Tr.loadAll rfl rfl rfl Try.underlying30 rfl Sz30 mM (by first | (simp [fb_length, hb, hll]; done) | assumption | (rw [bytesV, List.length_map]; assumption)) ?_
          | refine Tr.loadN _ rfl rfl rfl Try.underlying30 rfl Sz30 mM (by exact rfl) (by first | (simp [fb_length, hb, hll]; done) | assumption | (rw [bytesV, List.length_map]; assumption)) ?_
        first
          | refine Tr.loadAll rfl rfl rfl Try.underlying30 rfl Sz30 mM (by first | (simp [fb_length, hb, hll]; done) | assumption | (rw [bytesV, List.length_map]; assumption)) ?_
          | refine Tr.loadN _ rfl rfl rfl Try.underlying30 rfl Sz30 mM (by exact rfl) (by first | (simp [fb_length, hb, hll]; done) | assumption | (rw [bytesV, List.length_map]; assumption)) ?_
        refine Tr.build (cs := (⟨fb xr.1, fb Y⟩ : Point).cells) rfl rfl rfl (fun w => by kernel_rfl) ?_
        refine Tr.storeAll rfl rfl rfl rfl (Point.isCell (by first | exact ptc_ok _ | exact wdc_ok _ | exact ⟨fb32 _, fb32 _⟩ | assumption | (simp [fb_length, hb, hll]; done) | exact Point.zero_ok | exact wide.zero_ok )) Sz32 (Point.length (by first | exact ptc_ok _ | exact wdc_ok _ | exact ⟨fb32 _, fb32 _⟩ | assumption | (simp [fb_length, hb, hll]; done) | exact Point.zero_ok | exact wide.zero_ok )) mM (Point.length (by first | exact ptc_ok _ | exact wdc_ok _ | exact ⟨fb32 _, fb32 _⟩ | assumption | (simp [fb_length, hb, hll]; done) | exact Point.zero_ok | exact wide.zero_ok )) uU ?_
        refine Tr.assign rfl rfl rfl ?_
        refine Tr.nil ?_
        refine at_n ?_
        refine Sat.ret ?_
        refine en_r ?_
        refine ⟨_, [], res_cell_tmp rfl rfl rfl Try.underlying32 rfl Sz32 mM (by first | (simp [fb_length, hb, hll]; done) | exact Point.length (by first | exact ptc_ok _ | exact wdc_ok _ | exact ⟨fb32 _, fb32 _⟩ | assumption | (simp [fb_length, hb, hll]; done) | exact Point.zero_ok | exact wide.zero_ok )), sP, sP, ?_, rfl⟩
        first
          | exact (rdV_none (rd_n1 (by rw [hY]; exact hcn))).symm
          | exact (rdV_none (rd_n2 hxo hs9_7)).symm
          | exact (rdV_none (rd_n3 hxo (topB_t hs1_3) hs10_7)).symm
          | (rw [rdV_some (rd_s1 (by rw [hY]; exact hcy) hxo hs9_7 (topB_t hs1_3) hs10_7), hY]; rfl)
          | (rw [rdV_some (rd_s2 (by rw [hY]; exact hcy) hxo hs9_7 (topB_f hs1_3)), hY]; rfl)
      ·
        first | have hs9_7 := of_decide_eq_true hs9_70 | have hs9_7 := of_decide_eq_false hs9_70 | have hs9_7 := nd_t hs9_70 | have hs9_7 := nd_f hs9_70 | have hs9_7 := hs9_70
        refine Tr.alloc (cs := (bytesV (List.replicate 32 0))) rfl Zr30 rfl ?_
        intro n9 hn9 hf9
        first
          | refine Tr.storeAll rfl rfl rfl rfl cB Sz30 (by first | (simp [fb_length, hb, hll]; done) | assumption | (rw [bytesV, List.length_map]; assumption)) mM (by first | (simp [fb_length, hb, hll]; done) | assumption | (rw [bytesV, List.length_map]; assumption)) uU ?_
          | refine Tr.storeN _ rfl rfl rfl rfl rfl cB Sz30 (by first | (simp [fb_length, hb, hll]; done) | assumption | (rw [bytesV, List.length_map]; assumption)) mM (by first | (simp [fb_length, hb, hll]; done) | assumption | (rw [bytesV, List.length_map]; assumption)) (by exact rfl) uU ?_
        refine Tr.assign rfl rfl rfl ?_
        refine Tr.nil ?_
        refine at_n ?_
        refine Sat.seq ?_
        refine Sat.seq ?_
        refine Sat.region ?_
        refine Tr.move rfl rfl rfl ?_
        refine Tr.not rfl rfl rfl ?_
        refine Tr.move rfl rfl rfl ?_
        refine Tr.skp rfl rfl ?_
        refine Tr.skp rfl rfl ?_
        refine Tr.skp rfl rfl ?_
        refine Tr.skp rfl rfl ?_
        refine Tr.skp rfl rfl ?_
        refine Tr.skp rfl rfl ?_
        refine Tr.pick rfl rfl rfl rfl rfl rfl ?_
        refine Tr.nil ?_
        refine at_n ?_
        refine Sat.cond_t rfl rfl ?_
        refine Sat.seq ?_
        refine Sat.region ?_
        refine Tr.build (cs := Point.zero.cells) rfl rfl rfl (fun w => by kernel_rfl) ?_
        refine Tr.storeAll rfl rfl rfl rfl (Point.isCell (by first | exact ptc_ok _ | exact wdc_ok _ | exact ⟨fb32 _, fb32 _⟩ | assumption | (simp [fb_length, hb, hll]; done) | exact Point.zero_ok | exact wide.zero_ok )) Sz32 (Point.length (by first | exact ptc_ok _ | exact wdc_ok _ | exact ⟨fb32 _, fb32 _⟩ | assumption | (simp [fb_length, hb, hll]; done) | exact Point.zero_ok | exact wide.zero_ok )) mM (Point.length (by first | exact ptc_ok _ | exact wdc_ok _ | exact ⟨fb32 _, fb32 _⟩ | assumption | (simp [fb_length, hb, hll]; done) | exact Point.zero_ok | exact wide.zero_ok )) uU ?_
        refine Tr.assign rfl rfl rfl ?_
        refine Tr.nil ?_
        refine at_n ?_
        refine Sat.ret ?_
        refine at_r ?_
        refine en_r ?_
        refine ⟨_, [], res_cell_tmp rfl rfl rfl Try.underlying32 rfl Sz32 mM (by first | (simp [fb_length, hb, hll]; done) | exact Point.length (by first | exact ptc_ok _ | exact wdc_ok _ | exact ⟨fb32 _, fb32 _⟩ | assumption | (simp [fb_length, hb, hll]; done) | exact Point.zero_ok | exact wide.zero_ok )), sP, sP, ?_, rfl⟩
        first
          | exact (rdV_none (rd_n1 (by rw [hY]; exact hcn))).symm
          | exact (rdV_none (rd_n2 hxo hs9_7)).symm
          | exact (rdV_none (rd_n3 hxo (topB_t hs1_3) hs10_7)).symm
          | (rw [rdV_some (rd_s1 (by rw [hY]; exact hcy) hxo hs9_7 (topB_t hs1_3) hs10_7), hY]; rfl)
          | (rw [rdV_some (rd_s2 (by rw [hY]; exact hcy) hxo hs9_7 (topB_f hs1_3)), hY]; rfl)

open Classical in
noncomputable def smallB (P : Pt Fp) : Bool := decide (cv.mul 8 P = zero)
theorem rep8 (P : Pt Fp) (h : cv.on P) : (Wd.dbl (Wd.dbl (Wd.dbl (Wd.of P)))).rep (cv.mul 8 P) := by
  rw [← eight_mul h]
  exact cv.rep_dbl (cv.rep_dbl (cv.rep_dbl (cv.rep_of P) h) (cv.on_add h h)) (cv.on_add (cv.on_add h h) (cv.on_add h h))
theorem small_dec (P : Pt Fp) : @decide (ptc (cv.mul 8 P) = ptc zero) (Classical.propDecidable _) = smallB P := by
  rw [smallB, Bool.eq_iff_iff]; simp [ptc_inj]

set_option maxRecDepth 100000 in
set_option maxHeartbeats 4000000 in
theorem curve_Small (P : Pt Fp) (hP : cv.on P) : Meets Try.prog 27 [agg (ptc P).cells] [] (fun _ => True) (fun v out => v = .bool (smallB P) ∧ out = []) := by
  intro W hW
  refine calls_of (hp0 := []) Try.func27 rfl 16 Try.ntmps27 rfl (HRep.nil _) ?_
  refine Sat.seq ?_
  refine Sat.region ?_
  refine Tr.boxA rfl rfl ?_
  intro n1 hn1 hf1
  refine Tr.assign rfl rfl rfl ?_
  refine Tr.nil ?_
  refine at_n ?_
  refine Sat.seq ?_
  refine Sat.seq ?_
  refine Sat.region ?_
  refine Tr.loadAll rfl rfl rfl Try.underlying32 rfl Sz32 mM (Point.length (by first | exact ptc_ok _ | exact wdc_ok _ | exact ⟨fb32 _, fb32 _⟩ | assumption | (simp [fb_length]; done) | exact Point.zero_ok | exact wide.zero_ok )) ?_
  refine Tr.callV rfl rfl rfl rfl Body55 (curve_Check_on P hP) (fun _ _ => trivial) ?_
  refine Tr.nei rfl rfl rfl rfl (show (!decide _) = false from congrArg not (decide_eq_true (rfl))) ?_
  refine Tr.nil ?_
  refine at_n ?_
  refine Sat.cond_f rfl (rfl) ?_
  refine Sat.skip ?_
  refine at_n ?_
  refine Sat.seq ?_
  refine Sat.region ?_
  refine Tr.loadAll rfl rfl rfl Try.underlying32 rfl Sz32 mM (Point.length (by first | exact ptc_ok _ | exact wdc_ok _ | exact ⟨fb32 _, fb32 _⟩ | assumption | (simp [fb_length]; done) | exact Point.zero_ok | exact wide.zero_ok )) ?_
  refine Tr.callV rfl rfl rfl rfl Body57 (curve_widen P) (fun _ _ => trivial) ?_
  refine Tr.alloc (cs := wide.zero.cells) rfl wide.zr rfl ?_
  intro n3 hn3 hf3
  refine Tr.storeAll rfl rfl rfl rfl (wide.isCell (by first | exact ptc_ok _ | exact wdc_ok _ | exact ⟨fb32 _, fb32 _⟩ | assumption | (simp [fb_length]; done) | exact Point.zero_ok | exact wide.zero_ok )) Sz81 (wide.length (by first | exact ptc_ok _ | exact wdc_ok _ | exact ⟨fb32 _, fb32 _⟩ | assumption | (simp [fb_length]; done) | exact Point.zero_ok | exact wide.zero_ok )) mM (wide.length (by first | exact ptc_ok _ | exact wdc_ok _ | exact ⟨fb32 _, fb32 _⟩ | assumption | (simp [fb_length]; done) | exact Point.zero_ok | exact wide.zero_ok )) uU ?_
  refine Tr.nil ?_
  refine at_n ?_
  refine Sat.seq ?_
  refine Sat.seq ?_
  refine Sat.region ?_
  refine Tr.move rfl rfl rfl ?_
  refine Tr.nil ?_
  refine at_n ?_
  refine Sat.block ?_
  refine Sat.rounds 4 (SRounds.more ?_)
  refine Sat.seq ?_
  refine Sat.region ?_
  refine Tr.lss rfl rfl rfl rfl rfl ?_
  refine Tr.nil ?_
  refine at_n ?_
  refine Sat.seq ?_
  refine Sat.cond_t rfl (rfl) ?_
  refine Sat.skip ?_
  refine at_n ?_
  refine Sat.seq ?_
  refine Sat.block ?_
  refine Sat.region ?_
  refine Tr.callL (L := [⟨n3, (wdc (Wd.of P)).cells, 81, 128⟩]) rfl rfl rfl rfl rfl Body59 (wide_double n3 (Wd.of P)) (pm_cons rM pm_nil) (lent_ok rfl) (fun w h => own_blk h mM) ?_
  rintro v11 out11 rfl
  simp only [List.cons_append, List.nil_append]
  refine Tr.nil ?_
  refine bl_n ?_
  refine at_n ?_
  refine Sat.region ?_
  refine Tr.add_i64 rfl rfl rfl rfl oM ?_
  refine Tr.move rfl rfl rfl ?_
  refine Tr.nil ?_
  refine at_n (SRounds.more ?_)
  refine Sat.seq ?_
  refine Sat.region ?_
  refine Tr.lss rfl rfl rfl rfl rfl ?_
  refine Tr.nil ?_
  refine at_n ?_
  refine Sat.seq ?_
  refine Sat.cond_t rfl (rfl) ?_
  refine Sat.skip ?_
  refine at_n ?_
  refine Sat.seq ?_
  refine Sat.block ?_
  refine Sat.region ?_
  refine Tr.callL (L := [⟨n3, (wdc (Wd.dbl (Wd.of P))).cells, 81, 128⟩]) rfl rfl rfl rfl rfl Body59 (wide_double n3 (Wd.dbl (Wd.of P))) (pm_cons rM pm_nil) (lent_ok rfl) (fun w h => own_blk h mM) ?_
  rintro v11 out11 rfl
  simp only [List.cons_append, List.nil_append]
  refine Tr.nil ?_
  refine bl_n ?_
  refine at_n ?_
  refine Sat.region ?_
  refine Tr.add_i64 rfl rfl rfl rfl oM ?_
  refine Tr.move rfl rfl rfl ?_
  refine Tr.nil ?_
  refine at_n (SRounds.more ?_)
  refine Sat.seq ?_
  refine Sat.region ?_
  refine Tr.lss rfl rfl rfl rfl rfl ?_
  refine Tr.nil ?_
  refine at_n ?_
  refine Sat.seq ?_
  refine Sat.cond_t rfl (rfl) ?_
  refine Sat.skip ?_
  refine at_n ?_
  refine Sat.seq ?_
  refine Sat.block ?_
  refine Sat.region ?_
  refine Tr.callL (L := [⟨n3, (wdc (Wd.dbl (Wd.dbl (Wd.of P)))).cells, 81, 128⟩]) rfl rfl rfl rfl rfl Body59 (wide_double n3 (Wd.dbl (Wd.dbl (Wd.of P)))) (pm_cons rM pm_nil) (lent_ok rfl) (fun w h => own_blk h mM) ?_
  rintro v11 out11 rfl
  simp only [List.cons_append, List.nil_append]
  refine Tr.nil ?_
  refine bl_n ?_
  refine at_n ?_
  refine Sat.region ?_
  refine Tr.add_i64 rfl rfl rfl rfl oM ?_
  refine Tr.move rfl rfl rfl ?_
  refine Tr.nil ?_
  refine at_n (SRounds.more ?_)
  refine Sat.seq ?_
  refine Sat.region ?_
  refine Tr.lss rfl rfl rfl rfl rfl ?_
  refine Tr.nil ?_
  refine at_n ?_
  refine Sat.seq ?_
  refine Sat.cond_f rfl (rfl) ?_
  refine Sat.exit ?_
  refine at_x ?_
  refine at_x ?_
  refine bl_h ?_
  refine at_n ?_
  refine Sat.seq ?_
  refine Sat.region ?_
  refine Tr.callV rfl rfl rfl rfl Body61 (wide_pointR n3 (Wd.dbl (Wd.dbl (Wd.dbl (Wd.of P)))) _ (rep8 P hP)) (fun w h => sees_own h mM) ?_
  refine Tr.callV rfl rfl rfl rfl Body56 (curve_Zero) (fun _ _ => trivial) ?_
  refine Tr.eql_rec rfl rfl rfl rfl Point.eg (fun w => Point.eq_runC (ptc_ok _) (ptc_ok _) w) (small_dec P) ?_
  refine Tr.assign rfl rfl rfl ?_
  refine Tr.nil ?_
  refine at_n ?_
  refine Sat.ret ?_
  refine en_r ?_
  refine ⟨_, [], res_tmp rfl rfl, sP, sP, ?_, rfl⟩
  rfl

end Go.Proofs.Ytmddgelpllffoaa
end

section
namespace Go.Proofs.Ytmddgelpllffoaa
open Go Hw
set_option linter.unusedSimpArgs false
set_option linter.unusedVariables false
set_option maxRecDepth 100000
section
variable {H : Type} {enc : TypeId × Value → H} {W : World} {base : Nat} {sp : Nat → Bool} {held : Bool}
theorem Point.openT {fuel : Nat} {cs : List Value} {y : DataW H × List MemPlace} (h : DataW.trod enc Try.prog W base sp held fuel 32 cs = some y) : ∃ x : Point, x.ok ∧ cs = x.cells ∧ True := by
  obtain ⟨xs, n, _, _, h4, h5, h6⟩ := DataW.trod_struct Try.underlying32 h
  rw [show Try.prog.cellsOf 32 = 64 by kernel_rfl] at h4
  have c0 : Try.prog.cellsOf 30 = 32 := by kernel_rfl
  have c1 : Try.prog.cellsOf 30 = 32 := by kernel_rfl
  have g0 : DataW.trod enc Try.prog W base sp held n 30 ((cs.drop 0).take (Try.prog.cellsOf 30)) = some (xs[0]'(by rw [h5]; decide)) := by rw [← List.getElem?_eq_getElem]; exact h6 0 _ rfl
  rw [c0] at g0
  obtain ⟨v0, e0, l0⟩ := Hw.open_bytesT Try.underlying30 Try.underlying5 (by kernel_rfl) (by kernel_rfl) g0
  have g1 : DataW.trod enc Try.prog W base sp held n 30 ((cs.drop 32).take (Try.prog.cellsOf 30)) = some (xs[1]'(by rw [h5]; decide)) := by rw [← List.getElem?_eq_getElem]; exact h6 1 _ rfl
  rw [c1] at g1
  obtain ⟨v1, e1, l1⟩ := Hw.open_bytesT Try.underlying30 Try.underlying5 (by kernel_rfl) (by kernel_rfl) g1
  refine ⟨⟨v0, v1⟩, ⟨l0, l1⟩, ?_, trivial⟩
  rw [← List.drop_zero (l := cs)]
  exact (Hw.cat 32 e0 rfl (Hw.cat_last e1 h4))
end
section
variable {H : Type} {enc : TypeId × Value → H} {W : World} {base : Nat} {sp : Nat → Bool} {held : Bool}
theorem wide.openT {fuel : Nat} {cs : List Value} {y : DataW H × List MemPlace} (h : DataW.trod enc Try.prog W base sp held fuel 81 cs = some y) : ∃ x : wide, x.ok ∧ cs = x.cells ∧ True := by
  obtain ⟨xs, n, _, _, h4, h5, h6⟩ := DataW.trod_struct Try.underlying81 h
  rw [show Try.prog.cellsOf 81 = 128 by kernel_rfl] at h4
  have c0 : Try.prog.cellsOf 30 = 32 := by kernel_rfl
  have c1 : Try.prog.cellsOf 30 = 32 := by kernel_rfl
  have c2 : Try.prog.cellsOf 30 = 32 := by kernel_rfl
  have c3 : Try.prog.cellsOf 30 = 32 := by kernel_rfl
  have g0 : DataW.trod enc Try.prog W base sp held n 30 ((cs.drop 0).take (Try.prog.cellsOf 30)) = some (xs[0]'(by rw [h5]; decide)) := by rw [← List.getElem?_eq_getElem]; exact h6 0 _ rfl
  rw [c0] at g0
  obtain ⟨v0, e0, l0⟩ := Hw.open_bytesT Try.underlying30 Try.underlying5 (by kernel_rfl) (by kernel_rfl) g0
  have g1 : DataW.trod enc Try.prog W base sp held n 30 ((cs.drop 32).take (Try.prog.cellsOf 30)) = some (xs[1]'(by rw [h5]; decide)) := by rw [← List.getElem?_eq_getElem]; exact h6 1 _ rfl
  rw [c1] at g1
  obtain ⟨v1, e1, l1⟩ := Hw.open_bytesT Try.underlying30 Try.underlying5 (by kernel_rfl) (by kernel_rfl) g1
  have g2 : DataW.trod enc Try.prog W base sp held n 30 ((cs.drop 64).take (Try.prog.cellsOf 30)) = some (xs[2]'(by rw [h5]; decide)) := by rw [← List.getElem?_eq_getElem]; exact h6 2 _ rfl
  rw [c2] at g2
  obtain ⟨v2, e2, l2⟩ := Hw.open_bytesT Try.underlying30 Try.underlying5 (by kernel_rfl) (by kernel_rfl) g2
  have g3 : DataW.trod enc Try.prog W base sp held n 30 ((cs.drop 96).take (Try.prog.cellsOf 30)) = some (xs[3]'(by rw [h5]; decide)) := by rw [← List.getElem?_eq_getElem]; exact h6 3 _ rfl
  rw [c3] at g3
  obtain ⟨v3, e3, l3⟩ := Hw.open_bytesT Try.underlying30 Try.underlying5 (by kernel_rfl) (by kernel_rfl) g3
  refine ⟨⟨v0, v1, v2, v3⟩, ⟨l0, l1, l2, l3⟩, ?_, trivial⟩
  rw [← List.drop_zero (l := cs)]
  exact (Hw.cat 32 e0 rfl (Hw.cat 64 e1 rfl (Hw.cat 96 e2 rfl (Hw.cat_last e3 h4))))
end
section
variable {H : Type} {enc : TypeId × Value → H} {W : World} {base : Nat} {sp : Nat → Bool} {held : Bool}
theorem secrets.openT {fuel : Nat} {cs : List Value} {y : DataW H × List MemPlace} (h : DataW.trod enc Try.prog W base sp held fuel 45 cs = some y) : ∃ x : secrets, x.ok ∧ cs = x.cells ∧ True := by
  obtain ⟨xs, n, _, _, h4, h5, h6⟩ := DataW.trod_struct Try.underlying45 h
  rw [show Try.prog.cellsOf 45 = 64 by kernel_rfl] at h4
  have c0 : Try.prog.cellsOf 30 = 32 := by kernel_rfl
  have c1 : Try.prog.cellsOf 22 = 32 := by kernel_rfl
  have g0 : DataW.trod enc Try.prog W base sp held n 30 ((cs.drop 0).take (Try.prog.cellsOf 30)) = some (xs[0]'(by rw [h5]; decide)) := by rw [← List.getElem?_eq_getElem]; exact h6 0 _ rfl
  rw [c0] at g0
  obtain ⟨v0, e0, l0⟩ := Hw.open_bytesT Try.underlying30 Try.underlying5 (by kernel_rfl) (by kernel_rfl) g0
  have g1 : DataW.trod enc Try.prog W base sp held n 22 ((cs.drop 32).take (Try.prog.cellsOf 22)) = some (xs[1]'(by rw [h5]; decide)) := by rw [← List.getElem?_eq_getElem]; exact h6 1 _ rfl
  rw [c1] at g1
  obtain ⟨v1, e1, l1⟩ := Hw.open_bytesT Try.underlying22 Try.underlying5 (by kernel_rfl) (by kernel_rfl) g1
  refine ⟨⟨v0, v1⟩, ⟨l0, l1⟩, ?_, trivial⟩
  rw [← List.drop_zero (l := cs)]
  exact (Hw.cat 32 e0 rfl (Hw.cat_last e1 h4))
end
end Go.Proofs.Ytmddgelpllffoaa
end

section
namespace Go.Proofs.Ytmddgelpllffoaa
open Go Hw
set_option linter.unusedVariables false
set_option linter.unusedSimpArgs false

set_option maxRecDepth 100000 in
set_option maxHeartbeats 1000000 in
theorem kit_own (s : Sl) (l : List UInt8) (hn : s.n ≤ 500000) : Meets Try.prog 9 [s.v] [] (fun W => BytesAt W s l) (fun v out => FreshRow v out (bytesV l) 5 s.n 1) := by
  intro W hW
  refine calls_of (hp0 := []) Try.func9 rfl 6 Try.ntmps9 rfl (HRep.nil _) ?_
  refine Sat.seq ?_
  refine Sat.region ?_
  refine Tr.assign rfl rfl rfl ?_
  refine Tr.nil ?_
  refine at_n ?_
  refine Sat.seq ?_
  refine Sat.region ?_
  refine Tr.mkRow (z := u8 0) [] ([]) rfl rfl rfl Try.underlying23 Sz5 Zr5 rfl rfl (by intro v hv; cases hv) dE (rfl) ?_
  intro q0
  refine Tr.move rfl rfl rfl ?_
  refine Tr.appendSl (z := u8 0) (by' := 1) (bytesV l) rfl rfl rfl rfl rfl Try.underlying23 Try.underlying23 Sz5 Zr5 (by unfold By; kernel_rfl) rfl (fun w h => seesP_ext h rfl hW.see) (fun e => by have := hW.nil e; have := hW.cap; omega) (by simp [bytesV, isCell, u8]) rem_here rfl rfl oM oM oM (by rw [bytesV, List.length_map, hW.len, Nat.mul_one]) ?_
  intro q1 c1 hq1
  refine Tr.assign rfl rfl rfl ?_
  refine Tr.nil ?_
  refine at_n ?_
  refine Sat.ret ?_
  refine en_r ?_
  refine ⟨_, [⟨q1, [] ++ bytesV l, 5, c1 * 1⟩], res_tmp rfl rfl, (by intro b hb; rw [List.mem_singleton.1 hb]; exact mem0), nodup1, ⟨q1, c1, by rw [Nat.zero_add], by omega, rfl⟩⟩

theorem bytes_ext {C : Cx} {hp : List Blk} {w : World} {s : Sl} {l : List UInt8} (h : HRep C hp w) (hl : C.lent = []) (hr : BytesAt C.W0 s l) : BytesAt w s l := ⟨hr.len, hr.cap, seesP_ext h hl hr.see, hr.max, hr.nil⟩

end Go.Proofs.Ytmddgelpllffoaa
end

section
namespace Go.Proofs.Ytmddgelpllffoaa
open Go Hw
set_option linter.unusedVariables false
set_option linter.unusedSimpArgs false

theorem shr64_nat (x : UInt64) (n : Nat) : (shr64 x n).toNat = x.toNat / 2 ^ n := by
  have h : x.toNat / 2 ^ n ≤ x.toNat := Nat.div_le_self _ _
  have := x.toNat_lt
  rw [shr64, UInt64.toNat_ofNat', Nat.mod_eq_of_lt oM]

end Go.Proofs.Ytmddgelpllffoaa
end

section
namespace Go.Proofs.Ytmddgelpllffoaa
open Go Hw
set_option linter.unusedVariables false
set_option linter.unusedSimpArgs false

theorem res_none {C : Cx} {fn : Func} {s : St} (hr : fn.results = #[]) : Res C fn s (.tuple #[]) := fun a w r => by
  simp [results, hr]



end Go.Proofs.Ytmddgelpllffoaa
end

section
namespace Go.Proofs.Ytmddgelpllffoaa
open Go Hw
set_option linter.unusedVariables false
set_option linter.unusedSimpArgs false

theorem BlkOk.keep {ex : List Nat} {w w' : World} {b : Blk} (h : Keeps ex w w') (hb : BlkOk w b) (hn : b.n ∉ ex) : BlkOk w' b := hb.of_heap (h.block b.n hb.lt hn)



end Go.Proofs.Ytmddgelpllffoaa
end

section
namespace Go.Proofs.Ytmddgelpllffoaa
open Go Hw
set_option linter.unusedVariables false
set_option linter.unusedSimpArgs false

theorem word_nat {n : Nat} (h : n ≤ 1000000) : wordOf (n : Int) = UInt64.ofNat n := by simp only [wordOf]; congr 1; omega
theorem ofNat_nat {n : Nat} (h : n ≤ 1000000) : (UInt64.ofNat n).toNat = n := by rw [UInt64.toNat_ofNat', Nat.mod_eq_of_lt oM]
end Go.Proofs.Ytmddgelpllffoaa
end

section
namespace Go.Proofs.Ytmddgelpllffoaa
open Go Hw
set_option linter.unusedVariables false
set_option linter.unusedSimpArgs false

/-- a block as plain data -/
structure DB where
  w : List UInt8
  seq : UInt64
  prev : List UInt8
  ls : List (List UInt8)
  ds : List UInt8
  sg : List UInt8
deriving DecidableEq
def DB.zero : DB := ⟨List.replicate 32 0, 0, List.replicate 32 0, [], [], List.replicate 64 0⟩
def DB.head (D : DB) : Bool := decide ((4294967295 : Int) < (D.seq.toNat : Int)) || (!decide (decide (D.prev = List.replicate 32 0) = decide ((D.seq.toNat : Int) = 0)) || (decide ((16 : Int) < (D.ls.length : Int)) || decide ((512 : Int) < (D.ds.length : Int))))
def DB.body (D : DB) : List UInt8 := D.w ++ numB D.seq ++ D.prev ++ numB (UInt64.ofNat D.ls.length) ++ D.ls.flatten ++ (numB (UInt64.ofNat D.ds.length) ++ D.ds)
def DB.bytes (D : DB) : List UInt8 := D.body ++ D.sg
/-- the lengths that the types ask -/
structure DB.ok (D : DB) : Prop where
  w : D.w.length = 32
  prev : D.prev.length = 32
  sg : D.sg.length = 64
  ls : ∀ l ∈ D.ls, l.length = 32
end Go.Proofs.Ytmddgelpllffoaa
end

section
namespace Hw
open Go
set_option linter.unusedSimpArgs false
set_option linter.unusedVariables false

/-- turned to the left by s bits -/
def rolW (x : UInt64) (s : Nat) : UInt64 := shl64 x s ||| shr64 x (64 - s)
def schA (p : List UInt8) : Nat → List UInt64
  | 0 => List.replicate 80 0
  | i + 1 => (schA p i).set (i / 8) (shl64 ((schA p i).getD (i / 8) 0) 8 ||| (p.getD i 0).toUInt64)
theorem schA_length (p : List UInt8) : ∀ i, (schA p i).length = 80
  | 0 => rfl
  | i + 1 => by rw [schA, List.length_set, schA_length p i]
def sig0 (x : UInt64) : UInt64 := rolW x 63 ^^^ rolW x 56 ^^^ shr64 x 7
def sig1 (y : UInt64) : UInt64 := rolW y 45 ^^^ rolW y 3 ^^^ shr64 y 6
def schB (w : List UInt64) : Nat → List UInt64
  | 0 => w
  | j + 1 => (schB w j).set (16 + j) ((schB w j).getD j 0 + sig0 ((schB w j).getD (j + 1) 0) + (schB w j).getD (j + 9) 0 + sig1 ((schB w j).getD (j + 14) 0))
theorem schB_length (w : List UInt64) : ∀ j, (schB w j).length = w.length
  | 0 => rfl
  | j + 1 => by rw [schB, List.length_set, schB_length w j]
def schW (p : List UInt8) : List UInt64 := schB (schA p 128) 64
structure W8 where
  a : UInt64
  b : UInt64
  c : UInt64
  d : UInt64
  e : UInt64
  f : UInt64
  g : UInt64
  h : UInt64
def W8.l (s : W8) : List UInt64 := [s.a, s.b, s.c, s.d, s.e, s.f, s.g, s.h]
def W8.of (l : List UInt64) : W8 := ⟨l.getD 0 0, l.getD 1 0, l.getD 2 0, l.getD 3 0, l.getD 4 0, l.getD 5 0, l.getD 6 0, l.getD 7 0⟩
def rndT1 (s : W8) (k w : UInt64) : UInt64 := s.h + (rolW s.e 50 ^^^ rolW s.e 46 ^^^ rolW s.e 23) + ((s.e &&& s.f) ^^^ ((18446744073709551615 ^^^ s.e) &&& s.g)) + k + w
def rndT2 (s : W8) : UInt64 := (rolW s.a 36 ^^^ rolW s.a 30 ^^^ rolW s.a 25) + ((s.a &&& s.b) ^^^ (s.a &&& s.c) ^^^ (s.b &&& s.c))
def rnd1 (s : W8) (k w : UInt64) : W8 := ⟨rndT1 s k w + rndT2 s, s.a, s.b, s.c, s.d + rndT1 s k w, s.e, s.f, s.g⟩
def rnds (k w : List UInt64) (s : W8) : Nat → W8
  | 0 => s
  | t + 1 => rnd1 (rnds k w s t) (k.getD t 0) (w.getD t 0)
def addUp (st xs : List UInt64) : Nat → List UInt64
  | 0 => st
  | i + 1 => (addUp st xs i).set i ((addUp st xs i).getD i 0 + xs.getD i 0)
theorem addUp_length (st xs : List UInt64) : ∀ i, (addUp st xs i).length = st.length
  | 0 => rfl
  | i + 1 => by rw [addUp, List.length_set, addUp_length st xs i]
def pieceW (k st : List UInt64) (p : List UInt8) : List UInt64 := addUp st (rnds k (schW p) (W8.of st) 80).l 8
theorem pieceW_length (k st : List UInt64) (p : List UInt8) : (pieceW k st p).length = st.length := addUp_length _ _ _
def sumUp (st : List UInt64) : Nat → List UInt8
  | 0 => List.replicate 64 0
  | i + 1 => (sumUp st i).set i (shr64 (st.getD (i / 8) 0) (56 - 8 * (i % 8))).toUInt8
theorem sumUp_length (st : List UInt64) : ∀ i, (sumUp st i).length = 64
  | 0 => rfl
  | i + 1 => by rw [sumUp, List.length_set, sumUp_length st i]
/-- the zeros behind the 128 -/
def padZ (n : Nat) : Nat := (239 - n % 128) % 128
theorem padZ_lt (n : Nat) : padZ n < 128 := Nat.mod_lt _ dE
theorem padZ_at (n j : Nat) (h : j ≤ padZ n) : (n + 1 + j) % 128 = 112 ↔ j = padZ n := by unfold padZ at *; omega
def beUp (x : UInt64) : Nat → List UInt8
  | 0 => []
  | j + 1 => beUp x j ++ [(shr64 x (56 - 8 * j)).toUInt8]
theorem beUp_length (x : UInt64) : ∀ j, (beUp x j).length = j
  | 0 => rfl
  | j + 1 => by rw [beUp, List.length_append, beUp_length x j]; rfl
def padB (l : List UInt8) : List UInt8 := l ++ [128] ++ List.replicate (padZ l.length) 0 ++ beUp 0 8 ++ beUp (UInt64.ofNat (8 * l.length)) 8
theorem padB_length (l : List UInt8) : (padB l).length = l.length + 17 + padZ l.length := by
  simp only [padB, List.length_append, beUp_length, List.length_replicate, List.length_singleton]; omega
theorem padB_mod (l : List UInt8) : (padB l).length = 128 * ((padB l).length / 128) := by
  rw [padB_length]; unfold padZ; omega
def runW (k st : List UInt64) (bs : List UInt8) : Nat → List UInt64
  | 0 => st
  | i + 1 => pieceW k (runW k st bs i) ((bs.drop (128 * i)).take 128)
theorem runW_length (k st : List UInt64) (bs : List UInt8) : ∀ i, (runW k st bs i).length = st.length
  | 0 => rfl
  | i + 1 => by rw [runW, pieceW_length, runW_length k st bs i]
def allW (k st : List UInt64) (l : List UInt8) : List UInt64 := runW k st (padB l) ((padB l).length / 128)
theorem allW_length (k st : List UInt64) (l : List UInt8) : (allW k st l).length = st.length := runW_length _ _ _ _
end Hw
end

section
namespace Go.Proofs.Ytmddgelpllffoaa
open Go Hw
set_option linter.unusedVariables false
set_option linter.unusedSimpArgs false

def kW : List UInt64 := [4794697086780616226, 8158064640168781261, 13096744586834688815, 16840607885511220156, 4131703408338449720, 6480981068601479193, 10538285296894168987, 12329834152419229976, 15566598209576043074, 1334009975649890238, 2608012711638119052, 6128411473006802146, 8268148722764581231, 9286055187155687089, 11230858885718282805, 13951009754708518548, 16472876342353939154, 17275323862435702243, 1135362057144423861, 2597628984639134821, 3308224258029322869, 5365058923640841347, 6679025012923562964, 8573033837759648693, 10970295158949994411, 12119686244451234320, 12683024718118986047, 13788192230050041572, 14330467153632333762, 15395433587784984357, 489312712824947311, 1452737877330783856, 2861767655752347644, 3322285676063803686, 5560940570517711597, 5996557281743188959, 7280758554555802590, 8532644243296465576, 9350256976987008742, 10552545826968843579, 11727347734174303076, 12113106623233404929, 14000437183269869457, 14369950271660146224, 15101387698204529176, 15463397548674623760, 17586052441742319658, 1182934255886127544, 1847814050463011016, 2177327727835720531, 2830643537854262169, 3796741975233480872, 4115178125766777443, 5681478168544905931, 6601373596472566643, 7507060721942968483, 8399075790359081724, 8693463985226723168, 9568029438360202098, 10144078919501101548, 10430055236837252648, 11840083180663258601, 13761210420658862357, 14299343276471374635, 14566680578165727644, 15097957966210449927, 16922976911328602910, 17689382322260857208, 500013540394364858, 748580250866718886, 1242879168328830382, 1977374033974150939, 2944078676154940804, 3659926193048069267, 4368137639120453308, 4836135668995329356, 5532061633213252278, 6448918945643986474, 6902733635092675308, 7801388544844847127]
def startW : List UInt64 := [7640891576956012808, 13503953896175478587, 4354685564936845355, 11912009170470909681, 5840696475078001361, 11170449401992604703, 2270897969802886507, 6620516959819538809]

set_option maxRecDepth 100000 in
set_option maxHeartbeats 1000000 in
theorem sha_K  : Meets Try.prog 103 [] [] (fun _ => True) (fun v out => v = agg (wordsV kW) ∧ out = []) := by
  intro W hW
  refine calls_of (hp0 := []) Try.func103 rfl 2 Try.ntmps103 rfl (HRep.nil _) ?_
  refine Sat.seq ?_
  refine Sat.region ?_
  refine Tr.alloc (cs := (wordsV (List.replicate 80 0))) rfl Zr129 rfl ?_
  intro n0 hn0 hf0
  refine Tr.nil ?_
  refine at_n ?_
  refine Sat.seq ?_
  refine Sat.region ?_
  refine Tr.build (cs := wordsV kW) rfl rfl rfl (fun w => by kernel_rfl) ?_
  first
    | refine Tr.storeAll rfl rfl rfl rfl cB Sz129 (by first | (simp [kW]; done) | assumption | (rw [bytesV, List.length_map]; assumption)) mM (by first | (simp [kW]; done) | assumption | (rw [bytesV, List.length_map]; assumption)) uU ?_
    | refine Tr.storeN _ rfl rfl rfl rfl rfl cB Sz129 (by first | (simp [kW]; done) | assumption | (rw [bytesV, List.length_map]; assumption)) mM (by first | (simp [kW]; done) | assumption | (rw [bytesV, List.length_map]; assumption)) (by exact rfl) uU ?_
  refine Tr.nil ?_
  refine at_n ?_
  refine Sat.ret ?_
  refine en_r ?_
  refine ⟨_, [], res_cell rfl rfl Try.underlying129 rfl Sz129 mM (by simp [kW]), sP, sP, ?_, rfl⟩
  rfl

set_option maxRecDepth 100000 in
set_option maxHeartbeats 1000000 in
theorem sha_Start  : Meets Try.prog 65 [] [] (fun _ => True) (fun v out => v = agg (wordsV startW) ∧ out = []) := by
  intro W hW
  refine calls_of (hp0 := []) Try.func65 rfl 2 Try.ntmps65 rfl (HRep.nil _) ?_
  refine Sat.seq ?_
  refine Sat.region ?_
  refine Tr.alloc (cs := (wordsV (List.replicate 8 0))) rfl Zr69 rfl ?_
  intro n0 hn0 hf0
  refine Tr.nil ?_
  refine at_n ?_
  refine Sat.seq ?_
  refine Sat.region ?_
  refine Tr.build (cs := wordsV startW) rfl rfl rfl (fun w => by kernel_rfl) ?_
  first
    | refine Tr.storeAll rfl rfl rfl rfl cB Sz69 (by first | (simp [startW]; done) | assumption | (rw [bytesV, List.length_map]; assumption)) mM (by first | (simp [startW]; done) | assumption | (rw [bytesV, List.length_map]; assumption)) uU ?_
    | refine Tr.storeN _ rfl rfl rfl rfl rfl cB Sz69 (by first | (simp [startW]; done) | assumption | (rw [bytesV, List.length_map]; assumption)) mM (by first | (simp [startW]; done) | assumption | (rw [bytesV, List.length_map]; assumption)) (by exact rfl) uU ?_
  refine Tr.nil ?_
  refine at_n ?_
  refine Sat.ret ?_
  refine en_r ?_
  refine ⟨_, [], res_cell rfl rfl Try.underlying69 rfl Sz69 mM (by simp [startW]), sP, sP, ?_, rfl⟩
  rfl

set_option maxRecDepth 100000 in
set_option maxHeartbeats 1000000 in
theorem bits_rol (x : UInt64) (k : Int) (s : Nat) (hk : -64 ≤ k ∧ k ≤ 64) (hs : (wordOf k &&& 63).toNat = s) (hs2 : s ≤ 63) : Meets Try.prog 104 [u64 x, i64 k] [] (fun _ => True) (fun v out => v = u64 (rolW x s) ∧ out = []) := by
  intro W hW
  have h64 : ((64 : UInt64) - (wordOf k &&& 63)).toNat = 64 - s := by rw [UInt64.toNat_sub_of_le _ _ (by rw [UInt64.le_iff_toNat_le, hs]; show s ≤ 64; omega), hs]; rfl
  refine calls_of (hp0 := []) Try.func104 rfl 17 Try.ntmps104 rfl (HRep.nil _) ?_
  refine Sat.seq ?_
  refine Sat.region ?_
  refine Tr.assign rfl rfl (show evIn _ _ = some (u64 0) from rfl) ?_
  refine Tr.nil ?_
  refine at_n ?_
  refine Sat.seq ?_
  refine Sat.region ?_
  refine Tr.move rfl rfl rfl ?_
  refine Tr.conv rfl rfl rfl Try.underlying3 Try.underlying91 (cv_i64_u64 _) ?_
  refine Tr.and_u64 rfl rfl rfl (show evIn _ _ = some (u64 63) from rfl) ?_
  refine Tr.assign rfl rfl rfl ?_
  refine Tr.nil ?_
  refine at_n ?_
  refine Sat.seq ?_
  refine Sat.region ?_
  refine Tr.move rfl rfl rfl ?_
  refine Tr.move rfl rfl rfl ?_
  refine Tr.shl_u64 rfl rfl rfl rfl s oM oM ?_
  refine Tr.move rfl rfl rfl ?_
  refine Tr.move rfl rfl rfl ?_
  refine Tr.sub_u64 rfl rfl (show evIn _ _ = some (u64 64) from rfl) rfl ?_
  refine Tr.shr_u64 rfl rfl rfl rfl (64 - s) oM oM ?_
  refine Tr.or_u64 rfl rfl rfl rfl ?_
  refine Tr.assign rfl rfl rfl ?_
  refine Tr.nil ?_
  refine at_n ?_
  refine Sat.ret ?_
  refine en_r ?_
  refine ⟨_, [], res_tmp rfl rfl, sP, sP, ?_, rfl⟩
  rfl

set_option maxRecDepth 100000 in
set_option maxHeartbeats 4000000 in
theorem sha_schedule (p : List UInt8) (hp : p.length = 128) (A w : List UInt64) (hA : Hid (schA p 128 = A)) (hwp : Hid (schB A 64 = w)) : Meets Try.prog 102 [agg (bytesV p)] [] (fun _ => True) (fun v out => v = agg (wordsV w) ∧ out = []) := by
  intro W hW
  have hA80 : A.length = 80 := by rw [← hA.out]; exact schA_length p 128
  have hw80 : w.length = 80 := by rw [← hwp.out, schB_length]; exact hA80
  refine calls_of (hp0 := []) Try.func102 rfl 72 Try.ntmps102 rfl (HRep.nil _) ?_
  refine Sat.seq ?_
  refine Sat.region ?_
  refine Tr.boxA rfl rfl ?_
  intro n1 hn1 hf1
  refine Tr.alloc (cs := (wordsV (List.replicate 80 0))) rfl Zr129 rfl ?_
  intro n2 hn2 hf2
  refine Tr.nil ?_
  refine at_n ?_
  refine Sat.seq ?_
  refine Sat.region ?_
  refine Tr.alloc (cs := (wordsV (List.replicate 80 0))) rfl Zr129 rfl ?_
  intro n3 hn3 hf3
  refine Tr.nil ?_
  refine at_n ?_
  refine Sat.seq ?_
  refine Sat.seq ?_
  refine Sat.region ?_
  first
    | refine Tr.loadAll rfl rfl rfl Try.underlying115 rfl Sz115 mM (by first | (simp [hp, schA_length, schB_length, hw80, hA80]; done) | assumption | (rw [bytesV, List.length_map]; assumption)) ?_
    | refine Tr.loadN _ rfl rfl rfl Try.underlying115 rfl Sz115 mM (by exact rfl) (by first | (simp [hp, schA_length, schB_length, hw80, hA80]; done) | assumption | (rw [bytesV, List.length_map]; assumption)) ?_
  refine Tr.move rfl rfl rfl ?_
  refine Tr.nil ?_
  refine at_n ?_
  refine Sat.block ?_
  refine Sat.loop (ι := Nat) (fun k => ⟨[(3, ptr n3 0), (2, ptr n2 0), (11, agg (bytesV p)), (12, i64 (k : Int))], [⟨n3, wordsV (schA p k), 129, 80⟩, ⟨n2, wordsV (List.replicate 80 0), 129, 80⟩]⟩) (fun k => k ≤ 128) (fun k => 128 - k) (0) ?_ ?_ ?_
  · omega
  · exact weak_of (wk1 rfl (wk1 rfl (wk1 rfl (wk1 rfl wk0)))) (wh1 mM (wh1 mM wh0)) nD
  ·
    rintro k hi
    have hlk := schA_length p k
    refine Sat.seq ?_
    refine Sat.region ?_
    refine Tr.lss rfl rfl rfl rfl rfl ?_
    refine Tr.nil ?_
    refine at_n ?_
    refine Sat.seq ?_
    first
      | refine Sat.condP rfl (fun hc0 => ?_) (fun hc0 => ?_)
      | refine Sat.condNP rfl (fun hc0 => ?_) (fun hc0 => ?_)
      | refine Sat.cond rfl (fun hc0 => ?_) (fun hc0 => ?_)
    ·
      refine Sat.skip ?_
      refine at_n ?_
      refine Sat.seq ?_
      refine Sat.block ?_
      refine Sat.seq ?_
      refine Sat.region ?_
      refine Tr.move rfl rfl rfl ?_
      refine Tr.idxA1 rfl rfl rfl rfl Try.underlying115 Sz5 Try.underlying5 rfl _ rfl oM (by first | rfl | exact get_words (by first | omega | (simp [hp, schA_length, schB_length, hw80, hA80]; done) | (simp [hp, schA_length, schB_length, hw80, hA80]; omega)) | exact get_bytes (by first | omega | (simp [hp, schA_length, schB_length, hw80, hA80]; done) | (simp [hp, schA_length, schB_length, hw80, hA80]; omega)) | exact get_ints (by first | omega | (simp [hp, schA_length, schB_length, hw80, hA80]; done) | (simp [hp, schA_length, schB_length, hw80, hA80]; omega))) ?_
      refine Tr.assign rfl rfl rfl ?_
      refine Tr.assign rfl rfl rfl ?_
      refine Tr.nil ?_
      refine at_n ?_
      refine Sat.region ?_
      refine Tr.move rfl rfl rfl ?_
      refine Tr.quo_i64 rfl rfl rfl rfl oM ?_
      refine Tr.move rfl rfl rfl ?_
      refine Tr.quo_i64 rfl rfl rfl rfl oM ?_
      first
        | refine Tr.idxArr1 rfl rfl rfl rfl Try.underlying129 Sz65 (k / 8) oM oM ?_
        | refine Tr.idxArrO rfl rfl rfl rfl Try.underlying129 Sz65 (k / 8) oM oM ?_
      refine Tr.load1 rfl rfl rfl Try.underlying65 rfl mM (by first | rfl | exact get_words (by first | omega | (simp [hp, schA_length, schB_length, hw80, hA80]; done) | (simp [hp, schA_length, schB_length, hw80, hA80]; omega)) | exact get_bytes (by first | omega | (simp [hp, schA_length, schB_length, hw80, hA80]; done) | (simp [hp, schA_length, schB_length, hw80, hA80]; omega)) | exact get_ints (by first | omega | (simp [hp, schA_length, schB_length, hw80, hA80]; done) | (simp [hp, schA_length, schB_length, hw80, hA80]; omega))) ?_
      refine Tr.shl_u64 rfl rfl rfl rfl 8 rfl dE ?_
      refine Tr.move rfl rfl rfl ?_
      refine Tr.conv rfl rfl rfl Try.underlying5 Try.underlying65 (cv_u8_u64 _) ?_
      refine Tr.or_u64 rfl rfl rfl rfl ?_
      first
        | refine Tr.idxArr1 rfl rfl rfl rfl Try.underlying129 Sz65 (k / 8) oM oM ?_
        | refine Tr.idxArrO rfl rfl rfl rfl Try.underlying129 Sz65 (k / 8) oM oM ?_
      refine Tr.store1 rfl rfl rfl rfl rfl Sz65 mM (by first | (simp [hp, schA_length, schB_length, hw80, hA80]; done) | (simp [hp, schA_length, schB_length, hw80, hA80]; omega)) sT uU ?_
      refine Tr.nil ?_
      refine bl_n ?_
      refine at_n ?_
      refine Sat.region ?_
      refine Tr.add_i64 rfl rfl rfl rfl oM ?_
      refine Tr.move rfl rfl rfl ?_
      refine Tr.nil ?_
      refine at_n ?_
      exact ⟨k + 1, by omega, by omega, weak_of (wk1 rfl (wk1 rfl (wk1 rfl (wk1 rfl wk0)))) (wh1 mM (wh1 mM wh0)) nD⟩
    ·
      obtain rfl : k = 128 := by omega
      rw [hA.out]
      clear hlk
      refine Sat.exit ?_
      refine at_x ?_
      refine at_x ?_
      refine bl_h ?_
      refine at_n ?_
      refine Sat.seq ?_
      refine Sat.seq ?_
      refine Sat.region ?_
      refine Tr.assign rfl rfl rfl ?_
      refine Tr.nil ?_
      refine at_n ?_
      refine Sat.block ?_
      refine Sat.loop (ι := Nat) (fun j => ⟨[(3, ptr n3 0), (2, ptr n2 0), (6, i64 (16 + (j : Int)))], [⟨n3, wordsV (schB A j), 129, 80⟩, ⟨n2, wordsV (List.replicate 80 0), 129, 80⟩]⟩) (fun j => j ≤ 64) (fun j => 64 - j) (0) ?_ ?_ ?_
      · omega
      · exact weak_of (wk1 rfl (wk1 rfl (wk1 rfl wk0))) (wh1 mM (wh1 mM wh0)) nD
      ·
        rintro j hi
        have hlj := schB_length A j
        refine Sat.seq ?_
        refine Sat.seq ?_
        refine Sat.region ?_
        refine Tr.move rfl rfl rfl ?_
        refine Tr.lss rfl rfl rfl rfl rfl ?_
        refine Tr.nil ?_
        refine at_n ?_
        first
          | refine Sat.condP rfl (fun hc1 => ?_) (fun hc1 => ?_)
          | refine Sat.condNP rfl (fun hc1 => ?_) (fun hc1 => ?_)
          | refine Sat.cond rfl (fun hc1 => ?_) (fun hc1 => ?_)
        ·
          refine Sat.skip ?_
          refine at_n ?_
          refine Sat.seq ?_
          refine Sat.block ?_
          refine Sat.seq ?_
          refine Sat.draw [(0, 0), (0, 1), (0, 2), (1, 3), (0, 4), (0, 5), (0, 6), (1, 7), (0, 8), (0, 9)] Mixed (by kernel_rfl) ?_
          refine Tr.move rfl rfl rfl ?_
          refine Tr.sub_i64 rfl rfl rfl rfl oM ?_
          first
            | refine Tr.idxArr1 rfl rfl rfl rfl Try.underlying129 Sz65 (j + 1) oM oM ?_
            | refine Tr.idxArrO rfl rfl rfl rfl Try.underlying129 Sz65 (j + 1) oM oM ?_
          refine Tr.load1 rfl rfl rfl Try.underlying65 rfl mM (by first | rfl | exact get_words (by first | omega | (simp [hp, schA_length, schB_length, hw80, hA80]; done) | (simp [hp, schA_length, schB_length, hw80, hA80]; omega)) | exact get_bytes (by first | omega | (simp [hp, schA_length, schB_length, hw80, hA80]; done) | (simp [hp, schA_length, schB_length, hw80, hA80]; omega)) | exact get_ints (by first | omega | (simp [hp, schA_length, schB_length, hw80, hA80]; done) | (simp [hp, schA_length, schB_length, hw80, hA80]; omega))) ?_
          refine Tr.move rfl rfl rfl ?_
          refine Tr.sub_i64 rfl rfl rfl rfl oM ?_
          first
            | refine Tr.idxArr1 rfl rfl rfl rfl Try.underlying129 Sz65 (j + 14) oM oM ?_
            | refine Tr.idxArrO rfl rfl rfl rfl Try.underlying129 Sz65 (j + 14) oM oM ?_
          refine Tr.load1 rfl rfl rfl Try.underlying65 rfl mM (by first | rfl | exact get_words (by first | omega | (simp [hp, schA_length, schB_length, hw80, hA80]; done) | (simp [hp, schA_length, schB_length, hw80, hA80]; omega)) | exact get_bytes (by first | omega | (simp [hp, schA_length, schB_length, hw80, hA80]; done) | (simp [hp, schA_length, schB_length, hw80, hA80]; omega)) | exact get_ints (by first | omega | (simp [hp, schA_length, schB_length, hw80, hA80]; done) | (simp [hp, schA_length, schB_length, hw80, hA80]; omega))) ?_
          refine Tr.assign rfl rfl rfl ?_
          refine Tr.assign rfl rfl rfl ?_
          refine Tr.nil ?_
          refine at_n ?_
          refine Sat.seq ?_
          refine Sat.region ?_
          refine Tr.move rfl rfl rfl ?_
          refine Tr.callV rfl rfl rfl rfl Body104 (bits_rol _ (-1) 63 dE dE dE) (fun _ _ => trivial) ?_
          refine Tr.move rfl rfl rfl ?_
          refine Tr.callV rfl rfl rfl rfl Body104 (bits_rol _ (-8) 56 dE dE dE) (fun _ _ => trivial) ?_
          refine Tr.xor_u64 rfl rfl rfl rfl ?_
          refine Tr.move rfl rfl rfl ?_
          refine Tr.shr_u64 rfl rfl rfl rfl 7 rfl dE ?_
          refine Tr.xor_u64 rfl rfl rfl rfl ?_
          refine Tr.assign rfl rfl rfl ?_
          refine Tr.nil ?_
          refine at_n ?_
          refine Sat.seq ?_
          refine Sat.region ?_
          refine Tr.move rfl rfl rfl ?_
          refine Tr.callV rfl rfl rfl rfl Body104 (bits_rol _ (-19) 45 dE dE dE) (fun _ _ => trivial) ?_
          refine Tr.move rfl rfl rfl ?_
          refine Tr.callV rfl rfl rfl rfl Body104 (bits_rol _ (-61) 3 dE dE dE) (fun _ _ => trivial) ?_
          refine Tr.xor_u64 rfl rfl rfl rfl ?_
          refine Tr.move rfl rfl rfl ?_
          refine Tr.shr_u64 rfl rfl rfl rfl 6 rfl dE ?_
          refine Tr.xor_u64 rfl rfl rfl rfl ?_
          refine Tr.assign rfl rfl rfl ?_
          refine Tr.nil ?_
          refine at_n ?_
          refine Sat.draw [(0, 0), (0, 1), (0, 2), (0, 3), (1, 4), (0, 5), (0, 6), (0, 7), (0, 8), (0, 9), (1, 10), (0, 11), (0, 12), (0, 13), (0, 14), (4, 15)] Mixed (by kernel_rfl) ?_
          refine Tr.move rfl rfl rfl ?_
          refine Tr.move rfl rfl rfl ?_
          refine Tr.sub_i64 rfl rfl rfl rfl oM ?_
          first
            | refine Tr.idxArr1 rfl rfl rfl rfl Try.underlying129 Sz65 j oM oM ?_
            | refine Tr.idxArrO rfl rfl rfl rfl Try.underlying129 Sz65 j oM oM ?_
          refine Tr.load1 rfl rfl rfl Try.underlying65 rfl mM (by first | rfl | exact get_words (by first | omega | (simp [hp, schA_length, schB_length, hw80, hA80]; done) | (simp [hp, schA_length, schB_length, hw80, hA80]; omega)) | exact get_bytes (by first | omega | (simp [hp, schA_length, schB_length, hw80, hA80]; done) | (simp [hp, schA_length, schB_length, hw80, hA80]; omega)) | exact get_ints (by first | omega | (simp [hp, schA_length, schB_length, hw80, hA80]; done) | (simp [hp, schA_length, schB_length, hw80, hA80]; omega))) ?_
          refine Tr.move rfl rfl rfl ?_
          refine Tr.add_u64 rfl rfl rfl rfl ?_
          refine Tr.move rfl rfl rfl ?_
          refine Tr.sub_i64 rfl rfl rfl rfl oM ?_
          first
            | refine Tr.idxArr1 rfl rfl rfl rfl Try.underlying129 Sz65 (j + 9) oM oM ?_
            | refine Tr.idxArrO rfl rfl rfl rfl Try.underlying129 Sz65 (j + 9) oM oM ?_
          refine Tr.load1 rfl rfl rfl Try.underlying65 rfl mM (by first | rfl | exact get_words (by first | omega | (simp [hp, schA_length, schB_length, hw80, hA80]; done) | (simp [hp, schA_length, schB_length, hw80, hA80]; omega)) | exact get_bytes (by first | omega | (simp [hp, schA_length, schB_length, hw80, hA80]; done) | (simp [hp, schA_length, schB_length, hw80, hA80]; omega)) | exact get_ints (by first | omega | (simp [hp, schA_length, schB_length, hw80, hA80]; done) | (simp [hp, schA_length, schB_length, hw80, hA80]; omega))) ?_
          refine Tr.add_u64 rfl rfl rfl rfl ?_
          refine Tr.move rfl rfl rfl ?_
          refine Tr.add_u64 rfl rfl rfl rfl ?_
          first
            | refine Tr.idxArr1 rfl rfl rfl rfl Try.underlying129 Sz65 (16 + j) oM oM ?_
            | refine Tr.idxArrO rfl rfl rfl rfl Try.underlying129 Sz65 (16 + j) oM oM ?_
          refine Tr.store1 rfl rfl rfl rfl rfl Sz65 mM (by first | (simp [hp, schA_length, schB_length, hw80, hA80]; done) | (simp [hp, schA_length, schB_length, hw80, hA80]; omega)) sT uU ?_
          refine Tr.nil ?_
          refine bl_n ?_
          refine at_n ?_
          refine Sat.region ?_
          refine Tr.move rfl rfl rfl ?_
          refine Tr.add_i64 rfl rfl rfl rfl oM ?_
          refine Tr.assign rfl rfl rfl ?_
          refine Tr.nil ?_
          refine at_n ?_
          exact ⟨j + 1, by omega, by omega, weak_of (wk1 rfl (wk1 rfl (wk1 (congrArg (fun z => some (i64 z)) oM) wk0))) (wh1 mM (wh1 mM wh0)) nD⟩
        ·
          obtain rfl : j = 64 := by omega
          rw [hwp.out]
          clear hlj
          refine Sat.exit ?_
          refine at_x ?_
          refine at_x ?_
          refine bl_h ?_
          refine at_n ?_
          refine Sat.seq ?_
          refine Sat.region ?_
          first
            | refine Tr.loadAll rfl rfl rfl Try.underlying129 rfl Sz129 mM (by first | (simp [hp, schA_length, schB_length, hw80, hA80]; done) | assumption | (rw [bytesV, List.length_map]; assumption)) ?_
            | refine Tr.loadN _ rfl rfl rfl Try.underlying129 rfl Sz129 mM (by exact rfl) (by first | (simp [hp, schA_length, schB_length, hw80, hA80]; done) | assumption | (rw [bytesV, List.length_map]; assumption)) ?_
          first
            | refine Tr.storeAll rfl rfl rfl rfl cB Sz129 (by first | (simp [hp, schA_length, schB_length, hw80, hA80]; done) | assumption | (rw [bytesV, List.length_map]; assumption)) mM (by first | (simp [hp, schA_length, schB_length, hw80, hA80]; done) | assumption | (rw [bytesV, List.length_map]; assumption)) uU ?_
            | refine Tr.storeN _ rfl rfl rfl rfl rfl cB Sz129 (by first | (simp [hp, schA_length, schB_length, hw80, hA80]; done) | assumption | (rw [bytesV, List.length_map]; assumption)) mM (by first | (simp [hp, schA_length, schB_length, hw80, hA80]; done) | assumption | (rw [bytesV, List.length_map]; assumption)) (by exact rfl) uU ?_
          refine Tr.nil ?_
          refine at_n ?_
          refine Sat.ret ?_
          refine en_r ?_
          refine ⟨_, [], res_cell rfl rfl Try.underlying129 rfl Sz129 mM (by simp [hp, schA_length, schB_length, hw80, hA80]), sP, sP, ?_, rfl⟩
          rfl

theorem sha_Kk (k : List UInt64) (hk : Hid (kW = k)) : Meets Try.prog 103 [] [] (fun _ => True) (fun v out => v = agg (wordsV k) ∧ out = []) := by
  rw [← hk.out]; exact sha_K
theorem W8.l_length (R : W8) : R.l.length = 8 := rfl

set_option maxRecDepth 100000 in
set_option maxHeartbeats 4000000 in
theorem sha_Piece (st : List UInt64) (hst : st.length = 8) (p : List UInt8) (hp : p.length = 128) (A w k : List UInt64) (R : W8) (hA : Hid (schA p 128 = A)) (hwp : Hid (schB A 64 = w)) (hw : w.length = 80) (hk : Hid (kW = k)) (hk80 : k.length = 80) (hR : Hid (rnds k w (W8.of st) 80 = R)) : Meets Try.prog 90 [agg (wordsV st), agg (bytesV p)] [] (fun _ => True) (fun v out => v = agg (wordsV (addUp st R.l 8)) ∧ out = []) := by
  intro W hW
  refine calls_of (hp0 := []) Try.func90 rfl 127 Try.ntmps90 rfl (HRep.nil _) ?_
  refine Sat.seq ?_
  refine Sat.region ?_
  refine Tr.boxA rfl rfl ?_
  intro n2 hn2 hf2
  refine Tr.boxA rfl rfl ?_
  intro n3 hn3 hf3
  refine Tr.alloc (cs := (wordsV (List.replicate 8 0))) rfl Zr69 rfl ?_
  intro n4 hn4 hf4
  refine Tr.nil ?_
  refine at_n ?_
  refine Sat.seq ?_
  refine Sat.region ?_
  first
    | refine Tr.loadAll rfl rfl rfl Try.underlying115 rfl Sz115 mM (by first | (simp [hst, hp, hw, hk80, addUp_length, W8.l_length]; done) | assumption | (rw [bytesV, List.length_map]; assumption)) ?_
    | refine Tr.loadN _ rfl rfl rfl Try.underlying115 rfl Sz115 mM (by exact rfl) (by first | (simp [hst, hp, hw, hk80, addUp_length, W8.l_length]; done) | assumption | (rw [bytesV, List.length_map]; assumption)) ?_
  refine Tr.callV rfl rfl rfl rfl Body102 (sha_schedule p hp A w hA hwp) (fun _ _ => trivial) ?_
  refine Tr.callV rfl rfl rfl rfl Body103 (sha_Kk k hk) (fun _ _ => trivial) ?_
  refine Tr.alloc (cs := (wordsV (List.replicate 80 0))) rfl Zr129 rfl ?_
  intro n5 hn5 hf5
  refine Tr.alloc (cs := (wordsV (List.replicate 80 0))) rfl Zr129 rfl ?_
  intro n6 hn6 hf6
  first
    | refine Tr.storeAll rfl rfl rfl rfl cB Sz129 (by first | (simp [hst, hp, hw, hk80, addUp_length, W8.l_length]; done) | assumption | (rw [bytesV, List.length_map]; assumption)) mM (by first | (simp [hst, hp, hw, hk80, addUp_length, W8.l_length]; done) | assumption | (rw [bytesV, List.length_map]; assumption)) uU ?_
    | refine Tr.storeN _ rfl rfl rfl rfl rfl cB Sz129 (by first | (simp [hst, hp, hw, hk80, addUp_length, W8.l_length]; done) | assumption | (rw [bytesV, List.length_map]; assumption)) mM (by first | (simp [hst, hp, hw, hk80, addUp_length, W8.l_length]; done) | assumption | (rw [bytesV, List.length_map]; assumption)) (by exact rfl) uU ?_
  first
    | refine Tr.storeAll rfl rfl rfl rfl cB Sz129 (by first | (simp [hst, hp, hw, hk80, addUp_length, W8.l_length]; done) | assumption | (rw [bytesV, List.length_map]; assumption)) mM (by first | (simp [hst, hp, hw, hk80, addUp_length, W8.l_length]; done) | assumption | (rw [bytesV, List.length_map]; assumption)) uU ?_
    | refine Tr.storeN _ rfl rfl rfl rfl rfl cB Sz129 (by first | (simp [hst, hp, hw, hk80, addUp_length, W8.l_length]; done) | assumption | (rw [bytesV, List.length_map]; assumption)) mM (by first | (simp [hst, hp, hw, hk80, addUp_length, W8.l_length]; done) | assumption | (rw [bytesV, List.length_map]; assumption)) (by exact rfl) uU ?_
  refine Tr.nil ?_
  refine at_n ?_
  refine Sat.seq ?_
  refine Sat.draw [(0, 0), (1, 1), (0, 2), (1, 3), (0, 4), (1, 5), (0, 6), (1, 7), (0, 8), (0, 9), (0, 10), (0, 11)] Mixed (by kernel_rfl) ?_
  first
    | refine Tr.idxArr1 rfl rfl rfl rfl Try.underlying69 Sz65 0 rfl dE ?_
    | refine Tr.idxArrO rfl rfl rfl rfl Try.underlying69 Sz65 0 rfl dE ?_
  refine Tr.load1 rfl rfl rfl Try.underlying65 rfl mM (by first | rfl | exact get_words (by first | omega | (simp [hst, hp, hw, hk80, addUp_length, W8.l_length]; done) | (simp [hst, hp, hw, hk80, addUp_length, W8.l_length]; omega)) | exact get_bytes (by first | omega | (simp [hst, hp, hw, hk80, addUp_length, W8.l_length]; done) | (simp [hst, hp, hw, hk80, addUp_length, W8.l_length]; omega)) | exact get_ints (by first | omega | (simp [hst, hp, hw, hk80, addUp_length, W8.l_length]; done) | (simp [hst, hp, hw, hk80, addUp_length, W8.l_length]; omega))) ?_
  first
    | refine Tr.idxArr1 rfl rfl rfl rfl Try.underlying69 Sz65 1 rfl dE ?_
    | refine Tr.idxArrO rfl rfl rfl rfl Try.underlying69 Sz65 1 rfl dE ?_
  refine Tr.load1 rfl rfl rfl Try.underlying65 rfl mM (by first | rfl | exact get_words (by first | omega | (simp [hst, hp, hw, hk80, addUp_length, W8.l_length]; done) | (simp [hst, hp, hw, hk80, addUp_length, W8.l_length]; omega)) | exact get_bytes (by first | omega | (simp [hst, hp, hw, hk80, addUp_length, W8.l_length]; done) | (simp [hst, hp, hw, hk80, addUp_length, W8.l_length]; omega)) | exact get_ints (by first | omega | (simp [hst, hp, hw, hk80, addUp_length, W8.l_length]; done) | (simp [hst, hp, hw, hk80, addUp_length, W8.l_length]; omega))) ?_
  first
    | refine Tr.idxArr1 rfl rfl rfl rfl Try.underlying69 Sz65 2 rfl dE ?_
    | refine Tr.idxArrO rfl rfl rfl rfl Try.underlying69 Sz65 2 rfl dE ?_
  refine Tr.load1 rfl rfl rfl Try.underlying65 rfl mM (by first | rfl | exact get_words (by first | omega | (simp [hst, hp, hw, hk80, addUp_length, W8.l_length]; done) | (simp [hst, hp, hw, hk80, addUp_length, W8.l_length]; omega)) | exact get_bytes (by first | omega | (simp [hst, hp, hw, hk80, addUp_length, W8.l_length]; done) | (simp [hst, hp, hw, hk80, addUp_length, W8.l_length]; omega)) | exact get_ints (by first | omega | (simp [hst, hp, hw, hk80, addUp_length, W8.l_length]; done) | (simp [hst, hp, hw, hk80, addUp_length, W8.l_length]; omega))) ?_
  first
    | refine Tr.idxArr1 rfl rfl rfl rfl Try.underlying69 Sz65 3 rfl dE ?_
    | refine Tr.idxArrO rfl rfl rfl rfl Try.underlying69 Sz65 3 rfl dE ?_
  refine Tr.load1 rfl rfl rfl Try.underlying65 rfl mM (by first | rfl | exact get_words (by first | omega | (simp [hst, hp, hw, hk80, addUp_length, W8.l_length]; done) | (simp [hst, hp, hw, hk80, addUp_length, W8.l_length]; omega)) | exact get_bytes (by first | omega | (simp [hst, hp, hw, hk80, addUp_length, W8.l_length]; done) | (simp [hst, hp, hw, hk80, addUp_length, W8.l_length]; omega)) | exact get_ints (by first | omega | (simp [hst, hp, hw, hk80, addUp_length, W8.l_length]; done) | (simp [hst, hp, hw, hk80, addUp_length, W8.l_length]; omega))) ?_
  refine Tr.assign rfl rfl rfl ?_
  refine Tr.assign rfl rfl rfl ?_
  refine Tr.assign rfl rfl rfl ?_
  refine Tr.assign rfl rfl rfl ?_
  refine Tr.nil ?_
  refine at_n ?_
  refine Sat.seq ?_
  refine Sat.draw [(0, 0), (1, 1), (0, 2), (1, 3), (0, 4), (1, 5), (0, 6), (1, 7), (0, 8), (0, 9), (0, 10), (0, 11)] Mixed (by kernel_rfl) ?_
  first
    | refine Tr.idxArr1 rfl rfl rfl rfl Try.underlying69 Sz65 4 rfl dE ?_
    | refine Tr.idxArrO rfl rfl rfl rfl Try.underlying69 Sz65 4 rfl dE ?_
  refine Tr.load1 rfl rfl rfl Try.underlying65 rfl mM (by first | rfl | exact get_words (by first | omega | (simp [hst, hp, hw, hk80, addUp_length, W8.l_length]; done) | (simp [hst, hp, hw, hk80, addUp_length, W8.l_length]; omega)) | exact get_bytes (by first | omega | (simp [hst, hp, hw, hk80, addUp_length, W8.l_length]; done) | (simp [hst, hp, hw, hk80, addUp_length, W8.l_length]; omega)) | exact get_ints (by first | omega | (simp [hst, hp, hw, hk80, addUp_length, W8.l_length]; done) | (simp [hst, hp, hw, hk80, addUp_length, W8.l_length]; omega))) ?_
  first
    | refine Tr.idxArr1 rfl rfl rfl rfl Try.underlying69 Sz65 5 rfl dE ?_
    | refine Tr.idxArrO rfl rfl rfl rfl Try.underlying69 Sz65 5 rfl dE ?_
  refine Tr.load1 rfl rfl rfl Try.underlying65 rfl mM (by first | rfl | exact get_words (by first | omega | (simp [hst, hp, hw, hk80, addUp_length, W8.l_length]; done) | (simp [hst, hp, hw, hk80, addUp_length, W8.l_length]; omega)) | exact get_bytes (by first | omega | (simp [hst, hp, hw, hk80, addUp_length, W8.l_length]; done) | (simp [hst, hp, hw, hk80, addUp_length, W8.l_length]; omega)) | exact get_ints (by first | omega | (simp [hst, hp, hw, hk80, addUp_length, W8.l_length]; done) | (simp [hst, hp, hw, hk80, addUp_length, W8.l_length]; omega))) ?_
  first
    | refine Tr.idxArr1 rfl rfl rfl rfl Try.underlying69 Sz65 6 rfl dE ?_
    | refine Tr.idxArrO rfl rfl rfl rfl Try.underlying69 Sz65 6 rfl dE ?_
  refine Tr.load1 rfl rfl rfl Try.underlying65 rfl mM (by first | rfl | exact get_words (by first | omega | (simp [hst, hp, hw, hk80, addUp_length, W8.l_length]; done) | (simp [hst, hp, hw, hk80, addUp_length, W8.l_length]; omega)) | exact get_bytes (by first | omega | (simp [hst, hp, hw, hk80, addUp_length, W8.l_length]; done) | (simp [hst, hp, hw, hk80, addUp_length, W8.l_length]; omega)) | exact get_ints (by first | omega | (simp [hst, hp, hw, hk80, addUp_length, W8.l_length]; done) | (simp [hst, hp, hw, hk80, addUp_length, W8.l_length]; omega))) ?_
  first
    | refine Tr.idxArr1 rfl rfl rfl rfl Try.underlying69 Sz65 7 rfl dE ?_
    | refine Tr.idxArrO rfl rfl rfl rfl Try.underlying69 Sz65 7 rfl dE ?_
  refine Tr.load1 rfl rfl rfl Try.underlying65 rfl mM (by first | rfl | exact get_words (by first | omega | (simp [hst, hp, hw, hk80, addUp_length, W8.l_length]; done) | (simp [hst, hp, hw, hk80, addUp_length, W8.l_length]; omega)) | exact get_bytes (by first | omega | (simp [hst, hp, hw, hk80, addUp_length, W8.l_length]; done) | (simp [hst, hp, hw, hk80, addUp_length, W8.l_length]; omega)) | exact get_ints (by first | omega | (simp [hst, hp, hw, hk80, addUp_length, W8.l_length]; done) | (simp [hst, hp, hw, hk80, addUp_length, W8.l_length]; omega))) ?_
  refine Tr.assign rfl rfl rfl ?_
  refine Tr.assign rfl rfl rfl ?_
  refine Tr.assign rfl rfl rfl ?_
  refine Tr.assign rfl rfl rfl ?_
  refine Tr.nil ?_
  refine at_n ?_
  refine Sat.seq ?_
  refine Sat.seq ?_
  refine Sat.region ?_
  refine Tr.move rfl rfl rfl ?_
  refine Tr.nil ?_
  refine at_n ?_
  refine Sat.block ?_
  refine Sat.loop (ι := Nat) (fun t => ⟨[(2, ptr n2 0), (4, ptr n4 0), (5, ptr n5 0), (6, ptr n6 0), (7, u64 (rnds k w (W8.of st) t).a), (8, u64 (rnds k w (W8.of st) t).b), (9, u64 (rnds k w (W8.of st) t).c), (10, u64 (rnds k w (W8.of st) t).d), (11, u64 (rnds k w (W8.of st) t).e), (12, u64 (rnds k w (W8.of st) t).f), (13, u64 (rnds k w (W8.of st) t).g), (14, u64 (rnds k w (W8.of st) t).h), (41, i64 (t : Int))], [⟨n6, wordsV k, 129, 80⟩, ⟨n5, wordsV w, 129, 80⟩, ⟨n4, wordsV (List.replicate 8 0), 69, 8⟩, ⟨n2, wordsV st, 69, (wordsV st).length⟩]⟩) (fun t => t ≤ 80) (fun t => 80 - t) (0) ?_ ?_ ?_
  · omega
  · exact weak_of (wk1 rfl (wk1 rfl (wk1 rfl (wk1 rfl (wk1 rfl (wk1 rfl (wk1 rfl (wk1 rfl (wk1 rfl (wk1 rfl (wk1 rfl (wk1 rfl (wk1 rfl wk0))))))))))))) (wh1 mM (wh1 mM (wh1 mM (wh1 mM wh0)))) nD
  ·
    rintro t hi
    refine Sat.seq ?_
    refine Sat.region ?_
    refine Tr.lss rfl rfl rfl rfl rfl ?_
    refine Tr.nil ?_
    refine at_n ?_
    refine Sat.seq ?_
    first
      | refine Sat.condP rfl (fun hc0 => ?_) (fun hc0 => ?_)
      | refine Sat.condNP rfl (fun hc0 => ?_) (fun hc0 => ?_)
      | refine Sat.cond rfl (fun hc0 => ?_) (fun hc0 => ?_)
    ·
      refine Sat.skip ?_
      refine at_n ?_
      refine Sat.seq ?_
      refine Sat.block ?_
      refine Sat.seq ?_
      refine Sat.region ?_
      refine Tr.move rfl rfl rfl ?_
      refine Tr.assign rfl rfl rfl ?_
      refine Tr.nil ?_
      refine at_n ?_
      refine Sat.seq ?_
      refine Sat.region ?_
      refine Tr.move rfl rfl rfl ?_
      refine Tr.callV rfl rfl rfl rfl Body104 (bits_rol _ (-14) 50 dE dE dE) (fun _ _ => trivial) ?_
      refine Tr.move rfl rfl rfl ?_
      refine Tr.callV rfl rfl rfl rfl Body104 (bits_rol _ (-18) 46 dE dE dE) (fun _ _ => trivial) ?_
      refine Tr.xor_u64 rfl rfl rfl rfl ?_
      refine Tr.move rfl rfl rfl ?_
      refine Tr.callV rfl rfl rfl rfl Body104 (bits_rol _ (-41) 23 dE dE dE) (fun _ _ => trivial) ?_
      refine Tr.xor_u64 rfl rfl rfl rfl ?_
      refine Tr.assign rfl rfl rfl ?_
      refine Tr.nil ?_
      refine at_n ?_
      refine Sat.seq ?_
      refine Sat.draw [(0, 0), (0, 1), (0, 2), (0, 3), (0, 4), (0, 5), (0, 6), (0, 7), (0, 8), (0, 9), (0, 10), (0, 11), (0, 12), (0, 13), (1, 14), (0, 15), (0, 16), (0, 17), (1, 18), (0, 19), (0, 20)] Mixed (by kernel_rfl) ?_
      refine Tr.move rfl rfl rfl ?_
      refine Tr.move rfl rfl rfl ?_
      refine Tr.add_u64 rfl rfl rfl rfl ?_
      refine Tr.move rfl rfl rfl ?_
      refine Tr.move rfl rfl rfl ?_
      refine Tr.and_u64 rfl rfl rfl rfl ?_
      refine Tr.move rfl rfl rfl ?_
      refine Tr.not_u64 rfl rfl rfl ?_
      refine Tr.move rfl rfl rfl ?_
      refine Tr.and_u64 rfl rfl rfl rfl ?_
      refine Tr.xor_u64 rfl rfl rfl rfl ?_
      refine Tr.add_u64 rfl rfl rfl rfl ?_
      refine Tr.move rfl rfl rfl ?_
      first
        | refine Tr.idxArr1 rfl rfl rfl rfl Try.underlying129 Sz65 _ rfl oM ?_
        | refine Tr.idxArrO rfl rfl rfl rfl Try.underlying129 Sz65 _ rfl oM ?_
        | refine Tr.idxArr1 rfl rfl rfl rfl Try.underlying129 Sz65 _ (toNat_back oM) oM ?_
        | refine Tr.idxArrO rfl rfl rfl rfl Try.underlying129 Sz65 _ (toNat_back oM) oM ?_
      refine Tr.load1 rfl rfl rfl Try.underlying65 rfl mM (by first | rfl | exact get_words (by first | omega | (simp [hst, hp, hw, hk80, addUp_length, W8.l_length]; done) | (simp [hst, hp, hw, hk80, addUp_length, W8.l_length]; omega)) | exact get_bytes (by first | omega | (simp [hst, hp, hw, hk80, addUp_length, W8.l_length]; done) | (simp [hst, hp, hw, hk80, addUp_length, W8.l_length]; omega)) | exact get_ints (by first | omega | (simp [hst, hp, hw, hk80, addUp_length, W8.l_length]; done) | (simp [hst, hp, hw, hk80, addUp_length, W8.l_length]; omega))) ?_
      refine Tr.add_u64 rfl rfl rfl rfl ?_
      refine Tr.move rfl rfl rfl ?_
      first
        | refine Tr.idxArr1 rfl rfl rfl rfl Try.underlying129 Sz65 _ rfl oM ?_
        | refine Tr.idxArrO rfl rfl rfl rfl Try.underlying129 Sz65 _ rfl oM ?_
        | refine Tr.idxArr1 rfl rfl rfl rfl Try.underlying129 Sz65 _ (toNat_back oM) oM ?_
        | refine Tr.idxArrO rfl rfl rfl rfl Try.underlying129 Sz65 _ (toNat_back oM) oM ?_
      refine Tr.load1 rfl rfl rfl Try.underlying65 rfl mM (by first | rfl | exact get_words (by first | omega | (simp [hst, hp, hw, hk80, addUp_length, W8.l_length]; done) | (simp [hst, hp, hw, hk80, addUp_length, W8.l_length]; omega)) | exact get_bytes (by first | omega | (simp [hst, hp, hw, hk80, addUp_length, W8.l_length]; done) | (simp [hst, hp, hw, hk80, addUp_length, W8.l_length]; omega)) | exact get_ints (by first | omega | (simp [hst, hp, hw, hk80, addUp_length, W8.l_length]; done) | (simp [hst, hp, hw, hk80, addUp_length, W8.l_length]; omega))) ?_
      refine Tr.add_u64 rfl rfl rfl rfl ?_
      refine Tr.assign rfl rfl rfl ?_
      refine Tr.nil ?_
      refine at_n ?_
      refine Sat.seq ?_
      refine Sat.region ?_
      refine Tr.move rfl rfl rfl ?_
      refine Tr.callV rfl rfl rfl rfl Body104 (bits_rol _ (-28) 36 dE dE dE) (fun _ _ => trivial) ?_
      refine Tr.move rfl rfl rfl ?_
      refine Tr.callV rfl rfl rfl rfl Body104 (bits_rol _ (-34) 30 dE dE dE) (fun _ _ => trivial) ?_
      refine Tr.xor_u64 rfl rfl rfl rfl ?_
      refine Tr.move rfl rfl rfl ?_
      refine Tr.callV rfl rfl rfl rfl Body104 (bits_rol _ (-39) 25 dE dE dE) (fun _ _ => trivial) ?_
      refine Tr.xor_u64 rfl rfl rfl rfl ?_
      refine Tr.assign rfl rfl rfl ?_
      refine Tr.nil ?_
      refine at_n ?_
      refine Sat.seq ?_
      refine Sat.region ?_
      refine Tr.move rfl rfl rfl ?_
      refine Tr.move rfl rfl rfl ?_
      refine Tr.move rfl rfl rfl ?_
      refine Tr.and_u64 rfl rfl rfl rfl ?_
      refine Tr.move rfl rfl rfl ?_
      refine Tr.move rfl rfl rfl ?_
      refine Tr.and_u64 rfl rfl rfl rfl ?_
      refine Tr.xor_u64 rfl rfl rfl rfl ?_
      refine Tr.move rfl rfl rfl ?_
      refine Tr.move rfl rfl rfl ?_
      refine Tr.and_u64 rfl rfl rfl rfl ?_
      refine Tr.xor_u64 rfl rfl rfl rfl ?_
      refine Tr.add_u64 rfl rfl rfl rfl ?_
      refine Tr.assign rfl rfl rfl ?_
      refine Tr.nil ?_
      refine at_n ?_
      refine Sat.region ?_
      refine Tr.move rfl rfl rfl ?_
      refine Tr.move rfl rfl rfl ?_
      refine Tr.add_u64 rfl rfl rfl rfl ?_
      refine Tr.move rfl rfl rfl ?_
      refine Tr.move rfl rfl rfl ?_
      refine Tr.move rfl rfl rfl ?_
      refine Tr.move rfl rfl rfl ?_
      refine Tr.move rfl rfl rfl ?_
      refine Tr.add_u64 rfl rfl rfl rfl ?_
      refine Tr.move rfl rfl rfl ?_
      refine Tr.move rfl rfl rfl ?_
      refine Tr.move rfl rfl rfl ?_
      refine Tr.assign rfl rfl rfl ?_
      refine Tr.assign rfl rfl rfl ?_
      refine Tr.assign rfl rfl rfl ?_
      refine Tr.assign rfl rfl rfl ?_
      refine Tr.assign rfl rfl rfl ?_
      refine Tr.assign rfl rfl rfl ?_
      refine Tr.assign rfl rfl rfl ?_
      refine Tr.assign rfl rfl rfl ?_
      refine Tr.nil ?_
      refine bl_n ?_
      refine at_n ?_
      refine Sat.region ?_
      refine Tr.add_i64 rfl rfl rfl rfl oM ?_
      refine Tr.move rfl rfl rfl ?_
      refine Tr.nil ?_
      refine at_n ?_
      exact ⟨t + 1, by omega, by omega, weak_of (wk1 rfl (wk1 rfl (wk1 rfl (wk1 rfl (wk1 rfl (wk1 rfl (wk1 rfl (wk1 rfl (wk1 rfl (wk1 rfl (wk1 rfl (wk1 rfl (wk1 rfl wk0))))))))))))) (wh1 mM (wh1 mM (wh1 mM (wh1 mM wh0)))) nD⟩
    ·
      obtain rfl : t = 80 := by omega
      rw [hR.out]
      refine Sat.exit ?_
      refine at_x ?_
      refine at_x ?_
      refine bl_h ?_
      refine at_n ?_
      refine Sat.seq ?_
      refine Sat.seq ?_
      refine Sat.region ?_
      refine Tr.move rfl rfl rfl ?_
      refine Tr.move rfl rfl rfl ?_
      refine Tr.move rfl rfl rfl ?_
      refine Tr.move rfl rfl rfl ?_
      refine Tr.move rfl rfl rfl ?_
      refine Tr.move rfl rfl rfl ?_
      refine Tr.move rfl rfl rfl ?_
      refine Tr.move rfl rfl rfl ?_
      refine Tr.build (cs := wordsV R.l) rfl rfl rfl (fun w => by kernel_rfl) ?_
      refine Tr.move rfl rfl rfl ?_
      refine Tr.nil ?_
      refine at_n ?_
      refine Sat.block ?_
      refine Sat.loop (ι := Nat) (fun i => ⟨[(2, ptr n2 0), (4, ptr n4 0), (114, agg (wordsV R.l)), (115, i64 (i : Int))], [⟨n4, wordsV (List.replicate 8 0), 69, 8⟩, ⟨n2, wordsV (addUp st R.l i), 69, (wordsV st).length⟩]⟩) (fun i => i ≤ 8) (fun i => 8 - i) (0) ?_ ?_ ?_
      · omega
      · exact weak_of (wk1 rfl (wk1 rfl (wk1 rfl (wk1 rfl wk0)))) (wh1 mM (wh1 mM wh0)) nD
      ·
        rintro i hi
        have hli := addUp_length st R.l i
        have hRl := W8.l_length R
        refine Sat.seq ?_
        refine Sat.region ?_
        refine Tr.lss rfl rfl rfl rfl rfl ?_
        refine Tr.nil ?_
        refine at_n ?_
        refine Sat.seq ?_
        first
          | refine Sat.condP rfl (fun hc1 => ?_) (fun hc1 => ?_)
          | refine Sat.condNP rfl (fun hc1 => ?_) (fun hc1 => ?_)
          | refine Sat.cond rfl (fun hc1 => ?_) (fun hc1 => ?_)
        ·
          refine Sat.skip ?_
          refine at_n ?_
          refine Sat.seq ?_
          refine Sat.block ?_
          refine Sat.seq ?_
          refine Sat.region ?_
          refine Tr.move rfl rfl rfl ?_
          refine Tr.idxA1 rfl rfl rfl rfl Try.underlying69 Sz65 Try.underlying65 rfl _ rfl oM (by first | rfl | exact get_words (by first | omega | (simp [hst, hp, hw, hk80, addUp_length, W8.l_length]; done) | (simp [hst, hp, hw, hk80, addUp_length, W8.l_length]; omega)) | exact get_bytes (by first | omega | (simp [hst, hp, hw, hk80, addUp_length, W8.l_length]; done) | (simp [hst, hp, hw, hk80, addUp_length, W8.l_length]; omega)) | exact get_ints (by first | omega | (simp [hst, hp, hw, hk80, addUp_length, W8.l_length]; done) | (simp [hst, hp, hw, hk80, addUp_length, W8.l_length]; omega))) ?_
          refine Tr.assign rfl rfl rfl ?_
          refine Tr.assign rfl rfl rfl ?_
          refine Tr.nil ?_
          refine at_n ?_
          refine Sat.region ?_
          refine Tr.move rfl rfl rfl ?_
          first
            | refine Tr.idxArr1 rfl rfl rfl rfl Try.underlying69 Sz65 _ rfl oM ?_
            | refine Tr.idxArrO rfl rfl rfl rfl Try.underlying69 Sz65 _ rfl oM ?_
            | refine Tr.idxArr1 rfl rfl rfl rfl Try.underlying69 Sz65 _ (toNat_back oM) oM ?_
            | refine Tr.idxArrO rfl rfl rfl rfl Try.underlying69 Sz65 _ (toNat_back oM) oM ?_
          refine Tr.load1 rfl rfl rfl Try.underlying65 rfl mM (by first | rfl | exact get_words (by first | omega | (simp [hst, hp, hw, hk80, addUp_length, W8.l_length]; done) | (simp [hst, hp, hw, hk80, addUp_length, W8.l_length]; omega)) | exact get_bytes (by first | omega | (simp [hst, hp, hw, hk80, addUp_length, W8.l_length]; done) | (simp [hst, hp, hw, hk80, addUp_length, W8.l_length]; omega)) | exact get_ints (by first | omega | (simp [hst, hp, hw, hk80, addUp_length, W8.l_length]; done) | (simp [hst, hp, hw, hk80, addUp_length, W8.l_length]; omega))) ?_
          refine Tr.move rfl rfl rfl ?_
          refine Tr.add_u64 rfl rfl rfl rfl ?_
          first
            | refine Tr.idxArr1 rfl rfl rfl rfl Try.underlying69 Sz65 _ rfl oM ?_
            | refine Tr.idxArrO rfl rfl rfl rfl Try.underlying69 Sz65 _ rfl oM ?_
            | refine Tr.idxArr1 rfl rfl rfl rfl Try.underlying69 Sz65 _ (toNat_back oM) oM ?_
            | refine Tr.idxArrO rfl rfl rfl rfl Try.underlying69 Sz65 _ (toNat_back oM) oM ?_
          refine Tr.store1 rfl rfl rfl rfl rfl Sz65 mM (by first | (simp [hst, hp, hw, hk80, addUp_length, W8.l_length]; done) | (simp [hst, hp, hw, hk80, addUp_length, W8.l_length]; omega)) sT uU ?_
          refine Tr.nil ?_
          refine bl_n ?_
          refine at_n ?_
          refine Sat.region ?_
          refine Tr.add_i64 rfl rfl rfl rfl oM ?_
          refine Tr.move rfl rfl rfl ?_
          refine Tr.nil ?_
          refine at_n ?_
          exact ⟨i + 1, by omega, by omega, weak_of (wk1 rfl (wk1 rfl (wk1 rfl (wk1 rfl wk0)))) (wh1 mM (wh1 mM wh0)) nD⟩
        ·
          obtain rfl : i = 8 := by omega
          refine Sat.exit ?_
          refine at_x ?_
          refine at_x ?_
          refine bl_h ?_
          refine at_n ?_
          refine Sat.seq ?_
          refine Sat.region ?_
          first
            | refine Tr.loadAll rfl rfl rfl Try.underlying69 rfl Sz69 mM (by first | (simp [hst, hp, hw, hk80, addUp_length, W8.l_length]; done) | assumption | (rw [bytesV, List.length_map]; assumption)) ?_
            | refine Tr.loadN _ rfl rfl rfl Try.underlying69 rfl Sz69 mM (by exact rfl) (by first | (simp [hst, hp, hw, hk80, addUp_length, W8.l_length]; done) | assumption | (rw [bytesV, List.length_map]; assumption)) ?_
          first
            | refine Tr.storeAll rfl rfl rfl rfl cB Sz69 (by first | (simp [hst, hp, hw, hk80, addUp_length, W8.l_length]; done) | assumption | (rw [bytesV, List.length_map]; assumption)) mM (by first | (simp [hst, hp, hw, hk80, addUp_length, W8.l_length]; done) | assumption | (rw [bytesV, List.length_map]; assumption)) uU ?_
            | refine Tr.storeN _ rfl rfl rfl rfl rfl cB Sz69 (by first | (simp [hst, hp, hw, hk80, addUp_length, W8.l_length]; done) | assumption | (rw [bytesV, List.length_map]; assumption)) mM (by first | (simp [hst, hp, hw, hk80, addUp_length, W8.l_length]; done) | assumption | (rw [bytesV, List.length_map]; assumption)) (by exact rfl) uU ?_
          refine Tr.nil ?_
          refine at_n ?_
          refine Sat.ret ?_
          refine en_r ?_
          refine ⟨_, [], res_cell rfl rfl Try.underlying69 rfl Sz69 mM (by simp [hst, hp, hw, hk80, addUp_length, W8.l_length]), sP, sP, ?_, rfl⟩
          rfl

set_option maxRecDepth 100000 in
set_option maxHeartbeats 2000000 in
theorem sha_sum (st : List UInt64) (hst : st.length = 8) (s : List UInt8) (hs : Hid (sumUp st 64 = s)) : Meets Try.prog 63 [agg (wordsV st)] [] (fun _ => True) (fun v out => v = agg (bytesV s) ∧ out = []) := by
  intro W hW
  have hs64 : s.length = 64 := by rw [← hs.out]; exact sumUp_length st 64
  refine calls_of (hp0 := []) Try.func63 rfl 22 Try.ntmps63 rfl (HRep.nil _) ?_
  refine Sat.seq ?_
  refine Sat.region ?_
  refine Tr.boxA rfl rfl ?_
  intro n1 hn1 hf1
  refine Tr.alloc (cs := (bytesV (List.replicate 64 0))) rfl Zr27 rfl ?_
  intro n2 hn2 hf2
  refine Tr.nil ?_
  refine at_n ?_
  refine Sat.seq ?_
  refine Sat.region ?_
  refine Tr.alloc (cs := (bytesV (List.replicate 64 0))) rfl Zr27 rfl ?_
  intro n3 hn3 hf3
  refine Tr.nil ?_
  refine at_n ?_
  refine Sat.seq ?_
  refine Sat.seq ?_
  refine Sat.region ?_
  refine Tr.move rfl rfl rfl ?_
  refine Tr.nil ?_
  refine at_n ?_
  refine Sat.block ?_
  refine Sat.loop (ι := Nat) (fun k => ⟨[(1, ptr n1 0), (2, ptr n2 0), (3, ptr n3 0), (5, i64 (k : Int))], [⟨n3, bytesV (sumUp st k), 27, 64⟩, ⟨n2, bytesV (List.replicate 64 0), 27, 64⟩, ⟨n1, wordsV st, 69, (wordsV st).length⟩]⟩) (fun k => k ≤ 64) (fun k => 64 - k) (0) ?_ ?_ ?_
  · omega
  · exact weak_of (wk1 rfl (wk1 rfl (wk1 rfl (wk1 rfl wk0)))) (wh1 mM (wh1 mM (wh1 mM wh0))) nD
  ·
    rintro k hi
    have hlk := sumUp_length st k
    refine Sat.seq ?_
    refine Sat.region ?_
    refine Tr.lss rfl rfl rfl rfl rfl ?_
    refine Tr.nil ?_
    refine at_n ?_
    refine Sat.seq ?_
    first
      | refine Sat.condP rfl (fun hc0 => ?_) (fun hc0 => ?_)
      | refine Sat.condNP rfl (fun hc0 => ?_) (fun hc0 => ?_)
      | refine Sat.cond rfl (fun hc0 => ?_) (fun hc0 => ?_)
    ·
      refine Sat.skip ?_
      refine at_n ?_
      refine Sat.seq ?_
      refine Sat.block ?_
      refine Sat.seq ?_
      refine Sat.region ?_
      refine Tr.move rfl rfl rfl ?_
      refine Tr.assign rfl rfl rfl ?_
      refine Tr.nil ?_
      refine at_n ?_
      refine Sat.region ?_
      refine Tr.move rfl rfl rfl ?_
      refine Tr.move rfl rfl rfl ?_
      refine Tr.quo_i64 rfl rfl rfl rfl oM ?_
      first
        | refine Tr.idxArr1 rfl rfl rfl rfl Try.underlying69 Sz65 (k / 8) oM oM ?_
        | refine Tr.idxArrO rfl rfl rfl rfl Try.underlying69 Sz65 (k / 8) oM oM ?_
      refine Tr.load1 rfl rfl rfl Try.underlying65 rfl mM (by first | rfl | exact get_words (by first | omega | (simp [hst, sumUp_length, hs64]; done) | (simp [hst, sumUp_length, hs64]; omega)) | exact get_bytes (by first | omega | (simp [hst, sumUp_length, hs64]; done) | (simp [hst, sumUp_length, hs64]; omega)) | exact get_ints (by first | omega | (simp [hst, sumUp_length, hs64]; done) | (simp [hst, sumUp_length, hs64]; omega))) ?_
      refine Tr.move rfl rfl rfl ?_
      refine Tr.rem_i64 rfl rfl rfl rfl oM ?_
      refine Tr.mul_i64 rfl rfl rfl rfl oM ?_
      refine Tr.sub_i64 rfl rfl rfl rfl oM ?_
      refine Tr.shr_u64 rfl rfl rfl rfl (56 - 8 * (k % 8)) oM oM ?_
      refine Tr.conv rfl rfl rfl Try.underlying65 Try.underlying5 (cv_u64_u8 _) ?_
      first
        | refine Tr.idxArr1 rfl rfl rfl rfl Try.underlying27 Sz5 _ rfl oM ?_
        | refine Tr.idxArrO rfl rfl rfl rfl Try.underlying27 Sz5 _ rfl oM ?_
        | refine Tr.idxArr1 rfl rfl rfl rfl Try.underlying27 Sz5 _ (toNat_back oM) oM ?_
        | refine Tr.idxArrO rfl rfl rfl rfl Try.underlying27 Sz5 _ (toNat_back oM) oM ?_
      refine Tr.store1 rfl rfl rfl rfl rfl Sz5 mM (by first | (simp [hst, sumUp_length, hs64]; done) | (simp [hst, sumUp_length, hs64]; omega)) sT uU ?_
      refine Tr.nil ?_
      refine bl_n ?_
      refine at_n ?_
      refine Sat.region ?_
      refine Tr.add_i64 rfl rfl rfl rfl oM ?_
      refine Tr.move rfl rfl rfl ?_
      refine Tr.nil ?_
      refine at_n ?_
      exact ⟨k + 1, by omega, by omega, weak_of (wk1 rfl (wk1 rfl (wk1 rfl (wk1 rfl wk0)))) (wh1 mM (wh1 mM (wh1 mM wh0))) nD⟩
    ·
      obtain rfl : k = 64 := by omega
      rw [hs.out]
      clear hlk
      refine Sat.exit ?_
      refine at_x ?_
      refine at_x ?_
      refine bl_h ?_
      refine at_n ?_
      refine Sat.seq ?_
      refine Sat.region ?_
      first
        | refine Tr.loadAll rfl rfl rfl Try.underlying27 rfl Sz27 mM (by first | (simp [hst, sumUp_length, hs64]; done) | assumption | (rw [bytesV, List.length_map]; assumption)) ?_
        | refine Tr.loadN _ rfl rfl rfl Try.underlying27 rfl Sz27 mM (by exact rfl) (by first | (simp [hst, sumUp_length, hs64]; done) | assumption | (rw [bytesV, List.length_map]; assumption)) ?_
      first
        | refine Tr.storeAll rfl rfl rfl rfl cB Sz27 (by first | (simp [hst, sumUp_length, hs64]; done) | assumption | (rw [bytesV, List.length_map]; assumption)) mM (by first | (simp [hst, sumUp_length, hs64]; done) | assumption | (rw [bytesV, List.length_map]; assumption)) uU ?_
        | refine Tr.storeN _ rfl rfl rfl rfl rfl cB Sz27 (by first | (simp [hst, sumUp_length, hs64]; done) | assumption | (rw [bytesV, List.length_map]; assumption)) mM (by first | (simp [hst, sumUp_length, hs64]; done) | assumption | (rw [bytesV, List.length_map]; assumption)) (by exact rfl) uU ?_
      refine Tr.nil ?_
      refine at_n ?_
      refine Sat.ret ?_
      refine en_r ?_
      refine ⟨_, [], res_cell rfl rfl Try.underlying27 rfl Sz27 mM (by simp [hst, sumUp_length, hs64]), sP, sP, ?_, rfl⟩
      rfl

end Go.Proofs.Ytmddgelpllffoaa
end

section
namespace Go.Proofs.Ytmddgelpllffoaa
open Go Hw
set_option linter.unusedVariables false
set_option linter.unusedSimpArgs false

theorem and_low {x : UInt64} (h : x.toNat < 4294967296) : x &&& 4294967295 = x := by
  apply UInt64.toNat_inj.1
  rw [UInt64.toNat_and]
  show x.toNat &&& (2 ^ 32 - 1) = x.toNat
  rw [Nat.and_two_pow_sub_one_eq_mod, Nat.mod_eq_of_lt oM]
theorem shr_small {x : UInt64} {n : Nat} (h : x.toNat < 2 ^ n) : shr64 x n = 0 := by
  apply UInt64.toNat_inj.1
  rw [shr64_nat, Nat.div_eq_of_lt h]; rfl
theorem mul8_nat {x : UInt64} (h : x.toNat < 536870912) : (x * 8).toNat = x.toNat * 8 := by
  rw [UInt64.toNat_mul]; show x.toNat * 8 % 18446744073709551616 = _; omega

set_option maxRecDepth 100000 in
set_option maxHeartbeats 1000000 in
theorem bits_mul8 (x : UInt64) (hx : x.toNat < 536870912) : Meets Try.prog 35 [u64 x, u64 8] [] (fun _ => True) (fun v out => v = .tuple #[u64 0, u64 (x * 8)] ∧ out = []) := by
  intro W hW
  have h1 := and_low (x := x) oM
  have h2 := shr_small (x := x) (n := 32) oM
  have h3 := mul8_nat hx
  have h4 := shr_small (x := x * 8) (n := 32) oM
  refine calls_of (hp0 := []) Try.func35 rfl 51 Try.ntmps35 rfl (HRep.nil _) ?_
  refine Sat.seq ?_
  refine Sat.region ?_
  refine Tr.assign rfl rfl (show evIn _ _ = some (u64 0) from rfl) ?_
  refine Tr.assign rfl rfl (show evIn _ _ = some (u64 0) from rfl) ?_
  refine Tr.nil ?_
  refine at_n ?_
  refine Sat.seq ?_
  refine Sat.region ?_
  refine Tr.move rfl rfl rfl ?_
  refine Tr.and_u64 rfl rfl rfl (show evIn _ _ = some (u64 4294967295) from rfl) ?_
  refine Tr.assign rfl rfl rfl ?_
  refine Tr.nil ?_
  refine at_n ?_
  refine Sat.seq ?_
  refine Sat.region ?_
  refine Tr.move rfl rfl rfl ?_
  refine Tr.shr_u64 rfl rfl rfl rfl 32 oM oM ?_
  refine Tr.assign rfl rfl rfl ?_
  refine Tr.nil ?_
  refine at_n ?_
  refine Sat.seq ?_
  refine Sat.region ?_
  refine Tr.move rfl rfl rfl ?_
  refine Tr.and_u64 rfl rfl rfl (show evIn _ _ = some (u64 4294967295) from rfl) ?_
  refine Tr.assign rfl rfl rfl ?_
  refine Tr.nil ?_
  refine at_n ?_
  refine Sat.seq ?_
  refine Sat.region ?_
  refine Tr.move rfl rfl rfl ?_
  refine Tr.shr_u64 rfl rfl (show evIn _ _ = some (u64 8) from rfl) rfl 32 oM oM ?_
  refine Tr.assign rfl rfl rfl ?_
  refine Tr.nil ?_
  refine at_n ?_
  refine Sat.seq ?_
  refine Sat.region ?_
  refine Tr.move rfl rfl rfl ?_
  refine Tr.move rfl rfl rfl ?_
  refine Tr.mul_u64 rfl rfl rfl rfl ?_
  refine Tr.assign rfl rfl rfl ?_
  refine Tr.nil ?_
  refine at_n ?_
  refine Sat.seq ?_
  refine Sat.region ?_
  refine Tr.move rfl rfl rfl ?_
  refine Tr.move rfl rfl rfl ?_
  refine Tr.mul_u64 rfl rfl rfl rfl ?_
  refine Tr.move rfl rfl rfl ?_
  refine Tr.shr_u64 rfl rfl rfl rfl 32 rfl dE ?_
  refine Tr.add_u64 rfl rfl rfl rfl ?_
  refine Tr.assign rfl rfl rfl ?_
  refine Tr.nil ?_
  refine at_n ?_
  refine Sat.seq ?_
  refine Sat.region ?_
  refine Tr.move rfl rfl rfl ?_
  refine Tr.and_u64 rfl rfl rfl (show evIn _ _ = some (u64 4294967295) from rfl) ?_
  refine Tr.assign rfl rfl rfl ?_
  refine Tr.nil ?_
  refine at_n ?_
  refine Sat.seq ?_
  refine Sat.region ?_
  refine Tr.move rfl rfl rfl ?_
  refine Tr.shr_u64 rfl rfl rfl rfl 32 rfl dE ?_
  refine Tr.assign rfl rfl rfl ?_
  refine Tr.nil ?_
  refine at_n ?_
  refine Sat.seq ?_
  refine Sat.region ?_
  refine Tr.move rfl rfl rfl ?_
  refine Tr.move rfl rfl rfl ?_
  refine Tr.move rfl rfl rfl ?_
  refine Tr.mul_u64 rfl rfl rfl rfl ?_
  refine Tr.add_u64 rfl rfl rfl rfl ?_
  refine Tr.assign rfl rfl rfl ?_
  refine Tr.nil ?_
  refine at_n ?_
  refine Sat.seq ?_
  refine Sat.region ?_
  refine Tr.move rfl rfl rfl ?_
  refine Tr.move rfl rfl rfl ?_
  refine Tr.mul_u64 rfl rfl rfl rfl ?_
  refine Tr.move rfl rfl rfl ?_
  refine Tr.add_u64 rfl rfl rfl rfl ?_
  refine Tr.move rfl rfl rfl ?_
  refine Tr.shr_u64 rfl rfl rfl rfl 32 rfl dE ?_
  refine Tr.add_u64 rfl rfl rfl rfl ?_
  refine Tr.assign rfl rfl rfl ?_
  refine Tr.nil ?_
  refine at_n ?_
  refine Sat.seq ?_
  refine Sat.region ?_
  refine Tr.move rfl rfl rfl ?_
  refine Tr.move rfl rfl rfl ?_
  refine Tr.mul_u64 rfl rfl rfl rfl ?_
  refine Tr.assign rfl rfl rfl ?_
  refine Tr.nil ?_
  refine at_n ?_
  refine Sat.ret ?_
  refine en_r ?_
  refine ⟨_, [], res_tmp2 rfl rfl rfl, sP, sP, ?_, rfl⟩
  simp only [h1, h2, show shr64 8 32 = 0 from rfl, show (8 : UInt64) &&& 4294967295 = 8 from rfl]
  rw [h4, UInt64.mul_zero (a := x)]
  rfl

theorem bytesV_app (a b : List UInt8) : bytesV (a ++ b) = bytesV a ++ bytesV b := List.map_append
theorem sl_get {ss : List Sl} {j : Nat} (h : j < ss.length) : (ss.map Sl.v)[j]? = some (ss.getD j Sl.nil).v := by simp [List.getElem?_eq_getElem h, List.getD]
theorem take_flat {ls : List (List UInt8)} {j : Nat} (h : j < ls.length) : (ls.take (j + 1)).flatten = (ls.take j).flatten ++ ls.getD j [] := by
  rw [List.take_succ_eq_append_getElem h, List.flatten_append]
  simp [List.getD, h]
theorem take_flat_le (ls : List (List UInt8)) (j : Nat) : (ls.take j).flatten.length ≤ ls.flatten.length := by
  have : ls.flatten = (ls.take j).flatten ++ (ls.drop j).flatten := by rw [← List.flatten_append, List.take_append_drop]
  rw [this, List.length_append]; omega

set_option maxRecDepth 100000 in
set_option maxHeartbeats 4000000 in
theorem sha_padded (p : Option Addr) (n c : Nat) (ss : List Sl) (ls : List (List UInt8)) (hss : ss.length = n) (hls : ls.length = n) (hsl : ∀ j, j < n → (ss.getD j Sl.nil).n = (ls.getD j []).length ∧ ((ss.getD j Sl.nil).p = none → (ss.getD j Sl.nil).n = 0)) (F : List UInt8) (hF : ls.flatten = F) (htot : F.length ≤ 90000) (hn : n ≤ 1000000) : Meets Try.prog 89 [.slice p n c] [] (fun W => SeesP W p (ss.map Sl.v) ∧ ∀ j, j < n → SeesP W (ss.getD j Sl.nil).p (bytesV (ls.getD j []))) (fun v out => ∃ s, v = s.v ∧ Acc s out (bytesV (padB F)) 5 (padB F).length 1) := by
  intro W hW
  have hz := padZ_lt F.length
  have hle := take_flat_le ls
  rw [hF] at hle
  refine calls_of (hp0 := []) Try.func89 rfl 76 Try.ntmps89 rfl (HRep.nil _) ?_
  refine Sat.seq ?_
  refine Sat.region ?_
  refine Tr.assign rfl rfl rfl ?_
  refine Tr.nil ?_
  refine at_n ?_
  refine Sat.seq ?_
  refine Sat.region ?_
  refine Tr.assign rfl rfl rfl ?_
  refine Tr.nil ?_
  refine at_n ?_
  refine Sat.seq ?_
  refine Sat.seq ?_
  refine Sat.region ?_
  refine Tr.move rfl rfl rfl ?_
  refine Tr.lenSl rfl rfl rfl Try.underlying62 ?_
  refine Tr.move rfl rfl rfl ?_
  refine Tr.nil ?_
  refine at_n ?_
  refine Sat.block ?_
  refine Sat.loop (ι := Nat) (fun k => ⟨[(0, .slice p n c), (3, i64 ((ls.take k).flatten.length : Int)), (14, .slice p n c), (15, i64 (n : Int)), (16, i64 (k : Int))], []⟩) (fun k => k ≤ n) (fun k => n - k) (0) ?_ ?_ ?_
  · omega
  · exact weak_perm (wk1 rfl (wk1 rfl (wk1 rfl (wk1 rfl (wk1 rfl wk0))))) pm_nil
  ·
    rintro k hi
    refine Sat.seq ?_
    refine Sat.region ?_
    refine Tr.lss rfl rfl rfl rfl rfl ?_
    refine Tr.nil ?_
    refine at_n ?_
    refine Sat.seq ?_
    first
      | refine Sat.condP rfl (fun hc0 => ?_) (fun hc0 => ?_)
      | refine Sat.condNP rfl (fun hc0 => ?_) (fun hc0 => ?_)
      | refine Sat.cond rfl (fun hc0 => ?_) (fun hc0 => ?_)
    ·
      have hk3 : k < n := by omega
      obtain ⟨b, o, hbp, hbs⟩ := hW.1.at (by rw [List.length_map]; omega)
      have hv : W.cell? ⟨b, o + k * 1, none⟩ = some (ss.getD k Sl.nil).v := by rw [Nat.mul_one]; exact hbs k _ (sl_get oM)
      have hstep := hle (k + 1)
      rw [take_flat oM, List.length_append, ← (hsl k oM).1] at hstep
      refine Sat.skip ?_
      refine at_n ?_
      refine Sat.seq ?_
      refine Sat.block ?_
      refine Sat.seq ?_
      refine Sat.region ?_
      refine Tr.idxSlP 1 rfl rfl rfl hbp rfl Try.underlying62 Sz23 k rfl oM ?_
      refine Tr.loadE rfl rfl rfl Try.underlying23 rfl (by first | (simp; done) | (simp; exact hW.2.2) | (simp [Cx.with]; done) | (simp [Cx.with]; omega)) (hv) ?_
      refine Tr.assign rfl rfl rfl ?_
      refine Tr.nil ?_
      refine at_n ?_
      refine Sat.region ?_
      refine Tr.move rfl rfl rfl ?_
      refine Tr.move rfl rfl rfl ?_
      refine Tr.lenSl rfl rfl rfl Try.underlying23 ?_
      refine Tr.add_i64 rfl rfl rfl rfl oM ?_
      refine Tr.assign rfl rfl rfl ?_
      refine Tr.nil ?_
      refine bl_n ?_
      refine at_n ?_
      refine Sat.region ?_
      refine Tr.add_i64 rfl rfl rfl rfl oM ?_
      refine Tr.move rfl rfl rfl ?_
      refine Tr.nil ?_
      refine at_n ?_
      exact ⟨k + 1, by omega, by omega, weak_perm (wk1 rfl (wk1 (congrArg (fun z => some (i64 z)) (by rw [take_flat oM, List.length_append, (hsl k oM).1]; simp)) (wk1 rfl (wk1 rfl (wk1 rfl wk0))))) pm_nil⟩
    ·
      have hk3 : k = n := by omega
      rw [hk3, List.take_of_length_le oM, hF]
      refine Sat.exit ?_
      refine at_x ?_
      refine at_x ?_
      refine bl_h ?_
      refine at_n ?_
      refine Sat.seq ?_
      refine Sat.region ?_
      refine Tr.move rfl rfl rfl ?_
      refine Tr.add_i64 rfl rfl rfl rfl oM ?_
      refine Tr.quo_i64 rfl rfl rfl rfl oM ?_
      refine Tr.mul_i64 rfl rfl rfl rfl oM ?_
      refine Tr.add_i64 rfl rfl rfl rfl oM ?_
      refine Tr.mkRoom (z := u8 0) (by' := 1) ((F.length + 16) / 128 * 128 + 128) rfl rfl rfl rfl oM Try.underlying23 Sz5 Zr5 (by unfold By; kernel_rfl) rfl oM oM ?_
      intro q30
      refine Tr.assign rfl rfl rfl ?_
      refine Tr.nil ?_
      refine at_n ?_
      refine Sat.seq ?_
      refine Sat.seq ?_
      refine Sat.region ?_
      refine Tr.move rfl rfl rfl ?_
      refine Tr.lenSl rfl rfl rfl Try.underlying62 ?_
      refine Tr.move rfl rfl rfl ?_
      refine Tr.nil ?_
      refine at_n ?_
      refine Sat.block ?_
      refine Sat.loop (ι := Nat × Sl × List Blk) (fun x => ⟨[(3, i64 (F.length : Int)), (6, x.2.1.v), (31, .slice p n c), (32, i64 (n : Int)), (33, i64 (x.1 : Int))], (x.2.2 ++ [])⟩) (fun x => x.1 ≤ n ∧ Acc x.2.1 x.2.2 (bytesV (ls.take x.1).flatten) 5 (ls.take x.1).flatten.length 1) (fun x => n - x.1) ((0, ⟨some ⟨q30, 0, none⟩, 0, (F.length + 16) / 128 * 128 + 128⟩, [⟨q30, [], 5, ((F.length + 16) / 128 * 128 + 128) * 1⟩])) ?_ ?_ ?_
      · exact ⟨Nat.zero_le _, Acc.some (Nat.zero_le _) rfl⟩
      · exact weak_perm (wk1 rfl (wk1 rfl (wk1 rfl (wk1 rfl (wk1 rfl wk0))))) (pm_consE rM rfl (Nat.mul_one _).symm pm_nil)
      ·
        rintro x ⟨hx, hax⟩
        refine Sat.seq ?_
        refine Sat.region ?_
        refine Tr.lss rfl rfl rfl rfl rfl ?_
        refine Tr.nil ?_
        refine at_n ?_
        refine Sat.seq ?_
        first
          | refine Sat.condP rfl (fun hc1 => ?_) (fun hc1 => ?_)
          | refine Sat.condNP rfl (fun hc1 => ?_) (fun hc1 => ?_)
          | refine Sat.cond rfl (fun hc1 => ?_) (fun hc1 => ?_)
        ·
          have hx3 : x.1 < n := by omega
          obtain ⟨b, o, hbp, hbs⟩ := hW.1.at (by rw [List.length_map]; omega)
          have hv : W.cell? ⟨b, o + x.1 * 1, none⟩ = some (ss.getD x.1 Sl.nil).v := by rw [Nat.mul_one]; exact hbs x.1 _ (sl_get oM)
          have hstep := hle (x.1 + 1)
          rw [take_flat oM, List.length_append, ← (hsl x.1 oM).1] at hstep
          refine Sat.skip ?_
          refine at_n ?_
          refine Sat.seq ?_
          refine Sat.block ?_
          refine Sat.seq ?_
          refine Sat.region ?_
          refine Tr.idxSlP 1 rfl rfl rfl hbp rfl Try.underlying62 Sz23 x.1 rfl oM ?_
          refine Tr.loadE rfl rfl rfl Try.underlying23 rfl (by first | (simp; done) | (simp; exact hW.2.2) | (simp [Cx.with]; done) | (simp [Cx.with]; omega)) (hv) ?_
          refine Tr.assign rfl rfl rfl ?_
          refine Tr.nil ?_
          refine at_n ?_
          refine Sat.region ?_
          refine Tr.move rfl rfl rfl ?_
          refine Tr.move rfl rfl rfl ?_
          refine Tr.appendAcc (z := u8 0) (by' := 1) (bytesV (ls.getD x.1 [])) rfl rfl rfl rfl rfl Try.underlying23 Try.underlying23 Sz5 Zr5 (by unfold By; kernel_rfl) rfl hax sG (fun w h => seesP_ext h rfl (hW.2 x.1 oM)) (hsl x.1 oM).2 (bytesV_cell _) oM oM (by rw [bytesV, List.length_map, Nat.mul_one]; exact (hsl x.1 oM).1.symm) ?_
          intro s39 bl39 hac39
          refine Tr.assign rfl rfl rfl ?_
          refine Tr.nil ?_
          refine bl_n ?_
          refine at_n ?_
          refine Sat.region ?_
          refine Tr.add_i64 rfl rfl rfl rfl oM ?_
          refine Tr.move rfl rfl rfl ?_
          refine Tr.nil ?_
          refine at_n ?_
          refine ⟨(x.1 + 1, s39, bl39), ⟨by simp only []; omega, ?_⟩, by simp only []; omega, weak_perm (wk1 rfl (wk1 rfl (wk1 rfl (wk1 rfl (wk1 rfl wk0))))) (pm_seg sG pm_nil)⟩
          rw [take_flat oM, List.length_append, ← (hsl x.1 oM).1]
          simpa [bytesV] using hac39
        ·
          have hx3 : x.1 = n := by omega
          rw [hx3, List.take_of_length_le oM, hF] at hax
          refine Sat.exit ?_
          refine at_x ?_
          refine at_x ?_
          refine bl_h ?_
          refine at_n ?_
          refine Sat.seq ?_
          refine Sat.region ?_
          refine Tr.move rfl rfl rfl ?_
          refine Tr.mkRow (z := u8 0) [u8 (128)] (bytesV [128]) rfl rfl rfl Try.underlying23 Sz5 Zr5 rfl rfl (by intro v hv; rw [List.mem_singleton.1 hv]; rfl) dE rfl ?_
          intro q42
          refine Tr.appendAcc (z := u8 0) (by' := 1) (bytesV [128]) rfl rfl rfl rfl rfl Try.underlying23 Try.underlying23 Sz5 Zr5 (by unfold By; kernel_rfl) rfl hax sG (fun w h => SeesP.of (sees_own h mM)) (fun e => by cases e) (bytesV_cell _) oM oM (by rfl) ?_
          intro s43 bl43 hac43
          refine Tr.assign rfl rfl rfl ?_
          refine Tr.nil ?_
          refine at_n ?_
          refine Sat.seq ?_
          refine Sat.block ?_
          refine Sat.loop (ι := Nat × Sl × List Blk) (fun z => ⟨[(3, i64 (F.length : Int)), (6, z.2.1.v)], (z.2.2 ++ [])⟩) (fun z => z.1 ≤ padZ F.length ∧ Acc z.2.1 z.2.2 (bytesV (F ++ [128] ++ List.replicate z.1 0)) 5 (F.length + 1 + z.1) 1) (fun z => padZ F.length - z.1) ((0, s43, bl43)) ?_ ?_ ?_
          · exact ⟨Nat.zero_le _, by simpa [bytesV] using hac43⟩
          · exact weak_perm (wk1 rfl (wk1 rfl wk0)) (pm_seg sG pm_nil)
          ·
            rintro z ⟨hz1, haz⟩
            have hzn := haz.num
            have hpz := padZ_at F.length z.1 hz1
            refine Sat.seq ?_
            refine Sat.seq ?_
            refine Sat.region ?_
            refine Tr.move rfl rfl rfl ?_
            refine Tr.lenSl rfl rfl rfl Try.underlying23 ?_
            refine Tr.rem_i64 rfl rfl rfl rfl oM ?_
            refine Tr.nei rfl rfl rfl rfl rfl ?_
            refine Tr.nil ?_
            refine at_n ?_
            first
              | refine Sat.condP rfl (fun hc2 => ?_) (fun hc2 => ?_)
              | refine Sat.condNP rfl (fun hc2 => ?_) (fun hc2 => ?_)
              | refine Sat.cond rfl (fun hc2 => ?_) (fun hc2 => ?_)
            ·
              have hz3 : z.1 < padZ F.length := by omega
              refine Sat.skip ?_
              refine at_n ?_
              refine Sat.block ?_
              refine Sat.region ?_
              refine Tr.move rfl rfl rfl ?_
              refine Tr.mkRow (z := u8 0) [u8 (0)] (bytesV [0]) rfl rfl rfl Try.underlying23 Sz5 Zr5 rfl rfl (by intro v hv; rw [List.mem_singleton.1 hv]; rfl) dE rfl ?_
              intro q49
              refine Tr.appendAcc (z := u8 0) (by' := 1) (bytesV [0]) rfl rfl rfl rfl rfl Try.underlying23 Try.underlying23 Sz5 Zr5 (by unfold By; kernel_rfl) rfl haz sG (fun w h => SeesP.of (sees_own h mM)) (fun e => by cases e) (bytesV_cell _) oM oM (by rfl) ?_
              intro s50 bl50 hac50
              refine Tr.assign rfl rfl rfl ?_
              refine Tr.nil ?_
              refine bl_n ?_
              refine at_n ?_
              refine ⟨(z.1 + 1, s50, bl50), ⟨by simp only []; omega, ?_⟩, by simp only []; omega, weak_perm (wk1 rfl (wk1 rfl wk0)) (pm_seg sG pm_nil)⟩
              rw [List.replicate_succ', ← List.append_assoc]
              simpa [bytesV, Nat.add_assoc] using hac50
            ·
              have hz3 : z.1 = padZ F.length := by omega
              rw [hz3] at haz
              refine Sat.exit ?_
              refine at_x ?_
              refine at_x ?_
              refine bl_h ?_
              refine at_n ?_
              refine Sat.seq ?_
              refine Sat.region ?_
              refine Tr.move rfl rfl rfl ?_
              refine Tr.conv rfl rfl rfl Try.underlying3 Try.underlying65 (cv_i64_u64 _) ?_
              rw [word_nat (n := F.length) oM]
              refine Tr.callV rfl rfl rfl rfl Body35 (bits_mul8 (UInt64.ofNat F.length) (by rw [ofNat_nat oM]; omega)) (fun _ _ => trivial) ?_
              refine Tr.move rfl rfl rfl ?_
              refine Tr.extract rfl rfl rfl rfl ?_
              refine Tr.extract rfl rfl rfl rfl ?_
              refine Tr.assign rfl rfl rfl ?_
              refine Tr.assign rfl rfl rfl ?_
              refine Tr.nil ?_
              refine at_n ?_
              refine Sat.seq ?_
              refine Sat.seq ?_
              refine Sat.region ?_
              refine Tr.move rfl rfl rfl ?_
              refine Tr.move rfl rfl rfl ?_
              refine Tr.build (cs := [u64 0, u64 (UInt64.ofNat F.length * 8)]) rfl rfl rfl (fun w => by kernel_rfl) ?_
              refine Tr.move rfl rfl rfl ?_
              refine Tr.nil ?_
              refine at_n ?_
              refine Sat.block ?_
              refine Sat.rounds 3 (SRounds.more ?_)
              refine Sat.seq ?_
              refine Sat.region ?_
              refine Tr.lss rfl rfl rfl rfl rfl ?_
              refine Tr.nil ?_
              refine at_n ?_
              refine Sat.seq ?_
              refine Sat.cond_t rfl (rfl) ?_
              refine Sat.skip ?_
              refine at_n ?_
              refine Sat.seq ?_
              refine Sat.block ?_
              refine Sat.seq ?_
              refine Sat.region ?_
              refine Tr.idxA1 rfl rfl rfl rfl Try.underlying128 Sz65 Try.underlying65 rfl 0 rfl oM rfl ?_
              refine Tr.assign rfl rfl rfl ?_
              refine Tr.nil ?_
              refine at_n ?_
              refine Sat.seq ?_
              refine Sat.region ?_
              refine Tr.assign rfl rfl rfl ?_
              refine Tr.nil ?_
              refine at_n ?_
              refine Sat.block ?_
              refine Sat.loop (ι := Nat × Sl × List Blk) (fun y => ⟨[(3, i64 (F.length : Int)), (6, y.2.1.v), (12, u64 (0)), (13, i64 (56 - 8 * (y.1 : Int))), (59, agg [u64 0, u64 (UInt64.ofNat F.length * 8)]), (60, i64 0)], (y.2.2 ++ [])⟩) (fun y => y.1 ≤ 8 ∧ Acc y.2.1 y.2.2 (bytesV (F ++ [128] ++ List.replicate (padZ F.length) 0 ++ beUp (0) y.1)) 5 ((F.length + 1 + padZ F.length) + y.1) 1) (fun y => 8 - y.1) ((0, z.2.1, z.2.2)) ?_ ?_ ?_
              · exact ⟨Nat.zero_le _, by simpa [beUp] using haz⟩
              · exact weak_perm (wk1 rfl (wk1 rfl (wk1 rfl (wk1 rfl (wk1 rfl (wk1 rfl wk0)))))) (pm_seg sG pm_nil)
              ·
                rintro y ⟨hy, hay⟩
                refine Sat.seq ?_
                refine Sat.seq ?_
                refine Sat.region ?_
                refine Tr.move rfl rfl rfl ?_
                refine Tr.geq rfl rfl rfl rfl rfl ?_
                refine Tr.nil ?_
                refine at_n ?_
                first
                  | refine Sat.condP rfl (fun hc4 => ?_) (fun hc4 => ?_)
                  | refine Sat.condNP rfl (fun hc4 => ?_) (fun hc4 => ?_)
                  | refine Sat.cond rfl (fun hc4 => ?_) (fun hc4 => ?_)
                ·
                  have hy3 : y.1 ≤ 7 := by omega
                  refine Sat.skip ?_
                  refine at_n ?_
                  refine Sat.seq ?_
                  refine Sat.block ?_
                  refine Sat.region ?_
                  refine Tr.move rfl rfl rfl ?_
                  refine Tr.move rfl rfl rfl ?_
                  refine Tr.move rfl rfl rfl ?_
                  refine Tr.shr_u64 rfl rfl rfl rfl (56 - 8 * y.1) oM oM ?_
                  refine Tr.conv rfl rfl rfl Try.underlying65 Try.underlying5 (cv_u64_u8 _) ?_
                  refine Tr.mkRow (z := u8 0) [u8 ((shr64 0 (56 - 8 * y.1)).toUInt8)] (bytesV [(shr64 0 (56 - 8 * y.1)).toUInt8]) rfl rfl rfl Try.underlying23 Sz5 Zr5 rfl rfl (by intro v hv; rw [List.mem_singleton.1 hv]; rfl) dE rfl ?_
                  intro q72
                  refine Tr.appendAcc (z := u8 0) (by' := 1) (bytesV [(shr64 0 (56 - 8 * y.1)).toUInt8]) rfl rfl rfl rfl rfl Try.underlying23 Try.underlying23 Sz5 Zr5 (by unfold By; kernel_rfl) rfl hay sG (fun w h => SeesP.of (sees_own h mM)) (fun e => by cases e) (bytesV_cell _) oM oM (by rfl) ?_
                  intro s73 bl73 hac73
                  refine Tr.assign rfl rfl rfl ?_
                  refine Tr.nil ?_
                  refine bl_n ?_
                  refine at_n ?_
                  refine Sat.region ?_
                  refine Tr.move rfl rfl rfl ?_
                  refine Tr.sub_i64 rfl rfl rfl rfl oM ?_
                  refine Tr.assign rfl rfl rfl ?_
                  refine Tr.nil ?_
                  refine at_n ?_
                  refine ⟨(y.1 + 1, s73, bl73), ⟨by simp only []; omega, ?_⟩, by simp only []; omega, weak_perm (wk1 rfl (wk1 rfl (wk1 rfl (wk1 (congrArg (fun z => some (i64 z)) oM) (wk1 rfl (wk1 rfl wk0)))))) (pm_seg sG pm_nil)⟩
                  rw [show beUp (0) (y.1 + 1) = beUp (0) y.1 ++ [(shr64 (0) (56 - 8 * y.1)).toUInt8] from rfl, ← List.append_assoc, bytesV_app]
                  exact hac73
                ·
                  have hy3 : y.1 = 8 := by omega
                  rw [hy3] at hay
                  refine Sat.exit ?_
                  refine at_x ?_
                  refine at_x ?_
                  refine bl_h ?_
                  refine bl_n ?_
                  refine at_n ?_
                  refine Sat.region ?_
                  refine Tr.add_i64 rfl rfl rfl rfl oM ?_
                  refine Tr.move rfl rfl rfl ?_
                  refine Tr.nil ?_
                  refine at_n (SRounds.more ?_)
                  refine Sat.seq ?_
                  refine Sat.region ?_
                  refine Tr.lss rfl rfl rfl rfl rfl ?_
                  refine Tr.nil ?_
                  refine at_n ?_
                  refine Sat.seq ?_
                  refine Sat.cond_t rfl (rfl) ?_
                  refine Sat.skip ?_
                  refine at_n ?_
                  refine Sat.seq ?_
                  refine Sat.block ?_
                  refine Sat.seq ?_
                  refine Sat.region ?_
                  refine Tr.idxA1 rfl rfl rfl rfl Try.underlying128 Sz65 Try.underlying65 rfl 1 rfl oM rfl ?_
                  refine Tr.assign rfl rfl rfl ?_
                  refine Tr.nil ?_
                  refine at_n ?_
                  refine Sat.seq ?_
                  refine Sat.region ?_
                  refine Tr.assign rfl rfl rfl ?_
                  refine Tr.nil ?_
                  refine at_n ?_
                  refine Sat.block ?_
                  refine Sat.loop (ι := Nat × Sl × List Blk) (fun y => ⟨[(3, i64 (F.length : Int)), (6, y.2.1.v), (12, u64 (UInt64.ofNat F.length * 8)), (13, i64 (56 - 8 * (y.1 : Int))), (59, agg [u64 0, u64 (UInt64.ofNat F.length * 8)]), (60, i64 (0 + 1))], (y.2.2 ++ [])⟩) (fun y => y.1 ≤ 8 ∧ Acc y.2.1 y.2.2 (bytesV (F ++ [128] ++ List.replicate (padZ F.length) 0 ++ beUp 0 8 ++ beUp (UInt64.ofNat F.length * 8) y.1)) 5 ((F.length + 1 + padZ F.length + 8) + y.1) 1) (fun y => 8 - y.1) ((0, y.2.1, y.2.2)) ?_ ?_ ?_
                  · exact ⟨Nat.zero_le _, by simpa [beUp] using hay⟩
                  · exact weak_perm (wk1 rfl (wk1 rfl (wk1 rfl (wk1 rfl (wk1 rfl (wk1 rfl wk0)))))) (pm_seg sG pm_nil)
                  ·
                    rintro y ⟨hy, hay⟩
                    refine Sat.seq ?_
                    refine Sat.seq ?_
                    refine Sat.region ?_
                    refine Tr.move rfl rfl rfl ?_
                    refine Tr.geq rfl rfl rfl rfl rfl ?_
                    refine Tr.nil ?_
                    refine at_n ?_
                    first
                      | refine Sat.condP rfl (fun hc4 => ?_) (fun hc4 => ?_)
                      | refine Sat.condNP rfl (fun hc4 => ?_) (fun hc4 => ?_)
                      | refine Sat.cond rfl (fun hc4 => ?_) (fun hc4 => ?_)
                    ·
                      have hy3 : y.1 ≤ 7 := by omega
                      refine Sat.skip ?_
                      refine at_n ?_
                      refine Sat.seq ?_
                      refine Sat.block ?_
                      refine Sat.region ?_
                      refine Tr.move rfl rfl rfl ?_
                      refine Tr.move rfl rfl rfl ?_
                      refine Tr.move rfl rfl rfl ?_
                      refine Tr.shr_u64 rfl rfl rfl rfl (56 - 8 * y.1) oM oM ?_
                      refine Tr.conv rfl rfl rfl Try.underlying65 Try.underlying5 (cv_u64_u8 _) ?_
                      refine Tr.mkRow (z := u8 0) [u8 ((shr64 (UInt64.ofNat F.length * 8) (56 - 8 * y.1)).toUInt8)] (bytesV [(shr64 (UInt64.ofNat F.length * 8) (56 - 8 * y.1)).toUInt8]) rfl rfl rfl Try.underlying23 Sz5 Zr5 rfl rfl (by intro v hv; rw [List.mem_singleton.1 hv]; rfl) dE rfl ?_
                      intro q72
                      refine Tr.appendAcc (z := u8 0) (by' := 1) (bytesV [(shr64 (UInt64.ofNat F.length * 8) (56 - 8 * y.1)).toUInt8]) rfl rfl rfl rfl rfl Try.underlying23 Try.underlying23 Sz5 Zr5 (by unfold By; kernel_rfl) rfl hay sG (fun w h => SeesP.of (sees_own h mM)) (fun e => by cases e) (bytesV_cell _) oM oM (by rfl) ?_
                      intro s73 bl73 hac73
                      refine Tr.assign rfl rfl rfl ?_
                      refine Tr.nil ?_
                      refine bl_n ?_
                      refine at_n ?_
                      refine Sat.region ?_
                      refine Tr.move rfl rfl rfl ?_
                      refine Tr.sub_i64 rfl rfl rfl rfl oM ?_
                      refine Tr.assign rfl rfl rfl ?_
                      refine Tr.nil ?_
                      refine at_n ?_
                      refine ⟨(y.1 + 1, s73, bl73), ⟨by simp only []; omega, ?_⟩, by simp only []; omega, weak_perm (wk1 rfl (wk1 rfl (wk1 rfl (wk1 (congrArg (fun z => some (i64 z)) oM) (wk1 rfl (wk1 rfl wk0)))))) (pm_seg sG pm_nil)⟩
                      rw [show beUp (UInt64.ofNat F.length * 8) (y.1 + 1) = beUp (UInt64.ofNat F.length * 8) y.1 ++ [(shr64 (UInt64.ofNat F.length * 8) (56 - 8 * y.1)).toUInt8] from rfl, ← List.append_assoc, bytesV_app]
                      exact hac73
                    ·
                      have hy3 : y.1 = 8 := by omega
                      rw [hy3] at hay
                      refine Sat.exit ?_
                      refine at_x ?_
                      refine at_x ?_
                      refine bl_h ?_
                      refine bl_n ?_
                      refine at_n ?_
                      refine Sat.region ?_
                      refine Tr.add_i64 rfl rfl rfl rfl oM ?_
                      refine Tr.move rfl rfl rfl ?_
                      refine Tr.nil ?_
                      refine at_n (SRounds.more ?_)
                      refine Sat.seq ?_
                      refine Sat.region ?_
                      refine Tr.lss rfl rfl rfl rfl rfl ?_
                      refine Tr.nil ?_
                      refine at_n ?_
                      refine Sat.seq ?_
                      refine Sat.cond_f rfl (rfl) ?_
                      refine Sat.exit ?_
                      refine at_x ?_
                      refine at_x ?_
                      refine bl_h ?_
                      refine at_n ?_
                      refine Sat.seq ?_
                      refine Sat.region ?_
                      refine Tr.move rfl rfl rfl ?_
                      refine Tr.assign rfl rfl rfl ?_
                      refine Tr.nil ?_
                      refine at_n ?_
                      refine Sat.ret ?_
                      refine en_r ?_
                      refine end_perm (out := (y.2.2 ++ [])) (res_tmp rfl rfl) (pm_seg sG pm_nil) ?_
                      refine ⟨y.2.1, rfl, ?_⟩
                      have e8 : UInt64.ofNat F.length * 8 = UInt64.ofNat (8 * F.length) := by
                        apply UInt64.toNat_inj.1
                        rw [mul8_nat (by rw [ofNat_nat oM]; omega), ofNat_nat oM, ofNat_nat oM]; omega
                      rw [e8] at hay
                      rw [padB_length, padB]
                      simpa [Nat.add_assoc, Nat.add_comm, Nat.add_left_comm] using hay

end Go.Proofs.Ytmddgelpllffoaa
end

section
namespace Go.Proofs.Ytmddgelpllffoaa
open Go Hw
set_option linter.unusedVariables false
set_option linter.unusedSimpArgs false

set_option maxRecDepth 100000 in
set_option maxHeartbeats 1000000 in
theorem mk_chunk (p : Option Addr) (n c : Nat) : Meets Try.prog 88 [.slice p n c, i64 128] [] (fun _ => True) (fun v out => ∃ b1 b2, v = .func (.func 101) #[] #[ptr b1 0, ptr b2 0] ∧ out = [⟨b1, [.slice p n c], 23, 1⟩, ⟨b2, [i64 128], 3, 1⟩]) := by
  intro W hW
  refine calls_of (hp0 := []) Try.func88 rfl 9 Try.ntmps88 rfl (HRep.nil _) ?_
  refine Sat.seq ?_
  refine Sat.region ?_
  refine Tr.box1 rfl rfl rfl ?_
  intro n2 hn2 hf2
  refine Tr.box1 rfl rfl rfl ?_
  intro n3 hn3 hf3
  refine Tr.assign rfl rfl rfl ?_
  refine Tr.nil ?_
  refine at_n ?_
  refine Sat.seq ?_
  refine Sat.seq ?_
  refine Sat.region ?_
  refine Tr.load1 rfl rfl rfl Try.underlying3 rfl mM vL ?_
  refine Tr.lss rfl rfl rfl rfl rfl ?_
  refine Tr.nil ?_
  refine at_n ?_
  refine Sat.cond_f rfl dE ?_
  refine Sat.skip ?_
  refine at_n ?_
  refine Sat.seq ?_
  refine Sat.region ?_
  refine Tr.makeFunc rfl rfl rfl rfl ?_
  refine Tr.assign rfl rfl rfl ?_
  refine Tr.nil ?_
  refine at_n ?_
  refine Sat.ret ?_
  refine en_r ?_
  refine end_perm (out := (⟨n2, [.slice p n c], 23, 1⟩ :: (⟨n3, [i64 128], 3, 1⟩ :: []))) (res_tmp rfl rfl) (pm_cons rM (pm_cons rM pm_nil)) ?_
  exact ⟨n2, n3, rfl, by simp⟩

/-- a chunk of 128 bytes -/
def encC (q i : Nat) : Value := .slice (some ⟨q, 128 * i, none⟩) 128 128
theorem encC_eq (q i : Nat) : (.slice (some ⟨q, if 128 * i + 128 = 128 * i then 0 else 0 + 128 * i * 1, none⟩) (128 * i + 128 - 128 * i) (128 * i + 128 - 128 * i) : Value) = encC q i := by
  have e1 : 128 * i + 128 - 128 * i = 128 := by omega
  have e2 : 0 + 128 * i * 1 = 128 * i := by omega
  rw [if_neg oM, e1, e2]; rfl

set_option maxRecDepth 100000 in
set_option maxHeartbeats 2000000 in
theorem chunk_iter (l b1 b2 q n c K : Nat) (X : Nat → List Blk) (names : List Nat) (hnk : n = 128 * K) (hnc : n ≤ c) (hbig : n ≤ 1000000) : Meets Try.prog 101 [.func (.yield l) #[] #[], ptr b1 0, ptr b2 0] names (fun W => HRep ⟨Try.prog, W, 0, names, [], []⟩ (⟨b1, [.slice (some ⟨q, 0, none⟩) n c], 23, 1⟩ :: ⟨b2, [i64 128], 3, 1⟩ :: X 0) W ∧ ∀ i, i < K → ∀ W2, HRep ⟨Try.prog, W, 0, names, [], []⟩ (⟨b1, [.slice (some ⟨q, 0, none⟩) n c], 23, 1⟩ :: ⟨b2, [i64 128], 3, 1⟩ :: X i) W2 → YieldAt Fence.wide 0 Try.prog l #[encC q i] W2 fun e W3 => e = .returned (.bool true) ∧ HRep ⟨Try.prog, W, 0, names, [], []⟩ (⟨b1, [.slice (some ⟨q, 0, none⟩) n c], 23, 1⟩ :: ⟨b2, [i64 128], 3, 1⟩ :: X (i + 1)) W3) (fun v out => v = .tuple #[] ∧ out = ⟨b1, [.slice (some ⟨q, 0, none⟩) n c], 23, 1⟩ :: ⟨b2, [i64 128], 3, 1⟩ :: X K) := by
  intro W hW
  refine calls_of (hp0 := ⟨b1, [.slice (some ⟨q, 0, none⟩) n c], 23, 1⟩ :: ⟨b2, [i64 128], 3, 1⟩ :: X 0) Try.func101 rfl 31 Try.ntmps101 rfl (HRep.reN hW.1) ?_
  refine Sat.seq ?_
  refine Sat.region ?_
  refine Tr.assign rfl rfl rfl ?_
  refine Tr.nil ?_
  refine at_n ?_
  refine Sat.block ?_
  refine Sat.loop (ι := Nat) (fun i => ⟨[(0, .func (.yield l) #[] #[]), (1, ptr b1 0), (2, ptr b2 0), (4, i64 (128 * (i : Int)))], (⟨b1, [.slice (some ⟨q, 0, none⟩) n c], 23, 1⟩ :: (⟨b2, [i64 128], 3, 1⟩ :: (X i ++ [])))⟩) (fun i => i ≤ K) (fun i => K - i) (0) ?_ ?_ ?_
  · exact Nat.zero_le _
  · exact weak_perm (wk1 rfl (wk1 rfl (wk1 rfl (wk1 rfl wk0)))) (pm_cons rM (pm_cons rM (pm_seg sG pm_nil)))
  ·
    rintro i hi
    refine Sat.seq ?_
    refine Sat.seq ?_
    refine Sat.region ?_
    refine Tr.move rfl rfl rfl ?_
    refine Tr.load1 rfl rfl rfl Try.underlying23 rfl mM vL ?_
    refine Tr.lenSl rfl rfl rfl Try.underlying23 ?_
    refine Tr.lss rfl rfl rfl rfl rfl ?_
    refine Tr.nil ?_
    refine at_n ?_
    first
      | refine Sat.condP rfl (fun hc0 => ?_) (fun hc0 => ?_)
      | refine Sat.condNP rfl (fun hc0 => ?_) (fun hc0 => ?_)
      | refine Sat.cond rfl (fun hc0 => ?_) (fun hc0 => ?_)
    ·
      have hi3 : i < K := by omega
      refine Sat.skip ?_
      refine at_n ?_
      refine Sat.seq ?_
      refine Sat.block ?_
      refine Sat.seq ?_
      refine Sat.draw [(1, 0), (1, 1), (0, 2), (0, 3), (0, 4), (0, 5), (0, 6)] Mixed (by kernel_rfl) ?_
      refine Tr.load1 rfl rfl rfl Try.underlying3 rfl mM vL ?_
      refine Tr.load1 rfl rfl rfl Try.underlying23 rfl mM vL ?_
      refine Tr.move rfl rfl rfl ?_
      refine Tr.sliceLoN (128*i) rfl rfl rfl rfl oM oM oM Try.underlying23 Sz5 ?_
      refine Tr.lenSl rfl rfl rfl Try.underlying23 ?_
      refine Tr.min2 rfl rfl rfl rfl (show Value.int .i64 (if ((n - 128 * i : Nat) : Int) < (128 : Int) then ((n - 128 * i : Nat) : Int) else (128 : Int)) = i64 128 from by rw [if_neg oM]) ?_
      refine Tr.assign rfl rfl rfl ?_
      refine Tr.nil ?_
      refine at_n ?_
      refine Sat.seq ?_
      refine Sat.regionY 10 rfl (by kernel_rfl) ?_
      refine Tr.move rfl rfl rfl ?_
      refine Tr.load1 rfl rfl rfl Try.underlying23 rfl mM vL ?_
      refine Tr.move rfl rfl rfl ?_
      refine Tr.move rfl rfl rfl ?_
      refine Tr.move rfl rfl rfl ?_
      refine Tr.add_i64 rfl rfl rfl rfl oM ?_
      refine Tr.move rfl rfl rfl ?_
      refine Tr.move rfl rfl rfl ?_
      refine Tr.add_i64 rfl rfl rfl rfl oM ?_
      refine Tr.slice3 (128*i) (128*i+128) (128*i+128) rfl rfl rfl rfl rfl rfl oM oM oM oM oM oM Try.underlying23 Sz5 ?_
      refine Tr.nil ?_
      refine yop rfl rfl (congrArg some (encC_eq q i)) (fun w h => hW.2 i hi3 w (by rw [List.append_nil] at h; exact h)) ?_
      refine Tr.not rfl rfl rfl ?_
      refine Tr.nil ?_
      refine at_n ?_
      refine Sat.cond_f rfl (rfl) ?_
      refine Sat.skip ?_
      refine bl_n ?_
      refine at_n ?_
      refine Sat.region ?_
      refine Tr.move rfl rfl rfl ?_
      refine Tr.load1 rfl rfl rfl Try.underlying3 rfl mM vL ?_
      refine Tr.add_i64 rfl rfl rfl rfl oM ?_
      refine Tr.assign rfl rfl rfl ?_
      refine Tr.nil ?_
      refine at_n ?_
      exact ⟨i + 1, by omega, by omega, weak_perm (wk1 rfl (wk1 rfl (wk1 rfl (wk1 (congrArg (fun z => some (i64 z)) oM) wk0)))) (pm_cons rM (pm_cons rM (pm_seg sG pm_nil)))⟩
    ·
      have hi3 : i = K := by omega
      refine Sat.exit ?_
      refine at_x ?_
      refine at_x ?_
      refine bl_h ?_
      refine en_n ?_
      refine end_perm (out := (⟨b1, [.slice (some ⟨q, 0, none⟩) n c], 23, 1⟩ :: (⟨b2, [i64 128], 3, 1⟩ :: (X i ++ [])))) (res_none rfl) (pm_cons rM (pm_cons rM (pm_seg sG pm_nil))) ?_
      rw [hi3]; exact ⟨rfl, by simp⟩

theorem chunk_seq {l b1 b2 q n c K : Nat} {X : Nat → List Blk} {names : List Nat} (hnk : n = 128 * K) (hnc : n ≤ c) (hbig : n ≤ 1000000) (hnm : ∀ i, (⟨b1, [.slice (some ⟨q, 0, none⟩) n c], 23, 1⟩ :: ⟨b2, [i64 128], 3, 1⟩ :: X i).map (·.n) = names) (w1 : World) (hh : HRep ⟨Try.prog, w1, 0, names, [], []⟩ (⟨b1, [.slice (some ⟨q, 0, none⟩) n c], 23, 1⟩ :: ⟨b2, [i64 128], 3, 1⟩ :: X 0) w1)
    (hy : ∀ i, i < K → ∀ W2, HRep ⟨Try.prog, w1, 0, names, [], []⟩ (⟨b1, [.slice (some ⟨q, 0, none⟩) n c], 23, 1⟩ :: ⟨b2, [i64 128], 3, 1⟩ :: X i) W2 → YieldAt Fence.wide 0 Try.prog l #[encC q i] W2 fun e W3 => e = .returned (.bool true) ∧ HRep ⟨Try.prog, w1, 0, names, [], []⟩ (⟨b1, [.slice (some ⟨q, 0, none⟩) n c], 23, 1⟩ :: ⟨b2, [i64 128], 3, 1⟩ :: X (i + 1)) W3) :
    CallsIn Fence.wide 0 Try.prog 101 (#[.func (.yield l) #[] #[]] ++ #[ptr b1 0, ptr b2 0]) w1 fun e W' => (∃ v, e = .returned v) ∧ HRep ⟨Try.prog, w1, 0, names, [], []⟩ (⟨b1, [.slice (some ⟨q, 0, none⟩) n c], 23, 1⟩ :: ⟨b2, [i64 128], 3, 1⟩ :: X K) W' :=
  callsIn_wide.2 ((chunk_iter l b1 b2 q n c K X names hnk hnc hbig w1 ⟨hh, hy⟩).mono fun e W' ⟨v, out, he, ⟨_, ho⟩, hr⟩ => ⟨⟨v, he⟩, by subst ho; exact HRep.ofRet hr (hnm K)⟩)
theorem take_len {xs : List UInt8} {i K : Nat} (h : xs.length = 128 * K) (hi : i < K) : ((xs.drop (128 * i)).take 128).length = 128 := by simp; omega

set_option maxRecDepth 100000 in
set_option maxHeartbeats 4000000 in
theorem sha_whole (st : List UInt64) (hst : st.length = 8) (k : List UInt64) (hk : Hid (kW = k)) (hk80 : k.length = 80) (p : Option Addr) (n c : Nat) (ss : List Sl) (ls : List (List UInt8)) (hss : ss.length = n) (hls : ls.length = n) (hsl : ∀ j, j < n → (ss.getD j Sl.nil).n = (ls.getD j []).length ∧ ((ss.getD j Sl.nil).p = none → (ss.getD j Sl.nil).n = 0)) (F : List UInt8) (hF : ls.flatten = F) (htot : F.length ≤ 90000) (hn : n ≤ 1000000)  : Meets Try.prog 64 [agg (wordsV st), .slice p n c] [] (fun W => SeesP W p (ss.map Sl.v) ∧ ∀ j, j < n → SeesP W (ss.getD j Sl.nil).p (bytesV (ls.getD j []))) (fun v out => v = agg (wordsV (allW k st F)) ∧ out = []) := by
  intro W hW
  have hpl := padB_length F
  have hpz := padZ_lt F.length
  have hpm := padB_mod F
  have hst2 : (runW k st (padB F) ((padB F).length / 128)).length = 8 := by rw [runW_length]; exact hst
  refine calls_range Try.func64 rfl 16 Try.ntmps64 rfl ?_
  refine Sat.region ?_
  refine Tr.boxA rfl rfl ?_
  intro n2 hn2 hf2
  refine Tr.alloc (cs := (wordsV (List.replicate 8 0))) rfl Zr69 rfl ?_
  intro n4 hn4 hf4
  refine Tr.nil ?_
  refine at_n ?_
  refine Sat.region ?_
  refine Tr.move rfl rfl rfl ?_
  refine Tr.call4 rfl rfl rfl rfl rfl Body89 (sha_padded p n c ss ls hss hls hsl F hF htot hn) (fun w h => ⟨seesP_ext h rfl hW.1, fun j hj => seesP_ext h rfl (hW.2 j hj)⟩) ?_
  rintro v7 out7 ⟨s7, rfl, hac7⟩
  obtain ⟨q7, c7, rfl, hc7, rfl⟩ := acc_pos hac7 oM
  refine Tr.call4 rfl rfl rfl rfl rfl Body88 (mk_chunk (some ⟨q7, 0, none⟩) (padB F).length c7) (fun _ _ => trivial) ?_
  rintro v8 out8 ⟨b1, b2, rfl, rfl⟩
  refine Tr.nil ?_
  refine at_n ?_
  refine ⟨_, _, fun i => ⟨b1, [.slice (some ⟨q7, 0, none⟩) (padB F).length c7], 23, 1⟩ :: ⟨b2, [i64 128], 3, 1⟩ :: [⟨q7, bytesV (padB F), 5, c7 * 1⟩, ⟨n4, wordsV (List.replicate 8 0), 69, (wordsV (List.replicate 8 0)).length⟩, ⟨n2, wordsV (runW k st (padB F) i), 69, (wordsV st).length⟩], [b1, b2, q7, n4, n2], encC q7, ((padB F).length / 128), fun sl i => (5, encC q7 i) :: (9, encC q7 i) :: sl, rfl, rfl, Body101, dE, fun _ => rfl, ?_, ?_, ?_, ?_⟩
  ·
    intro l w1 hh hy
    exact chunk_seq (X := fun i => [⟨q7, bytesV (padB F), 5, c7 * 1⟩, ⟨n4, wordsV (List.replicate 8 0), 69, (wordsV (List.replicate 8 0)).length⟩, ⟨n2, wordsV (runW k st (padB F) i), 69, (wordsV st).length⟩]) hpm hc7 oM (fun _ => rfl) w1 hh hy
  ·
    intro i hi l W2 hh
    refine SatI.region (by kernel_rfl) ?_
    refine Tr.assign rfl rfl rfl ?_
    refine Tr.nil ?_
    exact ⟨rfl, rfl⟩
  ·
    intro i hi l W2 hh
    obtain ⟨A, hA⟩ : ∃ A, Hid (schA ((padB F).drop (128 * i) |>.take 128) 128 = A) := ⟨_, ⟨rfl⟩⟩
    obtain ⟨w, hwp⟩ : ∃ w, Hid (schB A 64 = w) := ⟨_, ⟨rfl⟩⟩
    obtain ⟨R, hR⟩ : ∃ R, Hid (rnds k w (W8.of (runW k st (padB F) i)) 80 = R) := ⟨_, ⟨rfl⟩⟩
    have hw : w.length = 80 := by rw [← hwp.out, schB_length, ← hA.out]; exact schA_length _ 128
    have e1 : addUp (runW k st (padB F) i) R.l 8 = runW k st (padB F) (i + 1) := by rw [runW, pieceW, schW, hA.out, hwp.out, hR.out]
    refine SatI.block ?_
    refine SatI.draw [(1, 0), (0, 1), (0, 2), (1, 3), (3, 4), (4, 5)] Mixed (by kernel_rfl) (by kernel_rfl) ?_
    refine Tr.loadAll rfl rfl rfl Try.underlying69 rfl Sz69 mM (by rw [List.length_map, runW_length]; exact hst) ?_
    refine Tr.move rfl rfl rfl ?_
    refine Tr.s2a rfl rfl rfl Try.underlying115 oM ?_
    refine Tr.loadN (bytesV ((padB F).drop (128 * i) |>.take 128)) rfl rfl rfl Try.underlying115 rfl Sz115 mM (by rw [← List.map_drop, ← List.map_take]) (by rw [List.length_map]; exact take_len hpm hi) ?_
    refine Tr.callV rfl rfl rfl rfl Body90 (sha_Piece (runW k st (padB F) i) (by rw [runW_length]; exact hst) ((padB F).drop (128 * i) |>.take 128) (take_len hpm hi) A w k R hA hwp hw hk hk80 hR) (fun _ _ => trivial) ?_
    refine Tr.storeAll rfl rfl rfl rfl (by simp [isCell]) Sz69 (by first | (rw [List.length_map, addUp_length, runW_length]; exact hst) | (rw [List.length_map, runW_length]; exact hst) | (rw [runW_length]; exact hst)) mM (by first | (rw [List.length_map, addUp_length, runW_length]; exact hst) | (rw [List.length_map, runW_length]; exact hst)) uU ?_
    refine Tr.nil ?_
    rw [e1]
  ·
    intro D W2
    refine Sat.seq ?_
    refine Sat.region ?_
    first
      | refine Tr.loadAll rfl rfl rfl Try.underlying69 rfl Sz69 mM (by first | (simp [hst, hst2]; done) | assumption | (rw [bytesV, List.length_map]; assumption)) ?_
      | refine Tr.loadN _ rfl rfl rfl Try.underlying69 rfl Sz69 mM (by exact rfl) (by first | (simp [hst, hst2]; done) | assumption | (rw [bytesV, List.length_map]; assumption)) ?_
    first
      | refine Tr.storeAll rfl rfl rfl rfl cB Sz69 (by first | (simp [hst, hst2]; done) | assumption | (rw [bytesV, List.length_map]; assumption)) mM (by first | (simp [hst, hst2]; done) | assumption | (rw [bytesV, List.length_map]; assumption)) uU ?_
      | refine Tr.storeN _ rfl rfl rfl rfl rfl cB Sz69 (by first | (simp [hst, hst2]; done) | assumption | (rw [bytesV, List.length_map]; assumption)) mM (by first | (simp [hst, hst2]; done) | assumption | (rw [bytesV, List.length_map]; assumption)) (by exact rfl) uU ?_
    refine Tr.nil ?_
    refine at_n ?_
    refine Sat.ret ?_
    refine enA_r ?_
    refine ⟨_, [], fun W names => res_cell rfl rfl Try.underlying69 rfl Sz69 mM (by simp [hst, hst2]), sP, sP, ?_⟩
    exact ⟨rfl, rfl⟩

end Go.Proofs.Ytmddgelpllffoaa
end
