/- headwaterlaw06.SignCalls returns true at every input, and all that it reads reads behind the call as before. Conditions: none beyond the given statement's own. -/
import Derived.WalkKit
import Derived.Orders
import Derived.Deep.LoopGhost
import Derived.IntWalk
import Derived.Laws.StructEq
import Derived.Test.YtmddgelpllffoaaGreatRows
import Derived.KernelRfl
import Derived.Laws.MathBits
import Derived.ArgAppend
import Derived.Deep.AppendSrc
import Derived.Lib.Bytealg
import Derived.Lib.BytesEntry
import Derived.Laws.IdiomStrings
import Derived.WideKeyArr2
import Derived.ProofKit
import Derived.OpenShut
import Derived.Deep.Slices
import Derived.Laws.Pointers
import Derived.Laws.Cover3
import Derived.LaidEqlPtr
import Derived.LoopN
import Derived.Laws.Externs
import Derived.RangeFuncLeaves
import Derived.RangeFuncSeq
import Derived.OrdersIn
import Derived.ChangeOld
import Derived.Below
import Derived.Test.YtmddgelpllffoaaGreatSCallsC5
section
namespace Go.Proofs.YtmddgelpllffoaaGreat
open Go Hw
set_option linter.unusedVariables false
set_option linter.unusedSimpArgs false

open Ed

set_option maxRecDepth 100000 in
theorem byte_8 : ∀ b : UInt8, b - UInt8.ofNat (b.toNat % 8) = b &&& 248 ∧ UInt8.ofNat (b.toNat % 64) + 64 = (b &&& 127) ||| 64 := by
  intro b
  have h : ∀ n, n < 256 → UInt8.ofNat n - UInt8.ofNat ((UInt8.ofNat n).toNat % 8) = UInt8.ofNat n &&& 248 ∧ UInt8.ofNat ((UInt8.ofNat n).toNat % 64) + 64 = (UInt8.ofNat n &&& 127) ||| 64 := by decide
  have h2 := h b.toNat b.toNat_lt
  rwa [UInt8.ofNat_toNat] at h2
theorem clamp_ref {l : List UInt8} (h : l.length = 32) : (l.set 0 (l.getD 0 0 - UInt8.ofNat ((l.getD 0 0).toNat % 8))).set 31 (UInt8.ofNat (((l.set 0 (l.getD 0 0 - UInt8.ofNat ((l.getD 0 0).toNat % 8))).getD 31 0).toNat % 64) + 64) = clampB l := by
  have g : (l.set 0 (l.getD 0 0 - UInt8.ofNat ((l.getD 0 0).toNat % 8))).getD 31 0 = l.getD 31 0 := by
    rw [List.getD_eq_getElem?_getD, List.getElem?_set_ne dE, ← List.getD_eq_getElem?_getD]
  rw [g, (byte_8 _).1, (byte_8 _).2]
  rfl
theorem upd_all {f : List UInt8} (h : f.length = 32) : upd (bytesV (List.replicate 32 0)) 0 (bytesV f) = bytesV f := by simp [upd, bytesV, h]
theorem sees_take {w : World} {b n : Nat} {l : List UInt8} (h : Sees w b 0 (bytesV l)) : SeesP w (some ⟨b, 0, none⟩) (bytesV (l.take n)) := SeesP.of (fun i v hv => h i v (take_sees hv))
theorem sees_drop {w : World} {b n : Nat} {l : List UInt8} (h : Sees w b 0 (bytesV l)) : SeesP w (some ⟨b, n, none⟩) (bytesV (l.drop n)) := SeesP.of (fun i v hv => by
  have e : (bytesV l)[n + i]? = some v := by rw [bytesV, List.map_drop, List.getElem?_drop] at hv; exact hv
  have := h _ v e
  rwa [Nat.zero_add] at this)

set_option maxRecDepth 100000 in
set_option maxHeartbeats 8000000 in
theorem r6_secret (seed : List UInt8) (h32 : seed.length = 32) (s : List UInt8) (hs : Hid (sha512 seed = s)) : Meets Tryz.prog 29 [agg (bytesV seed)] [] (fun _ => True) (fun v out => ∃ q c, v = .tuple #[agg (bytesV (clampB (s.take 32))), .slice (some ⟨q, 0, none⟩) 32 c] ∧ 32 ≤ c ∧ out = [⟨q, bytesV (s.drop 32), 5, c * 1⟩]) := by
  intro W hW
  have hs64 : s.length = 64 := by rw [← hs.out]; exact sha512_length seed
  have ht32 : (s.take 32).length = 32 := by rw [List.length_take, hs64]; rfl
  have hd32 : (s.drop 32).length = 32 := by rw [List.length_drop, hs64]
  have hcl := clampB_length ht32
  refine calls_of (hp0 := []) Tryz.func29 rfl 28 Tryz.ntmps29 rfl (HRep.nil _) ?_
  refine Sat.seq ?_
  refine Sat.region ?_
  refine Tr.boxA rfl rfl ?_
  intro n1 hn1 hf1
  refine Tr.alloc (cs := (bytesV (List.replicate 32 0))) rfl Zr32 rfl ?_
  intro n2 hn2 hf2
  refine Tr.assign rfl rfl rfl ?_
  refine Tr.nil ?_
  refine at_n ?_
  refine Sat.seq ?_
  refine Sat.region ?_
  refine Tr.sliceArr rfl rfl rfl Tryz.underlying22 Sz5 ?_
  refine Tr.mkRow2 (z := .slice none 0 0) [.slice (some ⟨n1, 0, none⟩) 32 32] [.slice (some ⟨n1, 0, none⟩) 32 32] rfl rfl Tryz.underlying85 Sz23 Zr23 rfl rfl (by intro v hv; rw [List.mem_singleton.1 hv]; rfl) dE rfl ?_
  intro q7
  refine Tr.callV rfl rfl rfl rfl Body30 (r2_Sum512 (some ⟨q7, 0, none⟩) 1 1 [⟨some ⟨n1, 0, none⟩, 32, 32⟩] [seed] rfl rfl (fun j hj => (by
      rcases (show j = 0 by omega) with rfl
      · exact ⟨by show 32 = List.length _; exact h32.symm, fun e => by cases e⟩)) (seed) sP (by (simp [h32]; done)) dE s hs) (fun w h => ⟨SeesP.of (sees_own h (by exact mem0)), (fun j hj => (by
      rcases (show j = 0 by omega) with rfl
      · exact SeesP.of (sees_own (cs := bytesV seed) h (by exact mem2))))⟩) ?_
  refine Tr.alloc (cs := (bytesV (List.replicate 64 0))) rfl Zr27 rfl ?_
  intro n4 hn4 hf4
  refine Tr.storeAll rfl rfl rfl rfl (by exact bytesV_cell _) Sz27 (by (simp [hs64]; done)) (by exact mem0) (by (simp; done)) (by exact upd0) ?_
  refine Tr.nil ?_
  refine at_n ?_
  refine Sat.seq ?_
  refine Sat.region ?_
  refine Tr.alloc (cs := (bytesV (List.replicate 32 0))) rfl Zr32 rfl ?_
  intro n5 hn5 hf5
  refine Tr.nil ?_
  refine at_n ?_
  refine Sat.seq ?_
  refine Sat.draw [(0, 0), (0, 1), (4, 2)] Mixed (by kernel_rfl) ?_
  refine Tr.sliceArr rfl rfl rfl Tryz.underlying32 Sz5 ?_
  refine Tr.sliceArrHi 32 rfl rfl rfl rfl rfl dE dE Tryz.underlying27 Sz5 ?_
  refine Tr.copyP (bytesV (s.take 32)) 32 rfl rfl rfl rfl rfl Tryz.underlying23 Sz5 (fun w h => sees_take (sees_own h (by exact mem1))) (fun e => by cases e) (by rw [bytesV, List.length_map]; exact ht32) rfl (by rw [bytesV, ← List.map_take, List.take_of_length_le (Nat.le_of_eq ht32)]) (bytesV_cell _) (by exact mem0) (by (simp; done)) (by exact upd_all ht32) (by exact upd0) ?_
  refine Tr.nil ?_
  refine at_n ?_
  refine Sat.seq ?_
  refine Sat.region ?_
  refine Tr.idxArr1 rfl rfl rfl rfl Tryz.underlying32 Sz5 0 rfl dE ?_
  refine Tr.load1 rfl rfl rfl Tryz.underlying5 rfl (by exact mem0) (by exact get_bytes oM) ?_
  refine Tr.idxArr1 rfl rfl rfl rfl Tryz.underlying32 Sz5 0 rfl dE ?_
  refine Tr.load1 rfl rfl rfl Tryz.underlying5 rfl (by exact mem0) (by exact get_bytes oM) ?_
  refine Tr.rem_u8 rfl rfl rfl rfl 8 rfl dE ?_
  refine Tr.sub_u8 rfl rfl rfl rfl ?_
  refine Tr.idxArr1 rfl rfl rfl rfl Tryz.underlying32 Sz5 0 rfl dE ?_
  refine Tr.store1 rfl rfl rfl rfl rfl Sz5 (by exact mem0) (by (simp [hs64]; done)) (by exact set_bytes _ _ _) (by exact upd0) ?_
  refine Tr.nil ?_
  refine at_n ?_
  refine Sat.seq ?_
  refine Sat.region ?_
  refine Tr.idxArr1 rfl rfl rfl rfl Tryz.underlying32 Sz5 31 rfl dE ?_
  refine Tr.load1 rfl rfl rfl Tryz.underlying5 rfl (by exact mem0) (by exact get_bytes (by (simp [ht32]; done))) ?_
  refine Tr.rem_u8 rfl rfl rfl rfl 64 rfl dE ?_
  refine Tr.add_u8 rfl rfl rfl (show evIn _ _ = some (u8 64) from rfl) ?_
  refine Tr.idxArr1 rfl rfl rfl rfl Tryz.underlying32 Sz5 31 rfl dE ?_
  refine Tr.store1 rfl rfl rfl rfl rfl Sz5 (by exact mem0) (by (simp [hs64, ht32]; done)) (by exact set_bytes _ _ _) (by exact upd0) ?_
  refine Tr.nil ?_
  refine at_n ?_
  refine Sat.seq ?_
  refine Sat.withK (sp_k (sp_v (sp_v (sp_v (sp_v sp_n))))) rfl ?_
  refine Sat.draw [(0, 0), (0, 2), (2, 1), (4, 3), (4, 4), (0, 5)] Mixed (by kernel_rfl) ?_
  rw [clamp_ref ht32]
  refine Tr.kloadAll rfl rfl rfl Tryz.underlying32 rfl Sz32 (by exact mem0) (by (simp [hcl]; done)) ?_
  refine Tr.sliceArrLo 32 rfl rfl rfl rfl rfl dE Tryz.underlying27 Sz5 ?_
  refine Tr.mkRow2 (z := u8 0) [] [] rfl rfl Tryz.underlying23 Sz5 Zr5 rfl rfl (by intro v hv; cases hv) dE rfl ?_
  intro q25
  refine Tr.appendSl (z := u8 0) (by' := 1) (bytesV (s.drop 32)) rfl rfl rfl rfl rfl Tryz.underlying23 Tryz.underlying23 Sz5 Zr5 (by unfold By; kernel_rfl) rfl (fun w h => sees_drop (sees_own h (by exact mem1))) (fun e => by cases e) (bytesV_cell _) (by repeat (exact rem_here)) rfl rfl oM oM oM (by rw [bytesV, List.length_map]; exact hd32) ?_
  intro q27 c27 hq27
  refine Tr.storeAll rfl rfl rfl rfl (by exact bytesV_cell _) Sz32 (by (simp [hcl]; done)) (by exact mem3) (by (simp; done)) (by exact upd3) ?_
  refine Tr.assign rfl rfl rfl ?_
  refine Tr.nil ?_
  refine at_n ?_
  refine Sat.ret ?_
  refine en_r ?_
  simp only [List.cons_append, List.nil_append, List.append_nil]
  refine end_perm (out := (⟨q27, [] ++ bytesV (s.drop 32), 5, c27 * 1⟩ :: [])) (res_cell_tmp rfl rfl rfl Tryz.underlying32 rfl Sz32 (by exact mem3) (by simp [hcl])) (pm_cons (by repeat (exact rem_here)) pm_nil) ?_
  exact ⟨q27, c27, rfl, by omega, rfl⟩

set_option maxRecDepth 100000 in
set_option maxHeartbeats 2000000 in
theorem r6_Secret (seed : List UInt8) (h32 : seed.length = 32) (s : List UInt8) (hs : Hid (sha512 seed = s)) : Meets Tryz.prog 27 [agg (bytesV seed)] [] (fun _ => True) (fun v out => v = agg (bytesV (clampB (s.take 32))) ∧ out = []) := by
  intro W hW
  have hs64 : s.length = 64 := by rw [← hs.out]; exact sha512_length seed
  have ht32 : (s.take 32).length = 32 := by rw [List.length_take, hs64]; rfl
  have hd32 : (s.drop 32).length = 32 := by rw [List.length_drop, hs64]
  have hcl := clampB_length ht32
  revert hcl
  have hsec := r6_secret seed h32 s hs
  revert hsec
  generalize clampB (s.take 32) = N
  intro hsec hcl
  refine calls_of (hp0 := []) Tryz.func27 rfl 11 Tryz.ntmps27 rfl (HRep.nil _) ?_
  refine Sat.seq ?_
  refine Sat.region ?_
  refine Tr.boxA rfl rfl ?_
  intro n1 hn1 hf1
  refine Tr.alloc (cs := (bytesV (List.replicate 32 0))) rfl Zr32 rfl ?_
  intro n2 hn2 hf2
  refine Tr.nil ?_
  refine at_n ?_
  refine Sat.seq ?_
  refine Sat.region ?_
  refine Tr.loadAll rfl rfl rfl Tryz.underlying22 rfl Sz22 (by exact mem1) (by (simp [h32]; done)) ?_
  refine Tr.call4 rfl rfl rfl rfl rfl Body29 (hsec) (fun _ _ => trivial) ?_
  rintro v7 out7 ⟨q7, c7, rfl, hc7, rfl⟩
  simp only [List.cons_append, List.nil_append]
  refine Tr.move rfl rfl rfl ?_
  refine Tr.extract rfl rfl rfl rfl ?_
  refine Tr.extract rfl rfl rfl rfl ?_
  refine Tr.alloc (cs := (bytesV (List.replicate 32 0))) rfl Zr32 rfl ?_
  intro n3 hn3 hf3
  refine Tr.storeAll rfl rfl rfl rfl (by exact bytesV_cell _) Sz32 (by (simp [hcl]; done)) (by exact mem0) (by (simp; done)) (by exact upd0) ?_
  refine Tr.assign rfl rfl rfl ?_
  refine Tr.nil ?_
  refine at_n ?_
  refine Sat.seq ?_
  refine Sat.region ?_
  refine Tr.loadAll rfl rfl rfl Tryz.underlying32 rfl Sz32 (by exact mem0) (by (simp [hcl]; done)) ?_
  refine Tr.storeAll rfl rfl rfl rfl (by exact bytesV_cell _) Sz32 (by (simp [hcl]; done)) (by exact mem2) (by (simp; done)) (by exact upd2) ?_
  refine Tr.nil ?_
  refine at_n ?_
  refine Sat.ret ?_
  refine en_r ?_
  refine ⟨_, [], res_cell rfl rfl Tryz.underlying32 rfl Sz32 (by exact mem2) (by simp [hcl]), sP, sP, ?_, rfl⟩
  rfl

theorem r6_KeyQ (N : List UInt8) (hN : N.length = 32) (Q : Pt Fp) (hQ : cv.mul (le N) bP = Q) : cv.on Q ∧ Meets Tryz.prog 17 [agg (bytesV N), agg (ptc bP).cells] [] (fun _ => True) (fun v out => v = agg (ptc Q).cells ∧ out = []) := by
  rw [← hQ]; exact ⟨cv.on_mul bP_on _, r5_Mul N bP hN bP_on⟩

set_option maxRecDepth 100000 in
set_option maxHeartbeats 4000000 in
theorem r6_Key (seed : List UInt8) (h32 : seed.length = 32) (s : List UInt8) (hs : Hid (sha512 seed = s)) : Meets Tryz.prog 8 [agg (bytesV seed)] [] (fun _ => True) (fun v out => v = agg (bytesV (sgK s)) ∧ out = []) := by
  intro W hW
  have hs64 : s.length = 64 := by rw [← hs.out]; exact sha512_length seed
  have ht32 : (s.take 32).length = 32 := by rw [List.length_take, hs64]; rfl
  have hd32 : (s.drop 32).length = 32 := by rw [List.length_drop, hs64]
  have hcl := clampB_length ht32
  obtain ⟨Q, hQ⟩ : ∃ Q, cv.mul (le (clampB (s.take 32))) bP = Q := ⟨_, rfl⟩
  have hsec := r6_Secret seed h32 s hs
  have hkq := r6_KeyQ (clampB (s.take 32)) hcl Q hQ
  rw [show sgK s = pb Q from by rw [sgK, hQ]]
  clear hQ
  revert hcl hsec hkq
  generalize clampB (s.take 32) = N
  intro hcl hsec hkq
  obtain ⟨hQo, hmul⟩ := hkq
  refine calls_of (hp0 := []) Tryz.func8 rfl 14 Tryz.ntmps8 rfl (HRep.nil _) ?_
  refine Sat.seq ?_
  refine Sat.region ?_
  refine Tr.boxA rfl rfl ?_
  intro n1 hn1 hf1
  refine Tr.alloc (cs := (bytesV (List.replicate 32 0))) rfl Zr25 rfl ?_
  intro n2 hn2 hf2
  refine Tr.nil ?_
  refine at_n ?_
  refine Sat.seq ?_
  refine Sat.region ?_
  refine Tr.loadAll rfl rfl rfl Tryz.underlying22 rfl Sz22 (by exact mem1) (by (simp [h32]; done)) ?_
  refine Tr.callV rfl rfl rfl rfl Body27 (hsec) (fun _ _ => trivial) ?_
  refine Tr.callV rfl rfl rfl rfl Body18 (r5_Base) (fun _ _ => trivial) ?_
  refine Tr.callV rfl rfl rfl rfl Body17 (hmul) (fun _ _ => trivial) ?_
  refine Tr.callV rfl rfl rfl rfl Body16 (r5_Bytes Q hQo) (fun _ _ => trivial) ?_
  refine Tr.move rfl rfl rfl ?_
  refine Tr.extract rfl rfl rfl rfl ?_
  refine Tr.extract rfl rfl rfl rfl ?_
  refine Tr.alloc (cs := (bytesV (List.replicate 32 0))) rfl Zr22 rfl ?_
  intro n3 hn3 hf3
  refine Tr.storeAll rfl rfl rfl rfl (by exact bytesV_cell _) Sz22 (by (simp [pb_length]; done)) (by exact mem0) (by (simp; done)) (by exact upd0) ?_
  refine Tr.assign rfl rfl rfl ?_
  refine Tr.nil ?_
  refine at_n ?_
  refine Sat.seq ?_
  refine Sat.region ?_
  refine Tr.loadAll rfl rfl rfl Tryz.underlying22 rfl Sz22 (by exact mem0) (by (simp [pb_length]; done)) ?_
  refine Tr.storeAll rfl rfl rfl rfl (by exact bytesV_cell _) Sz25 (by (simp [pb_length]; done)) (by exact mem1) (by (simp; done)) (by exact upd1) ?_
  refine Tr.nil ?_
  refine at_n ?_
  refine Sat.ret ?_
  refine en_r ?_
  refine ⟨_, [], res_cell rfl rfl Tryz.underlying25 rfl Sz25 (by exact mem1) (by simp [pb_length]), sP, sP, ?_, rfl⟩
  rfl

set_option maxRecDepth 100000 in
set_option maxHeartbeats 4000000 in
theorem r6_challenge (r k : List UInt8) (hr : r.length = 32) (hk : k.length = 32) (sb : Sl) (bb : List UInt8) (hbn : bb.length ≤ 80000) (s : List UInt8) (hs : Hid (sha512 (r ++ (k ++ bb)) = s)) : Meets Tryz.prog 33 [agg (bytesV r), agg (bytesV k), sb.v] [] (fun W => BytesAt W sb bb) (fun v out => v = agg (bytesV (sgR s)) ∧ out = []) := by
  intro W hW
  have hs64 : s.length = 64 := by rw [← hs.out]; exact sha512_length _
  obtain ⟨R, hR⟩ : ∃ R, Hid (sgR s = R) := ⟨_, ⟨rfl⟩⟩
  have hRl : R.length = 32 := by rw [← hR.out]; exact sgR_length s
  have hres := fun b => ref_Rest b 0 64 64 s hs64 dE
  rw [show leb 32 (le s % L) = R from hR.out] at hres
  rw [hR.out]
  refine calls_of (hp0 := []) Tryz.func33 rfl 21 Tryz.ntmps33 rfl (HRep.nil _) ?_
  refine Sat.seq ?_
  refine Sat.region ?_
  refine Tr.boxA rfl rfl ?_
  intro n3 hn3 hf3
  refine Tr.boxA rfl rfl ?_
  intro n4 hn4 hf4
  refine Tr.alloc (cs := (bytesV (List.replicate 32 0))) rfl Zr32 rfl ?_
  intro n6 hn6 hf6
  refine Tr.nil ?_
  refine at_n ?_
  refine Sat.seq ?_
  refine Sat.draw [(0, 0), (0, 1), (0, 2), (2, 3), (3, 4), (2, 5), (4, 6)] Mixed (by kernel_rfl) ?_
  refine Tr.sliceArr rfl rfl rfl Tryz.underlying22 Sz5 ?_
  refine Tr.sliceArr rfl rfl rfl Tryz.underlying25 Sz5 ?_
  refine Tr.move rfl rfl rfl ?_
  refine Tr.mkRow2 (z := .slice none 0 0) [.slice (some ⟨n3, 0, none⟩) 32 32, .slice (some ⟨n4, 0, none⟩) 32 32, sb.v] [.slice (some ⟨n3, 0, none⟩) 32 32, .slice (some ⟨n4, 0, none⟩) 32 32, sb.v] rfl rfl Tryz.underlying85 Sz23 Zr23 rfl rfl (by intro v hv; simp only [List.mem_cons, List.not_mem_nil, or_false] at hv; rcases hv with rfl | rfl | rfl <;> rfl) dE rfl ?_
  intro q13
  refine Tr.callV rfl rfl rfl rfl Body30 (r2_Sum512 (some ⟨q13, 0, none⟩) 3 3 [⟨some ⟨n3, 0, none⟩, 32, 32⟩, ⟨some ⟨n4, 0, none⟩, 32, 32⟩, sb] [r, k, bb] rfl rfl (fun j hj => (by
      rcases (show j = 0 ∨ j = 1 ∨ j = 2 by omega) with rfl | rfl | rfl
      · exact ⟨by show 32 = List.length _; exact hr.symm, fun e => by cases e⟩
      · exact ⟨by show 32 = List.length _; exact hk.symm, fun e => by cases e⟩
      · exact ⟨by show sb.n = bb.length; exact hW.len.symm, fun e => by have h1 := hW.nil e; have h2 := hW.cap; show sb.n = 0; omega⟩)) (r ++ (k ++ bb)) sP (by (simp [hr, hk]; omega)) dE s hs) (fun w h => ⟨SeesP.of (sees_own h (by exact mem0)), (fun j hj => (by
      rcases (show j = 0 ∨ j = 1 ∨ j = 2 by omega) with rfl | rfl | rfl
      · exact SeesP.of (sees_own (cs := bytesV r) h (by exact mem3))
      · exact SeesP.of (sees_own (cs := bytesV k) h (by exact mem2))
      · exact seesP_ext h rfl hW.see))⟩) ?_
  refine Tr.alloc (cs := (bytesV (List.replicate 64 0))) rfl Zr27 rfl ?_
  intro n7 hn7 hf7
  refine Tr.storeAll rfl rfl rfl rfl (by exact bytesV_cell _) Sz27 (by (simp [hs64]; done)) (by exact mem0) (by (simp; done)) (by exact upd0) ?_
  refine Tr.nil ?_
  refine at_n ?_
  refine Sat.seq ?_
  refine Sat.region ?_
  refine Tr.sliceArr rfl rfl rfl Tryz.underlying27 Sz5 ?_
  refine Tr.callV rfl rfl rfl rfl Body31 (hres n7) (fun w h => sees_own h (by exact mem0)) ?_
  refine Tr.move rfl rfl rfl ?_
  refine Tr.extract rfl rfl rfl rfl ?_
  refine Tr.extract rfl rfl rfl rfl ?_
  refine Tr.alloc (cs := (bytesV (List.replicate 32 0))) rfl Zr32 rfl ?_
  intro n8 hn8 hf8
  refine Tr.storeAll rfl rfl rfl rfl (by exact bytesV_cell _) Sz32 (by (simp [hRl]; done)) (by exact mem0) (by (simp; done)) (by exact upd0) ?_
  refine Tr.assign rfl rfl rfl ?_
  refine Tr.nil ?_
  refine at_n ?_
  refine Sat.seq ?_
  refine Sat.region ?_
  refine Tr.loadAll rfl rfl rfl Tryz.underlying32 rfl Sz32 (by exact mem0) (by (simp [hRl]; done)) ?_
  refine Tr.storeAll rfl rfl rfl rfl (by exact bytesV_cell _) Sz32 (by (simp [hRl]; done)) (by exact mem3) (by (simp; done)) (by exact upd3) ?_
  refine Tr.nil ?_
  refine at_n ?_
  refine Sat.ret ?_
  refine en_r ?_
  refine ⟨_, [], res_cell rfl rfl Tryz.underlying32 rfl Sz32 (by exact mem3) (by simp [hRl]), sP, sP, ?_, rfl⟩
  rfl

set_option maxRecDepth 100000 in
set_option maxHeartbeats 8000000 in
theorem r6_Sign (seed : List UInt8) (h32 : seed.length = 32) (sb : Sl) (bb : List UInt8) (hbn : bb.length ≤ 80000) (s s1 s2 : List UInt8) (hs : Hid (sha512 seed = s)) (hs1 : Hid (sha512 (s.drop 32 ++ bb) = s1)) (hs2 : Hid (sha512 (sgF s1 ++ (sgK s ++ bb)) = s2)) : Meets Tryz.prog 9 [agg (bytesV seed), sb.v] [] (fun W => BytesAt W sb bb) (fun v out => v = agg (bytesV (sgF s1 ++ sgS s s1 s2)) ∧ out = []) := by
  intro W hW
  have hs64 : s.length = 64 := by rw [← hs.out]; exact sha512_length seed
  have ht32 : (s.take 32).length = 32 := by rw [List.length_take, hs64]; rfl
  have hd32 : (s.drop 32).length = 32 := by rw [List.length_drop, hs64]
  have hcl := clampB_length ht32
  have h64 : s1.length = 64 := by rw [← hs1.out]; exact sha512_length _
  have csec := r6_secret seed h32 s hs
  have ckey := r6_Key seed h32 s hs
  have cch := r6_challenge (sgF s1) (sgK s) (sgF_length s1) (sgK_length s) sb bb hbn s2 hs2
  have cma := ref_muladd (sgR s2) (clampB (s.take 32)) (sgR s1) (sgR_length s2) hcl (sgR_length s1)
  rw [show leb 32 ((le (sgR s2) * le (clampB (s.take 32)) + le (sgR s1)) % L) = sgS s s1 s2 from rfl] at cma
  obtain ⟨Q, hQ⟩ : ∃ Q, cv.mul (le (sgR s1)) bP = Q := ⟨_, rfl⟩
  have hkq := r6_KeyQ (sgR s1) (sgR_length s1) Q hQ
  have hF : sgF s1 = pb Q := by rw [sgF, hQ]
  rw [hF] at cch ⊢
  clear hQ hs2 hF
  have hres := fun b => ref_Rest b 0 64 64 s1 h64 dE
  rw [show leb 32 (le s1 % L) = sgR s1 from rfl] at hres
  have lK := sgK_length s
  have lS := sgS_length s s1 s2
  have lR1 := sgR_length s1
  have lR2 := sgR_length s2
  revert hcl csec ckey cch cma hkq hres lK lS lR1 lR2
  generalize sgS s s1 s2 = S3
  generalize sgK s = K
  generalize sgR s1 = r1
  generalize sgR s2 = r2
  generalize clampB (s.take 32) = N
  intro hcl csec ckey cma cch hkq hres lK lS lR1 lR2
  obtain ⟨hQo, hmul⟩ := hkq
  have hpq := pb_length Q
  refine calls_of (hp0 := []) Tryz.func9 rfl 50 Tryz.ntmps9 rfl (HRep.nil _) ?_
  refine Sat.seq ?_
  refine Sat.region ?_
  refine Tr.boxA rfl rfl ?_
  intro n2 hn2 hf2
  refine Tr.alloc (cs := (bytesV (List.replicate 64 0))) rfl Zr28 rfl ?_
  intro n4 hn4 hf4
  refine Tr.nil ?_
  refine at_n ?_
  refine Sat.seq ?_
  refine Sat.region ?_
  refine Tr.loadAll rfl rfl rfl Tryz.underlying22 rfl Sz22 (by exact mem1) (by (simp [h32]; done)) ?_
  refine Tr.call4 rfl rfl rfl rfl rfl Body29 (csec) (fun _ _ => trivial) ?_
  rintro v7 out7 ⟨q7, c7, rfl, hc7, rfl⟩
  simp only [List.cons_append, List.nil_append]
  refine Tr.move rfl rfl rfl ?_
  refine Tr.extract rfl rfl rfl rfl ?_
  refine Tr.extract rfl rfl rfl rfl ?_
  refine Tr.alloc (cs := (bytesV (List.replicate 32 0))) rfl Zr32 rfl ?_
  intro n5 hn5 hf5
  refine Tr.storeAll rfl rfl rfl rfl (by exact bytesV_cell _) Sz32 (by (simp [hcl]; done)) (by exact mem0) (by (simp; done)) (by exact upd0) ?_
  refine Tr.assign rfl rfl rfl ?_
  refine Tr.nil ?_
  refine at_n ?_
  refine Sat.seq ?_
  refine Sat.region ?_
  refine Tr.move rfl rfl rfl ?_
  refine Tr.move rfl rfl rfl ?_
  refine Tr.mkRow2 (z := .slice none 0 0) [.slice (some ⟨q7, 0, none⟩) 32 c7, sb.v] [.slice (some ⟨q7, 0, none⟩) 32 c7, sb.v] rfl rfl Tryz.underlying85 Sz23 Zr23 rfl rfl (by intro v hv; simp only [List.mem_cons, List.not_mem_nil, or_false] at hv; rcases hv with rfl | rfl <;> rfl) dE rfl ?_
  intro q21
  refine Tr.callV rfl rfl rfl rfl Body30 (r2_Sum512 (some ⟨q21, 0, none⟩) 2 2 [⟨some ⟨q7, 0, none⟩, 32, c7⟩, sb] [s.drop 32, bb] rfl rfl (fun j hj => (by
      rcases (show j = 0 ∨ j = 1 by omega) with rfl | rfl
      · exact ⟨by show 32 = List.length _; exact hd32.symm, fun e => by cases e⟩
      · exact ⟨by show sb.n = bb.length; exact hW.len.symm, fun e => by have h1 := hW.nil e; have h2 := hW.cap; show sb.n = 0; omega⟩)) (s.drop 32 ++ bb) sP (by (simp [hd32]; omega)) dE s1 hs1) (fun w h => ⟨SeesP.of (sees_own h (by exact mem0)), (fun j hj => (by
      rcases (show j = 0 ∨ j = 1 by omega) with rfl | rfl
      · exact SeesP.of (sees_own (cs := bytesV (s.drop 32)) h (by exact mem2))
      · exact seesP_ext h rfl hW.see))⟩) ?_
  refine Tr.alloc (cs := (bytesV (List.replicate 64 0))) rfl Zr27 rfl ?_
  intro n7 hn7 hf7
  refine Tr.storeAll rfl rfl rfl rfl (by exact bytesV_cell _) Sz27 (by (simp [h64]; done)) (by exact mem0) (by (simp; done)) (by exact upd0) ?_
  refine Tr.nil ?_
  refine at_n ?_
  refine Sat.seq ?_
  refine Sat.region ?_
  refine Tr.sliceArr rfl rfl rfl Tryz.underlying27 Sz5 ?_
  refine Tr.callV rfl rfl rfl rfl Body31 (hres n7) (fun w h => sees_own h (by exact mem0)) ?_
  refine Tr.move rfl rfl rfl ?_
  refine Tr.extract rfl rfl rfl rfl ?_
  refine Tr.extract rfl rfl rfl rfl ?_
  refine Tr.alloc (cs := (bytesV (List.replicate 32 0))) rfl Zr32 rfl ?_
  intro n8 hn8 hf8
  refine Tr.storeAll rfl rfl rfl rfl (by exact bytesV_cell _) Sz32 (by (simp [lR1]; done)) (by exact mem0) (by (simp; done)) (by exact upd0) ?_
  refine Tr.assign rfl rfl rfl ?_
  refine Tr.nil ?_
  refine at_n ?_
  refine Sat.seq ?_
  refine Sat.draw [(1, 0), (3, 1), (3, 2), (3, 3), (0, 4), (0, 5), (0, 6), (2, 7), (4, 8), (0, 9)] Mixed (by kernel_rfl) ?_
  refine Tr.loadAll rfl rfl rfl Tryz.underlying32 rfl Sz32 (by exact mem0) (by (simp [lR1]; done)) ?_
  refine Tr.callV rfl rfl rfl rfl Body18 (r5_Base) (fun _ _ => trivial) ?_
  refine Tr.callV rfl rfl rfl rfl Body17 (hmul) (fun _ _ => trivial) ?_
  refine Tr.callV rfl rfl rfl rfl Body16 (r5_Bytes Q hQo) (fun _ _ => trivial) ?_
  refine Tr.move rfl rfl rfl ?_
  refine Tr.extract rfl rfl rfl rfl ?_
  refine Tr.extract rfl rfl rfl rfl ?_
  refine Tr.alloc (cs := (bytesV (List.replicate 32 0))) rfl Zr22 rfl ?_
  intro n10 hn10 hf10
  refine Tr.storeAll rfl rfl rfl rfl (by exact bytesV_cell _) Sz22 (by (simp [pb_length]; done)) (by exact mem0) (by (simp; done)) (by exact upd0) ?_
  refine Tr.assign rfl rfl rfl ?_
  refine Tr.nil ?_
  refine at_n ?_
  refine Sat.seq ?_
  refine Sat.draw [(1, 0), (1, 1), (0, 3), (1, 5), (1, 6), (3, 2), (3, 4), (3, 7), (2, 8), (4, 9)] Mixed (by kernel_rfl) ?_
  refine Tr.loadAll rfl rfl rfl Tryz.underlying22 rfl Sz22 (by exact mem0) (by (simp [pb_length]; done)) ?_
  refine Tr.loadAll rfl rfl rfl Tryz.underlying22 rfl Sz22 (by exact mem7) (by (simp [h32]; done)) ?_
  refine Tr.move rfl rfl rfl ?_
  refine Tr.loadAll rfl rfl rfl Tryz.underlying32 rfl Sz32 (by exact mem4) (by (simp [hcl]; done)) ?_
  refine Tr.loadAll rfl rfl rfl Tryz.underlying32 rfl Sz32 (by exact mem1) (by (simp [lR1]; done)) ?_
  refine Tr.callV rfl rfl rfl rfl Body8 (ckey) (fun _ _ => trivial) ?_
  refine Tr.callV rfl rfl rfl rfl Body33 (cch) (fun w h => bytes_ext h rfl hW) ?_
  refine Tr.callV rfl rfl rfl rfl Body32 (cma) (fun _ _ => trivial) ?_
  refine Tr.alloc (cs := (bytesV (List.replicate 32 0))) rfl Zr32 rfl ?_
  intro n12 hn12 hf12
  refine Tr.storeAll rfl rfl rfl rfl (by exact bytesV_cell _) Sz32 (by (simp [lS]; done)) (by exact mem0) (by (simp; done)) (by exact upd0) ?_
  refine Tr.nil ?_
  refine at_n ?_
  refine Sat.seq ?_
  refine Sat.region ?_
  refine Tr.alloc (cs := (bytesV (List.replicate 64 0))) rfl Zr28 rfl ?_
  intro n13 hn13 hf13
  refine Tr.nil ?_
  refine at_n ?_
  refine Sat.seq ?_
  refine Sat.draw [(0, 0), (0, 1), (4, 2)] Mixed (by kernel_rfl) ?_
  refine Tr.sliceArr rfl rfl rfl Tryz.underlying28 Sz5 ?_
  refine Tr.sliceArr rfl rfl rfl Tryz.underlying22 Sz5 ?_
  refine Tr.copyP (bytesV (pb Q)) 32 rfl rfl rfl rfl rfl Tryz.underlying23 Sz5 (fun w h => SeesP.of (sees_own h (by exact mem2))) (fun e => by cases e) (by rw [bytesV, List.length_map]; exact (pb_length Q)) rfl (by rw [bytesV, ← List.map_take, List.take_of_length_le (Nat.le_of_eq (pb_length Q))]) (bytesV_cell _) (by exact mem0) (by (simp; done)) (by exact upd_first (pb_length Q)) (by exact upd0) ?_
  refine Tr.nil ?_
  refine at_n ?_
  refine Sat.seq ?_
  refine Sat.draw [(0, 0), (0, 1), (4, 2)] Mixed (by kernel_rfl) ?_
  refine Tr.sliceArrLo 32 rfl rfl rfl rfl rfl dE Tryz.underlying28 Sz5 ?_
  refine Tr.sliceArr rfl rfl rfl Tryz.underlying32 Sz5 ?_
  refine Tr.copyP (bytesV S3) 32 rfl rfl rfl rfl rfl Tryz.underlying23 Sz5 (fun w h => SeesP.of (sees_own h (by exact mem1))) (fun e => by cases e) (by rw [bytesV, List.length_map]; exact lS) rfl (by rw [bytesV, ← List.map_take, List.take_of_length_le (Nat.le_of_eq lS)]) (bytesV_cell _) (by exact mem0) (by (simp; omega)) (by exact upd_last (pb_length Q) lS) (by exact upd0) ?_
  refine Tr.nil ?_
  refine at_n ?_
  refine Sat.seq ?_
  refine Sat.region ?_
  refine Tr.loadAll rfl rfl rfl Tryz.underlying28 rfl Sz28 (by exact mem0) (by (simp [pb_length, lS]; done)) ?_
  refine Tr.storeAll rfl rfl rfl rfl (by exact bytesV_cell _) Sz28 (by (simp [pb_length, lS]; done)) (by (repeat (first | exact List.mem_cons_self | refine List.mem_cons_of_mem _ ?_))) (by (simp; done)) (by (repeat (first | exact upd0 | apply Upd.tail))) ?_
  refine Tr.nil ?_
  refine at_n ?_
  refine Sat.ret ?_
  refine en_r ?_
  refine ⟨_, [], res_cell rfl rfl Tryz.underlying28 rfl Sz28 (by (repeat (first | exact List.mem_cons_self | refine List.mem_cons_of_mem _ ?_))) (by simp [pb_length, lS]), sP, sP, ?_, rfl⟩
  rfl

theorem r5_Read_none (b : List UInt8) (hb : b.length = 32) (h : rdP b = none) : Meets Tryz.prog 20 [agg (bytesV b)] [] (fun _ => True) (fun v out => v = .tuple #[agg Point.zero.cells, i64 4] ∧ out = []) := by
  have := r5_Read b hb
  rwa [rdV_none h] at this
theorem r5_Read_some (b : List UInt8) (P : Pt Fp) (hb : b.length = 32) (h : rdP b = some P) : Meets Tryz.prog 20 [agg (bytesV b)] [] (fun _ => True) (fun v out => v = .tuple #[agg (ptc P).cells, i64 0] ∧ out = []) := by
  have := r5_Read b hb
  rwa [rdV_some h] at this
set_option maxRecDepth 100000 in
set_option maxHeartbeats 8000000 in
theorem r6_Good_kr (k : List UInt8) (hk : k.length = 32) (sb : Sl) (bb : List UInt8) (hbn : bb.length ≤ 80000) (sg : List UInt8) (hsg : sg.length = 64) (h1 : rdP k = none) (h2 : rdP (sg.take 32) = none) : Meets Tryz.prog 14 [agg (bytesV k), sb.v, agg (bytesV sg)] [] (fun W => BytesAt W sb bb) (fun v out => v = .bool false ∧ out = []) := by
  intro W hW
  have hd32 : (sg.drop 32).length = 32 := by rw [List.length_drop, hsg]
  have ht32 : (sg.take 32).length = 32 := by rw [List.length_take, hsg]; rfl
  refine calls_of (hp0 := []) Tryz.func14 rfl 51 Tryz.ntmps14 rfl (HRep.nil _) ?_
  refine Sat.seq ?_
  refine Sat.region ?_
  refine Tr.boxA rfl rfl ?_
  intro n3 hn3 hf3
  refine Tr.boxA rfl rfl ?_
  intro n5 hn5 hf5
  refine Tr.assign rfl rfl rfl ?_
  refine Tr.nil ?_
  refine at_n ?_
  refine Sat.seq ?_
  refine Sat.region ?_
  refine Tr.alloc (cs := (bytesV (List.replicate 32 0))) rfl Zr22 rfl ?_
  intro n7 hn7 hf7
  refine Tr.nil ?_
  refine at_n ?_
  refine Sat.seq ?_
  refine Sat.region ?_
  refine Tr.alloc (cs := (bytesV (List.replicate 32 0))) rfl Zr32 rfl ?_
  intro n8 hn8 hf8
  refine Tr.nil ?_
  refine at_n ?_
  refine Sat.seq ?_
  refine Sat.draw [(0, 0), (0, 1), (4, 2)] Mixed (by kernel_rfl) ?_
  refine Tr.sliceArr rfl rfl rfl Tryz.underlying22 Sz5 ?_
  refine Tr.sliceArrHi 32 rfl rfl rfl rfl rfl dE dE Tryz.underlying28 Sz5 ?_
  refine Tr.copyP (bytesV (sg.take 32)) 32 rfl rfl rfl rfl rfl Tryz.underlying23 Sz5 (fun w h => sees_take (sees_own h (by exact mem2))) (fun e => by cases e) (by rw [bytesV, List.length_map]; exact ht32) rfl (by rw [bytesV, ← List.map_take, List.take_of_length_le (Nat.le_of_eq ht32)]) (bytesV_cell _) (by exact mem1) (by (simp; done)) (by exact upd_all ht32) (by exact upd1) ?_
  refine Tr.nil ?_
  refine at_n ?_
  refine Sat.seq ?_
  refine Sat.draw [(0, 0), (0, 1), (4, 2)] Mixed (by kernel_rfl) ?_
  refine Tr.sliceArr rfl rfl rfl Tryz.underlying32 Sz5 ?_
  refine Tr.sliceArrLo 32 rfl rfl rfl rfl rfl dE Tryz.underlying28 Sz5 ?_
  refine Tr.copyP (bytesV (sg.drop 32)) 32 rfl rfl rfl rfl rfl Tryz.underlying23 Sz5 (fun w h => sees_drop (sees_own h (by exact mem2))) (fun e => by cases e) (by rw [bytesV, List.length_map]; exact hd32) rfl (by rw [bytesV, ← List.map_take, List.take_of_length_le (Nat.le_of_eq hd32)]) (bytesV_cell _) (by exact mem0) (by (simp; done)) (by exact upd_all hd32) (by exact upd0) ?_
  refine Tr.nil ?_
  refine at_n ?_
  refine Sat.seq ?_
  refine Sat.region ?_
  refine Tr.loadAll rfl rfl rfl Tryz.underlying25 rfl Sz25 (by exact mem3) (by (simp [hk]; done)) ?_
  refine Tr.callV rfl rfl rfl rfl Body20 (r5_Read_none k hk h1) (fun _ _ => trivial) ?_
  refine Tr.move rfl rfl rfl ?_
  refine Tr.extract rfl rfl rfl rfl ?_
  refine Tr.extract rfl rfl rfl rfl ?_
  refine Tr.alloc (cs := Point.zero.cells) rfl Point.zr rfl ?_
  intro n9 hn9 hf9
  refine Tr.storeAll rfl rfl rfl rfl (Point.isCell (by exact Point.zero_ok)) Sz41 (Point.length (by exact Point.zero_ok)) (by exact mem0) (Point.length (by exact Point.zero_ok)) (by exact upd0) ?_
  refine Tr.assign rfl rfl rfl ?_
  refine Tr.nil ?_
  refine at_n ?_
  refine Sat.seq ?_
  refine Sat.region ?_
  refine Tr.loadAll rfl rfl rfl Tryz.underlying22 rfl Sz22 (by exact mem2) (by (simp [hsg]; done)) ?_
  refine Tr.callV rfl rfl rfl rfl Body20 (r5_Read_none (sg.take 32) ht32 h2) (fun _ _ => trivial) ?_
  refine Tr.move rfl rfl rfl ?_
  refine Tr.extract rfl rfl rfl rfl ?_
  refine Tr.extract rfl rfl rfl rfl ?_
  refine Tr.alloc (cs := Point.zero.cells) rfl Point.zr rfl ?_
  intro n11 hn11 hf11
  refine Tr.storeAll rfl rfl rfl rfl (Point.isCell (by exact Point.zero_ok)) Sz41 (Point.length (by exact Point.zero_ok)) (by exact mem0) (Point.length (by exact Point.zero_ok)) (by exact upd0) ?_
  refine Tr.assign rfl rfl rfl ?_
  refine Tr.nil ?_
  refine at_n ?_
  refine Sat.seq ?_
  refine Sat.seq ?_
  refine Sat.region ?_
  refine Tr.move rfl rfl rfl ?_
  refine Tr.nei rfl rfl rfl rfl (show (!decide _) = true from congrArg not (decide_eq_false dE)) ?_
  refine Tr.move rfl rfl rfl ?_
  refine Tr.skp rfl rfl ?_
  refine Tr.skp rfl rfl ?_
  refine Tr.pick rfl rfl rfl rfl rfl rfl ?_
  refine Tr.move rfl rfl rfl ?_
  refine Tr.skp rfl rfl ?_
  refine Tr.skp rfl rfl ?_
  refine Tr.skp rfl rfl ?_
  refine Tr.pick rfl rfl rfl rfl rfl rfl ?_
  refine Tr.nil ?_
  refine at_n ?_
  refine Sat.cond_t rfl rfl ?_
  refine Sat.seq ?_
  refine Sat.region ?_
  refine Tr.assign rfl rfl rfl ?_
  refine Tr.nil ?_
  refine at_n ?_
  refine Sat.ret ?_
  refine at_r ?_
  refine en_r ?_
  refine ⟨_, [], res_tmp rfl rfl, sP, sP, ?_, rfl⟩
  rfl

set_option maxRecDepth 100000 in
set_option maxHeartbeats 8000000 in
theorem r6_Good_k (k : List UInt8) (hk : k.length = 32) (sb : Sl) (bb : List UInt8) (hbn : bb.length ≤ 80000) (sg : List UInt8) (hsg : sg.length = 64) (R : Pt Fp) (h1 : rdP k = none) (h2 : rdP (sg.take 32) = some R) : Meets Tryz.prog 14 [agg (bytesV k), sb.v, agg (bytesV sg)] [] (fun W => BytesAt W sb bb) (fun v out => v = .bool false ∧ out = []) := by
  intro W hW
  have hd32 : (sg.drop 32).length = 32 := by rw [List.length_drop, hsg]
  have ht32 : (sg.take 32).length = 32 := by rw [List.length_take, hsg]; rfl
  refine calls_of (hp0 := []) Tryz.func14 rfl 51 Tryz.ntmps14 rfl (HRep.nil _) ?_
  refine Sat.seq ?_
  refine Sat.region ?_
  refine Tr.boxA rfl rfl ?_
  intro n3 hn3 hf3
  refine Tr.boxA rfl rfl ?_
  intro n5 hn5 hf5
  refine Tr.assign rfl rfl rfl ?_
  refine Tr.nil ?_
  refine at_n ?_
  refine Sat.seq ?_
  refine Sat.region ?_
  refine Tr.alloc (cs := (bytesV (List.replicate 32 0))) rfl Zr22 rfl ?_
  intro n7 hn7 hf7
  refine Tr.nil ?_
  refine at_n ?_
  refine Sat.seq ?_
  refine Sat.region ?_
  refine Tr.alloc (cs := (bytesV (List.replicate 32 0))) rfl Zr32 rfl ?_
  intro n8 hn8 hf8
  refine Tr.nil ?_
  refine at_n ?_
  refine Sat.seq ?_
  refine Sat.draw [(0, 0), (0, 1), (4, 2)] Mixed (by kernel_rfl) ?_
  refine Tr.sliceArr rfl rfl rfl Tryz.underlying22 Sz5 ?_
  refine Tr.sliceArrHi 32 rfl rfl rfl rfl rfl dE dE Tryz.underlying28 Sz5 ?_
  refine Tr.copyP (bytesV (sg.take 32)) 32 rfl rfl rfl rfl rfl Tryz.underlying23 Sz5 (fun w h => sees_take (sees_own h (by exact mem2))) (fun e => by cases e) (by rw [bytesV, List.length_map]; exact ht32) rfl (by rw [bytesV, ← List.map_take, List.take_of_length_le (Nat.le_of_eq ht32)]) (bytesV_cell _) (by exact mem1) (by (simp; done)) (by exact upd_all ht32) (by exact upd1) ?_
  refine Tr.nil ?_
  refine at_n ?_
  refine Sat.seq ?_
  refine Sat.draw [(0, 0), (0, 1), (4, 2)] Mixed (by kernel_rfl) ?_
  refine Tr.sliceArr rfl rfl rfl Tryz.underlying32 Sz5 ?_
  refine Tr.sliceArrLo 32 rfl rfl rfl rfl rfl dE Tryz.underlying28 Sz5 ?_
  refine Tr.copyP (bytesV (sg.drop 32)) 32 rfl rfl rfl rfl rfl Tryz.underlying23 Sz5 (fun w h => sees_drop (sees_own h (by exact mem2))) (fun e => by cases e) (by rw [bytesV, List.length_map]; exact hd32) rfl (by rw [bytesV, ← List.map_take, List.take_of_length_le (Nat.le_of_eq hd32)]) (bytesV_cell _) (by exact mem0) (by (simp; done)) (by exact upd_all hd32) (by exact upd0) ?_
  refine Tr.nil ?_
  refine at_n ?_
  refine Sat.seq ?_
  refine Sat.region ?_
  refine Tr.loadAll rfl rfl rfl Tryz.underlying25 rfl Sz25 (by exact mem3) (by (simp [hk]; done)) ?_
  refine Tr.callV rfl rfl rfl rfl Body20 (r5_Read_none k hk h1) (fun _ _ => trivial) ?_
  refine Tr.move rfl rfl rfl ?_
  refine Tr.extract rfl rfl rfl rfl ?_
  refine Tr.extract rfl rfl rfl rfl ?_
  refine Tr.alloc (cs := Point.zero.cells) rfl Point.zr rfl ?_
  intro n9 hn9 hf9
  refine Tr.storeAll rfl rfl rfl rfl (Point.isCell (by exact Point.zero_ok)) Sz41 (Point.length (by exact Point.zero_ok)) (by exact mem0) (Point.length (by exact Point.zero_ok)) (by exact upd0) ?_
  refine Tr.assign rfl rfl rfl ?_
  refine Tr.nil ?_
  refine at_n ?_
  refine Sat.seq ?_
  refine Sat.region ?_
  refine Tr.loadAll rfl rfl rfl Tryz.underlying22 rfl Sz22 (by exact mem2) (by (simp [hsg]; done)) ?_
  refine Tr.callV rfl rfl rfl rfl Body20 (r5_Read_some (sg.take 32) R ht32 h2) (fun _ _ => trivial) ?_
  refine Tr.move rfl rfl rfl ?_
  refine Tr.extract rfl rfl rfl rfl ?_
  refine Tr.extract rfl rfl rfl rfl ?_
  refine Tr.alloc (cs := Point.zero.cells) rfl Point.zr rfl ?_
  intro n11 hn11 hf11
  refine Tr.storeAll rfl rfl rfl rfl (Point.isCell (by exact ptc_ok _)) Sz41 (Point.length (by exact ptc_ok _)) (by exact mem0) (Point.length (by exact Point.zero_ok)) (by exact upd0) ?_
  refine Tr.assign rfl rfl rfl ?_
  refine Tr.nil ?_
  refine at_n ?_
  refine Sat.seq ?_
  refine Sat.seq ?_
  refine Sat.region ?_
  refine Tr.move rfl rfl rfl ?_
  refine Tr.nei rfl rfl rfl rfl (show (!decide _) = true from congrArg not (decide_eq_false dE)) ?_
  refine Tr.move rfl rfl rfl ?_
  refine Tr.skp rfl rfl ?_
  refine Tr.skp rfl rfl ?_
  refine Tr.pick rfl rfl rfl rfl rfl rfl ?_
  refine Tr.move rfl rfl rfl ?_
  refine Tr.skp rfl rfl ?_
  refine Tr.skp rfl rfl ?_
  refine Tr.skp rfl rfl ?_
  refine Tr.pick rfl rfl rfl rfl rfl rfl ?_
  refine Tr.nil ?_
  refine at_n ?_
  refine Sat.cond_t rfl rfl ?_
  refine Sat.seq ?_
  refine Sat.region ?_
  refine Tr.assign rfl rfl rfl ?_
  refine Tr.nil ?_
  refine at_n ?_
  refine Sat.ret ?_
  refine at_r ?_
  refine en_r ?_
  refine ⟨_, [], res_tmp rfl rfl, sP, sP, ?_, rfl⟩
  rfl

set_option maxRecDepth 100000 in
set_option maxHeartbeats 8000000 in
theorem r6_Good_r (k : List UInt8) (hk : k.length = 32) (sb : Sl) (bb : List UInt8) (hbn : bb.length ≤ 80000) (sg : List UInt8) (hsg : sg.length = 64) (A : Pt Fp) (h1 : rdP k = some A) (h2 : rdP (sg.take 32) = none) : Meets Tryz.prog 14 [agg (bytesV k), sb.v, agg (bytesV sg)] [] (fun W => BytesAt W sb bb) (fun v out => v = .bool false ∧ out = []) := by
  intro W hW
  have hd32 : (sg.drop 32).length = 32 := by rw [List.length_drop, hsg]
  have ht32 : (sg.take 32).length = 32 := by rw [List.length_take, hsg]; rfl
  refine calls_of (hp0 := []) Tryz.func14 rfl 51 Tryz.ntmps14 rfl (HRep.nil _) ?_
  refine Sat.seq ?_
  refine Sat.region ?_
  refine Tr.boxA rfl rfl ?_
  intro n3 hn3 hf3
  refine Tr.boxA rfl rfl ?_
  intro n5 hn5 hf5
  refine Tr.assign rfl rfl rfl ?_
  refine Tr.nil ?_
  refine at_n ?_
  refine Sat.seq ?_
  refine Sat.region ?_
  refine Tr.alloc (cs := (bytesV (List.replicate 32 0))) rfl Zr22 rfl ?_
  intro n7 hn7 hf7
  refine Tr.nil ?_
  refine at_n ?_
  refine Sat.seq ?_
  refine Sat.region ?_
  refine Tr.alloc (cs := (bytesV (List.replicate 32 0))) rfl Zr32 rfl ?_
  intro n8 hn8 hf8
  refine Tr.nil ?_
  refine at_n ?_
  refine Sat.seq ?_
  refine Sat.draw [(0, 0), (0, 1), (4, 2)] Mixed (by kernel_rfl) ?_
  refine Tr.sliceArr rfl rfl rfl Tryz.underlying22 Sz5 ?_
  refine Tr.sliceArrHi 32 rfl rfl rfl rfl rfl dE dE Tryz.underlying28 Sz5 ?_
  refine Tr.copyP (bytesV (sg.take 32)) 32 rfl rfl rfl rfl rfl Tryz.underlying23 Sz5 (fun w h => sees_take (sees_own h (by exact mem2))) (fun e => by cases e) (by rw [bytesV, List.length_map]; exact ht32) rfl (by rw [bytesV, ← List.map_take, List.take_of_length_le (Nat.le_of_eq ht32)]) (bytesV_cell _) (by exact mem1) (by (simp; done)) (by exact upd_all ht32) (by exact upd1) ?_
  refine Tr.nil ?_
  refine at_n ?_
  refine Sat.seq ?_
  refine Sat.draw [(0, 0), (0, 1), (4, 2)] Mixed (by kernel_rfl) ?_
  refine Tr.sliceArr rfl rfl rfl Tryz.underlying32 Sz5 ?_
  refine Tr.sliceArrLo 32 rfl rfl rfl rfl rfl dE Tryz.underlying28 Sz5 ?_
  refine Tr.copyP (bytesV (sg.drop 32)) 32 rfl rfl rfl rfl rfl Tryz.underlying23 Sz5 (fun w h => sees_drop (sees_own h (by exact mem2))) (fun e => by cases e) (by rw [bytesV, List.length_map]; exact hd32) rfl (by rw [bytesV, ← List.map_take, List.take_of_length_le (Nat.le_of_eq hd32)]) (bytesV_cell _) (by exact mem0) (by (simp; done)) (by exact upd_all hd32) (by exact upd0) ?_
  refine Tr.nil ?_
  refine at_n ?_
  refine Sat.seq ?_
  refine Sat.region ?_
  refine Tr.loadAll rfl rfl rfl Tryz.underlying25 rfl Sz25 (by exact mem3) (by (simp [hk]; done)) ?_
  refine Tr.callV rfl rfl rfl rfl Body20 (r5_Read_some k A hk h1) (fun _ _ => trivial) ?_
  refine Tr.move rfl rfl rfl ?_
  refine Tr.extract rfl rfl rfl rfl ?_
  refine Tr.extract rfl rfl rfl rfl ?_
  refine Tr.alloc (cs := Point.zero.cells) rfl Point.zr rfl ?_
  intro n9 hn9 hf9
  refine Tr.storeAll rfl rfl rfl rfl (Point.isCell (by exact ptc_ok _)) Sz41 (Point.length (by exact ptc_ok _)) (by exact mem0) (Point.length (by exact Point.zero_ok)) (by exact upd0) ?_
  refine Tr.assign rfl rfl rfl ?_
  refine Tr.nil ?_
  refine at_n ?_
  refine Sat.seq ?_
  refine Sat.region ?_
  refine Tr.loadAll rfl rfl rfl Tryz.underlying22 rfl Sz22 (by exact mem2) (by (simp [hsg]; done)) ?_
  refine Tr.callV rfl rfl rfl rfl Body20 (r5_Read_none (sg.take 32) ht32 h2) (fun _ _ => trivial) ?_
  refine Tr.move rfl rfl rfl ?_
  refine Tr.extract rfl rfl rfl rfl ?_
  refine Tr.extract rfl rfl rfl rfl ?_
  refine Tr.alloc (cs := Point.zero.cells) rfl Point.zr rfl ?_
  intro n11 hn11 hf11
  refine Tr.storeAll rfl rfl rfl rfl (Point.isCell (by exact Point.zero_ok)) Sz41 (Point.length (by exact Point.zero_ok)) (by exact mem0) (Point.length (by exact Point.zero_ok)) (by exact upd0) ?_
  refine Tr.assign rfl rfl rfl ?_
  refine Tr.nil ?_
  refine at_n ?_
  refine Sat.seq ?_
  refine Sat.seq ?_
  refine Sat.region ?_
  refine Tr.move rfl rfl rfl ?_
  refine Tr.nei rfl rfl rfl rfl (show (!decide _) = false from congrArg not (decide_eq_true (rfl))) ?_
  refine Tr.move rfl rfl rfl ?_
  refine Tr.move rfl rfl rfl ?_
  refine Tr.nei rfl rfl rfl rfl (show (!decide _) = true from congrArg not (decide_eq_false dE)) ?_
  refine Tr.pick rfl rfl rfl rfl rfl rfl ?_
  refine Tr.move rfl rfl rfl ?_
  refine Tr.skp rfl rfl ?_
  refine Tr.skp rfl rfl ?_
  refine Tr.skp rfl rfl ?_
  refine Tr.pick rfl rfl rfl rfl rfl rfl ?_
  refine Tr.nil ?_
  refine at_n ?_
  refine Sat.cond_t rfl rfl ?_
  refine Sat.seq ?_
  refine Sat.region ?_
  refine Tr.assign rfl rfl rfl ?_
  refine Tr.nil ?_
  refine at_n ?_
  refine Sat.ret ?_
  refine at_r ?_
  refine en_r ?_
  refine ⟨_, [], res_tmp rfl rfl, sP, sP, ?_, rfl⟩
  rfl

set_option maxRecDepth 100000 in
set_option maxHeartbeats 8000000 in
theorem r6_Good_c (k : List UInt8) (hk : k.length = 32) (sb : Sl) (bb : List UInt8) (hbn : bb.length ≤ 80000) (sg : List UInt8) (hsg : sg.length = 64) (A R : Pt Fp) (h1 : rdP k = some A) (h2 : rdP (sg.take 32) = some R) (hc : ¬ le (sg.drop 32) < L) : Meets Tryz.prog 14 [agg (bytesV k), sb.v, agg (bytesV sg)] [] (fun W => BytesAt W sb bb) (fun v out => v = .bool false ∧ out = []) := by
  intro W hW
  have hd32 : (sg.drop 32).length = 32 := by rw [List.length_drop, hsg]
  have ht32 : (sg.take 32).length = 32 := by rw [List.length_take, hsg]; rfl
  have hcan := ref_canon (sg.drop 32) hd32
  rw [decide_eq_false hc] at hcan
  refine calls_of (hp0 := []) Tryz.func14 rfl 51 Tryz.ntmps14 rfl (HRep.nil _) ?_
  refine Sat.seq ?_
  refine Sat.region ?_
  refine Tr.boxA rfl rfl ?_
  intro n3 hn3 hf3
  refine Tr.boxA rfl rfl ?_
  intro n5 hn5 hf5
  refine Tr.assign rfl rfl rfl ?_
  refine Tr.nil ?_
  refine at_n ?_
  refine Sat.seq ?_
  refine Sat.region ?_
  refine Tr.alloc (cs := (bytesV (List.replicate 32 0))) rfl Zr22 rfl ?_
  intro n7 hn7 hf7
  refine Tr.nil ?_
  refine at_n ?_
  refine Sat.seq ?_
  refine Sat.region ?_
  refine Tr.alloc (cs := (bytesV (List.replicate 32 0))) rfl Zr32 rfl ?_
  intro n8 hn8 hf8
  refine Tr.nil ?_
  refine at_n ?_
  refine Sat.seq ?_
  refine Sat.draw [(0, 0), (0, 1), (4, 2)] Mixed (by kernel_rfl) ?_
  refine Tr.sliceArr rfl rfl rfl Tryz.underlying22 Sz5 ?_
  refine Tr.sliceArrHi 32 rfl rfl rfl rfl rfl dE dE Tryz.underlying28 Sz5 ?_
  refine Tr.copyP (bytesV (sg.take 32)) 32 rfl rfl rfl rfl rfl Tryz.underlying23 Sz5 (fun w h => sees_take (sees_own h (by exact mem2))) (fun e => by cases e) (by rw [bytesV, List.length_map]; exact ht32) rfl (by rw [bytesV, ← List.map_take, List.take_of_length_le (Nat.le_of_eq ht32)]) (bytesV_cell _) (by exact mem1) (by (simp; done)) (by exact upd_all ht32) (by exact upd1) ?_
  refine Tr.nil ?_
  refine at_n ?_
  refine Sat.seq ?_
  refine Sat.draw [(0, 0), (0, 1), (4, 2)] Mixed (by kernel_rfl) ?_
  refine Tr.sliceArr rfl rfl rfl Tryz.underlying32 Sz5 ?_
  refine Tr.sliceArrLo 32 rfl rfl rfl rfl rfl dE Tryz.underlying28 Sz5 ?_
  refine Tr.copyP (bytesV (sg.drop 32)) 32 rfl rfl rfl rfl rfl Tryz.underlying23 Sz5 (fun w h => sees_drop (sees_own h (by exact mem2))) (fun e => by cases e) (by rw [bytesV, List.length_map]; exact hd32) rfl (by rw [bytesV, ← List.map_take, List.take_of_length_le (Nat.le_of_eq hd32)]) (bytesV_cell _) (by exact mem0) (by (simp; done)) (by exact upd_all hd32) (by exact upd0) ?_
  refine Tr.nil ?_
  refine at_n ?_
  refine Sat.seq ?_
  refine Sat.region ?_
  refine Tr.loadAll rfl rfl rfl Tryz.underlying25 rfl Sz25 (by exact mem3) (by (simp [hk]; done)) ?_
  refine Tr.callV rfl rfl rfl rfl Body20 (r5_Read_some k A hk h1) (fun _ _ => trivial) ?_
  refine Tr.move rfl rfl rfl ?_
  refine Tr.extract rfl rfl rfl rfl ?_
  refine Tr.extract rfl rfl rfl rfl ?_
  refine Tr.alloc (cs := Point.zero.cells) rfl Point.zr rfl ?_
  intro n9 hn9 hf9
  refine Tr.storeAll rfl rfl rfl rfl (Point.isCell (by exact ptc_ok _)) Sz41 (Point.length (by exact ptc_ok _)) (by exact mem0) (Point.length (by exact Point.zero_ok)) (by exact upd0) ?_
  refine Tr.assign rfl rfl rfl ?_
  refine Tr.nil ?_
  refine at_n ?_
  refine Sat.seq ?_
  refine Sat.region ?_
  refine Tr.loadAll rfl rfl rfl Tryz.underlying22 rfl Sz22 (by exact mem2) (by (simp [hsg]; done)) ?_
  refine Tr.callV rfl rfl rfl rfl Body20 (r5_Read_some (sg.take 32) R ht32 h2) (fun _ _ => trivial) ?_
  refine Tr.move rfl rfl rfl ?_
  refine Tr.extract rfl rfl rfl rfl ?_
  refine Tr.extract rfl rfl rfl rfl ?_
  refine Tr.alloc (cs := Point.zero.cells) rfl Point.zr rfl ?_
  intro n11 hn11 hf11
  refine Tr.storeAll rfl rfl rfl rfl (Point.isCell (by exact ptc_ok _)) Sz41 (Point.length (by exact ptc_ok _)) (by exact mem0) (Point.length (by exact Point.zero_ok)) (by exact upd0) ?_
  refine Tr.assign rfl rfl rfl ?_
  refine Tr.nil ?_
  refine at_n ?_
  refine Sat.seq ?_
  refine Sat.seq ?_
  refine Sat.region ?_
  refine Tr.move rfl rfl rfl ?_
  refine Tr.nei rfl rfl rfl rfl (show (!decide _) = false from congrArg not (decide_eq_true (rfl))) ?_
  refine Tr.move rfl rfl rfl ?_
  refine Tr.move rfl rfl rfl ?_
  refine Tr.nei rfl rfl rfl rfl (show (!decide _) = false from congrArg not (decide_eq_true (rfl))) ?_
  refine Tr.pick rfl rfl rfl rfl rfl rfl ?_
  refine Tr.move rfl rfl rfl ?_
  refine Tr.loadAll rfl rfl rfl Tryz.underlying32 rfl Sz32 (by exact mem2) (by (simp [hsg]; done)) ?_
  refine Tr.callV rfl rfl rfl rfl Body40 (hcan) (fun _ _ => trivial) ?_
  refine Tr.not rfl rfl rfl ?_
  refine Tr.pick rfl rfl rfl rfl rfl rfl ?_
  refine Tr.nil ?_
  refine at_n ?_
  refine Sat.cond_t rfl rfl ?_
  refine Sat.seq ?_
  refine Sat.region ?_
  refine Tr.assign rfl rfl rfl ?_
  refine Tr.nil ?_
  refine at_n ?_
  refine Sat.ret ?_
  refine at_r ?_
  refine en_r ?_
  refine ⟨_, [], res_tmp rfl rfl, sP, sP, ?_, rfl⟩
  rfl

set_option maxRecDepth 100000 in
set_option maxHeartbeats 8000000 in
theorem r6_Good_ok (k : List UInt8) (hk : k.length = 32) (sb : Sl) (bb : List UInt8) (hbn : bb.length ≤ 80000) (sg : List UInt8) (hsg : sg.length = 64) (A R : Pt Fp) (h1 : rdP k = some A) (h2 : rdP (sg.take 32) = some R) (hc : le (sg.drop 32) < L) (s r : List UInt8) (hs : Hid (sha512 (sg.take 32 ++ (k ++ bb)) = s)) (hr : Hid (sgR s = r)) (hrl : r.length = 32) : Meets Tryz.prog 14 [agg (bytesV k), sb.v, agg (bytesV sg)] [] (fun W => BytesAt W sb bb) (fun v out => v = .bool (goodB k bb sg) ∧ out = []) := by
  intro W hW
  have hd32 : (sg.drop 32).length = 32 := by rw [List.length_drop, hsg]
  have ht32 : (sg.take 32).length = 32 := by rw [List.length_take, hsg]; rfl
  have hcan := ref_canon (sg.drop 32) hd32
  rw [decide_eq_true hc] at hcan
  have hA := rdP_on h1
  obtain ⟨Q, hQ⟩ : ∃ Q, cv.lin (le (sg.drop 32)) (le (sgR (sha512 (sg.take 32 ++ (k ++ bb))))) bP (neg A) = Q := ⟨_, rfl⟩
  have hmul := r5_Mul2 (sg.drop 32) r bP (neg A) hd32 hrl bP_on (cv.on_neg hA)
  rw [show cv.lin (le (sg.drop 32)) (le r) bP (neg A) = Q from by rw [← hr.out, ← hs.out]; exact hQ] at hmul
  have hch := r6_challenge (sg.take 32) k ht32 hk sb bb hbn s hs
  rw [hr.out] at hch
  refine calls_of (hp0 := []) Tryz.func14 rfl 51 Tryz.ntmps14 rfl (HRep.nil _) ?_
  refine Sat.seq ?_
  refine Sat.region ?_
  refine Tr.boxA rfl rfl ?_
  intro n3 hn3 hf3
  refine Tr.boxA rfl rfl ?_
  intro n5 hn5 hf5
  refine Tr.assign rfl rfl rfl ?_
  refine Tr.nil ?_
  refine at_n ?_
  refine Sat.seq ?_
  refine Sat.region ?_
  refine Tr.alloc (cs := (bytesV (List.replicate 32 0))) rfl Zr22 rfl ?_
  intro n7 hn7 hf7
  refine Tr.nil ?_
  refine at_n ?_
  refine Sat.seq ?_
  refine Sat.region ?_
  refine Tr.alloc (cs := (bytesV (List.replicate 32 0))) rfl Zr32 rfl ?_
  intro n8 hn8 hf8
  refine Tr.nil ?_
  refine at_n ?_
  refine Sat.seq ?_
  refine Sat.draw [(0, 0), (0, 1), (4, 2)] Mixed (by kernel_rfl) ?_
  refine Tr.sliceArr rfl rfl rfl Tryz.underlying22 Sz5 ?_
  refine Tr.sliceArrHi 32 rfl rfl rfl rfl rfl dE dE Tryz.underlying28 Sz5 ?_
  refine Tr.copyP (bytesV (sg.take 32)) 32 rfl rfl rfl rfl rfl Tryz.underlying23 Sz5 (fun w h => sees_take (sees_own h (by exact mem2))) (fun e => by cases e) (by rw [bytesV, List.length_map]; exact ht32) rfl (by rw [bytesV, ← List.map_take, List.take_of_length_le (Nat.le_of_eq ht32)]) (bytesV_cell _) (by exact mem1) (by (simp; done)) (by exact upd_all ht32) (by exact upd1) ?_
  refine Tr.nil ?_
  refine at_n ?_
  refine Sat.seq ?_
  refine Sat.draw [(0, 0), (0, 1), (4, 2)] Mixed (by kernel_rfl) ?_
  refine Tr.sliceArr rfl rfl rfl Tryz.underlying32 Sz5 ?_
  refine Tr.sliceArrLo 32 rfl rfl rfl rfl rfl dE Tryz.underlying28 Sz5 ?_
  refine Tr.copyP (bytesV (sg.drop 32)) 32 rfl rfl rfl rfl rfl Tryz.underlying23 Sz5 (fun w h => sees_drop (sees_own h (by exact mem2))) (fun e => by cases e) (by rw [bytesV, List.length_map]; exact hd32) rfl (by rw [bytesV, ← List.map_take, List.take_of_length_le (Nat.le_of_eq hd32)]) (bytesV_cell _) (by exact mem0) (by (simp; done)) (by exact upd_all hd32) (by exact upd0) ?_
  refine Tr.nil ?_
  refine at_n ?_
  refine Sat.seq ?_
  refine Sat.region ?_
  refine Tr.loadAll rfl rfl rfl Tryz.underlying25 rfl Sz25 (by exact mem3) (by (simp [hk]; done)) ?_
  refine Tr.callV rfl rfl rfl rfl Body20 (r5_Read_some k A hk h1) (fun _ _ => trivial) ?_
  refine Tr.move rfl rfl rfl ?_
  refine Tr.extract rfl rfl rfl rfl ?_
  refine Tr.extract rfl rfl rfl rfl ?_
  refine Tr.alloc (cs := Point.zero.cells) rfl Point.zr rfl ?_
  intro n9 hn9 hf9
  refine Tr.storeAll rfl rfl rfl rfl (Point.isCell (by exact ptc_ok _)) Sz41 (Point.length (by exact ptc_ok _)) (by exact mem0) (Point.length (by exact Point.zero_ok)) (by exact upd0) ?_
  refine Tr.assign rfl rfl rfl ?_
  refine Tr.nil ?_
  refine at_n ?_
  refine Sat.seq ?_
  refine Sat.region ?_
  refine Tr.loadAll rfl rfl rfl Tryz.underlying22 rfl Sz22 (by exact mem2) (by (simp [hsg]; done)) ?_
  refine Tr.callV rfl rfl rfl rfl Body20 (r5_Read_some (sg.take 32) R ht32 h2) (fun _ _ => trivial) ?_
  refine Tr.move rfl rfl rfl ?_
  refine Tr.extract rfl rfl rfl rfl ?_
  refine Tr.extract rfl rfl rfl rfl ?_
  refine Tr.alloc (cs := Point.zero.cells) rfl Point.zr rfl ?_
  intro n11 hn11 hf11
  refine Tr.storeAll rfl rfl rfl rfl (Point.isCell (by exact ptc_ok _)) Sz41 (Point.length (by exact ptc_ok _)) (by exact mem0) (Point.length (by exact Point.zero_ok)) (by exact upd0) ?_
  refine Tr.assign rfl rfl rfl ?_
  refine Tr.nil ?_
  refine at_n ?_
  refine Sat.seq ?_
  refine Sat.seq ?_
  refine Sat.region ?_
  refine Tr.move rfl rfl rfl ?_
  refine Tr.nei rfl rfl rfl rfl (show (!decide _) = false from congrArg not (decide_eq_true (rfl))) ?_
  refine Tr.move rfl rfl rfl ?_
  refine Tr.move rfl rfl rfl ?_
  refine Tr.nei rfl rfl rfl rfl (show (!decide _) = false from congrArg not (decide_eq_true (rfl))) ?_
  refine Tr.pick rfl rfl rfl rfl rfl rfl ?_
  refine Tr.move rfl rfl rfl ?_
  refine Tr.loadAll rfl rfl rfl Tryz.underlying32 rfl Sz32 (by exact mem2) (by (simp [hsg]; done)) ?_
  refine Tr.callV rfl rfl rfl rfl Body40 (hcan) (fun _ _ => trivial) ?_
  refine Tr.not rfl rfl rfl ?_
  refine Tr.pick rfl rfl rfl rfl rfl rfl ?_
  refine Tr.nil ?_
  refine at_n ?_
  refine Sat.cond_f rfl rfl ?_
  refine Sat.skip ?_
  refine at_n ?_
  refine Sat.seq ?_
  refine Sat.draw [(1, 0), (1, 2), (1, 3), (0, 4), (1, 6), (1, 9), (3, 1), (3, 5), (3, 7), (3, 8), (0, 10), (0, 11)] Mixed (by kernel_rfl) ?_
  refine Tr.loadAll rfl rfl rfl Tryz.underlying32 rfl Sz32 (by exact mem2) (by (simp [hsg]; done)) ?_
  refine Tr.loadAll rfl rfl rfl Tryz.underlying22 rfl Sz22 (by exact mem3) (by (simp [hsg]; done)) ?_
  refine Tr.loadAll rfl rfl rfl Tryz.underlying25 rfl Sz25 (by exact mem5) (by (simp [hk]; done)) ?_
  refine Tr.move rfl rfl rfl ?_
  refine Tr.loadAll rfl rfl rfl Tryz.underlying41 rfl Sz41 (by exact mem1) (Point.length (by exact ptc_ok _)) ?_
  refine Tr.loadAll rfl rfl rfl Tryz.underlying41 rfl Sz41 (by exact mem0) (Point.length (by exact ptc_ok _)) ?_
  refine Tr.callV rfl rfl rfl rfl Body18 (r5_Base) (fun _ _ => trivial) ?_
  refine Tr.callV rfl rfl rfl rfl Body33 (hch) (fun w h => bytes_ext h rfl hW) ?_
  refine Tr.callV rfl rfl rfl rfl Body22 (r5_Neg A hA) (fun _ _ => trivial) ?_
  refine Tr.callV rfl rfl rfl rfl Body41 (hmul) (fun _ _ => trivial) ?_
  refine Tr.eql_rec rfl rfl rfl rfl Point.eg (fun w => Point.eq_runC (ptc_ok _) (ptc_ok _) w) (good_dec hc h1 h2 hQ) ?_
  refine Tr.assign rfl rfl rfl ?_
  refine Tr.nil ?_
  refine at_n ?_
  refine Sat.ret ?_
  refine en_r ?_
  refine ⟨_, [], res_tmp rfl rfl, sP, sP, ?_, rfl⟩
  rfl

theorem r6_Good (k : List UInt8) (hk : k.length = 32) (sb : Sl) (bb : List UInt8) (hbn : bb.length ≤ 80000) (sg : List UInt8) (hsg : sg.length = 64) : Meets Tryz.prog 14 [agg (bytesV k), sb.v, agg (bytesV sg)] [] (fun W => BytesAt W sb bb) (fun v out => v = .bool (goodB k bb sg) ∧ out = []) := by
  cases h1 : rdP k with
  | none =>
    rw [good_no (fun e => by obtain ⟨_, ⟨A, h⟩, _⟩ := e; rw [h1] at h; cases h)]
    cases h2 : rdP (sg.take 32) with
    | none => exact r6_Good_kr k hk sb bb hbn sg hsg h1 h2
    | some R => exact r6_Good_k k hk sb bb hbn sg hsg R h1 h2
  | some A =>
    cases h2 : rdP (sg.take 32) with
    | none =>
      rw [good_no (fun e => by obtain ⟨_, _, ⟨R, h⟩⟩ := e; rw [h2] at h; cases h)]
      exact r6_Good_r k hk sb bb hbn sg hsg A h1 h2
    | some R =>
      by_cases hc : le (sg.drop 32) < L
      · exact r6_Good_ok k hk sb bb hbn sg hsg A R h1 h2 hc _ _ ⟨rfl⟩ ⟨rfl⟩ (sgR_length _)
      · rw [good_no (fun e => hc e.1)]
        exact r6_Good_c k hk sb bb hbn sg hsg A R h1 h2 hc

set_option maxRecDepth 100000 in
set_option maxHeartbeats 1000000 in
theorem r6_Valid_n (k : List UInt8) (hk : k.length = 32) (h : rdP k = none) : Meets Tryz.prog 26 [agg (bytesV k)] [] (fun _ => True) (fun v out => v = .bool false ∧ out = []) := by
  intro W hW
  refine calls_of (hp0 := []) Tryz.func26 rfl 17 Tryz.ntmps26 rfl (HRep.nil _) ?_
  refine Sat.seq ?_
  refine Sat.region ?_
  refine Tr.boxA rfl rfl ?_
  intro n1 hn1 hf1
  refine Tr.assign rfl rfl rfl ?_
  refine Tr.nil ?_
  refine at_n ?_
  refine Sat.seq ?_
  refine Sat.region ?_
  refine Tr.loadAll rfl rfl rfl Tryz.underlying25 rfl Sz25 (by exact mem0) (by (simp [hk]; done)) ?_
  refine Tr.callV rfl rfl rfl rfl Body20 (r5_Read_none k hk h) (fun _ _ => trivial) ?_
  refine Tr.move rfl rfl rfl ?_
  refine Tr.extract rfl rfl rfl rfl ?_
  refine Tr.extract rfl rfl rfl rfl ?_
  refine Tr.alloc (cs := Point.zero.cells) rfl Point.zr rfl ?_
  intro n3 hn3 hf3
  refine Tr.storeAll rfl rfl rfl rfl (Point.isCell (by exact Point.zero_ok)) Sz41 (Point.length (by exact Point.zero_ok)) (by exact mem0) (Point.length (by exact Point.zero_ok)) (by exact upd0) ?_
  refine Tr.assign rfl rfl rfl ?_
  refine Tr.nil ?_
  refine at_n ?_
  refine Sat.seq ?_
  refine Sat.region ?_
  refine Tr.move rfl rfl rfl ?_
  refine Tr.eqi rfl rfl rfl rfl (decide_eq_false dE) ?_
  refine Tr.move rfl rfl rfl ?_
  refine Tr.skp rfl rfl ?_
  refine Tr.skp rfl rfl ?_
  refine Tr.skp rfl rfl ?_
  refine Tr.pick rfl rfl rfl rfl rfl rfl ?_
  refine Tr.assign rfl rfl rfl ?_
  refine Tr.nil ?_
  refine at_n ?_
  refine Sat.ret ?_
  refine en_r ?_
  refine ⟨_, [], res_tmp rfl rfl, sP, sP, ?_, rfl⟩
  rfl

set_option maxRecDepth 100000 in
set_option maxHeartbeats 1000000 in
theorem r6_Valid_s (k : List UInt8) (hk : k.length = 32) (P : Pt Fp) (h : rdP k = some P) : Meets Tryz.prog 26 [agg (bytesV k)] [] (fun _ => True) (fun v out => v = .bool (!smallB P) ∧ out = []) := by
  intro W hW
  refine calls_of (hp0 := []) Tryz.func26 rfl 17 Tryz.ntmps26 rfl (HRep.nil _) ?_
  refine Sat.seq ?_
  refine Sat.region ?_
  refine Tr.boxA rfl rfl ?_
  intro n1 hn1 hf1
  refine Tr.assign rfl rfl rfl ?_
  refine Tr.nil ?_
  refine at_n ?_
  refine Sat.seq ?_
  refine Sat.region ?_
  refine Tr.loadAll rfl rfl rfl Tryz.underlying25 rfl Sz25 (by exact mem0) (by (simp [hk]; done)) ?_
  refine Tr.callV rfl rfl rfl rfl Body20 (r5_Read_some k P hk h) (fun _ _ => trivial) ?_
  refine Tr.move rfl rfl rfl ?_
  refine Tr.extract rfl rfl rfl rfl ?_
  refine Tr.extract rfl rfl rfl rfl ?_
  refine Tr.alloc (cs := Point.zero.cells) rfl Point.zr rfl ?_
  intro n3 hn3 hf3
  refine Tr.storeAll rfl rfl rfl rfl (Point.isCell (by exact ptc_ok _)) Sz41 (Point.length (by exact ptc_ok _)) (by exact mem0) (Point.length (by exact Point.zero_ok)) (by exact upd0) ?_
  refine Tr.assign rfl rfl rfl ?_
  refine Tr.nil ?_
  refine at_n ?_
  refine Sat.seq ?_
  refine Sat.region ?_
  refine Tr.move rfl rfl rfl ?_
  refine Tr.eqi rfl rfl rfl rfl (decide_eq_true (rfl)) ?_
  refine Tr.move rfl rfl rfl ?_
  refine Tr.loadAll rfl rfl rfl Tryz.underlying41 rfl Sz41 (by exact mem0) (Point.length (by exact ptc_ok _)) ?_
  refine Tr.callV rfl rfl rfl rfl Body60 (r5_Small P (rdP_on h)) (fun _ _ => trivial) ?_
  refine Tr.not rfl rfl rfl ?_
  refine Tr.pick rfl rfl rfl rfl rfl rfl ?_
  refine Tr.assign rfl rfl rfl ?_
  refine Tr.nil ?_
  refine at_n ?_
  refine Sat.ret ?_
  refine en_r ?_
  refine ⟨_, [], res_tmp rfl rfl, sP, sP, ?_, rfl⟩
  rfl

theorem r6_Valid (k : List UInt8) (hk : k.length = 32) : Meets Tryz.prog 26 [agg (bytesV k)] [] (fun _ => True) (fun v out => v = .bool (validB k) ∧ out = []) := by
  unfold validB
  cases h : rdP k with
  | none => exact r6_Valid_n k hk h
  | some P => exact r6_Valid_s k hk P h

end Go.Proofs.YtmddgelpllffoaaGreat
end

section
namespace Go.Proofs.YtmddgelpllffoaaGreat
open Go Hw
set_option linter.unusedVariables false
set_option linter.unusedSimpArgs false

open Ed

theorem own_bytes {W : World} {q n c : Nat} {l : List UInt8} (hs : SeesP W (some ⟨q, 0, none⟩) (bytesV l)) (hl : l.length = n) (hc : n ≤ c) (hm : n ≤ maxLen) : BytesAt W ⟨some ⟨q, 0, none⟩, n, c⟩ l := ⟨hl, hc, hs, hm, fun e => by cases e⟩

set_option maxRecDepth 100000 in
set_option maxHeartbeats 1000000 in
theorem law_signcalls_long (seed : List UInt8) (h32 : seed.length = 32) (sb : Sl) (bb : List UInt8) (k : List UInt8) (hk : k.length = 32) (sg : List UInt8) (hsg : sg.length = 64) (hn : 1000 < sb.n) : Meets Tryz.prog 6 [agg (bytesV seed), sb.v, agg (bytesV k), agg (bytesV sg)] [] (fun W => BytesAt W sb bb) (fun v out => v = .bool true ∧ out = []) := by
  intro W hW
  refine calls_of (hp0 := []) Tryz.func6 rfl 57 Tryz.ntmps6 rfl (HRep.nil _) ?_
  refine Sat.seq ?_
  refine Sat.region ?_
  refine Tr.boxA rfl rfl ?_
  intro n4 hn4 hf4
  refine Tr.boxA rfl rfl ?_
  intro n6 hn6 hf6
  refine Tr.boxA rfl rfl ?_
  intro n7 hn7 hf7
  refine Tr.assign rfl rfl rfl ?_
  refine Tr.nil ?_
  refine at_n ?_
  refine Sat.seq ?_
  refine Sat.seq ?_
  refine Sat.region ?_
  refine Tr.callV rfl rfl rfl rfl Body7 (law06_lives) (fun _ _ => trivial) ?_
  refine Tr.not rfl rfl rfl ?_
  refine Tr.nil ?_
  refine at_n ?_
  refine Sat.cond_f rfl (rfl) ?_
  refine Sat.skip ?_
  refine at_n ?_
  refine Sat.seq ?_
  refine Sat.seq ?_
  refine Sat.region ?_
  refine Tr.move rfl rfl rfl ?_
  refine Tr.lenSl rfl rfl rfl Tryz.underlying23 ?_
  refine Tr.gtr rfl rfl rfl rfl rfl ?_
  refine Tr.nil ?_
  refine at_n ?_
  refine Sat.cond_t rfl (decide_eq_true oM) ?_
  refine Sat.seq ?_
  refine Sat.region ?_
  refine Tr.assign rfl rfl rfl ?_
  refine Tr.nil ?_
  refine at_n ?_
  refine Sat.ret ?_
  refine at_r ?_
  refine en_r ?_
  refine ⟨_, [], res_tmp rfl rfl, sP, sP, ?_, rfl⟩
  rfl

set_option maxRecDepth 100000 in
set_option maxHeartbeats 8000000 in
theorem law_signcalls (seed : List UInt8) (h32 : seed.length = 32) (sb : Sl) (bb : List UInt8) (k : List UInt8) (hk : k.length = 32) (sg : List UInt8) (hsg : sg.length = 64) (hn : sb.n ≤ 1000) (hbl : bb.length = sb.n) : Meets Tryz.prog 6 [agg (bytesV seed), sb.v, agg (bytesV k), agg (bytesV sg)] [] (fun W => BytesAt W sb bb) (fun v out => v = .bool true ∧ out = []) := by
  intro W hW
  obtain ⟨s, hs⟩ : ∃ s, Hid (sha512 seed = s) := ⟨_, ⟨rfl⟩⟩
  have hs64 : s.length = 64 := by rw [← hs.out]; exact sha512_length seed
  obtain ⟨s1, hs1⟩ : ∃ s1, Hid (sha512 (s.drop 32 ++ bb) = s1) := ⟨_, ⟨rfl⟩⟩
  obtain ⟨s2, hs2⟩ : ∃ s2, Hid (sha512 (sgF s1 ++ (sgK s ++ bb)) = s2) := ⟨_, ⟨rfl⟩⟩
  have hbb : bb.length ≤ 80000 := by omega
  have lC := clampB_length (l := s.take 32) (by rw [List.length_take, hs64]; rfl)
  have lG : (sgF s1 ++ sgS s s1 s2).length = 64 := by rw [List.length_append, sgF_length, sgS_length]
  have lK := sgK_length s
  have cO := fun (x : Sl) => sign_Sign seed h32 x bb hbb s s1 s2 hs hs1 hs2
  have rS := r6_Sign seed h32 sb bb hbb s s1 s2 hs hs1 hs2
  have cK : Meets Tryz.prog 23 [agg (bytesV seed)] [] (fun _ => True) (fun v out => v = agg (bytesV (sgK s)) ∧ out = []) := sign_Key seed h32 s hs
  have rK := r6_Key seed h32 s hs
  have cN := sign_Secret seed h32 s hs
  have rN := r6_Secret seed h32 s hs
  have cG := fun (x : Sl) => sign_Good k hk x bb hbb sg hsg
  have rG := r6_Good k hk sb bb hbb sg hsg
  have cV := sign_Valid k hk
  have rV := r6_Valid k hk
  revert lC lG lK cO rS cK rK cN rN cG rG cV rV
  generalize sgF s1 ++ sgS s s1 s2 = G
  generalize sgK s = K
  generalize clampB (s.take 32) = N
  generalize goodB k bb sg = g
  generalize validB k = vv
  intro lC lG lK cO rS cK rK cN rN cG rG cV rV
  refine calls_of (hp0 := []) Tryz.func6 rfl 57 Tryz.ntmps6 rfl (HRep.nil _) ?_
  refine Sat.seq ?_
  refine Sat.region ?_
  refine Tr.boxA rfl rfl ?_
  intro n4 hn4 hf4
  refine Tr.boxA rfl rfl ?_
  intro n6 hn6 hf6
  refine Tr.boxA rfl rfl ?_
  intro n7 hn7 hf7
  refine Tr.assign rfl rfl rfl ?_
  refine Tr.nil ?_
  refine at_n ?_
  refine Sat.seq ?_
  refine Sat.seq ?_
  refine Sat.region ?_
  refine Tr.callV rfl rfl rfl rfl Body7 (law06_lives) (fun _ _ => trivial) ?_
  refine Tr.not rfl rfl rfl ?_
  refine Tr.nil ?_
  refine at_n ?_
  refine Sat.cond_f rfl (rfl) ?_
  refine Sat.skip ?_
  refine at_n ?_
  refine Sat.seq ?_
  refine Sat.seq ?_
  refine Sat.region ?_
  refine Tr.move rfl rfl rfl ?_
  refine Tr.lenSl rfl rfl rfl Tryz.underlying23 ?_
  refine Tr.gtr rfl rfl rfl rfl (decide_eq_false oM) ?_
  refine Tr.nil ?_
  refine at_n ?_
  refine Sat.cond_f rfl rfl ?_
  refine Sat.skip ?_
  refine at_n ?_
  refine Sat.seq ?_
  refine Sat.draw [(1, 0), (0, 1), (3, 2), (3, 3), (2, 4), (4, 5)] Mixed (by kernel_rfl) ?_
  refine Tr.loadAll rfl rfl rfl Tryz.underlying22 rfl Sz22 (by exact mem2) (by (simp [h32]; done)) ?_
  refine Tr.move rfl rfl rfl ?_
  refine Tr.call rfl rfl rfl rfl Body11 (kit_own sb bb oM) (FreshRow.loose _ _ _ _) (fun w h => bytes_ext h rfl hW) ?_
  rintro v17 out17 ⟨q17, c17, rfl, hc17, rfl⟩
  refine Tr.callV rfl rfl rfl rfl Body19 (cO ⟨some ⟨q17, 0, none⟩, sb.n, c17⟩) (fun w h => own_bytes (SeesP.of (sees_own (cs := bytesV bb) h (by exact mem0))) hW.len oM hW.max) ?_
  refine Tr.alloc (cs := (bytesV (List.replicate 64 0))) rfl Zr28 rfl ?_
  intro n9 hn9 hf9
  refine Tr.storeAll rfl rfl rfl rfl (by exact bytesV_cell _) Sz28 (by (simp [lG]; done)) (by exact mem0) (by (simp; done)) (by exact upd0) ?_
  refine Tr.nil ?_
  refine at_n ?_
  refine Sat.seq ?_
  refine Sat.draw [(1, 0), (1, 1), (0, 2), (3, 3), (0, 4), (0, 5), (1, 6), (1, 8), (3, 7), (3, 9), (0, 10), (0, 11), (0, 12), (1, 13), (1, 15), (3, 14), (3, 16), (0, 17), (0, 18), (0, 19), (1, 20), (0, 21), (1, 23), (1, 25), (0, 26), (1, 27), (3, 22), (3, 24), (3, 28), (0, 29), (0, 30), (0, 31), (1, 32), (1, 34), (3, 33), (3, 35), (0, 36), (0, 37), (0, 38)] Mixed (by kernel_rfl) ?_
  refine Tr.loadAll rfl rfl rfl Tryz.underlying28 rfl Sz28 (by exact mem0) (by (simp [lG]; done)) ?_
  refine Tr.loadAll rfl rfl rfl Tryz.underlying22 rfl Sz22 (by exact mem4) (by (simp [h32]; done)) ?_
  refine Tr.move rfl rfl rfl ?_
  refine Tr.callV rfl rfl rfl rfl Body9 (rS) (fun w h => bytes_ext h rfl hW) ?_
  refine Tr.eql_bytes rfl rfl rfl rfl Tryz.eqGuardType28 Tryz.underlying28 Tryz.underlying5 Sz5 (by (simp [lG]; done)) (by (simp [lG]; done)) (decide_eq_true (rfl)) ?_
  refine Tr.move rfl rfl rfl ?_
  refine Tr.loadAll rfl rfl rfl Tryz.underlying22 rfl Sz22 (by exact mem4) (by (simp [h32]; done)) ?_
  refine Tr.loadAll rfl rfl rfl Tryz.underlying22 rfl Sz22 (by exact mem4) (by (simp [h32]; done)) ?_
  refine Tr.callV rfl rfl rfl rfl Body23 (cK) (fun _ _ => trivial) ?_
  refine Tr.callV rfl rfl rfl rfl Body8 (rK) (fun _ _ => trivial) ?_
  refine Tr.eql_bytes rfl rfl rfl rfl Tryz.eqGuardType25 Tryz.underlying25 Tryz.underlying5 Sz5 (by (simp [lK]; done)) (by (simp [lK]; done)) (decide_eq_true (rfl)) ?_
  refine Tr.pick rfl rfl rfl rfl rfl rfl ?_
  refine Tr.move rfl rfl rfl ?_
  refine Tr.loadAll rfl rfl rfl Tryz.underlying22 rfl Sz22 (by exact mem4) (by (simp [h32]; done)) ?_
  refine Tr.loadAll rfl rfl rfl Tryz.underlying22 rfl Sz22 (by exact mem4) (by (simp [h32]; done)) ?_
  refine Tr.callV rfl rfl rfl rfl Body15 (cN) (fun _ _ => trivial) ?_
  refine Tr.callV rfl rfl rfl rfl Body27 (rN) (fun _ _ => trivial) ?_
  refine Tr.eql_bytes rfl rfl rfl rfl Tryz.eqGuardType32 Tryz.underlying32 Tryz.underlying5 Sz5 (by (simp [lC]; done)) (by (simp [lC]; done)) (decide_eq_true (rfl)) ?_
  refine Tr.pick rfl rfl rfl rfl rfl rfl ?_
  refine Tr.move rfl rfl rfl ?_
  refine Tr.loadAll rfl rfl rfl Tryz.underlying25 rfl Sz25 (by exact mem3) (by (simp [hk]; done)) ?_
  refine Tr.move rfl rfl rfl ?_
  refine Tr.loadAll rfl rfl rfl Tryz.underlying28 rfl Sz28 (by exact mem2) (by (simp [hsg]; done)) ?_
  refine Tr.loadAll rfl rfl rfl Tryz.underlying25 rfl Sz25 (by exact mem3) (by (simp [hk]; done)) ?_
  refine Tr.move rfl rfl rfl ?_
  refine Tr.loadAll rfl rfl rfl Tryz.underlying28 rfl Sz28 (by exact mem2) (by (simp [hsg]; done)) ?_
  refine Tr.call rfl rfl rfl rfl Body11 (kit_own sb bb oM) (FreshRow.loose _ _ _ _) (fun w h => bytes_ext h rfl hW) ?_
  rintro v41 out41 ⟨q41, c41, rfl, hc41, rfl⟩
  refine Tr.callV rfl rfl rfl rfl Body13 (cG ⟨some ⟨q41, 0, none⟩, sb.n, c41⟩) (fun w h => own_bytes (SeesP.of (sees_own (cs := bytesV bb) h (by exact mem0))) hW.len oM hW.max) ?_
  refine Tr.callV rfl rfl rfl rfl Body14 (rG) (fun w h => bytes_ext h rfl hW) ?_
  refine Tr.eqb (r := true) rfl rfl rfl rfl Tryz.underlying4 sP ?_
  refine Tr.pick rfl rfl rfl rfl rfl rfl ?_
  refine Tr.move rfl rfl rfl ?_
  refine Tr.loadAll rfl rfl rfl Tryz.underlying25 rfl Sz25 (by exact mem4) (by (simp [hk]; done)) ?_
  refine Tr.loadAll rfl rfl rfl Tryz.underlying25 rfl Sz25 (by exact mem4) (by (simp [hk]; done)) ?_
  refine Tr.callV rfl rfl rfl rfl Body25 (cV) (fun _ _ => trivial) ?_
  refine Tr.callV rfl rfl rfl rfl Body26 (rV) (fun _ _ => trivial) ?_
  refine Tr.eqb (r := true) rfl rfl rfl rfl Tryz.underlying4 sP ?_
  refine Tr.pick rfl rfl rfl rfl rfl rfl ?_
  refine Tr.assign rfl rfl rfl ?_
  refine Tr.nil ?_
  refine at_n ?_
  refine Sat.ret ?_
  refine en_r ?_
  refine ⟨_, [], res_tmp rfl rfl, sP, sP, ?_, rfl⟩
  rfl

theorem law_signcalls_all (seed : List UInt8) (h32 : seed.length = 32) (sb : Sl) (bb : List UInt8) (k : List UInt8) (hk : k.length = 32) (sg : List UInt8) (hsg : sg.length = 64) : Meets Tryz.prog 6 [agg (bytesV seed), sb.v, agg (bytesV k), agg (bytesV sg)] [] (fun W => BytesAt W sb bb) (fun v out => v = .bool true ∧ out = []) := by
  intro W hW
  rcases Nat.lt_or_ge 1000 sb.n with h | h
  · exact law_signcalls_long seed h32 sb bb k hk sg hsg h W hW
  · exact law_signcalls seed h32 sb bb k hk sg hsg h hW.len W hW

end Go.Proofs.YtmddgelpllffoaaGreat
end

section
namespace Go.Proofs.YtmddgelpllffoaaGreat
open Go Go.ChangeShapes Go.WideShapes Go.ChangeAt Go.RowKit
set_option linter.unusedVariables false

theorem ownSCalls : ownKnob Tryz.prog.godebug = none := by kernel_rfl
theorem laidOutSCalls : laidOutB Tryz.prog = true := by kernel_rfl

theorem openSlSCalls {H : Type} {enc : TypeId × Value → H} {P : Program} {W : World} {base : Nat} {sp : Nat → Bool} {held : Bool} {k e : TypeId} (hu : P.underlying k = some (.slice e)) (he : P.underlying e = some (.int .u8)) (hc : P.cellsOf e = 1) {r : Reach} {b0 : Nat} {v : Value} {d : DataW H} {ps : List MemPlace}
    (hval : Value.okWide P W r b0 k v) (hd : DataW.Trod enc P W base sp held k v d ps) : ∃ s l, v = Hw.Sl.v s ∧ Hw.BytesAt W s l := by
  simp only [Value.okWide, hu, Cell.okWide] at hval
  obtain ⟨a1, len, cap, rfl⟩ : ∃ a1 len cap, v = .slice a1 len cap := by
    unfold Cell.ok at hval
    rw [hu] at hval
    split at hval <;> first | exact hval.elim | exact ⟨_, _, _, rfl⟩ | simp_all
  obtain ⟨fuel, hf⟩ := hd
  obtain ⟨s, l, h1, h2⟩ := Hw.open_bytesS hu he hc hf
  refine ⟨s, l, ?_, h2⟩
  simp [Value.cells] at h1
  exact h1

theorem walkSCalls (w : World) (l0 : List UInt8) (hl0 : l0.length = 32) (s1 : Hw.Sl) (l1 : List UInt8) (hs1 : Hw.BytesAt w s1 l1) (l2 : List UInt8) (hl2 : l2.length = 32) (l3 : List UInt8) (hl3 : l3.length = 64) : Calls Tryz.prog 6 #[Hw.agg (Hw.bytesV l0), Hw.Sl.v s1, Hw.agg (Hw.bytesV l2), Hw.agg (Hw.bytesV l3)] w fun e w' => e = .returned (.bool true) ∧ Below w.heap.size w w' :=
  by
  have fin : ∀ {us : Array Value}, Calls Tryz.prog 6 us w (fun e W' => ∃ v out, e = .returned v ∧ (v = .bool true ∧ out = []) ∧ Hw.Ret [] out w W') → Calls Tryz.prog 6 us w (fun e w' => e = .returned (.bool true) ∧ Below w.heap.size w w') :=
    fun h => h.mono fun e w' ⟨v, out, he, ⟨hv, ho⟩, hr⟩ => ⟨by rw [he, hv], Hw.Keeps.below hr.keeps⟩
  exact fin (law_signcalls_all l0 hl0 s1 l1 l2 hl2 l3 hl3 w hs1)

set_option maxRecDepth 100000 in
theorem liftedSCalls (os : Os) (started : os.Started) (H : Type) (enc : TypeId × Value → H) :
    ReturnsInHanded {} Tryz.checked os 6 .any (Rows.signCallsSpec.pre6 enc Tryz.prog Tryz.f6 Rows.signCallsRow.domain false) (Rows.signCallsSpec.post enc Tryz.prog Tryz.f6 false true false false) := by
  refine returnsInHanded_of_change (C := Tryz.checked) ownSCalls started (by kernel_rfl) Tryz.func6
    (ChangeSpec.witness6 (enc := enc) (C := Tryz.checked) false ⟨#[], #[.agg (Array.replicate 32 (.int .u8 0)), .slice none 0 0, .agg (Array.replicate 32 (.int .u8 0)), .agg (Array.replicate 64 (.int .u8 0))], []⟩ 8 (by kernel_rfl) (by kernel_rfl) (by kernel_rfl) (by kernel_rfl)) ?_
  intro W base args ds gs before hval0 hW hcnd _
  have hval : ∀ (j : Nat) t v, Tryz.f6.params[j]? = some t → args[j]? = some v → Value.okWide Tryz.prog W .any base t v := hval0
  have hW' := hW
  obtain ⟨p, q, hA0, hV, rfl, hfz, hnd⟩ := hW
  have hA : DataW.TrodAll enc Tryz.prog W 0 (fun _ => true) true Tryz.f6.params.toList args.toList ds p := hA0
  rw [Tryz.params6] at hA hval
  obtain ⟨v0, vs0, d0, ds0, p0, q0, hargs, rfl, rfl, h0, r0⟩ := trodAll_cons hA
  obtain ⟨v1, vs1, d1, ds1, p1, q1, rfl, rfl, rfl, h1, r1⟩ := trodAll_cons r0
  obtain ⟨v2, vs2, d2, ds2, p2, q2, rfl, rfl, rfl, h2, r2⟩ := trodAll_cons r1
  obtain ⟨v3, vs3, d3, ds3, p3, q3, rfl, rfl, rfl, h3, r3⟩ := trodAll_cons r2
  obtain ⟨rfl, rfl, rfl⟩ := trodAll_nil r3
  obtain rfl : args = #[v0, v1, v2, v3] := by cases args; simp_all
  obtain ⟨rfl, rfl⟩ := trodVars_none hV
  have k0 := h0
  have lt0 : ∀ x ∈ p0, x.block < W.heap.size := by obtain ⟨m, hm⟩ := k0; exact DataW.trod_lt m _ _ _ hm
  have k1 := h1
  have lt1 : ∀ x ∈ p1, x.block < W.heap.size := by obtain ⟨m, hm⟩ := k1; exact DataW.trod_lt m _ _ _ hm
  have k2 := h2
  have lt2 : ∀ x ∈ p2, x.block < W.heap.size := by obtain ⟨m, hm⟩ := k2; exact DataW.trod_lt m _ _ _ hm
  have k3 := h3
  have lt3 : ∀ x ∈ p3, x.block < W.heap.size := by obtain ⟨m, hm⟩ := k3; exact DataW.trod_lt m _ _ _ hm
  obtain ⟨l0, rfl, hl0⟩ := Hw.open_bytes Tryz.underlying22 Tryz.underlying5 (by kernel_rfl) (by kernel_rfl) (hval 0 22 v0 rfl rfl) h0
  obtain ⟨s1, l1, rfl, hs1⟩ := openSlSCalls Tryz.underlying23 Tryz.underlying5 (by kernel_rfl) (hval 1 23 v1 rfl rfl) h1
  obtain ⟨l2, rfl, hl2⟩ := Hw.open_bytes Tryz.underlying25 Tryz.underlying5 (by kernel_rfl) (by kernel_rfl) (hval 2 25 v2 rfl rfl) h2
  obtain ⟨l3, rfl, hl3⟩ := Hw.open_bytes Tryz.underlying28 Tryz.underlying5 (by kernel_rfl) (by kernel_rfl) (hval 3 28 v3 rfl rfl) h3
  clear hA0 hval0
  refine (walkSCalls W l0 hl0 s1 l1 hs1 l2 hl2 l3 hl3).mono fun e W' ⟨he, bel⟩ => ?_
  subst he
  exact ⟨_, rfl, _, _, _, [], _, [], hW', trodAll_mk1 (shut_bool Tryz.underlying4 _), (trodAll_cons_mk (Below.trod laidOutSCalls (by kernel_rfl) (of_decide_eq_true (by kernel_rfl)) k0 bel lt0) (trodAll_cons_mk (Below.trod laidOutSCalls (by kernel_rfl) (of_decide_eq_true (by kernel_rfl)) k1 bel lt1) (trodAll_cons_mk (Below.trod laidOutSCalls (by kernel_rfl) (of_decide_eq_true (by kernel_rfl)) k2 bel lt2) (trodAll_cons_mk (Below.trod laidOutSCalls (by kernel_rfl) (of_decide_eq_true (by kernel_rfl)) k3 bel lt3) trodAll_mk0)))), rfl, bel.frame _, fun h => by cases h⟩

theorem signCalls_holds : Rows.SignCallsSaid :=
  OpenClaim.holds_of_wide 6 Tryz.f6 rfl rfl rfl rfl rfl rfl rfl ⟨rfl, rfl, rfl, rfl, rfl⟩ rfl rfl rfl rfl rfl (by kernel_rfl) Tryz.func6 (by kernel_rfl)
    (of_decide_eq_true (by kernel_rfl)) (by unfold Func.isWrapper; first | (rw [if_pos (by decide +kernel)]; kernel_rfl) | (rw [if_neg (by decide +kernel)]; exact ⟨rfl, rfl⟩))
    (fun os started H enc _ => liftedSCalls os started H enc)

end Go.Proofs.YtmddgelpllffoaaGreat
end
