/- SignApart, SignStrict and SignTurned return true at every input, and all that they read reads behind the call as before. Conditions: none beyond the given statements own. -/
import Derived.WalkKit
import Derived.Orders
import Derived.Deep.LoopGhost
import Derived.IntWalk
import Derived.Laws.StructEq
import Derived.Test.YtmddgelpllffoaaGreatRows
import Derived.KernelRfl
import Derived.Laws.MathBits
import Derived.ArgAppend
import Derived.Deep.AppendSrc
import Derived.Lib.Bytealg
import Derived.Lib.BytesEntry
import Derived.Laws.IdiomStrings
import Derived.WideKeyArr2
import Derived.ProofKit
import Derived.OpenShut
import Derived.Deep.Slices
import Derived.Laws.Pointers
import Derived.Laws.Cover3
import Derived.LaidEqlPtr
import Derived.LoopN
import Derived.Laws.Externs
import Derived.RangeFuncLeaves
import Derived.RangeFuncSeq
import Derived.OrdersIn
import Derived.ChangeOld
import Derived.Below
import Derived.Test.YtmddgelpllffoaaGreatS3C5
section
namespace Go.Proofs.YtmddgelpllffoaaGreat
open Go Hw
set_option linter.unusedVariables false
set_option linter.unusedSimpArgs false

open Ed

set_option maxRecDepth 100000 in
theorem byte_8 : ∀ b : UInt8, b - UInt8.ofNat (b.toNat % 8) = b &&& 248 ∧ UInt8.ofNat (b.toNat % 64) + 64 = (b &&& 127) ||| 64 := by
  intro b
  have h : ∀ n, n < 256 → UInt8.ofNat n - UInt8.ofNat ((UInt8.ofNat n).toNat % 8) = UInt8.ofNat n &&& 248 ∧ UInt8.ofNat ((UInt8.ofNat n).toNat % 64) + 64 = (UInt8.ofNat n &&& 127) ||| 64 := by decide
  have h2 := h b.toNat b.toNat_lt
  rwa [UInt8.ofNat_toNat] at h2
theorem clamp_ref {l : List UInt8} (h : l.length = 32) : (l.set 0 (l.getD 0 0 - UInt8.ofNat ((l.getD 0 0).toNat % 8))).set 31 (UInt8.ofNat (((l.set 0 (l.getD 0 0 - UInt8.ofNat ((l.getD 0 0).toNat % 8))).getD 31 0).toNat % 64) + 64) = clampB l := by
  have g : (l.set 0 (l.getD 0 0 - UInt8.ofNat ((l.getD 0 0).toNat % 8))).getD 31 0 = l.getD 31 0 := by
    rw [List.getD_eq_getElem?_getD, List.getElem?_set_ne dE, ← List.getD_eq_getElem?_getD]
  rw [g, (byte_8 _).1, (byte_8 _).2]
  rfl
theorem upd_all {f : List UInt8} (h : f.length = 32) : upd (bytesV (List.replicate 32 0)) 0 (bytesV f) = bytesV f := by simp [upd, bytesV, h]
theorem sees_take {w : World} {b n : Nat} {l : List UInt8} (h : Sees w b 0 (bytesV l)) : SeesP w (some ⟨b, 0, none⟩) (bytesV (l.take n)) := SeesP.of (fun i v hv => h i v (take_sees hv))
theorem sees_drop {w : World} {b n : Nat} {l : List UInt8} (h : Sees w b 0 (bytesV l)) : SeesP w (some ⟨b, n, none⟩) (bytesV (l.drop n)) := SeesP.of (fun i v hv => by
  have e : (bytesV l)[n + i]? = some v := by rw [bytesV, List.map_drop, List.getElem?_drop] at hv; exact hv
  have := h _ v e
  rwa [Nat.zero_add] at this)

set_option maxRecDepth 100000 in
set_option maxHeartbeats 8000000 in
theorem r6_secret (seed : List UInt8) (h32 : seed.length = 32) (s : List UInt8) (hs : Hid (sha512 seed = s)) : Meets Tryz.prog 29 [agg (bytesV seed)] [] (fun _ => True) (fun v out => ∃ q c, v = .tuple #[agg (bytesV (clampB (s.take 32))), .slice (some ⟨q, 0, none⟩) 32 c] ∧ 32 ≤ c ∧ out = [⟨q, bytesV (s.drop 32), 5, c * 1⟩]) := by
  intro W hW
  have hs64 : s.length = 64 := by rw [← hs.out]; exact sha512_length seed
  have ht32 : (s.take 32).length = 32 := by rw [List.length_take, hs64]; rfl
  have hd32 : (s.drop 32).length = 32 := by rw [List.length_drop, hs64]
  have hcl := clampB_length ht32
  refine calls_of (hp0 := []) Tryz.func29 rfl 28 Tryz.ntmps29 rfl (HRep.nil _) ?_
  refine Sat.seq ?_
  refine Sat.region ?_
  refine Tr.boxA rfl rfl ?_
  intro n1 hn1 hf1
  refine Tr.alloc (cs := (bytesV (List.replicate 32 0))) rfl Zr32 rfl ?_
  intro n2 hn2 hf2
  refine Tr.assign rfl rfl rfl ?_
  refine Tr.nil ?_
  refine at_n ?_
  refine Sat.seq ?_
  refine Sat.region ?_
  refine Tr.sliceArr rfl rfl rfl Tryz.underlying22 Sz5 ?_
  refine Tr.mkRow2 (z := .slice none 0 0) [.slice (some ⟨n1, 0, none⟩) 32 32] [.slice (some ⟨n1, 0, none⟩) 32 32] rfl rfl Tryz.underlying85 Sz23 Zr23 rfl rfl (by intro v hv; rw [List.mem_singleton.1 hv]; rfl) dE rfl ?_
  intro q7
  refine Tr.callV rfl rfl rfl rfl Body30 (r2_Sum512 (some ⟨q7, 0, none⟩) 1 1 [⟨some ⟨n1, 0, none⟩, 32, 32⟩] [seed] rfl rfl (fun j hj => (by
      rcases (show j = 0 by omega) with rfl
      · exact ⟨by show 32 = List.length _; exact h32.symm, fun e => by cases e⟩)) (seed) sP (by (simp [h32]; done)) dE s hs) (fun w h => ⟨SeesP.of (sees_own h (by exact mem0)), (fun j hj => (by
      rcases (show j = 0 by omega) with rfl
      · exact SeesP.of (sees_own (cs := bytesV seed) h (by exact mem2))))⟩) ?_
  refine Tr.alloc (cs := (bytesV (List.replicate 64 0))) rfl Zr27 rfl ?_
  intro n4 hn4 hf4
  refine Tr.storeAll rfl rfl rfl rfl (by exact bytesV_cell _) Sz27 (by (simp [hs64]; done)) (by exact mem0) (by (simp; done)) (by exact upd0) ?_
  refine Tr.nil ?_
  refine at_n ?_
  refine Sat.seq ?_
  refine Sat.region ?_
  refine Tr.alloc (cs := (bytesV (List.replicate 32 0))) rfl Zr32 rfl ?_
  intro n5 hn5 hf5
  refine Tr.nil ?_
  refine at_n ?_
  refine Sat.seq ?_
  refine Sat.draw [(0, 0), (0, 1), (4, 2)] Mixed (by kernel_rfl) ?_
  refine Tr.sliceArr rfl rfl rfl Tryz.underlying32 Sz5 ?_
  refine Tr.sliceArrHi 32 rfl rfl rfl rfl rfl dE dE Tryz.underlying27 Sz5 ?_
  refine Tr.copyP (bytesV (s.take 32)) 32 rfl rfl rfl rfl rfl Tryz.underlying23 Sz5 (fun w h => sees_take (sees_own h (by exact mem1))) (fun e => by cases e) (by rw [bytesV, List.length_map]; exact ht32) rfl (by rw [bytesV, ← List.map_take, List.take_of_length_le (Nat.le_of_eq ht32)]) (bytesV_cell _) (by exact mem0) (by (simp; done)) (by exact upd_all ht32) (by exact upd0) ?_
  refine Tr.nil ?_
  refine at_n ?_
  refine Sat.seq ?_
  refine Sat.region ?_
  refine Tr.idxArr1 rfl rfl rfl rfl Tryz.underlying32 Sz5 0 rfl dE ?_
  refine Tr.load1 rfl rfl rfl Tryz.underlying5 rfl (by exact mem0) (by exact get_bytes oM) ?_
  refine Tr.idxArr1 rfl rfl rfl rfl Tryz.underlying32 Sz5 0 rfl dE ?_
  refine Tr.load1 rfl rfl rfl Tryz.underlying5 rfl (by exact mem0) (by exact get_bytes oM) ?_
  refine Tr.rem_u8 rfl rfl rfl rfl 8 rfl dE ?_
  refine Tr.sub_u8 rfl rfl rfl rfl ?_
  refine Tr.idxArr1 rfl rfl rfl rfl Tryz.underlying32 Sz5 0 rfl dE ?_
  refine Tr.store1 rfl rfl rfl rfl rfl Sz5 (by exact mem0) (by (simp [hs64]; done)) (by exact set_bytes _ _ _) (by exact upd0) ?_
  refine Tr.nil ?_
  refine at_n ?_
  refine Sat.seq ?_
  refine Sat.region ?_
  refine Tr.idxArr1 rfl rfl rfl rfl Tryz.underlying32 Sz5 31 rfl dE ?_
  refine Tr.load1 rfl rfl rfl Tryz.underlying5 rfl (by exact mem0) (by exact get_bytes (by (simp [ht32]; done))) ?_
  refine Tr.rem_u8 rfl rfl rfl rfl 64 rfl dE ?_
  refine Tr.add_u8 rfl rfl rfl (show evIn _ _ = some (u8 64) from rfl) ?_
  refine Tr.idxArr1 rfl rfl rfl rfl Tryz.underlying32 Sz5 31 rfl dE ?_
  refine Tr.store1 rfl rfl rfl rfl rfl Sz5 (by exact mem0) (by (simp [hs64, ht32]; done)) (by exact set_bytes _ _ _) (by exact upd0) ?_
  refine Tr.nil ?_
  refine at_n ?_
  refine Sat.seq ?_
  refine Sat.withK (sp_k (sp_v (sp_v (sp_v (sp_v sp_n))))) rfl ?_
  refine Sat.draw [(0, 0), (0, 2), (2, 1), (4, 3), (4, 4), (0, 5)] Mixed (by kernel_rfl) ?_
  rw [clamp_ref ht32]
  refine Tr.kloadAll rfl rfl rfl Tryz.underlying32 rfl Sz32 (by exact mem0) (by (simp [hcl]; done)) ?_
  refine Tr.sliceArrLo 32 rfl rfl rfl rfl rfl dE Tryz.underlying27 Sz5 ?_
  refine Tr.mkRow2 (z := u8 0) [] [] rfl rfl Tryz.underlying23 Sz5 Zr5 rfl rfl (by intro v hv; cases hv) dE rfl ?_
  intro q25
  refine Tr.appendSl (z := u8 0) (by' := 1) (bytesV (s.drop 32)) rfl rfl rfl rfl rfl Tryz.underlying23 Tryz.underlying23 Sz5 Zr5 (by unfold By; kernel_rfl) rfl (fun w h => sees_drop (sees_own h (by exact mem1))) (fun e => by cases e) (bytesV_cell _) (by repeat (exact rem_here)) rfl rfl oM oM oM (by rw [bytesV, List.length_map]; exact hd32) ?_
  intro q27 c27 hq27
  refine Tr.storeAll rfl rfl rfl rfl (by exact bytesV_cell _) Sz32 (by (simp [hcl]; done)) (by exact mem3) (by (simp; done)) (by exact upd3) ?_
  refine Tr.assign rfl rfl rfl ?_
  refine Tr.nil ?_
  refine at_n ?_
  refine Sat.ret ?_
  refine en_r ?_
  simp only [List.cons_append, List.nil_append, List.append_nil]
  refine end_perm (out := (⟨q27, [] ++ bytesV (s.drop 32), 5, c27 * 1⟩ :: [])) (res_cell_tmp rfl rfl rfl Tryz.underlying32 rfl Sz32 (by exact mem3) (by simp [hcl])) (pm_cons (by repeat (exact rem_here)) pm_nil) ?_
  exact ⟨q27, c27, rfl, by omega, rfl⟩

set_option maxRecDepth 100000 in
set_option maxHeartbeats 2000000 in
theorem r6_Secret (seed : List UInt8) (h32 : seed.length = 32) (s : List UInt8) (hs : Hid (sha512 seed = s)) : Meets Tryz.prog 27 [agg (bytesV seed)] [] (fun _ => True) (fun v out => v = agg (bytesV (clampB (s.take 32))) ∧ out = []) := by
  intro W hW
  have hs64 : s.length = 64 := by rw [← hs.out]; exact sha512_length seed
  have ht32 : (s.take 32).length = 32 := by rw [List.length_take, hs64]; rfl
  have hd32 : (s.drop 32).length = 32 := by rw [List.length_drop, hs64]
  have hcl := clampB_length ht32
  revert hcl
  have hsec := r6_secret seed h32 s hs
  revert hsec
  generalize clampB (s.take 32) = N
  intro hsec hcl
  refine calls_of (hp0 := []) Tryz.func27 rfl 11 Tryz.ntmps27 rfl (HRep.nil _) ?_
  refine Sat.seq ?_
  refine Sat.region ?_
  refine Tr.boxA rfl rfl ?_
  intro n1 hn1 hf1
  refine Tr.alloc (cs := (bytesV (List.replicate 32 0))) rfl Zr32 rfl ?_
  intro n2 hn2 hf2
  refine Tr.nil ?_
  refine at_n ?_
  refine Sat.seq ?_
  refine Sat.region ?_
  refine Tr.loadAll rfl rfl rfl Tryz.underlying22 rfl Sz22 (by exact mem1) (by (simp [h32]; done)) ?_
  refine Tr.call4 rfl rfl rfl rfl rfl Body29 (hsec) (fun _ _ => trivial) ?_
  rintro v7 out7 ⟨q7, c7, rfl, hc7, rfl⟩
  simp only [List.cons_append, List.nil_append]
  refine Tr.move rfl rfl rfl ?_
  refine Tr.extract rfl rfl rfl rfl ?_
  refine Tr.extract rfl rfl rfl rfl ?_
  refine Tr.alloc (cs := (bytesV (List.replicate 32 0))) rfl Zr32 rfl ?_
  intro n3 hn3 hf3
  refine Tr.storeAll rfl rfl rfl rfl (by exact bytesV_cell _) Sz32 (by (simp [hcl]; done)) (by exact mem0) (by (simp; done)) (by exact upd0) ?_
  refine Tr.assign rfl rfl rfl ?_
  refine Tr.nil ?_
  refine at_n ?_
  refine Sat.seq ?_
  refine Sat.region ?_
  refine Tr.loadAll rfl rfl rfl Tryz.underlying32 rfl Sz32 (by exact mem0) (by (simp [hcl]; done)) ?_
  refine Tr.storeAll rfl rfl rfl rfl (by exact bytesV_cell _) Sz32 (by (simp [hcl]; done)) (by exact mem2) (by (simp; done)) (by exact upd2) ?_
  refine Tr.nil ?_
  refine at_n ?_
  refine Sat.ret ?_
  refine en_r ?_
  refine ⟨_, [], res_cell rfl rfl Tryz.underlying32 rfl Sz32 (by exact mem2) (by simp [hcl]), sP, sP, ?_, rfl⟩
  rfl

theorem r6_KeyQ (N : List UInt8) (hN : N.length = 32) (Q : Pt Fp) (hQ : cv.mul (le N) bP = Q) : cv.on Q ∧ Meets Tryz.prog 17 [agg (bytesV N), agg (ptc bP).cells] [] (fun _ => True) (fun v out => v = agg (ptc Q).cells ∧ out = []) := by
  rw [← hQ]; exact ⟨cv.on_mul bP_on _, r5_Mul N bP hN bP_on⟩

set_option maxRecDepth 100000 in
set_option maxHeartbeats 4000000 in
theorem r6_Key (seed : List UInt8) (h32 : seed.length = 32) (s : List UInt8) (hs : Hid (sha512 seed = s)) : Meets Tryz.prog 8 [agg (bytesV seed)] [] (fun _ => True) (fun v out => v = agg (bytesV (sgK s)) ∧ out = []) := by
  intro W hW
  have hs64 : s.length = 64 := by rw [← hs.out]; exact sha512_length seed
  have ht32 : (s.take 32).length = 32 := by rw [List.length_take, hs64]; rfl
  have hd32 : (s.drop 32).length = 32 := by rw [List.length_drop, hs64]
  have hcl := clampB_length ht32
  obtain ⟨Q, hQ⟩ : ∃ Q, cv.mul (le (clampB (s.take 32))) bP = Q := ⟨_, rfl⟩
  have hsec := r6_Secret seed h32 s hs
  have hkq := r6_KeyQ (clampB (s.take 32)) hcl Q hQ
  rw [show sgK s = pb Q from by rw [sgK, hQ]]
  clear hQ
  revert hcl hsec hkq
  generalize clampB (s.take 32) = N
  intro hcl hsec hkq
  obtain ⟨hQo, hmul⟩ := hkq
  refine calls_of (hp0 := []) Tryz.func8 rfl 14 Tryz.ntmps8 rfl (HRep.nil _) ?_
  refine Sat.seq ?_
  refine Sat.region ?_
  refine Tr.boxA rfl rfl ?_
  intro n1 hn1 hf1
  refine Tr.alloc (cs := (bytesV (List.replicate 32 0))) rfl Zr25 rfl ?_
  intro n2 hn2 hf2
  refine Tr.nil ?_
  refine at_n ?_
  refine Sat.seq ?_
  refine Sat.region ?_
  refine Tr.loadAll rfl rfl rfl Tryz.underlying22 rfl Sz22 (by exact mem1) (by (simp [h32]; done)) ?_
  refine Tr.callV rfl rfl rfl rfl Body27 (hsec) (fun _ _ => trivial) ?_
  refine Tr.callV rfl rfl rfl rfl Body18 (r5_Base) (fun _ _ => trivial) ?_
  refine Tr.callV rfl rfl rfl rfl Body17 (hmul) (fun _ _ => trivial) ?_
  refine Tr.callV rfl rfl rfl rfl Body16 (r5_Bytes Q hQo) (fun _ _ => trivial) ?_
  refine Tr.move rfl rfl rfl ?_
  refine Tr.extract rfl rfl rfl rfl ?_
  refine Tr.extract rfl rfl rfl rfl ?_
  refine Tr.alloc (cs := (bytesV (List.replicate 32 0))) rfl Zr22 rfl ?_
  intro n3 hn3 hf3
  refine Tr.storeAll rfl rfl rfl rfl (by exact bytesV_cell _) Sz22 (by (simp [pb_length]; done)) (by exact mem0) (by (simp; done)) (by exact upd0) ?_
  refine Tr.assign rfl rfl rfl ?_
  refine Tr.nil ?_
  refine at_n ?_
  refine Sat.seq ?_
  refine Sat.region ?_
  refine Tr.loadAll rfl rfl rfl Tryz.underlying22 rfl Sz22 (by exact mem0) (by (simp [pb_length]; done)) ?_
  refine Tr.storeAll rfl rfl rfl rfl (by exact bytesV_cell _) Sz25 (by (simp [pb_length]; done)) (by exact mem1) (by (simp; done)) (by exact upd1) ?_
  refine Tr.nil ?_
  refine at_n ?_
  refine Sat.ret ?_
  refine en_r ?_
  refine ⟨_, [], res_cell rfl rfl Tryz.underlying25 rfl Sz25 (by exact mem1) (by simp [pb_length]), sP, sP, ?_, rfl⟩
  rfl

set_option maxRecDepth 100000 in
set_option maxHeartbeats 4000000 in
theorem r6_challenge (r k : List UInt8) (hr : r.length = 32) (hk : k.length = 32) (sb : Sl) (bb : List UInt8) (hbn : bb.length ≤ 80000) (s : List UInt8) (hs : Hid (sha512 (r ++ (k ++ bb)) = s)) : Meets Tryz.prog 33 [agg (bytesV r), agg (bytesV k), sb.v] [] (fun W => BytesAt W sb bb) (fun v out => v = agg (bytesV (sgR s)) ∧ out = []) := by
  intro W hW
  have hs64 : s.length = 64 := by rw [← hs.out]; exact sha512_length _
  obtain ⟨R, hR⟩ : ∃ R, Hid (sgR s = R) := ⟨_, ⟨rfl⟩⟩
  have hRl : R.length = 32 := by rw [← hR.out]; exact sgR_length s
  have hres := fun b => ref_Rest b 0 64 64 s hs64 dE
  rw [show leb 32 (le s % L) = R from hR.out] at hres
  rw [hR.out]
  refine calls_of (hp0 := []) Tryz.func33 rfl 21 Tryz.ntmps33 rfl (HRep.nil _) ?_
  refine Sat.seq ?_
  refine Sat.region ?_
  refine Tr.boxA rfl rfl ?_
  intro n3 hn3 hf3
  refine Tr.boxA rfl rfl ?_
  intro n4 hn4 hf4
  refine Tr.alloc (cs := (bytesV (List.replicate 32 0))) rfl Zr32 rfl ?_
  intro n6 hn6 hf6
  refine Tr.nil ?_
  refine at_n ?_
  refine Sat.seq ?_
  refine Sat.draw [(0, 0), (0, 1), (0, 2), (2, 3), (3, 4), (2, 5), (4, 6)] Mixed (by kernel_rfl) ?_
  refine Tr.sliceArr rfl rfl rfl Tryz.underlying22 Sz5 ?_
  refine Tr.sliceArr rfl rfl rfl Tryz.underlying25 Sz5 ?_
  refine Tr.move rfl rfl rfl ?_
  refine Tr.mkRow2 (z := .slice none 0 0) [.slice (some ⟨n3, 0, none⟩) 32 32, .slice (some ⟨n4, 0, none⟩) 32 32, sb.v] [.slice (some ⟨n3, 0, none⟩) 32 32, .slice (some ⟨n4, 0, none⟩) 32 32, sb.v] rfl rfl Tryz.underlying85 Sz23 Zr23 rfl rfl (by intro v hv; simp only [List.mem_cons, List.not_mem_nil, or_false] at hv; rcases hv with rfl | rfl | rfl <;> rfl) dE rfl ?_
  intro q13
  refine Tr.callV rfl rfl rfl rfl Body30 (r2_Sum512 (some ⟨q13, 0, none⟩) 3 3 [⟨some ⟨n3, 0, none⟩, 32, 32⟩, ⟨some ⟨n4, 0, none⟩, 32, 32⟩, sb] [r, k, bb] rfl rfl (fun j hj => (by
      rcases (show j = 0 ∨ j = 1 ∨ j = 2 by omega) with rfl | rfl | rfl
      · exact ⟨by show 32 = List.length _; exact hr.symm, fun e => by cases e⟩
      · exact ⟨by show 32 = List.length _; exact hk.symm, fun e => by cases e⟩
      · exact ⟨by show sb.n = bb.length; exact hW.len.symm, fun e => by have h1 := hW.nil e; have h2 := hW.cap; show sb.n = 0; omega⟩)) (r ++ (k ++ bb)) sP (by (simp [hr, hk]; omega)) dE s hs) (fun w h => ⟨SeesP.of (sees_own h (by exact mem0)), (fun j hj => (by
      rcases (show j = 0 ∨ j = 1 ∨ j = 2 by omega) with rfl | rfl | rfl
      · exact SeesP.of (sees_own (cs := bytesV r) h (by exact mem3))
      · exact SeesP.of (sees_own (cs := bytesV k) h (by exact mem2))
      · exact seesP_ext h rfl hW.see))⟩) ?_
  refine Tr.alloc (cs := (bytesV (List.replicate 64 0))) rfl Zr27 rfl ?_
  intro n7 hn7 hf7
  refine Tr.storeAll rfl rfl rfl rfl (by exact bytesV_cell _) Sz27 (by (simp [hs64]; done)) (by exact mem0) (by (simp; done)) (by exact upd0) ?_
  refine Tr.nil ?_
  refine at_n ?_
  refine Sat.seq ?_
  refine Sat.region ?_
  refine Tr.sliceArr rfl rfl rfl Tryz.underlying27 Sz5 ?_
  refine Tr.callV rfl rfl rfl rfl Body31 (hres n7) (fun w h => sees_own h (by exact mem0)) ?_
  refine Tr.move rfl rfl rfl ?_
  refine Tr.extract rfl rfl rfl rfl ?_
  refine Tr.extract rfl rfl rfl rfl ?_
  refine Tr.alloc (cs := (bytesV (List.replicate 32 0))) rfl Zr32 rfl ?_
  intro n8 hn8 hf8
  refine Tr.storeAll rfl rfl rfl rfl (by exact bytesV_cell _) Sz32 (by (simp [hRl]; done)) (by exact mem0) (by (simp; done)) (by exact upd0) ?_
  refine Tr.assign rfl rfl rfl ?_
  refine Tr.nil ?_
  refine at_n ?_
  refine Sat.seq ?_
  refine Sat.region ?_
  refine Tr.loadAll rfl rfl rfl Tryz.underlying32 rfl Sz32 (by exact mem0) (by (simp [hRl]; done)) ?_
  refine Tr.storeAll rfl rfl rfl rfl (by exact bytesV_cell _) Sz32 (by (simp [hRl]; done)) (by exact mem3) (by (simp; done)) (by exact upd3) ?_
  refine Tr.nil ?_
  refine at_n ?_
  refine Sat.ret ?_
  refine en_r ?_
  refine ⟨_, [], res_cell rfl rfl Tryz.underlying32 rfl Sz32 (by exact mem3) (by simp [hRl]), sP, sP, ?_, rfl⟩
  rfl

set_option maxRecDepth 100000 in
set_option maxHeartbeats 8000000 in
theorem r6_Sign (seed : List UInt8) (h32 : seed.length = 32) (sb : Sl) (bb : List UInt8) (hbn : bb.length ≤ 80000) (s s1 s2 : List UInt8) (hs : Hid (sha512 seed = s)) (hs1 : Hid (sha512 (s.drop 32 ++ bb) = s1)) (hs2 : Hid (sha512 (sgF s1 ++ (sgK s ++ bb)) = s2)) : Meets Tryz.prog 9 [agg (bytesV seed), sb.v] [] (fun W => BytesAt W sb bb) (fun v out => v = agg (bytesV (sgF s1 ++ sgS s s1 s2)) ∧ out = []) := by
  intro W hW
  have hs64 : s.length = 64 := by rw [← hs.out]; exact sha512_length seed
  have ht32 : (s.take 32).length = 32 := by rw [List.length_take, hs64]; rfl
  have hd32 : (s.drop 32).length = 32 := by rw [List.length_drop, hs64]
  have hcl := clampB_length ht32
  have h64 : s1.length = 64 := by rw [← hs1.out]; exact sha512_length _
  have csec := r6_secret seed h32 s hs
  have ckey := r6_Key seed h32 s hs
  have cch := r6_challenge (sgF s1) (sgK s) (sgF_length s1) (sgK_length s) sb bb hbn s2 hs2
  have cma := ref_muladd (sgR s2) (clampB (s.take 32)) (sgR s1) (sgR_length s2) hcl (sgR_length s1)
  rw [show leb 32 ((le (sgR s2) * le (clampB (s.take 32)) + le (sgR s1)) % L) = sgS s s1 s2 from rfl] at cma
  obtain ⟨Q, hQ⟩ : ∃ Q, cv.mul (le (sgR s1)) bP = Q := ⟨_, rfl⟩
  have hkq := r6_KeyQ (sgR s1) (sgR_length s1) Q hQ
  have hF : sgF s1 = pb Q := by rw [sgF, hQ]
  rw [hF] at cch ⊢
  clear hQ hs2 hF
  have hres := fun b => ref_Rest b 0 64 64 s1 h64 dE
  rw [show leb 32 (le s1 % L) = sgR s1 from rfl] at hres
  have lK := sgK_length s
  have lS := sgS_length s s1 s2
  have lR1 := sgR_length s1
  have lR2 := sgR_length s2
  revert hcl csec ckey cch cma hkq hres lK lS lR1 lR2
  generalize sgS s s1 s2 = S3
  generalize sgK s = K
  generalize sgR s1 = r1
  generalize sgR s2 = r2
  generalize clampB (s.take 32) = N
  intro hcl csec ckey cma cch hkq hres lK lS lR1 lR2
  obtain ⟨hQo, hmul⟩ := hkq
  have hpq := pb_length Q
  refine calls_of (hp0 := []) Tryz.func9 rfl 50 Tryz.ntmps9 rfl (HRep.nil _) ?_
  refine Sat.seq ?_
  refine Sat.region ?_
  refine Tr.boxA rfl rfl ?_
  intro n2 hn2 hf2
  refine Tr.alloc (cs := (bytesV (List.replicate 64 0))) rfl Zr28 rfl ?_
  intro n4 hn4 hf4
  refine Tr.nil ?_
  refine at_n ?_
  refine Sat.seq ?_
  refine Sat.region ?_
  refine Tr.loadAll rfl rfl rfl Tryz.underlying22 rfl Sz22 (by exact mem1) (by (simp [h32]; done)) ?_
  refine Tr.call4 rfl rfl rfl rfl rfl Body29 (csec) (fun _ _ => trivial) ?_
  rintro v7 out7 ⟨q7, c7, rfl, hc7, rfl⟩
  simp only [List.cons_append, List.nil_append]
  refine Tr.move rfl rfl rfl ?_
  refine Tr.extract rfl rfl rfl rfl ?_
  refine Tr.extract rfl rfl rfl rfl ?_
  refine Tr.alloc (cs := (bytesV (List.replicate 32 0))) rfl Zr32 rfl ?_
  intro n5 hn5 hf5
  refine Tr.storeAll rfl rfl rfl rfl (by exact bytesV_cell _) Sz32 (by (simp [hcl]; done)) (by exact mem0) (by (simp; done)) (by exact upd0) ?_
  refine Tr.assign rfl rfl rfl ?_
  refine Tr.nil ?_
  refine at_n ?_
  refine Sat.seq ?_
  refine Sat.region ?_
  refine Tr.move rfl rfl rfl ?_
  refine Tr.move rfl rfl rfl ?_
  refine Tr.mkRow2 (z := .slice none 0 0) [.slice (some ⟨q7, 0, none⟩) 32 c7, sb.v] [.slice (some ⟨q7, 0, none⟩) 32 c7, sb.v] rfl rfl Tryz.underlying85 Sz23 Zr23 rfl rfl (by intro v hv; simp only [List.mem_cons, List.not_mem_nil, or_false] at hv; rcases hv with rfl | rfl <;> rfl) dE rfl ?_
  intro q21
  refine Tr.callV rfl rfl rfl rfl Body30 (r2_Sum512 (some ⟨q21, 0, none⟩) 2 2 [⟨some ⟨q7, 0, none⟩, 32, c7⟩, sb] [s.drop 32, bb] rfl rfl (fun j hj => (by
      rcases (show j = 0 ∨ j = 1 by omega) with rfl | rfl
      · exact ⟨by show 32 = List.length _; exact hd32.symm, fun e => by cases e⟩
      · exact ⟨by show sb.n = bb.length; exact hW.len.symm, fun e => by have h1 := hW.nil e; have h2 := hW.cap; show sb.n = 0; omega⟩)) (s.drop 32 ++ bb) sP (by (simp [hd32]; omega)) dE s1 hs1) (fun w h => ⟨SeesP.of (sees_own h (by exact mem0)), (fun j hj => (by
      rcases (show j = 0 ∨ j = 1 by omega) with rfl | rfl
      · exact SeesP.of (sees_own (cs := bytesV (s.drop 32)) h (by exact mem2))
      · exact seesP_ext h rfl hW.see))⟩) ?_
  refine Tr.alloc (cs := (bytesV (List.replicate 64 0))) rfl Zr27 rfl ?_
  intro n7 hn7 hf7
  refine Tr.storeAll rfl rfl rfl rfl (by exact bytesV_cell _) Sz27 (by (simp [h64]; done)) (by exact mem0) (by (simp; done)) (by exact upd0) ?_
  refine Tr.nil ?_
  refine at_n ?_
  refine Sat.seq ?_
  refine Sat.region ?_
  refine Tr.sliceArr rfl rfl rfl Tryz.underlying27 Sz5 ?_
  refine Tr.callV rfl rfl rfl rfl Body31 (hres n7) (fun w h => sees_own h (by exact mem0)) ?_
  refine Tr.move rfl rfl rfl ?_
  refine Tr.extract rfl rfl rfl rfl ?_
  refine Tr.extract rfl rfl rfl rfl ?_
  refine Tr.alloc (cs := (bytesV (List.replicate 32 0))) rfl Zr32 rfl ?_
  intro n8 hn8 hf8
  refine Tr.storeAll rfl rfl rfl rfl (by exact bytesV_cell _) Sz32 (by (simp [lR1]; done)) (by exact mem0) (by (simp; done)) (by exact upd0) ?_
  refine Tr.assign rfl rfl rfl ?_
  refine Tr.nil ?_
  refine at_n ?_
  refine Sat.seq ?_
  refine Sat.draw [(1, 0), (3, 1), (3, 2), (3, 3), (0, 4), (0, 5), (0, 6), (2, 7), (4, 8), (0, 9)] Mixed (by kernel_rfl) ?_
  refine Tr.loadAll rfl rfl rfl Tryz.underlying32 rfl Sz32 (by exact mem0) (by (simp [lR1]; done)) ?_
  refine Tr.callV rfl rfl rfl rfl Body18 (r5_Base) (fun _ _ => trivial) ?_
  refine Tr.callV rfl rfl rfl rfl Body17 (hmul) (fun _ _ => trivial) ?_
  refine Tr.callV rfl rfl rfl rfl Body16 (r5_Bytes Q hQo) (fun _ _ => trivial) ?_
  refine Tr.move rfl rfl rfl ?_
  refine Tr.extract rfl rfl rfl rfl ?_
  refine Tr.extract rfl rfl rfl rfl ?_
  refine Tr.alloc (cs := (bytesV (List.replicate 32 0))) rfl Zr22 rfl ?_
  intro n10 hn10 hf10
  refine Tr.storeAll rfl rfl rfl rfl (by exact bytesV_cell _) Sz22 (by (simp [pb_length]; done)) (by exact mem0) (by (simp; done)) (by exact upd0) ?_
  refine Tr.assign rfl rfl rfl ?_
  refine Tr.nil ?_
  refine at_n ?_
  refine Sat.seq ?_
  refine Sat.draw [(1, 0), (1, 1), (0, 3), (1, 5), (1, 6), (3, 2), (3, 4), (3, 7), (2, 8), (4, 9)] Mixed (by kernel_rfl) ?_
  refine Tr.loadAll rfl rfl rfl Tryz.underlying22 rfl Sz22 (by exact mem0) (by (simp [pb_length]; done)) ?_
  refine Tr.loadAll rfl rfl rfl Tryz.underlying22 rfl Sz22 (by exact mem7) (by (simp [h32]; done)) ?_
  refine Tr.move rfl rfl rfl ?_
  refine Tr.loadAll rfl rfl rfl Tryz.underlying32 rfl Sz32 (by exact mem4) (by (simp [hcl]; done)) ?_
  refine Tr.loadAll rfl rfl rfl Tryz.underlying32 rfl Sz32 (by exact mem1) (by (simp [lR1]; done)) ?_
  refine Tr.callV rfl rfl rfl rfl Body8 (ckey) (fun _ _ => trivial) ?_
  refine Tr.callV rfl rfl rfl rfl Body33 (cch) (fun w h => bytes_ext h rfl hW) ?_
  refine Tr.callV rfl rfl rfl rfl Body32 (cma) (fun _ _ => trivial) ?_
  refine Tr.alloc (cs := (bytesV (List.replicate 32 0))) rfl Zr32 rfl ?_
  intro n12 hn12 hf12
  refine Tr.storeAll rfl rfl rfl rfl (by exact bytesV_cell _) Sz32 (by (simp [lS]; done)) (by exact mem0) (by (simp; done)) (by exact upd0) ?_
  refine Tr.nil ?_
  refine at_n ?_
  refine Sat.seq ?_
  refine Sat.region ?_
  refine Tr.alloc (cs := (bytesV (List.replicate 64 0))) rfl Zr28 rfl ?_
  intro n13 hn13 hf13
  refine Tr.nil ?_
  refine at_n ?_
  refine Sat.seq ?_
  refine Sat.draw [(0, 0), (0, 1), (4, 2)] Mixed (by kernel_rfl) ?_
  refine Tr.sliceArr rfl rfl rfl Tryz.underlying28 Sz5 ?_
  refine Tr.sliceArr rfl rfl rfl Tryz.underlying22 Sz5 ?_
  refine Tr.copyP (bytesV (pb Q)) 32 rfl rfl rfl rfl rfl Tryz.underlying23 Sz5 (fun w h => SeesP.of (sees_own h (by exact mem2))) (fun e => by cases e) (by rw [bytesV, List.length_map]; exact (pb_length Q)) rfl (by rw [bytesV, ← List.map_take, List.take_of_length_le (Nat.le_of_eq (pb_length Q))]) (bytesV_cell _) (by exact mem0) (by (simp; done)) (by exact upd_first (pb_length Q)) (by exact upd0) ?_
  refine Tr.nil ?_
  refine at_n ?_
  refine Sat.seq ?_
  refine Sat.draw [(0, 0), (0, 1), (4, 2)] Mixed (by kernel_rfl) ?_
  refine Tr.sliceArrLo 32 rfl rfl rfl rfl rfl dE Tryz.underlying28 Sz5 ?_
  refine Tr.sliceArr rfl rfl rfl Tryz.underlying32 Sz5 ?_
  refine Tr.copyP (bytesV S3) 32 rfl rfl rfl rfl rfl Tryz.underlying23 Sz5 (fun w h => SeesP.of (sees_own h (by exact mem1))) (fun e => by cases e) (by rw [bytesV, List.length_map]; exact lS) rfl (by rw [bytesV, ← List.map_take, List.take_of_length_le (Nat.le_of_eq lS)]) (bytesV_cell _) (by exact mem0) (by (simp; omega)) (by exact upd_last (pb_length Q) lS) (by exact upd0) ?_
  refine Tr.nil ?_
  refine at_n ?_
  refine Sat.seq ?_
  refine Sat.region ?_
  refine Tr.loadAll rfl rfl rfl Tryz.underlying28 rfl Sz28 (by exact mem0) (by (simp [pb_length, lS]; done)) ?_
  refine Tr.storeAll rfl rfl rfl rfl (by exact bytesV_cell _) Sz28 (by (simp [pb_length, lS]; done)) (by (repeat (first | exact List.mem_cons_self | refine List.mem_cons_of_mem _ ?_))) (by (simp; done)) (by (repeat (first | exact upd0 | apply Upd.tail))) ?_
  refine Tr.nil ?_
  refine at_n ?_
  refine Sat.ret ?_
  refine en_r ?_
  refine ⟨_, [], res_cell rfl rfl Tryz.underlying28 rfl Sz28 (by (repeat (first | exact List.mem_cons_self | refine List.mem_cons_of_mem _ ?_))) (by simp [pb_length, lS]), sP, sP, ?_, rfl⟩
  rfl

theorem r5_Read_none (b : List UInt8) (hb : b.length = 32) (h : rdP b = none) : Meets Tryz.prog 20 [agg (bytesV b)] [] (fun _ => True) (fun v out => v = .tuple #[agg Point.zero.cells, i64 4] ∧ out = []) := by
  have := r5_Read b hb
  rwa [rdV_none h] at this
theorem r5_Read_some (b : List UInt8) (P : Pt Fp) (hb : b.length = 32) (h : rdP b = some P) : Meets Tryz.prog 20 [agg (bytesV b)] [] (fun _ => True) (fun v out => v = .tuple #[agg (ptc P).cells, i64 0] ∧ out = []) := by
  have := r5_Read b hb
  rwa [rdV_some h] at this
set_option maxRecDepth 100000 in
set_option maxHeartbeats 8000000 in
theorem r6_Good_kr (k : List UInt8) (hk : k.length = 32) (sb : Sl) (bb : List UInt8) (hbn : bb.length ≤ 80000) (sg : List UInt8) (hsg : sg.length = 64) (h1 : rdP k = none) (h2 : rdP (sg.take 32) = none) : Meets Tryz.prog 14 [agg (bytesV k), sb.v, agg (bytesV sg)] [] (fun W => BytesAt W sb bb) (fun v out => v = .bool false ∧ out = []) := by
  intro W hW
  have hd32 : (sg.drop 32).length = 32 := by rw [List.length_drop, hsg]
  have ht32 : (sg.take 32).length = 32 := by rw [List.length_take, hsg]; rfl
  refine calls_of (hp0 := []) Tryz.func14 rfl 51 Tryz.ntmps14 rfl (HRep.nil _) ?_
  refine Sat.seq ?_
  refine Sat.region ?_
  refine Tr.boxA rfl rfl ?_
  intro n3 hn3 hf3
  refine Tr.boxA rfl rfl ?_
  intro n5 hn5 hf5
  refine Tr.assign rfl rfl rfl ?_
  refine Tr.nil ?_
  refine at_n ?_
  refine Sat.seq ?_
  refine Sat.region ?_
  refine Tr.alloc (cs := (bytesV (List.replicate 32 0))) rfl Zr22 rfl ?_
  intro n7 hn7 hf7
  refine Tr.nil ?_
  refine at_n ?_
  refine Sat.seq ?_
  refine Sat.region ?_
  refine Tr.alloc (cs := (bytesV (List.replicate 32 0))) rfl Zr32 rfl ?_
  intro n8 hn8 hf8
  refine Tr.nil ?_
  refine at_n ?_
  refine Sat.seq ?_
  refine Sat.draw [(0, 0), (0, 1), (4, 2)] Mixed (by kernel_rfl) ?_
  refine Tr.sliceArr rfl rfl rfl Tryz.underlying22 Sz5 ?_
  refine Tr.sliceArrHi 32 rfl rfl rfl rfl rfl dE dE Tryz.underlying28 Sz5 ?_
  refine Tr.copyP (bytesV (sg.take 32)) 32 rfl rfl rfl rfl rfl Tryz.underlying23 Sz5 (fun w h => sees_take (sees_own h (by exact mem2))) (fun e => by cases e) (by rw [bytesV, List.length_map]; exact ht32) rfl (by rw [bytesV, ← List.map_take, List.take_of_length_le (Nat.le_of_eq ht32)]) (bytesV_cell _) (by exact mem1) (by (simp; done)) (by exact upd_all ht32) (by exact upd1) ?_
  refine Tr.nil ?_
  refine at_n ?_
  refine Sat.seq ?_
  refine Sat.draw [(0, 0), (0, 1), (4, 2)] Mixed (by kernel_rfl) ?_
  refine Tr.sliceArr rfl rfl rfl Tryz.underlying32 Sz5 ?_
  refine Tr.sliceArrLo 32 rfl rfl rfl rfl rfl dE Tryz.underlying28 Sz5 ?_
  refine Tr.copyP (bytesV (sg.drop 32)) 32 rfl rfl rfl rfl rfl Tryz.underlying23 Sz5 (fun w h => sees_drop (sees_own h (by exact mem2))) (fun e => by cases e) (by rw [bytesV, List.length_map]; exact hd32) rfl (by rw [bytesV, ← List.map_take, List.take_of_length_le (Nat.le_of_eq hd32)]) (bytesV_cell _) (by exact mem0) (by (simp; done)) (by exact upd_all hd32) (by exact upd0) ?_
  refine Tr.nil ?_
  refine at_n ?_
  refine Sat.seq ?_
  refine Sat.region ?_
  refine Tr.loadAll rfl rfl rfl Tryz.underlying25 rfl Sz25 (by exact mem3) (by (simp [hk]; done)) ?_
  refine Tr.callV rfl rfl rfl rfl Body20 (r5_Read_none k hk h1) (fun _ _ => trivial) ?_
  refine Tr.move rfl rfl rfl ?_
  refine Tr.extract rfl rfl rfl rfl ?_
  refine Tr.extract rfl rfl rfl rfl ?_
  refine Tr.alloc (cs := Point.zero.cells) rfl Point.zr rfl ?_
  intro n9 hn9 hf9
  refine Tr.storeAll rfl rfl rfl rfl (Point.isCell (by exact Point.zero_ok)) Sz41 (Point.length (by exact Point.zero_ok)) (by exact mem0) (Point.length (by exact Point.zero_ok)) (by exact upd0) ?_
  refine Tr.assign rfl rfl rfl ?_
  refine Tr.nil ?_
  refine at_n ?_
  refine Sat.seq ?_
  refine Sat.region ?_
  refine Tr.loadAll rfl rfl rfl Tryz.underlying22 rfl Sz22 (by exact mem2) (by (simp [hsg]; done)) ?_
  refine Tr.callV rfl rfl rfl rfl Body20 (r5_Read_none (sg.take 32) ht32 h2) (fun _ _ => trivial) ?_
  refine Tr.move rfl rfl rfl ?_
  refine Tr.extract rfl rfl rfl rfl ?_
  refine Tr.extract rfl rfl rfl rfl ?_
  refine Tr.alloc (cs := Point.zero.cells) rfl Point.zr rfl ?_
  intro n11 hn11 hf11
  refine Tr.storeAll rfl rfl rfl rfl (Point.isCell (by exact Point.zero_ok)) Sz41 (Point.length (by exact Point.zero_ok)) (by exact mem0) (Point.length (by exact Point.zero_ok)) (by exact upd0) ?_
  refine Tr.assign rfl rfl rfl ?_
  refine Tr.nil ?_
  refine at_n ?_
  refine Sat.seq ?_
  refine Sat.seq ?_
  refine Sat.region ?_
  refine Tr.move rfl rfl rfl ?_
  refine Tr.nei rfl rfl rfl rfl (show (!decide _) = true from congrArg not (decide_eq_false dE)) ?_
  refine Tr.move rfl rfl rfl ?_
  refine Tr.skp rfl rfl ?_
  refine Tr.skp rfl rfl ?_
  refine Tr.pick rfl rfl rfl rfl rfl rfl ?_
  refine Tr.move rfl rfl rfl ?_
  refine Tr.skp rfl rfl ?_
  refine Tr.skp rfl rfl ?_
  refine Tr.skp rfl rfl ?_
  refine Tr.pick rfl rfl rfl rfl rfl rfl ?_
  refine Tr.nil ?_
  refine at_n ?_
  refine Sat.cond_t rfl rfl ?_
  refine Sat.seq ?_
  refine Sat.region ?_
  refine Tr.assign rfl rfl rfl ?_
  refine Tr.nil ?_
  refine at_n ?_
  refine Sat.ret ?_
  refine at_r ?_
  refine en_r ?_
  refine ⟨_, [], res_tmp rfl rfl, sP, sP, ?_, rfl⟩
  rfl

set_option maxRecDepth 100000 in
set_option maxHeartbeats 8000000 in
theorem r6_Good_k (k : List UInt8) (hk : k.length = 32) (sb : Sl) (bb : List UInt8) (hbn : bb.length ≤ 80000) (sg : List UInt8) (hsg : sg.length = 64) (R : Pt Fp) (h1 : rdP k = none) (h2 : rdP (sg.take 32) = some R) : Meets Tryz.prog 14 [agg (bytesV k), sb.v, agg (bytesV sg)] [] (fun W => BytesAt W sb bb) (fun v out => v = .bool false ∧ out = []) := by
  intro W hW
  have hd32 : (sg.drop 32).length = 32 := by rw [List.length_drop, hsg]
  have ht32 : (sg.take 32).length = 32 := by rw [List.length_take, hsg]; rfl
  refine calls_of (hp0 := []) Tryz.func14 rfl 51 Tryz.ntmps14 rfl (HRep.nil _) ?_
  refine Sat.seq ?_
  refine Sat.region ?_
  refine Tr.boxA rfl rfl ?_
  intro n3 hn3 hf3
  refine Tr.boxA rfl rfl ?_
  intro n5 hn5 hf5
  refine Tr.assign rfl rfl rfl ?_
  refine Tr.nil ?_
  refine at_n ?_
  refine Sat.seq ?_
  refine Sat.region ?_
  refine Tr.alloc (cs := (bytesV (List.replicate 32 0))) rfl Zr22 rfl ?_
  intro n7 hn7 hf7
  refine Tr.nil ?_
  refine at_n ?_
  refine Sat.seq ?_
  refine Sat.region ?_
  refine Tr.alloc (cs := (bytesV (List.replicate 32 0))) rfl Zr32 rfl ?_
  intro n8 hn8 hf8
  refine Tr.nil ?_
  refine at_n ?_
  refine Sat.seq ?_
  refine Sat.draw [(0, 0), (0, 1), (4, 2)] Mixed (by kernel_rfl) ?_
  refine Tr.sliceArr rfl rfl rfl Tryz.underlying22 Sz5 ?_
  refine Tr.sliceArrHi 32 rfl rfl rfl rfl rfl dE dE Tryz.underlying28 Sz5 ?_
  refine Tr.copyP (bytesV (sg.take 32)) 32 rfl rfl rfl rfl rfl Tryz.underlying23 Sz5 (fun w h => sees_take (sees_own h (by exact mem2))) (fun e => by cases e) (by rw [bytesV, List.length_map]; exact ht32) rfl (by rw [bytesV, ← List.map_take, List.take_of_length_le (Nat.le_of_eq ht32)]) (bytesV_cell _) (by exact mem1) (by (simp; done)) (by exact upd_all ht32) (by exact upd1) ?_
  refine Tr.nil ?_
  refine at_n ?_
  refine Sat.seq ?_
  refine Sat.draw [(0, 0), (0, 1), (4, 2)] Mixed (by kernel_rfl) ?_
  refine Tr.sliceArr rfl rfl rfl Tryz.underlying32 Sz5 ?_
  refine Tr.sliceArrLo 32 rfl rfl rfl rfl rfl dE Tryz.underlying28 Sz5 ?_
  refine Tr.copyP (bytesV (sg.drop 32)) 32 rfl rfl rfl rfl rfl Tryz.underlying23 Sz5 (fun w h => sees_drop (sees_own h (by exact mem2))) (fun e => by cases e) (by rw [bytesV, List.length_map]; exact hd32) rfl (by rw [bytesV, ← List.map_take, List.take_of_length_le (Nat.le_of_eq hd32)]) (bytesV_cell _) (by exact mem0) (by (simp; done)) (by exact upd_all hd32) (by exact upd0) ?_
  refine Tr.nil ?_
  refine at_n ?_
  refine Sat.seq ?_
  refine Sat.region ?_
  refine Tr.loadAll rfl rfl rfl Tryz.underlying25 rfl Sz25 (by exact mem3) (by (simp [hk]; done)) ?_
  refine Tr.callV rfl rfl rfl rfl Body20 (r5_Read_none k hk h1) (fun _ _ => trivial) ?_
  refine Tr.move rfl rfl rfl ?_
  refine Tr.extract rfl rfl rfl rfl ?_
  refine Tr.extract rfl rfl rfl rfl ?_
  refine Tr.alloc (cs := Point.zero.cells) rfl Point.zr rfl ?_
  intro n9 hn9 hf9
  refine Tr.storeAll rfl rfl rfl rfl (Point.isCell (by exact Point.zero_ok)) Sz41 (Point.length (by exact Point.zero_ok)) (by exact mem0) (Point.length (by exact Point.zero_ok)) (by exact upd0) ?_
  refine Tr.assign rfl rfl rfl ?_
  refine Tr.nil ?_
  refine at_n ?_
  refine Sat.seq ?_
  refine Sat.region ?_
  refine Tr.loadAll rfl rfl rfl Tryz.underlying22 rfl Sz22 (by exact mem2) (by (simp [hsg]; done)) ?_
  refine Tr.callV rfl rfl rfl rfl Body20 (r5_Read_some (sg.take 32) R ht32 h2) (fun _ _ => trivial) ?_
  refine Tr.move rfl rfl rfl ?_
  refine Tr.extract rfl rfl rfl rfl ?_
  refine Tr.extract rfl rfl rfl rfl ?_
  refine Tr.alloc (cs := Point.zero.cells) rfl Point.zr rfl ?_
  intro n11 hn11 hf11
  refine Tr.storeAll rfl rfl rfl rfl (Point.isCell (by exact ptc_ok _)) Sz41 (Point.length (by exact ptc_ok _)) (by exact mem0) (Point.length (by exact Point.zero_ok)) (by exact upd0) ?_
  refine Tr.assign rfl rfl rfl ?_
  refine Tr.nil ?_
  refine at_n ?_
  refine Sat.seq ?_
  refine Sat.seq ?_
  refine Sat.region ?_
  refine Tr.move rfl rfl rfl ?_
  refine Tr.nei rfl rfl rfl rfl (show (!decide _) = true from congrArg not (decide_eq_false dE)) ?_
  refine Tr.move rfl rfl rfl ?_
  refine Tr.skp rfl rfl ?_
  refine Tr.skp rfl rfl ?_
  refine Tr.pick rfl rfl rfl rfl rfl rfl ?_
  refine Tr.move rfl rfl rfl ?_
  refine Tr.skp rfl rfl ?_
  refine Tr.skp rfl rfl ?_
  refine Tr.skp rfl rfl ?_
  refine Tr.pick rfl rfl rfl rfl rfl rfl ?_
  refine Tr.nil ?_
  refine at_n ?_
  refine Sat.cond_t rfl rfl ?_
  refine Sat.seq ?_
  refine Sat.region ?_
  refine Tr.assign rfl rfl rfl ?_
  refine Tr.nil ?_
  refine at_n ?_
  refine Sat.ret ?_
  refine at_r ?_
  refine en_r ?_
  refine ⟨_, [], res_tmp rfl rfl, sP, sP, ?_, rfl⟩
  rfl

set_option maxRecDepth 100000 in
set_option maxHeartbeats 8000000 in
theorem r6_Good_r (k : List UInt8) (hk : k.length = 32) (sb : Sl) (bb : List UInt8) (hbn : bb.length ≤ 80000) (sg : List UInt8) (hsg : sg.length = 64) (A : Pt Fp) (h1 : rdP k = some A) (h2 : rdP (sg.take 32) = none) : Meets Tryz.prog 14 [agg (bytesV k), sb.v, agg (bytesV sg)] [] (fun W => BytesAt W sb bb) (fun v out => v = .bool false ∧ out = []) := by
  intro W hW
  have hd32 : (sg.drop 32).length = 32 := by rw [List.length_drop, hsg]
  have ht32 : (sg.take 32).length = 32 := by rw [List.length_take, hsg]; rfl
  refine calls_of (hp0 := []) Tryz.func14 rfl 51 Tryz.ntmps14 rfl (HRep.nil _) ?_
  refine Sat.seq ?_
  refine Sat.region ?_
  refine Tr.boxA rfl rfl ?_
  intro n3 hn3 hf3
  refine Tr.boxA rfl rfl ?_
  intro n5 hn5 hf5
  refine Tr.assign rfl rfl rfl ?_
  refine Tr.nil ?_
  refine at_n ?_
  refine Sat.seq ?_
  refine Sat.region ?_
  refine Tr.alloc (cs := (bytesV (List.replicate 32 0))) rfl Zr22 rfl ?_
  intro n7 hn7 hf7
  refine Tr.nil ?_
  refine at_n ?_
  refine Sat.seq ?_
  refine Sat.region ?_
  refine Tr.alloc (cs := (bytesV (List.replicate 32 0))) rfl Zr32 rfl ?_
  intro n8 hn8 hf8
  refine Tr.nil ?_
  refine at_n ?_
  refine Sat.seq ?_
  refine Sat.draw [(0, 0), (0, 1), (4, 2)] Mixed (by kernel_rfl) ?_
  refine Tr.sliceArr rfl rfl rfl Tryz.underlying22 Sz5 ?_
  refine Tr.sliceArrHi 32 rfl rfl rfl rfl rfl dE dE Tryz.underlying28 Sz5 ?_
  refine Tr.copyP (bytesV (sg.take 32)) 32 rfl rfl rfl rfl rfl Tryz.underlying23 Sz5 (fun w h => sees_take (sees_own h (by exact mem2))) (fun e => by cases e) (by rw [bytesV, List.length_map]; exact ht32) rfl (by rw [bytesV, ← List.map_take, List.take_of_length_le (Nat.le_of_eq ht32)]) (bytesV_cell _) (by exact mem1) (by (simp; done)) (by exact upd_all ht32) (by exact upd1) ?_
  refine Tr.nil ?_
  refine at_n ?_
  refine Sat.seq ?_
  refine Sat.draw [(0, 0), (0, 1), (4, 2)] Mixed (by kernel_rfl) ?_
  refine Tr.sliceArr rfl rfl rfl Tryz.underlying32 Sz5 ?_
  refine Tr.sliceArrLo 32 rfl rfl rfl rfl rfl dE Tryz.underlying28 Sz5 ?_
  refine Tr.copyP (bytesV (sg.drop 32)) 32 rfl rfl rfl rfl rfl Tryz.underlying23 Sz5 (fun w h => sees_drop (sees_own h (by exact mem2))) (fun e => by cases e) (by rw [bytesV, List.length_map]; exact hd32) rfl (by rw [bytesV, ← List.map_take, List.take_of_length_le (Nat.le_of_eq hd32)]) (bytesV_cell _) (by exact mem0) (by (simp; done)) (by exact upd_all hd32) (by exact upd0) ?_
  refine Tr.nil ?_
  refine at_n ?_
  refine Sat.seq ?_
  refine Sat.region ?_
  refine Tr.loadAll rfl rfl rfl Tryz.underlying25 rfl Sz25 (by exact mem3) (by (simp [hk]; done)) ?_
  refine Tr.callV rfl rfl rfl rfl Body20 (r5_Read_some k A hk h1) (fun _ _ => trivial) ?_
  refine Tr.move rfl rfl rfl ?_
  refine Tr.extract rfl rfl rfl rfl ?_
  refine Tr.extract rfl rfl rfl rfl ?_
  refine Tr.alloc (cs := Point.zero.cells) rfl Point.zr rfl ?_
  intro n9 hn9 hf9
  refine Tr.storeAll rfl rfl rfl rfl (Point.isCell (by exact ptc_ok _)) Sz41 (Point.length (by exact ptc_ok _)) (by exact mem0) (Point.length (by exact Point.zero_ok)) (by exact upd0) ?_
  refine Tr.assign rfl rfl rfl ?_
  refine Tr.nil ?_
  refine at_n ?_
  refine Sat.seq ?_
  refine Sat.region ?_
  refine Tr.loadAll rfl rfl rfl Tryz.underlying22 rfl Sz22 (by exact mem2) (by (simp [hsg]; done)) ?_
  refine Tr.callV rfl rfl rfl rfl Body20 (r5_Read_none (sg.take 32) ht32 h2) (fun _ _ => trivial) ?_
  refine Tr.move rfl rfl rfl ?_
  refine Tr.extract rfl rfl rfl rfl ?_
  refine Tr.extract rfl rfl rfl rfl ?_
  refine Tr.alloc (cs := Point.zero.cells) rfl Point.zr rfl ?_
  intro n11 hn11 hf11
  refine Tr.storeAll rfl rfl rfl rfl (Point.isCell (by exact Point.zero_ok)) Sz41 (Point.length (by exact Point.zero_ok)) (by exact mem0) (Point.length (by exact Point.zero_ok)) (by exact upd0) ?_
  refine Tr.assign rfl rfl rfl ?_
  refine Tr.nil ?_
  refine at_n ?_
  refine Sat.seq ?_
  refine Sat.seq ?_
  refine Sat.region ?_
  refine Tr.move rfl rfl rfl ?_
  refine Tr.nei rfl rfl rfl rfl (show (!decide _) = false from congrArg not (decide_eq_true (rfl))) ?_
  refine Tr.move rfl rfl rfl ?_
  refine Tr.move rfl rfl rfl ?_
  refine Tr.nei rfl rfl rfl rfl (show (!decide _) = true from congrArg not (decide_eq_false dE)) ?_
  refine Tr.pick rfl rfl rfl rfl rfl rfl ?_
  refine Tr.move rfl rfl rfl ?_
  refine Tr.skp rfl rfl ?_
  refine Tr.skp rfl rfl ?_
  refine Tr.skp rfl rfl ?_
  refine Tr.pick rfl rfl rfl rfl rfl rfl ?_
  refine Tr.nil ?_
  refine at_n ?_
  refine Sat.cond_t rfl rfl ?_
  refine Sat.seq ?_
  refine Sat.region ?_
  refine Tr.assign rfl rfl rfl ?_
  refine Tr.nil ?_
  refine at_n ?_
  refine Sat.ret ?_
  refine at_r ?_
  refine en_r ?_
  refine ⟨_, [], res_tmp rfl rfl, sP, sP, ?_, rfl⟩
  rfl

set_option maxRecDepth 100000 in
set_option maxHeartbeats 8000000 in
theorem r6_Good_c (k : List UInt8) (hk : k.length = 32) (sb : Sl) (bb : List UInt8) (hbn : bb.length ≤ 80000) (sg : List UInt8) (hsg : sg.length = 64) (A R : Pt Fp) (h1 : rdP k = some A) (h2 : rdP (sg.take 32) = some R) (hc : ¬ le (sg.drop 32) < L) : Meets Tryz.prog 14 [agg (bytesV k), sb.v, agg (bytesV sg)] [] (fun W => BytesAt W sb bb) (fun v out => v = .bool false ∧ out = []) := by
  intro W hW
  have hd32 : (sg.drop 32).length = 32 := by rw [List.length_drop, hsg]
  have ht32 : (sg.take 32).length = 32 := by rw [List.length_take, hsg]; rfl
  have hcan := ref_canon (sg.drop 32) hd32
  rw [decide_eq_false hc] at hcan
  refine calls_of (hp0 := []) Tryz.func14 rfl 51 Tryz.ntmps14 rfl (HRep.nil _) ?_
  refine Sat.seq ?_
  refine Sat.region ?_
  refine Tr.boxA rfl rfl ?_
  intro n3 hn3 hf3
  refine Tr.boxA rfl rfl ?_
  intro n5 hn5 hf5
  refine Tr.assign rfl rfl rfl ?_
  refine Tr.nil ?_
  refine at_n ?_
  refine Sat.seq ?_
  refine Sat.region ?_
  refine Tr.alloc (cs := (bytesV (List.replicate 32 0))) rfl Zr22 rfl ?_
  intro n7 hn7 hf7
  refine Tr.nil ?_
  refine at_n ?_
  refine Sat.seq ?_
  refine Sat.region ?_
  refine Tr.alloc (cs := (bytesV (List.replicate 32 0))) rfl Zr32 rfl ?_
  intro n8 hn8 hf8
  refine Tr.nil ?_
  refine at_n ?_
  refine Sat.seq ?_
  refine Sat.draw [(0, 0), (0, 1), (4, 2)] Mixed (by kernel_rfl) ?_
  refine Tr.sliceArr rfl rfl rfl Tryz.underlying22 Sz5 ?_
  refine Tr.sliceArrHi 32 rfl rfl rfl rfl rfl dE dE Tryz.underlying28 Sz5 ?_
  refine Tr.copyP (bytesV (sg.take 32)) 32 rfl rfl rfl rfl rfl Tryz.underlying23 Sz5 (fun w h => sees_take (sees_own h (by exact mem2))) (fun e => by cases e) (by rw [bytesV, List.length_map]; exact ht32) rfl (by rw [bytesV, ← List.map_take, List.take_of_length_le (Nat.le_of_eq ht32)]) (bytesV_cell _) (by exact mem1) (by (simp; done)) (by exact upd_all ht32) (by exact upd1) ?_
  refine Tr.nil ?_
  refine at_n ?_
  refine Sat.seq ?_
  refine Sat.draw [(0, 0), (0, 1), (4, 2)] Mixed (by kernel_rfl) ?_
  refine Tr.sliceArr rfl rfl rfl Tryz.underlying32 Sz5 ?_
  refine Tr.sliceArrLo 32 rfl rfl rfl rfl rfl dE Tryz.underlying28 Sz5 ?_
  refine Tr.copyP (bytesV (sg.drop 32)) 32 rfl rfl rfl rfl rfl Tryz.underlying23 Sz5 (fun w h => sees_drop (sees_own h (by exact mem2))) (fun e => by cases e) (by rw [bytesV, List.length_map]; exact hd32) rfl (by rw [bytesV, ← List.map_take, List.take_of_length_le (Nat.le_of_eq hd32)]) (bytesV_cell _) (by exact mem0) (by (simp; done)) (by exact upd_all hd32) (by exact upd0) ?_
  refine Tr.nil ?_
  refine at_n ?_
  refine Sat.seq ?_
  refine Sat.region ?_
  refine Tr.loadAll rfl rfl rfl Tryz.underlying25 rfl Sz25 (by exact mem3) (by (simp [hk]; done)) ?_
  refine Tr.callV rfl rfl rfl rfl Body20 (r5_Read_some k A hk h1) (fun _ _ => trivial) ?_
  refine Tr.move rfl rfl rfl ?_
  refine Tr.extract rfl rfl rfl rfl ?_
  refine Tr.extract rfl rfl rfl rfl ?_
  refine Tr.alloc (cs := Point.zero.cells) rfl Point.zr rfl ?_
  intro n9 hn9 hf9
  refine Tr.storeAll rfl rfl rfl rfl (Point.isCell (by exact ptc_ok _)) Sz41 (Point.length (by exact ptc_ok _)) (by exact mem0) (Point.length (by exact Point.zero_ok)) (by exact upd0) ?_
  refine Tr.assign rfl rfl rfl ?_
  refine Tr.nil ?_
  refine at_n ?_
  refine Sat.seq ?_
  refine Sat.region ?_
  refine Tr.loadAll rfl rfl rfl Tryz.underlying22 rfl Sz22 (by exact mem2) (by (simp [hsg]; done)) ?_
  refine Tr.callV rfl rfl rfl rfl Body20 (r5_Read_some (sg.take 32) R ht32 h2) (fun _ _ => trivial) ?_
  refine Tr.move rfl rfl rfl ?_
  refine Tr.extract rfl rfl rfl rfl ?_
  refine Tr.extract rfl rfl rfl rfl ?_
  refine Tr.alloc (cs := Point.zero.cells) rfl Point.zr rfl ?_
  intro n11 hn11 hf11
  refine Tr.storeAll rfl rfl rfl rfl (Point.isCell (by exact ptc_ok _)) Sz41 (Point.length (by exact ptc_ok _)) (by exact mem0) (Point.length (by exact Point.zero_ok)) (by exact upd0) ?_
  refine Tr.assign rfl rfl rfl ?_
  refine Tr.nil ?_
  refine at_n ?_
  refine Sat.seq ?_
  refine Sat.seq ?_
  refine Sat.region ?_
  refine Tr.move rfl rfl rfl ?_
  refine Tr.nei rfl rfl rfl rfl (show (!decide _) = false from congrArg not (decide_eq_true (rfl))) ?_
  refine Tr.move rfl rfl rfl ?_
  refine Tr.move rfl rfl rfl ?_
  refine Tr.nei rfl rfl rfl rfl (show (!decide _) = false from congrArg not (decide_eq_true (rfl))) ?_
  refine Tr.pick rfl rfl rfl rfl rfl rfl ?_
  refine Tr.move rfl rfl rfl ?_
  refine Tr.loadAll rfl rfl rfl Tryz.underlying32 rfl Sz32 (by exact mem2) (by (simp [hsg]; done)) ?_
  refine Tr.callV rfl rfl rfl rfl Body40 (hcan) (fun _ _ => trivial) ?_
  refine Tr.not rfl rfl rfl ?_
  refine Tr.pick rfl rfl rfl rfl rfl rfl ?_
  refine Tr.nil ?_
  refine at_n ?_
  refine Sat.cond_t rfl rfl ?_
  refine Sat.seq ?_
  refine Sat.region ?_
  refine Tr.assign rfl rfl rfl ?_
  refine Tr.nil ?_
  refine at_n ?_
  refine Sat.ret ?_
  refine at_r ?_
  refine en_r ?_
  refine ⟨_, [], res_tmp rfl rfl, sP, sP, ?_, rfl⟩
  rfl

set_option maxRecDepth 100000 in
set_option maxHeartbeats 8000000 in
theorem r6_Good_ok (k : List UInt8) (hk : k.length = 32) (sb : Sl) (bb : List UInt8) (hbn : bb.length ≤ 80000) (sg : List UInt8) (hsg : sg.length = 64) (A R : Pt Fp) (h1 : rdP k = some A) (h2 : rdP (sg.take 32) = some R) (hc : le (sg.drop 32) < L) (s r : List UInt8) (hs : Hid (sha512 (sg.take 32 ++ (k ++ bb)) = s)) (hr : Hid (sgR s = r)) (hrl : r.length = 32) : Meets Tryz.prog 14 [agg (bytesV k), sb.v, agg (bytesV sg)] [] (fun W => BytesAt W sb bb) (fun v out => v = .bool (goodB k bb sg) ∧ out = []) := by
  intro W hW
  have hd32 : (sg.drop 32).length = 32 := by rw [List.length_drop, hsg]
  have ht32 : (sg.take 32).length = 32 := by rw [List.length_take, hsg]; rfl
  have hcan := ref_canon (sg.drop 32) hd32
  rw [decide_eq_true hc] at hcan
  have hA := rdP_on h1
  obtain ⟨Q, hQ⟩ : ∃ Q, cv.lin (le (sg.drop 32)) (le (sgR (sha512 (sg.take 32 ++ (k ++ bb))))) bP (neg A) = Q := ⟨_, rfl⟩
  have hmul := r5_Mul2 (sg.drop 32) r bP (neg A) hd32 hrl bP_on (cv.on_neg hA)
  rw [show cv.lin (le (sg.drop 32)) (le r) bP (neg A) = Q from by rw [← hr.out, ← hs.out]; exact hQ] at hmul
  have hch := r6_challenge (sg.take 32) k ht32 hk sb bb hbn s hs
  rw [hr.out] at hch
  refine calls_of (hp0 := []) Tryz.func14 rfl 51 Tryz.ntmps14 rfl (HRep.nil _) ?_
  refine Sat.seq ?_
  refine Sat.region ?_
  refine Tr.boxA rfl rfl ?_
  intro n3 hn3 hf3
  refine Tr.boxA rfl rfl ?_
  intro n5 hn5 hf5
  refine Tr.assign rfl rfl rfl ?_
  refine Tr.nil ?_
  refine at_n ?_
  refine Sat.seq ?_
  refine Sat.region ?_
  refine Tr.alloc (cs := (bytesV (List.replicate 32 0))) rfl Zr22 rfl ?_
  intro n7 hn7 hf7
  refine Tr.nil ?_
  refine at_n ?_
  refine Sat.seq ?_
  refine Sat.region ?_
  refine Tr.alloc (cs := (bytesV (List.replicate 32 0))) rfl Zr32 rfl ?_
  intro n8 hn8 hf8
  refine Tr.nil ?_
  refine at_n ?_
  refine Sat.seq ?_
  refine Sat.draw [(0, 0), (0, 1), (4, 2)] Mixed (by kernel_rfl) ?_
  refine Tr.sliceArr rfl rfl rfl Tryz.underlying22 Sz5 ?_
  refine Tr.sliceArrHi 32 rfl rfl rfl rfl rfl dE dE Tryz.underlying28 Sz5 ?_
  refine Tr.copyP (bytesV (sg.take 32)) 32 rfl rfl rfl rfl rfl Tryz.underlying23 Sz5 (fun w h => sees_take (sees_own h (by exact mem2))) (fun e => by cases e) (by rw [bytesV, List.length_map]; exact ht32) rfl (by rw [bytesV, ← List.map_take, List.take_of_length_le (Nat.le_of_eq ht32)]) (bytesV_cell _) (by exact mem1) (by (simp; done)) (by exact upd_all ht32) (by exact upd1) ?_
  refine Tr.nil ?_
  refine at_n ?_
  refine Sat.seq ?_
  refine Sat.draw [(0, 0), (0, 1), (4, 2)] Mixed (by kernel_rfl) ?_
  refine Tr.sliceArr rfl rfl rfl Tryz.underlying32 Sz5 ?_
  refine Tr.sliceArrLo 32 rfl rfl rfl rfl rfl dE Tryz.underlying28 Sz5 ?_
  refine Tr.copyP (bytesV (sg.drop 32)) 32 rfl rfl rfl rfl rfl Tryz.underlying23 Sz5 (fun w h => sees_drop (sees_own h (by exact mem2))) (fun e => by cases e) (by rw [bytesV, List.length_map]; exact hd32) rfl (by rw [bytesV, ← List.map_take, List.take_of_length_le (Nat.le_of_eq hd32)]) (bytesV_cell _) (by exact mem0) (by (simp; done)) (by exact upd_all hd32) (by exact upd0) ?_
  refine Tr.nil ?_
  refine at_n ?_
  refine Sat.seq ?_
  refine Sat.region ?_
  refine Tr.loadAll rfl rfl rfl Tryz.underlying25 rfl Sz25 (by exact mem3) (by (simp [hk]; done)) ?_
  refine Tr.callV rfl rfl rfl rfl Body20 (r5_Read_some k A hk h1) (fun _ _ => trivial) ?_
  refine Tr.move rfl rfl rfl ?_
  refine Tr.extract rfl rfl rfl rfl ?_
  refine Tr.extract rfl rfl rfl rfl ?_
  refine Tr.alloc (cs := Point.zero.cells) rfl Point.zr rfl ?_
  intro n9 hn9 hf9
  refine Tr.storeAll rfl rfl rfl rfl (Point.isCell (by exact ptc_ok _)) Sz41 (Point.length (by exact ptc_ok _)) (by exact mem0) (Point.length (by exact Point.zero_ok)) (by exact upd0) ?_
  refine Tr.assign rfl rfl rfl ?_
  refine Tr.nil ?_
  refine at_n ?_
  refine Sat.seq ?_
  refine Sat.region ?_
  refine Tr.loadAll rfl rfl rfl Tryz.underlying22 rfl Sz22 (by exact mem2) (by (simp [hsg]; done)) ?_
  refine Tr.callV rfl rfl rfl rfl Body20 (r5_Read_some (sg.take 32) R ht32 h2) (fun _ _ => trivial) ?_
  refine Tr.move rfl rfl rfl ?_
  refine Tr.extract rfl rfl rfl rfl ?_
  refine Tr.extract rfl rfl rfl rfl ?_
  refine Tr.alloc (cs := Point.zero.cells) rfl Point.zr rfl ?_
  intro n11 hn11 hf11
  refine Tr.storeAll rfl rfl rfl rfl (Point.isCell (by exact ptc_ok _)) Sz41 (Point.length (by exact ptc_ok _)) (by exact mem0) (Point.length (by exact Point.zero_ok)) (by exact upd0) ?_
  refine Tr.assign rfl rfl rfl ?_
  refine Tr.nil ?_
  refine at_n ?_
  refine Sat.seq ?_
  refine Sat.seq ?_
  refine Sat.region ?_
  refine Tr.move rfl rfl rfl ?_
  refine Tr.nei rfl rfl rfl rfl (show (!decide _) = false from congrArg not (decide_eq_true (rfl))) ?_
  refine Tr.move rfl rfl rfl ?_
  refine Tr.move rfl rfl rfl ?_
  refine Tr.nei rfl rfl rfl rfl (show (!decide _) = false from congrArg not (decide_eq_true (rfl))) ?_
  refine Tr.pick rfl rfl rfl rfl rfl rfl ?_
  refine Tr.move rfl rfl rfl ?_
  refine Tr.loadAll rfl rfl rfl Tryz.underlying32 rfl Sz32 (by exact mem2) (by (simp [hsg]; done)) ?_
  refine Tr.callV rfl rfl rfl rfl Body40 (hcan) (fun _ _ => trivial) ?_
  refine Tr.not rfl rfl rfl ?_
  refine Tr.pick rfl rfl rfl rfl rfl rfl ?_
  refine Tr.nil ?_
  refine at_n ?_
  refine Sat.cond_f rfl rfl ?_
  refine Sat.skip ?_
  refine at_n ?_
  refine Sat.seq ?_
  refine Sat.draw [(1, 0), (1, 2), (1, 3), (0, 4), (1, 6), (1, 9), (3, 1), (3, 5), (3, 7), (3, 8), (0, 10), (0, 11)] Mixed (by kernel_rfl) ?_
  refine Tr.loadAll rfl rfl rfl Tryz.underlying32 rfl Sz32 (by exact mem2) (by (simp [hsg]; done)) ?_
  refine Tr.loadAll rfl rfl rfl Tryz.underlying22 rfl Sz22 (by exact mem3) (by (simp [hsg]; done)) ?_
  refine Tr.loadAll rfl rfl rfl Tryz.underlying25 rfl Sz25 (by exact mem5) (by (simp [hk]; done)) ?_
  refine Tr.move rfl rfl rfl ?_
  refine Tr.loadAll rfl rfl rfl Tryz.underlying41 rfl Sz41 (by exact mem1) (Point.length (by exact ptc_ok _)) ?_
  refine Tr.loadAll rfl rfl rfl Tryz.underlying41 rfl Sz41 (by exact mem0) (Point.length (by exact ptc_ok _)) ?_
  refine Tr.callV rfl rfl rfl rfl Body18 (r5_Base) (fun _ _ => trivial) ?_
  refine Tr.callV rfl rfl rfl rfl Body33 (hch) (fun w h => bytes_ext h rfl hW) ?_
  refine Tr.callV rfl rfl rfl rfl Body22 (r5_Neg A hA) (fun _ _ => trivial) ?_
  refine Tr.callV rfl rfl rfl rfl Body41 (hmul) (fun _ _ => trivial) ?_
  refine Tr.eql_rec rfl rfl rfl rfl Point.eg (fun w => Point.eq_runC (ptc_ok _) (ptc_ok _) w) (good_dec hc h1 h2 hQ) ?_
  refine Tr.assign rfl rfl rfl ?_
  refine Tr.nil ?_
  refine at_n ?_
  refine Sat.ret ?_
  refine en_r ?_
  refine ⟨_, [], res_tmp rfl rfl, sP, sP, ?_, rfl⟩
  rfl

theorem r6_Good (k : List UInt8) (hk : k.length = 32) (sb : Sl) (bb : List UInt8) (hbn : bb.length ≤ 80000) (sg : List UInt8) (hsg : sg.length = 64) : Meets Tryz.prog 14 [agg (bytesV k), sb.v, agg (bytesV sg)] [] (fun W => BytesAt W sb bb) (fun v out => v = .bool (goodB k bb sg) ∧ out = []) := by
  cases h1 : rdP k with
  | none =>
    rw [good_no (fun e => by obtain ⟨_, ⟨A, h⟩, _⟩ := e; rw [h1] at h; cases h)]
    cases h2 : rdP (sg.take 32) with
    | none => exact r6_Good_kr k hk sb bb hbn sg hsg h1 h2
    | some R => exact r6_Good_k k hk sb bb hbn sg hsg R h1 h2
  | some A =>
    cases h2 : rdP (sg.take 32) with
    | none =>
      rw [good_no (fun e => by obtain ⟨_, _, ⟨R, h⟩⟩ := e; rw [h2] at h; cases h)]
      exact r6_Good_r k hk sb bb hbn sg hsg A h1 h2
    | some R =>
      by_cases hc : le (sg.drop 32) < L
      · exact r6_Good_ok k hk sb bb hbn sg hsg A R h1 h2 hc _ _ ⟨rfl⟩ ⟨rfl⟩ (sgR_length _)
      · rw [good_no (fun e => hc e.1)]
        exact r6_Good_c k hk sb bb hbn sg hsg A R h1 h2 hc

set_option maxRecDepth 100000 in
set_option maxHeartbeats 1000000 in
theorem r6_Valid_n (k : List UInt8) (hk : k.length = 32) (h : rdP k = none) : Meets Tryz.prog 26 [agg (bytesV k)] [] (fun _ => True) (fun v out => v = .bool false ∧ out = []) := by
  intro W hW
  refine calls_of (hp0 := []) Tryz.func26 rfl 17 Tryz.ntmps26 rfl (HRep.nil _) ?_
  refine Sat.seq ?_
  refine Sat.region ?_
  refine Tr.boxA rfl rfl ?_
  intro n1 hn1 hf1
  refine Tr.assign rfl rfl rfl ?_
  refine Tr.nil ?_
  refine at_n ?_
  refine Sat.seq ?_
  refine Sat.region ?_
  refine Tr.loadAll rfl rfl rfl Tryz.underlying25 rfl Sz25 (by exact mem0) (by (simp [hk]; done)) ?_
  refine Tr.callV rfl rfl rfl rfl Body20 (r5_Read_none k hk h) (fun _ _ => trivial) ?_
  refine Tr.move rfl rfl rfl ?_
  refine Tr.extract rfl rfl rfl rfl ?_
  refine Tr.extract rfl rfl rfl rfl ?_
  refine Tr.alloc (cs := Point.zero.cells) rfl Point.zr rfl ?_
  intro n3 hn3 hf3
  refine Tr.storeAll rfl rfl rfl rfl (Point.isCell (by exact Point.zero_ok)) Sz41 (Point.length (by exact Point.zero_ok)) (by exact mem0) (Point.length (by exact Point.zero_ok)) (by exact upd0) ?_
  refine Tr.assign rfl rfl rfl ?_
  refine Tr.nil ?_
  refine at_n ?_
  refine Sat.seq ?_
  refine Sat.region ?_
  refine Tr.move rfl rfl rfl ?_
  refine Tr.eqi rfl rfl rfl rfl (decide_eq_false dE) ?_
  refine Tr.move rfl rfl rfl ?_
  refine Tr.skp rfl rfl ?_
  refine Tr.skp rfl rfl ?_
  refine Tr.skp rfl rfl ?_
  refine Tr.pick rfl rfl rfl rfl rfl rfl ?_
  refine Tr.assign rfl rfl rfl ?_
  refine Tr.nil ?_
  refine at_n ?_
  refine Sat.ret ?_
  refine en_r ?_
  refine ⟨_, [], res_tmp rfl rfl, sP, sP, ?_, rfl⟩
  rfl

set_option maxRecDepth 100000 in
set_option maxHeartbeats 1000000 in
theorem r6_Valid_s (k : List UInt8) (hk : k.length = 32) (P : Pt Fp) (h : rdP k = some P) : Meets Tryz.prog 26 [agg (bytesV k)] [] (fun _ => True) (fun v out => v = .bool (!smallB P) ∧ out = []) := by
  intro W hW
  refine calls_of (hp0 := []) Tryz.func26 rfl 17 Tryz.ntmps26 rfl (HRep.nil _) ?_
  refine Sat.seq ?_
  refine Sat.region ?_
  refine Tr.boxA rfl rfl ?_
  intro n1 hn1 hf1
  refine Tr.assign rfl rfl rfl ?_
  refine Tr.nil ?_
  refine at_n ?_
  refine Sat.seq ?_
  refine Sat.region ?_
  refine Tr.loadAll rfl rfl rfl Tryz.underlying25 rfl Sz25 (by exact mem0) (by (simp [hk]; done)) ?_
  refine Tr.callV rfl rfl rfl rfl Body20 (r5_Read_some k P hk h) (fun _ _ => trivial) ?_
  refine Tr.move rfl rfl rfl ?_
  refine Tr.extract rfl rfl rfl rfl ?_
  refine Tr.extract rfl rfl rfl rfl ?_
  refine Tr.alloc (cs := Point.zero.cells) rfl Point.zr rfl ?_
  intro n3 hn3 hf3
  refine Tr.storeAll rfl rfl rfl rfl (Point.isCell (by exact ptc_ok _)) Sz41 (Point.length (by exact ptc_ok _)) (by exact mem0) (Point.length (by exact Point.zero_ok)) (by exact upd0) ?_
  refine Tr.assign rfl rfl rfl ?_
  refine Tr.nil ?_
  refine at_n ?_
  refine Sat.seq ?_
  refine Sat.region ?_
  refine Tr.move rfl rfl rfl ?_
  refine Tr.eqi rfl rfl rfl rfl (decide_eq_true (rfl)) ?_
  refine Tr.move rfl rfl rfl ?_
  refine Tr.loadAll rfl rfl rfl Tryz.underlying41 rfl Sz41 (by exact mem0) (Point.length (by exact ptc_ok _)) ?_
  refine Tr.callV rfl rfl rfl rfl Body60 (r5_Small P (rdP_on h)) (fun _ _ => trivial) ?_
  refine Tr.not rfl rfl rfl ?_
  refine Tr.pick rfl rfl rfl rfl rfl rfl ?_
  refine Tr.assign rfl rfl rfl ?_
  refine Tr.nil ?_
  refine at_n ?_
  refine Sat.ret ?_
  refine en_r ?_
  refine ⟨_, [], res_tmp rfl rfl, sP, sP, ?_, rfl⟩
  rfl

theorem r6_Valid (k : List UInt8) (hk : k.length = 32) : Meets Tryz.prog 26 [agg (bytesV k)] [] (fun _ => True) (fun v out => v = .bool (validB k) ∧ out = []) := by
  unfold validB
  cases h : rdP k with
  | none => exact r6_Valid_n k hk h
  | some P => exact r6_Valid_s k hk P h

end Go.Proofs.YtmddgelpllffoaaGreat
end

section
namespace Go.Proofs.YtmddgelpllffoaaGreat
open Go Hw
set_option linter.unusedVariables false
set_option linter.unusedSimpArgs false

open Ed

theorem take_cat {a b : List UInt8} (h : a.length = 32) : (bytesV (a ++ b)).take 32 = bytesV a := by
  rw [bytesV, List.map_append, List.take_left' (by rw [List.length_map]; exact h)]
theorem drop_cat {a b : List UInt8} (h : a.length = 32) (hb : b.length = 32) : ((bytesV (a ++ b)).drop 32).take 32 = bytesV b := by
  rw [bytesV, List.map_append, List.drop_left' (by rw [List.length_map]; exact h), List.take_of_length_le (by rw [List.length_map]; omega)]
theorem own_bytes {W : World} {q n c : Nat} {l : List UInt8} (hs : SeesP W (some ⟨q, 0, none⟩) (bytesV l)) (hl : l.length = n) (hc : n ≤ c) (hm : n ≤ maxLen) : BytesAt W ⟨some ⟨q, 0, none⟩, n, c⟩ l := ⟨hl, hc, hs, hm, fun e => by cases e⟩

theorem clamp_31 {l : List UInt8} (h : l.length = 32) : (clampB l).getD 31 0 = (l.getD 31 0 &&& 127) ||| 64 := by
  rw [clampB, List.getD_eq_getElem?_getD, List.getElem?_set_self (by rw [List.length_set]; omega)]; rfl
theorem clamp_0 {l : List UInt8} (h : l.length = 32) : (clampB l).getD 0 0 = l.getD 0 0 &&& 248 := by
  rw [clampB, List.getD_eq_getElem?_getD, List.getElem?_set_ne dE, List.getElem?_set_self oM]; rfl
theorem clamp_top {l : List UInt8} (h : l.length = 32) : ((shr8 ((clampB l).getD 31 0) 6).toNat : Int) = 1 := by
  have h1 := clamp_hi (l.getD 31 0)
  rw [clamp_31 h, shr8_toNat]
  omega
theorem clamp_low {l : List UInt8} (h : l.length = 32) : ((UInt8.ofNat (((clampB l).getD 0 0).toNat % 8)).toNat : Int) = 0 := by
  rw [clamp_0 h, clamp_lo]; rfl

set_option maxRecDepth 100000 in
set_option maxHeartbeats 1000000 in
theorem law_signapart_long (a b : List UInt8) (ha : a.length = 32) (hb : b.length = 32) (sb : Sl) (bb : List UInt8) (hn : 1000 < sb.n) : Meets Tryz.prog 4 [agg (bytesV a), agg (bytesV b), sb.v] [] (fun W => BytesAt W sb bb) (fun v out => v = .bool true ∧ out = []) := by
  intro W hW
  refine calls_of (hp0 := []) Tryz.func4 rfl 127 Tryz.ntmps4 rfl (HRep.nil _) ?_
  refine Sat.seq ?_
  refine Sat.region ?_
  refine Tr.boxA rfl rfl ?_
  intro n3 hn3 hf3
  refine Tr.boxA rfl rfl ?_
  intro n4 hn4 hf4
  refine Tr.assign rfl rfl rfl ?_
  refine Tr.nil ?_
  refine at_n ?_
  refine Sat.seq ?_
  refine Sat.seq ?_
  refine Sat.region ?_
  refine Tr.callV rfl rfl rfl rfl Body7 (law06_lives) (fun _ _ => trivial) ?_
  refine Tr.not rfl rfl rfl ?_
  refine Tr.nil ?_
  refine at_n ?_
  refine Sat.cond_f rfl (rfl) ?_
  refine Sat.skip ?_
  refine at_n ?_
  refine Sat.seq ?_
  refine Sat.seq ?_
  refine Sat.region ?_
  refine Tr.move rfl rfl rfl ?_
  refine Tr.lenSl rfl rfl rfl Tryz.underlying23 ?_
  refine Tr.gtr rfl rfl rfl rfl rfl ?_
  refine Tr.nil ?_
  refine at_n ?_
  refine Sat.cond_t rfl (decide_eq_true oM) ?_
  refine Sat.seq ?_
  refine Sat.region ?_
  refine Tr.assign rfl rfl rfl ?_
  refine Tr.nil ?_
  refine at_n ?_
  refine Sat.ret ?_
  refine at_r ?_
  refine en_r ?_
  refine ⟨_, [], res_tmp rfl rfl, sP, sP, ?_, rfl⟩
  rfl

set_option maxRecDepth 100000 in
set_option maxHeartbeats 8000000 in
theorem law_signapart (a b : List UInt8) (ha : a.length = 32) (hb : b.length = 32) (sb : Sl) (bb : List UInt8) (hn : sb.n ≤ 1000) (hbl : bb.length = sb.n) : Meets Tryz.prog 4 [agg (bytesV a), agg (bytesV b), sb.v] [] (fun W => BytesAt W sb bb) (fun v out => v = .bool true ∧ out = []) := by
  intro W hW
  obtain ⟨s, hs⟩ : ∃ s, Hid (sha512 a = s) := ⟨_, ⟨rfl⟩⟩
  obtain ⟨u, hu⟩ : ∃ s, Hid (sha512 b = s) := ⟨_, ⟨rfl⟩⟩
  have hs64 : s.length = 64 := by rw [← hs.out]; exact sha512_length a
  have hu64 : u.length = 64 := by rw [← hu.out]; exact sha512_length b
  obtain ⟨s1, hs1⟩ : ∃ s1, Hid (sha512 (s.drop 32 ++ bb) = s1) := ⟨_, ⟨rfl⟩⟩
  obtain ⟨s2, hs2⟩ : ∃ s2, Hid (sha512 (sgF s1 ++ (sgK s ++ bb)) = s2) := ⟨_, ⟨rfl⟩⟩
  have hbb : bb.length ≤ 80000 := by omega
  have t1 : (s.take 32).length = 32 := by rw [List.length_take, hs64]; rfl
  have t2 : (u.take 32).length = 32 := by rw [List.length_take, hu64]; rfl
  have hkk : a = b → sgK s = sgK u := fun e => by rw [← hs.out, ← hu.out, e]
  have lN := clampB_length t1
  have lO := clampB_length t2
  have h31 := clamp_top t1
  have h00 := clamp_low t1
  have lF := sgF_length s1
  have lS := sgS_length s s1 s2
  have cS := sign_Sign a ha sb bb hbb s s1 s2 hs hs1 hs2
  have cKa : Meets Tryz.prog 23 [agg (bytesV a)] [] (fun _ => True) (fun v out => v = agg (bytesV (sgK s)) ∧ out = []) := sign_Key a ha s hs
  have cKb : Meets Tryz.prog 23 [agg (bytesV b)] [] (fun _ => True) (fun v out => v = agg (bytesV (sgK u)) ∧ out = []) := sign_Key b hb u hu
  have cNa := sign_Secret a ha s hs
  have cNb := sign_Secret b hb u hu
  obtain ⟨Q1, hQ1⟩ : ∃ Q, cv.mul (le (clampB (s.take 32))) bP = Q := ⟨_, rfl⟩
  obtain ⟨Q2, hQ2⟩ : ∃ Q, cv.mul (le (clampB (u.take 32))) bP = Q := ⟨_, rfl⟩
  have k1 := r6_KeyQ _ lN Q1 hQ1
  have k2 := r6_KeyQ _ lO Q2 hQ2
  have hK1 : sgK s = pb Q1 := by rw [sgK, hQ1]
  have hK2 : sgK u = pb Q2 := by rw [sgK, hQ2]
  rw [hK1] at cKa hkk
  rw [hK2] at cKb hkk
  obtain ⟨P, hP⟩ : ∃ Q, cv.mul (le (sgR s1)) bP = Q := ⟨_, rfl⟩
  have hPo : cv.on P := by rw [← hP]; exact cv.on_mul bP_on _
  have cR := r5_Read (sgF s1) (sgF_length s1)
  rw [rdV_some (sgF_read s1), hP] at cR
  obtain ⟨E, hE⟩ : ∃ Q, cv.mul (le (sgS s s1 s2)) bP = Q := ⟨_, rfl⟩
  have k3 := r6_KeyQ _ lS E hE
  clear hQ1 hQ2 hK1 hK2 hP hE
  obtain ⟨o1, m1⟩ := k1
  obtain ⟨o2, m2⟩ := k2
  obtain ⟨o3, m3⟩ := k3
  have cR1 := r5_Read (pb Q1) (pb_length Q1)
  rw [rdV_some (rdP_pb o1)] at cR1
  revert lN lO h31 h00 lF lS cS cNa cNb cR m1 m2 m3
  generalize clampB (s.take 32) = N
  generalize clampB (u.take 32) = O
  generalize sgS s s1 s2 = S3
  generalize sgF s1 = F
  intro lN lO h31 h00 lF lS cS cNa cNb cR m1 m2 m3
  have oE := cv.on_neg hPo
  have oR := cv.on_add o3 oE
  have cNeg := r5_Neg P hPo
  have cAdd := r5_Add E (neg P) o3 oE
  have cChk := r5_Check _ oR
  revert cNeg cAdd cChk
  clear oR oE
  generalize cv.add E (neg P) = RR
  generalize neg P = NP
  intro cNeg cAdd cChk
  have cB1 := r5_Bytes Q1 o1
  have cB2 := r5_Bytes Q2 o2
  have lP1 := pb_length Q1
  have lP2 := pb_length Q2
  revert cKa cKb hkk cR1 cB1 cB2 lP1 lP2
  generalize pb Q1 = p1
  generalize pb Q2 = p2
  intro cKa hkk cKb cR1 cB1 cB2 lP1 lP2
  refine calls_of (hp0 := []) Tryz.func4 rfl 127 Tryz.ntmps4 rfl (HRep.nil _) ?_
  refine Sat.seq ?_
  refine Sat.region ?_
  refine Tr.boxA rfl rfl ?_
  intro n3 hn3 hf3
  refine Tr.boxA rfl rfl ?_
  intro n4 hn4 hf4
  refine Tr.assign rfl rfl rfl ?_
  refine Tr.nil ?_
  refine at_n ?_
  refine Sat.seq ?_
  refine Sat.seq ?_
  refine Sat.region ?_
  refine Tr.callV rfl rfl rfl rfl Body7 (law06_lives) (fun _ _ => trivial) ?_
  refine Tr.not rfl rfl rfl ?_
  refine Tr.nil ?_
  refine at_n ?_
  refine Sat.cond_f rfl (rfl) ?_
  refine Sat.skip ?_
  refine at_n ?_
  refine Sat.seq ?_
  refine Sat.seq ?_
  refine Sat.region ?_
  refine Tr.move rfl rfl rfl ?_
  refine Tr.lenSl rfl rfl rfl Tryz.underlying23 ?_
  refine Tr.gtr rfl rfl rfl rfl (decide_eq_false oM) ?_
  refine Tr.nil ?_
  refine at_n ?_
  refine Sat.cond_f rfl rfl ?_
  refine Sat.skip ?_
  refine at_n ?_
  refine Sat.seq ?_
  refine Sat.draw [(1, 0), (1, 2), (3, 1), (3, 3), (2, 4), (2, 5), (4, 6), (4, 7)] Mixed (by kernel_rfl) ?_
  refine Tr.loadAll rfl rfl rfl Tryz.underlying22 rfl Sz22 (by exact mem1) (by (simp [ha]; done)) ?_
  refine Tr.loadAll rfl rfl rfl Tryz.underlying22 rfl Sz22 (by exact mem0) (by (simp [hb]; done)) ?_
  refine Tr.callV rfl rfl rfl rfl Body15 (cNa) (fun _ _ => trivial) ?_
  refine Tr.callV rfl rfl rfl rfl Body15 (cNb) (fun _ _ => trivial) ?_
  refine Tr.alloc (cs := (bytesV (List.replicate 32 0))) rfl Zr32 rfl ?_
  intro n7 hn7 hf7
  refine Tr.alloc (cs := (bytesV (List.replicate 32 0))) rfl Zr32 rfl ?_
  intro n8 hn8 hf8
  refine Tr.storeAll rfl rfl rfl rfl (by exact bytesV_cell _) Sz32 (by (simp [lN]; done)) (by exact mem1) (by (simp; done)) (by exact upd1) ?_
  refine Tr.storeAll rfl rfl rfl rfl (by exact bytesV_cell _) Sz32 (by (simp [lO]; done)) (by exact mem0) (by (simp; done)) (by exact upd0) ?_
  refine Tr.nil ?_
  refine at_n ?_
  refine Sat.seq ?_
  refine Sat.draw [(1, 0), (3, 1), (3, 2), (3, 3), (0, 4), (0, 5), (0, 6), (2, 7), (4, 8), (0, 9)] Mixed (by kernel_rfl) ?_
  refine Tr.loadAll rfl rfl rfl Tryz.underlying32 rfl Sz32 (by exact mem1) (by (simp [lN]; done)) ?_
  refine Tr.callV rfl rfl rfl rfl Body18 (r5_Base) (fun _ _ => trivial) ?_
  refine Tr.callV rfl rfl rfl rfl Body17 (m1) (fun _ _ => trivial) ?_
  refine Tr.callV rfl rfl rfl rfl Body16 (cB1) (fun _ _ => trivial) ?_
  refine Tr.move rfl rfl rfl ?_
  refine Tr.extract rfl rfl rfl rfl ?_
  refine Tr.extract rfl rfl rfl rfl ?_
  refine Tr.alloc (cs := (bytesV (List.replicate 32 0))) rfl Zr22 rfl ?_
  intro n9 hn9 hf9
  refine Tr.storeAll rfl rfl rfl rfl (by exact bytesV_cell _) Sz22 (by (simp [lP1]; done)) (by exact mem0) (by (simp; done)) (by exact upd0) ?_
  refine Tr.assign rfl rfl rfl ?_
  refine Tr.nil ?_
  refine at_n ?_
  refine Sat.seq ?_
  refine Sat.draw [(1, 0), (3, 1), (3, 2), (3, 3), (0, 4), (0, 5), (0, 6), (2, 7), (4, 8), (0, 9)] Mixed (by kernel_rfl) ?_
  refine Tr.loadAll rfl rfl rfl Tryz.underlying32 rfl Sz32 (by exact mem1) (by (simp [lO]; done)) ?_
  refine Tr.callV rfl rfl rfl rfl Body18 (r5_Base) (fun _ _ => trivial) ?_
  refine Tr.callV rfl rfl rfl rfl Body17 (m2) (fun _ _ => trivial) ?_
  refine Tr.callV rfl rfl rfl rfl Body16 (cB2) (fun _ _ => trivial) ?_
  refine Tr.move rfl rfl rfl ?_
  refine Tr.extract rfl rfl rfl rfl ?_
  refine Tr.extract rfl rfl rfl rfl ?_
  refine Tr.alloc (cs := (bytesV (List.replicate 32 0))) rfl Zr22 rfl ?_
  intro n11 hn11 hf11
  refine Tr.storeAll rfl rfl rfl rfl (by exact bytesV_cell _) Sz22 (by (simp [lP2]; done)) (by exact mem0) (by (simp; done)) (by exact upd0) ?_
  refine Tr.assign rfl rfl rfl ?_
  refine Tr.nil ?_
  refine at_n ?_
  refine Sat.seq ?_
  refine Sat.region ?_
  refine Tr.loadAll rfl rfl rfl Tryz.underlying22 rfl Sz22 (by exact mem5) (by (simp [ha]; done)) ?_
  refine Tr.move rfl rfl rfl ?_
  refine Tr.callV rfl rfl rfl rfl Body19 (cS) (fun w h => bytes_ext h rfl hW) ?_
  refine Tr.alloc (cs := (bytesV (List.replicate 64 0))) rfl Zr28 rfl ?_
  intro n13 hn13 hf13
  refine Tr.storeAll rfl rfl rfl rfl (by exact bytesV_cell _) Sz28 (by (simp [lF, lS]; done)) (by exact mem0) (by (simp; done)) (by exact upd0) ?_
  refine Tr.nil ?_
  refine at_n ?_
  refine Sat.seq ?_
  refine Sat.region ?_
  refine Tr.sliceArrHi 32 rfl rfl rfl rfl rfl dE dE Tryz.underlying28 Sz5 ?_
  refine Tr.s2a rfl rfl rfl Tryz.underlying22 oM ?_
  refine Tr.loadN (bytesV F) rfl rfl rfl Tryz.underlying22 rfl Sz22 (by exact mem0) (by rw [List.drop_zero]; exact take_cat lF) (by rw [bytesV, List.length_map]; exact lF) ?_
  refine Tr.callV rfl rfl rfl rfl Body20 (cR) (fun _ _ => trivial) ?_
  refine Tr.move rfl rfl rfl ?_
  refine Tr.extract rfl rfl rfl rfl ?_
  refine Tr.extract rfl rfl rfl rfl ?_
  refine Tr.alloc (cs := Point.zero.cells) rfl Point.zr rfl ?_
  intro n14 hn14 hf14
  refine Tr.storeAll rfl rfl rfl rfl (Point.isCell (by exact ptc_ok _)) Sz41 (Point.length (by exact ptc_ok _)) (by exact mem0) (Point.length (by exact Point.zero_ok)) (by exact upd0) ?_
  refine Tr.assign rfl rfl rfl ?_
  refine Tr.nil ?_
  refine at_n ?_
  refine Sat.seq ?_
  refine Sat.region ?_
  refine Tr.loadAll rfl rfl rfl Tryz.underlying22 rfl Sz22 (by exact mem3) (by (simp [lP1]; done)) ?_
  refine Tr.callV rfl rfl rfl rfl Body20 (cR1) (fun _ _ => trivial) ?_
  refine Tr.move rfl rfl rfl ?_
  refine Tr.extract rfl rfl rfl rfl ?_
  refine Tr.extract rfl rfl rfl rfl ?_
  refine Tr.alloc (cs := Point.zero.cells) rfl Point.zr rfl ?_
  intro n16 hn16 hf16
  refine Tr.storeAll rfl rfl rfl rfl (Point.isCell (by exact ptc_ok _)) Sz41 (Point.length (by exact ptc_ok _)) (by exact mem0) (Point.length (by exact Point.zero_ok)) (by exact upd0) ?_
  refine Tr.assign rfl rfl rfl ?_
  refine Tr.nil ?_
  refine at_n ?_
  refine Sat.seq ?_
  refine Sat.draw [(0, 0), (0, 1), (1, 2), (3, 3), (3, 4), (2, 5), (4, 6)] Mixed (by kernel_rfl) ?_
  refine Tr.sliceArrLo 32 rfl rfl rfl rfl rfl dE Tryz.underlying28 Sz5 ?_
  refine Tr.s2a rfl rfl rfl Tryz.underlying32 oM ?_
  refine Tr.loadN (bytesV S3) rfl rfl rfl Tryz.underlying32 rfl Sz32 (by exact mem2) (drop_cat lF lS) (by rw [bytesV, List.length_map]; exact lS) ?_
  refine Tr.callV rfl rfl rfl rfl Body18 (r5_Base) (fun _ _ => trivial) ?_
  refine Tr.callV rfl rfl rfl rfl Body17 (m3) (fun _ _ => trivial) ?_
  refine Tr.alloc (cs := Point.zero.cells) rfl Point.zr rfl ?_
  intro n18 hn18 hf18
  refine Tr.storeAll rfl rfl rfl rfl (Point.isCell (by exact ptc_ok _)) Sz41 (Point.length (by exact ptc_ok _)) (by exact mem0) (Point.length (by exact Point.zero_ok)) (by exact upd0) ?_
  refine Tr.nil ?_
  refine at_n ?_
  refine Sat.seq ?_
  refine Sat.draw [(1, 0), (1, 1), (3, 2), (3, 3), (2, 4), (4, 5)] Mixed (by kernel_rfl) ?_
  refine Tr.loadAll rfl rfl rfl Tryz.underlying41 rfl Sz41 (by exact mem0) (Point.length (by exact ptc_ok _)) ?_
  refine Tr.loadAll rfl rfl rfl Tryz.underlying41 rfl Sz41 (by exact mem2) (Point.length (by exact ptc_ok _)) ?_
  refine Tr.callV rfl rfl rfl rfl Body22 (cNeg) (fun _ _ => trivial) ?_
  refine Tr.callV rfl rfl rfl rfl Body21 (cAdd) (fun _ _ => trivial) ?_
  refine Tr.alloc (cs := Point.zero.cells) rfl Point.zr rfl ?_
  intro n19 hn19 hf19
  refine Tr.storeAll rfl rfl rfl rfl (Point.isCell (by exact ptc_ok _)) Sz41 (Point.length (by exact ptc_ok _)) (by exact mem0) (Point.length (by exact Point.zero_ok)) (by exact upd0) ?_
  refine Tr.nil ?_
  refine at_n ?_
  refine Sat.seq ?_
  refine Sat.draw [(0, 0), (0, 1), (0, 2), (0, 3), (0, 4), (0, 5), (0, 6), (0, 7), (0, 8), (0, 9), (0, 10), (0, 11), (0, 12), (0, 13), (0, 14), (1, 15), (1, 17), (3, 16), (0, 18), (0, 19), (0, 20), (1, 21), (1, 23), (3, 22), (0, 24), (0, 25), (0, 26), (0, 27), (1, 28), (0, 29), (0, 30), (0, 31), (0, 32), (0, 33), (1, 34), (0, 35), (0, 36), (0, 37), (0, 38), (1, 39), (1, 40), (0, 41), (0, 42), (1, 43), (1, 45), (3, 44), (3, 46), (0, 47), (0, 48), (0, 49), (0, 50), (1, 51), (3, 52), (0, 53), (0, 54), (0, 55), (1, 56), (3, 57), (0, 58), (0, 59), (0, 60)] Mixed (by kernel_rfl) ?_
  refine Tr.move rfl rfl rfl ?_
  refine Tr.eqi rfl rfl rfl rfl (decide_eq_true (rfl)) ?_
  refine Tr.move rfl rfl rfl ?_
  refine Tr.move rfl rfl rfl ?_
  refine Tr.eqi rfl rfl rfl rfl (decide_eq_true (rfl)) ?_
  refine Tr.pick rfl rfl rfl rfl rfl rfl ?_
  refine Tr.move rfl rfl rfl ?_
  refine Tr.move rfl rfl rfl ?_
  refine Tr.eqi rfl rfl rfl rfl (decide_eq_true (rfl)) ?_
  refine Tr.pick rfl rfl rfl rfl rfl rfl ?_
  refine Tr.move rfl rfl rfl ?_
  refine Tr.move rfl rfl rfl ?_
  refine Tr.eqi rfl rfl rfl rfl (decide_eq_true (rfl)) ?_
  refine Tr.pick rfl rfl rfl rfl rfl rfl ?_
  refine Tr.move rfl rfl rfl ?_
  refine Tr.loadAll rfl rfl rfl Tryz.underlying22 rfl Sz22 (by (repeat (first | exact List.mem_cons_self | refine List.mem_cons_of_mem _ ?_))) (by (simp [ha]; done)) ?_
  refine Tr.loadAll rfl rfl rfl Tryz.underlying22 rfl Sz22 (by exact mem6) (by (simp [lP1]; done)) ?_
  refine Tr.callV rfl rfl rfl rfl Body23 (cKa) (fun _ _ => trivial) ?_
  refine Tr.eql_bytes rfl rfl rfl rfl Tryz.eqGuardType25 Tryz.underlying25 Tryz.underlying5 Sz5 (by (simp [lP1]; done)) (by (simp [lP1]; done)) (decide_eq_true (rfl)) ?_
  refine Tr.pick rfl rfl rfl rfl rfl rfl ?_
  refine Tr.move rfl rfl rfl ?_
  refine Tr.loadAll rfl rfl rfl Tryz.underlying22 rfl Sz22 (by (repeat (first | exact List.mem_cons_self | refine List.mem_cons_of_mem _ ?_))) (by (simp [hb]; done)) ?_
  refine Tr.loadAll rfl rfl rfl Tryz.underlying22 rfl Sz22 (by exact mem5) (by (simp [lP2]; done)) ?_
  refine Tr.callV rfl rfl rfl rfl Body23 (cKb) (fun _ _ => trivial) ?_
  refine Tr.eql_bytes rfl rfl rfl rfl Tryz.eqGuardType25 Tryz.underlying25 Tryz.underlying5 Sz5 (by (simp [lP2]; done)) (by (simp [lP2]; done)) (decide_eq_true (rfl)) ?_
  refine Tr.pick rfl rfl rfl rfl rfl rfl ?_
  refine Tr.move rfl rfl rfl ?_
  refine Tr.idxArr1 rfl rfl rfl rfl Tryz.underlying32 Sz5 31 rfl dE ?_
  refine Tr.load1 rfl rfl rfl Tryz.underlying5 rfl (by (repeat (first | exact List.mem_cons_self | refine List.mem_cons_of_mem _ ?_))) (by exact get_bytes oM) ?_
  refine Tr.shr_u8 rfl rfl rfl rfl 6 rfl dE ?_
  refine Tr.eqi rfl rfl rfl rfl (decide_eq_true (h31)) ?_
  refine Tr.pick rfl rfl rfl rfl rfl rfl ?_
  refine Tr.move rfl rfl rfl ?_
  refine Tr.idxArr1 rfl rfl rfl rfl Tryz.underlying32 Sz5 0 rfl dE ?_
  refine Tr.load1 rfl rfl rfl Tryz.underlying5 rfl (by (repeat (first | exact List.mem_cons_self | refine List.mem_cons_of_mem _ ?_))) (by exact get_bytes oM) ?_
  refine Tr.rem_u8 rfl rfl rfl rfl 8 rfl dE ?_
  refine Tr.eqi rfl rfl rfl rfl (decide_eq_true (h00)) ?_
  refine Tr.pick rfl rfl rfl rfl rfl rfl ?_
  refine Tr.move rfl rfl rfl ?_
  refine Tr.loadAll rfl rfl rfl Tryz.underlying22 rfl Sz22 (by (repeat (first | exact List.mem_cons_self | refine List.mem_cons_of_mem _ ?_))) (by (simp [ha]; done)) ?_
  refine Tr.loadAll rfl rfl rfl Tryz.underlying22 rfl Sz22 (by (repeat (first | exact List.mem_cons_self | refine List.mem_cons_of_mem _ ?_))) (by (simp [hb]; done)) ?_
  refine two (fun r hr k => Tr.neq_bytes rfl rfl rfl rfl Tryz.eqGuardType22 Tryz.underlying22 Tryz.underlying5 Sz5 (by (simp [ha]; done)) (by (simp [hb]; done)) hr k) (fun hs13_410 => ?_) (fun hs13_410 => ?_)
  ·
    have hs13_41 := nd_t hs13_410
    refine Tr.move rfl rfl rfl ?_
    refine Tr.skp rfl rfl ?_
    refine Tr.skp rfl rfl ?_
    refine Tr.skp rfl rfl ?_
    refine Tr.skp rfl rfl ?_
    refine Tr.skp rfl rfl ?_
    refine Tr.pick rfl rfl rfl rfl rfl rfl ?_
    refine Tr.pick rfl rfl rfl rfl rfl rfl ?_
    refine Tr.move rfl rfl rfl ?_
    refine Tr.loadAll rfl rfl rfl Tryz.underlying41 rfl Sz41 (by exact mem0) (Point.length (by exact ptc_ok _)) ?_
    refine Tr.callV rfl rfl rfl rfl Body24 (cChk) (fun _ _ => trivial) ?_
    refine Tr.eqi rfl rfl rfl rfl (decide_eq_true (rfl)) ?_
    refine Tr.pick rfl rfl rfl rfl rfl rfl ?_
    refine Tr.move rfl rfl rfl ?_
    refine Tr.loadAll rfl rfl rfl Tryz.underlying41 rfl Sz41 (by exact mem2) (Point.length (by exact ptc_ok _)) ?_
    refine Tr.callV rfl rfl rfl rfl Body24 (r5_Check Q1 o1) (fun _ _ => trivial) ?_
    refine Tr.eqi rfl rfl rfl rfl (decide_eq_true (rfl)) ?_
    refine Tr.pick rfl rfl rfl rfl rfl rfl ?_
    refine Tr.assign rfl rfl rfl ?_
    refine Tr.nil ?_
    refine at_n ?_
    refine Sat.ret ?_
    refine en_r ?_
    refine ⟨_, [], res_tmp rfl rfl, sP, sP, ?_, rfl⟩
    rfl
  ·
    have hs13_41 := nd_f hs13_410
    refine Tr.move rfl rfl rfl ?_
    refine Tr.loadAll rfl rfl rfl Tryz.underlying22 rfl Sz22 (by (repeat (first | exact List.mem_cons_self | refine List.mem_cons_of_mem _ ?_))) (by (simp [ha]; done)) ?_
    refine Tr.loadAll rfl rfl rfl Tryz.underlying22 rfl Sz22 (by (repeat (first | exact List.mem_cons_self | refine List.mem_cons_of_mem _ ?_))) (by (simp [hb]; done)) ?_
    refine Tr.callV rfl rfl rfl rfl Body23 (cKa) (fun _ _ => trivial) ?_
    refine Tr.callV rfl rfl rfl rfl Body23 (cKb) (fun _ _ => trivial) ?_
    refine Tr.eql_bytes rfl rfl rfl rfl Tryz.eqGuardType25 Tryz.underlying25 Tryz.underlying5 Sz5 (by (simp [lP1]; done)) (by (simp [lP2]; done)) (decide_eq_true (hkk (by exact hs13_41))) ?_
    refine Tr.pick rfl rfl rfl rfl rfl rfl ?_
    refine Tr.pick rfl rfl rfl rfl rfl rfl ?_
    refine Tr.move rfl rfl rfl ?_
    refine Tr.loadAll rfl rfl rfl Tryz.underlying41 rfl Sz41 (by exact mem0) (Point.length (by exact ptc_ok _)) ?_
    refine Tr.callV rfl rfl rfl rfl Body24 (cChk) (fun _ _ => trivial) ?_
    refine Tr.eqi rfl rfl rfl rfl (decide_eq_true (rfl)) ?_
    refine Tr.pick rfl rfl rfl rfl rfl rfl ?_
    refine Tr.move rfl rfl rfl ?_
    refine Tr.loadAll rfl rfl rfl Tryz.underlying41 rfl Sz41 (by exact mem2) (Point.length (by exact ptc_ok _)) ?_
    refine Tr.callV rfl rfl rfl rfl Body24 (r5_Check Q1 o1) (fun _ _ => trivial) ?_
    refine Tr.eqi rfl rfl rfl rfl (decide_eq_true (rfl)) ?_
    refine Tr.pick rfl rfl rfl rfl rfl rfl ?_
    refine Tr.assign rfl rfl rfl ?_
    refine Tr.nil ?_
    refine at_n ?_
    refine Sat.ret ?_
    refine en_r ?_
    refine ⟨_, [], res_tmp rfl rfl, sP, sP, ?_, rfl⟩
    rfl

theorem law_signapart_all (a : List UInt8) (ha : a.length = 32) (b : List UInt8) (hb : b.length = 32) (sb : Sl) (bb : List UInt8) : Meets Tryz.prog 4 [agg (bytesV a), agg (bytesV b), sb.v] [] (fun W => BytesAt W sb bb) (fun v out => v = .bool true ∧ out = []) := by
  intro W hW
  rcases Nat.lt_or_ge 1000 sb.n with h | h
  · exact law_signapart_long a b ha hb sb bb h W hW
  · exact law_signapart a b ha hb sb bb h hW.len W hW

end Go.Proofs.YtmddgelpllffoaaGreat
end

section
namespace Go.Proofs.YtmddgelpllffoaaGreat
open Go Go.ChangeShapes Go.WideShapes Go.ChangeAt Go.RowKit
set_option linter.unusedVariables false

theorem ownSApart : ownKnob Tryz.prog.godebug = none := by kernel_rfl
theorem laidOutSApart : laidOutB Tryz.prog = true := by kernel_rfl

theorem openSlSApart {H : Type} {enc : TypeId × Value → H} {P : Program} {W : World} {base : Nat} {sp : Nat → Bool} {held : Bool} {k e : TypeId} (hu : P.underlying k = some (.slice e)) (he : P.underlying e = some (.int .u8)) (hc : P.cellsOf e = 1) {r : Reach} {b0 : Nat} {v : Value} {d : DataW H} {ps : List MemPlace}
    (hval : Value.okWide P W r b0 k v) (hd : DataW.Trod enc P W base sp held k v d ps) : ∃ s l, v = Hw.Sl.v s ∧ Hw.BytesAt W s l := by
  simp only [Value.okWide, hu, Cell.okWide] at hval
  obtain ⟨a1, len, cap, rfl⟩ : ∃ a1 len cap, v = .slice a1 len cap := by
    unfold Cell.ok at hval
    rw [hu] at hval
    split at hval <;> first | exact hval.elim | exact ⟨_, _, _, rfl⟩ | simp_all
  obtain ⟨fuel, hf⟩ := hd
  obtain ⟨s, l, h1, h2⟩ := Hw.open_bytesS hu he hc hf
  refine ⟨s, l, ?_, h2⟩
  simp [Value.cells] at h1
  exact h1

theorem walkSApart (w : World) (l0 : List UInt8) (hl0 : l0.length = 32) (l1 : List UInt8) (hl1 : l1.length = 32) (s2 : Hw.Sl) (l2 : List UInt8) (hs2 : Hw.BytesAt w s2 l2) : Calls Tryz.prog 4 #[Hw.agg (Hw.bytesV l0), Hw.agg (Hw.bytesV l1), Hw.Sl.v s2] w fun e w' => e = .returned (.bool true) ∧ Below w.heap.size w w' :=
  by
  have fin : ∀ {us : Array Value}, Calls Tryz.prog 4 us w (fun e W' => ∃ v out, e = .returned v ∧ (v = .bool true ∧ out = []) ∧ Hw.Ret [] out w W') → Calls Tryz.prog 4 us w (fun e w' => e = .returned (.bool true) ∧ Below w.heap.size w w') :=
    fun h => h.mono fun e w' ⟨v, out, he, ⟨hv, ho⟩, hr⟩ => ⟨by rw [he, hv], Hw.Keeps.below hr.keeps⟩
  exact fin (law_signapart_all l0 hl0 l1 hl1 s2 l2 w hs2)

set_option maxRecDepth 100000 in
theorem liftedSApart (os : Os) (started : os.Started) (H : Type) (enc : TypeId × Value → H) :
    ReturnsInHanded {} Tryz.checked os 4 .any (Rows.signApartSpec.pre6 enc Tryz.prog Tryz.f4 Rows.signApartRow.domain false) (Rows.signApartSpec.post enc Tryz.prog Tryz.f4 false true false false) := by
  refine returnsInHanded_of_change (C := Tryz.checked) ownSApart started (by kernel_rfl) Tryz.func4
    (ChangeSpec.witness6 (enc := enc) (C := Tryz.checked) false ⟨#[], #[.agg (Array.replicate 32 (.int .u8 0)), .agg (Array.replicate 32 (.int .u8 0)), .slice none 0 0], []⟩ 8 (by kernel_rfl) (by kernel_rfl) (by kernel_rfl) (by kernel_rfl)) ?_
  intro W base args ds gs before hval0 hW hcnd _
  have hval : ∀ (j : Nat) t v, Tryz.f4.params[j]? = some t → args[j]? = some v → Value.okWide Tryz.prog W .any base t v := hval0
  have hW' := hW
  obtain ⟨p, q, hA0, hV, rfl, hfz, hnd⟩ := hW
  have hA : DataW.TrodAll enc Tryz.prog W 0 (fun _ => true) true Tryz.f4.params.toList args.toList ds p := hA0
  rw [Tryz.params4] at hA hval
  obtain ⟨v0, vs0, d0, ds0, p0, q0, hargs, rfl, rfl, h0, r0⟩ := trodAll_cons hA
  obtain ⟨v1, vs1, d1, ds1, p1, q1, rfl, rfl, rfl, h1, r1⟩ := trodAll_cons r0
  obtain ⟨v2, vs2, d2, ds2, p2, q2, rfl, rfl, rfl, h2, r2⟩ := trodAll_cons r1
  obtain ⟨rfl, rfl, rfl⟩ := trodAll_nil r2
  obtain rfl : args = #[v0, v1, v2] := by cases args; simp_all
  obtain ⟨rfl, rfl⟩ := trodVars_none hV
  have k0 := h0
  have lt0 : ∀ x ∈ p0, x.block < W.heap.size := by obtain ⟨m, hm⟩ := k0; exact DataW.trod_lt m _ _ _ hm
  have k1 := h1
  have lt1 : ∀ x ∈ p1, x.block < W.heap.size := by obtain ⟨m, hm⟩ := k1; exact DataW.trod_lt m _ _ _ hm
  have k2 := h2
  have lt2 : ∀ x ∈ p2, x.block < W.heap.size := by obtain ⟨m, hm⟩ := k2; exact DataW.trod_lt m _ _ _ hm
  obtain ⟨l0, rfl, hl0⟩ := Hw.open_bytes Tryz.underlying22 Tryz.underlying5 (by kernel_rfl) (by kernel_rfl) (hval 0 22 v0 rfl rfl) h0
  obtain ⟨l1, rfl, hl1⟩ := Hw.open_bytes Tryz.underlying22 Tryz.underlying5 (by kernel_rfl) (by kernel_rfl) (hval 1 22 v1 rfl rfl) h1
  obtain ⟨s2, l2, rfl, hs2⟩ := openSlSApart Tryz.underlying23 Tryz.underlying5 (by kernel_rfl) (hval 2 23 v2 rfl rfl) h2
  clear hA0 hval0
  refine (walkSApart W l0 hl0 l1 hl1 s2 l2 hs2).mono fun e W' ⟨he, bel⟩ => ?_
  subst he
  exact ⟨_, rfl, _, _, _, [], _, [], hW', trodAll_mk1 (shut_bool Tryz.underlying4 _), (trodAll_cons_mk (Below.trod laidOutSApart (by kernel_rfl) (of_decide_eq_true (by kernel_rfl)) k0 bel lt0) (trodAll_cons_mk (Below.trod laidOutSApart (by kernel_rfl) (of_decide_eq_true (by kernel_rfl)) k1 bel lt1) (trodAll_cons_mk (Below.trod laidOutSApart (by kernel_rfl) (of_decide_eq_true (by kernel_rfl)) k2 bel lt2) trodAll_mk0))), rfl, bel.frame _, fun h => by cases h⟩

theorem signApart_holds : Rows.SignApartSaid :=
  OpenClaim.holds_of_wide 4 Tryz.f4 rfl rfl rfl rfl rfl rfl rfl ⟨rfl, rfl, rfl, rfl, rfl⟩ rfl rfl rfl rfl rfl (by kernel_rfl) Tryz.func4 (by kernel_rfl)
    (of_decide_eq_true (by kernel_rfl)) (by unfold Func.isWrapper; first | (rw [if_pos (by decide +kernel)]; kernel_rfl) | (rw [if_neg (by decide +kernel)]; exact ⟨rfl, rfl⟩))
    (fun os started H enc _ => liftedSApart os started H enc)

end Go.Proofs.YtmddgelpllffoaaGreat
end

section
namespace Go.Proofs.YtmddgelpllffoaaGreat
open Go Hw
set_option linter.unusedVariables false
set_option linter.unusedSimpArgs false

open Ed

def rdC (b : List UInt8) : Point := match rdP b with
  | some P => ptc P
  | none => Point.zero
def rdE (b : List UInt8) : Int := match rdP b with
  | some _ => 0
  | none => 4
theorem rdC_ok (b : List UInt8) : (rdC b).ok := by
  unfold rdC
  split
  · exact ptc_ok _
  · exact Point.zero_ok
theorem r5_ReadC (b : List UInt8) (hb : b.length = 32) : Meets Tryz.prog 20 [agg (bytesV b)] [] (fun _ => True) (fun v out => v = .tuple #[agg (rdC b).cells, i64 (rdE b)] ∧ out = []) := by
  have h := r5_Read b hb
  have e : rdV b = .tuple #[agg (rdC b).cells, i64 (rdE b)] := by
    unfold rdV rdC rdE
    cases rdP b <;> rfl
  rwa [e] at h
theorem good_reads {k bb sg : List UInt8} (h : goodB k bb sg = true) : rdE k = 0 ∧ rdE (sg.take 32) = 0 := by
  unfold goodB at h
  simp only [decide_eq_true_eq] at h
  obtain ⟨_, A, R, h1, h2, _⟩ := h
  unfold rdE
  rw [h1, h2]
  exact ⟨rfl, rfl⟩
theorem flatB_row : ∀ (ls : List (List UInt8)) (j : Nat), (∀ l ∈ ls, l.length = 32) → j < ls.length → ((flatB ls).drop (j * 32)).take 32 = bytesV (ls.getD j [])
  | l :: t, 0, h, _ => by
    have hl := h l List.mem_cons_self
    show ((bytesV l ++ (t.map bytesV).flatten).drop (0 * 32)).take 32 = bytesV l
    rw [Nat.zero_mul, List.drop_zero, List.take_left' (by rw [bytesV, List.length_map]; exact hl)]
  | l :: t, j + 1, h, hj => by
    have hl := h l List.mem_cons_self
    show ((bytesV l ++ (t.map bytesV).flatten).drop ((j + 1) * 32)).take 32 = bytesV (t.getD j [])
    rw [show (j + 1) * 32 = 32 + j * 32 by omega, ← List.drop_drop, List.drop_left' (by rw [bytesV, List.length_map]; exact hl)]
    exact flatB_row t j (fun l' hl' => h l' (List.mem_cons_of_mem _ hl')) (by simpa using hj)
theorem sg_put {X : List UInt8} (h : X.length = 32) (x : UInt8) : (X ++ List.replicate 32 0).set 32 x = X ++ (x :: List.replicate 31 0) := by
  rw [List.set_append_right _ _ oM, h]; rfl
def stR (r : List UInt8) : List (List UInt8) := [r, List.replicate 32 0, 1 :: List.replicate 31 0, 1 :: (List.replicate 30 0 ++ [128])]
theorem stR_all {r : List UInt8} (h : r.length = 32) : ∀ l ∈ stR r, l.length = 32 := by
  intro l hl
  simp only [stR, List.mem_cons, List.not_mem_nil, or_false] at hl
  rcases hl with rfl | rfl | rfl | rfl
  · exact h
  · rfl
  · rfl
  · rfl
theorem stR_len {LS : List (List UInt8)} (h : ∀ l ∈ LS, l.length = 32) {j : Nat} (hj : j < LS.length) : (LS.getD j []).length = 32 := by
  rw [List.getD_eq_getElem?_getD, List.getElem?_eq_getElem hj]
  exact h _ (List.getElem_mem hj)
theorem r6_Good_b (b : Bool) (k : List UInt8) (hk : k.length = 32) (sb : Sl) (bb : List UInt8) (hbn : bb.length ≤ 80000) (sg : List UInt8) (hsg : sg.length = 64) (h : goodB k bb sg = b) : Meets Tryz.prog 14 [agg (bytesV k), sb.v, agg (bytesV sg)] [] (fun W => BytesAt W sb bb) (fun v out => v = .bool b ∧ out = []) := by
  rw [← h]; exact r6_Good k hk sb bb hbn sg hsg

set_option maxRecDepth 100000 in
set_option maxHeartbeats 1000000 in
theorem law_signstrict_long (k : List UInt8) (hk : k.length = 32) (sb : Sl) (bb : List UInt8) (r : List UInt8) (hr : r.length = 32) (x : UInt8) (hn : 1000 < sb.n) : Meets Tryz.prog 5 [agg (bytesV k), sb.v, agg (bytesV r), u8 x] [] (fun W => BytesAt W sb bb) (fun v out => v = .bool true ∧ out = []) := by
  intro W hW
  refine calls_of (hp0 := []) Tryz.func5 rfl 75 Tryz.ntmps5 rfl (HRep.nil _) ?_
  refine Sat.seq ?_
  refine Sat.region ?_
  refine Tr.boxA rfl rfl ?_
  intro n4 hn4 hf4
  refine Tr.boxA rfl rfl ?_
  intro n6 hn6 hf6
  refine Tr.assign rfl rfl rfl ?_
  refine Tr.nil ?_
  refine at_n ?_
  refine Sat.seq ?_
  refine Sat.seq ?_
  refine Sat.region ?_
  refine Tr.callV rfl rfl rfl rfl Body7 (law06_lives) (fun _ _ => trivial) ?_
  refine Tr.not rfl rfl rfl ?_
  refine Tr.nil ?_
  refine at_n ?_
  refine Sat.cond_f rfl (rfl) ?_
  refine Sat.skip ?_
  refine at_n ?_
  refine Sat.seq ?_
  refine Sat.seq ?_
  refine Sat.region ?_
  refine Tr.move rfl rfl rfl ?_
  refine Tr.lenSl rfl rfl rfl Tryz.underlying23 ?_
  refine Tr.gtr rfl rfl rfl rfl rfl ?_
  refine Tr.nil ?_
  refine at_n ?_
  refine Sat.cond_t rfl (decide_eq_true oM) ?_
  refine Sat.seq ?_
  refine Sat.region ?_
  refine Tr.assign rfl rfl rfl ?_
  refine Tr.nil ?_
  refine at_n ?_
  refine Sat.ret ?_
  refine at_r ?_
  refine en_r ?_
  refine ⟨_, [], res_tmp rfl rfl, sP, sP, ?_, rfl⟩
  rfl

set_option maxRecDepth 100000 in
set_option maxHeartbeats 8000000 in
theorem law_signstrict (k : List UInt8) (hk : k.length = 32) (sb : Sl) (bb : List UInt8) (r : List UInt8) (hr : r.length = 32) (x : UInt8) (hn : sb.n ≤ 1000) (hbl : bb.length = sb.n) : Meets Tryz.prog 5 [agg (bytesV k), sb.v, agg (bytesV r), u8 x] [] (fun W => BytesAt W sb bb) (fun v out => v = .bool true ∧ out = []) := by
  intro W hW
  have hbb : bb.length ≤ 80000 := by omega
  obtain ⟨LS, hLS⟩ : ∃ L, Hid (stR r = L) := ⟨_, ⟨rfl⟩⟩
  have hall : ∀ l ∈ LS, l.length = 32 := by rw [← hLS.out]; exact stR_all hr
  have hL4 : LS.length = 4 := by rw [← hLS.out]; rfl
  have hfl : (flatB LS).length = 128 := by rw [flatB_length hall, hL4]
  have hX : True := trivial
  have hsg : True := trivial
  have cV := sign_Valid k hk
  have rV := r6_Valid k hk
  revert cV rV
  generalize validB k = vv
  intro cV rV
  refine calls_of (hp0 := []) Tryz.func5 rfl 75 Tryz.ntmps5 rfl (HRep.nil _) ?_
  refine Sat.seq ?_
  refine Sat.region ?_
  refine Tr.boxA rfl rfl ?_
  intro n4 hn4 hf4
  refine Tr.boxA rfl rfl ?_
  intro n6 hn6 hf6
  refine Tr.assign rfl rfl rfl ?_
  refine Tr.nil ?_
  refine at_n ?_
  refine Sat.seq ?_
  refine Sat.seq ?_
  refine Sat.region ?_
  refine Tr.callV rfl rfl rfl rfl Body7 (law06_lives) (fun _ _ => trivial) ?_
  refine Tr.not rfl rfl rfl ?_
  refine Tr.nil ?_
  refine at_n ?_
  refine Sat.cond_f rfl (rfl) ?_
  refine Sat.skip ?_
  refine at_n ?_
  refine Sat.seq ?_
  refine Sat.seq ?_
  refine Sat.region ?_
  refine Tr.move rfl rfl rfl ?_
  refine Tr.lenSl rfl rfl rfl Tryz.underlying23 ?_
  refine Tr.gtr rfl rfl rfl rfl (decide_eq_false oM) ?_
  refine Tr.nil ?_
  refine at_n ?_
  refine Sat.cond_f rfl rfl ?_
  refine Sat.skip ?_
  refine at_n ?_
  refine Sat.seq ?_
  refine Sat.seq ?_
  refine Sat.region ?_
  refine Tr.loadAll rfl rfl rfl Tryz.underlying22 rfl Sz22 (by exact mem0) (by (simp [hr]; done)) ?_
  refine Tr.build (cs := bytesV (List.replicate 32 0)) rfl rfl rfl (fun w => by kernel_rfl) ?_
  refine Tr.build (cs := bytesV (1 :: List.replicate 31 0)) rfl rfl rfl (fun w => by kernel_rfl) ?_
  refine Tr.build (cs := bytesV (1 :: (List.replicate 30 0 ++ [128]))) rfl rfl rfl (fun w => by kernel_rfl) ?_
  refine Tr.mkRow (z := agg (bytesV (List.replicate 32 0))) [agg (bytesV r), agg (bytesV (List.replicate 32 0)), agg (bytesV (1 :: List.replicate 31 0)), agg (bytesV (1 :: (List.replicate 30 0 ++ [128])))] (flatB (stR r)) rfl rfl rfl Tryz.underlying51 Sz22 Zr22 rfl rfl (by intro v hv; simp only [List.mem_cons, List.not_mem_nil, or_false] at hv; rcases hv with rfl | rfl | rfl | rfl <;> (simp [Value.cells, hr, bytesV]; done)) dE (by simp [flatB, stR, Value.cells]) ?_
  intro q26
  rw [hLS.out]
  refine Tr.lenSl rfl rfl rfl Tryz.underlying51 ?_
  refine Tr.move rfl rfl rfl ?_
  refine Tr.nil ?_
  refine at_n ?_
  refine Sat.block ?_
  refine Sat.loop (ι := Nat) (fun j => ⟨[(1, sb.v), (3, u8 x), (4, ptr n4 0), (26, .slice (some ⟨q26, 0, none⟩) 4 4), (27, i64 4), (28, i64 (j : Int))], [⟨q26, flatB LS, 22, (flatB LS).length⟩, ⟨n4, bytesV k, 25, (bytesV k).length⟩]⟩) (fun j => j ≤ 4) (fun j => 4 - j) (0) ?_ ?_ ?_
  · omega
  · exact weak_of (wk1 rfl (wk1 rfl (wk1 rfl (wk1 rfl (wk1 rfl (wk1 rfl wk0)))))) (wh1 (by exact mem0) (wh1 (by exact mem2) wh0)) nD
  ·
    rintro j hj
    refine Sat.seq ?_
    refine Sat.region ?_
    refine Tr.lss rfl rfl rfl rfl rfl ?_
    refine Tr.nil ?_
    refine at_n ?_
    refine Sat.seq ?_
    refine Sat.condP rfl (fun hc2 => ?_) (fun hc2 => ?_)
    ·
      have hj2 : j < 4 := by omega
      have hX := stR_len hall (j := j) oM
      obtain ⟨X, hXe⟩ : ∃ X, LS.getD j [] = X := ⟨_, rfl⟩
      rw [hXe] at hX
      have hsg : (X ++ (x :: List.replicate 31 0)).length = 64 := by rw [List.length_append, hX]; rfl
      have hrd : rdE ((X ++ (x :: List.replicate 31 0)).take 32) = 0 → rdE X = 0 := fun e => by rwa [List.take_left' hX] at e
      refine Sat.skip ?_
      refine at_n ?_
      refine Sat.seq ?_
      refine Sat.block ?_
      refine Sat.seq ?_
      refine Sat.region ?_
      refine Tr.idxSl 32 rfl rfl rfl rfl Tryz.underlying51 Sz22 j rfl oM ?_
      refine Tr.loadN (bytesV X) rfl rfl rfl Tryz.underlying22 rfl Sz22 (by exact mem0) (by rw [Nat.zero_add, ← hXe]; exact flatB_row LS j hall oM) (by rw [bytesV, List.length_map]; exact hX) ?_
      refine Tr.alloc (cs := (bytesV (List.replicate 32 0))) rfl Zr22 rfl ?_
      intro n10 hn10 hf10
      refine Tr.storeAll rfl rfl rfl rfl (by exact bytesV_cell _) Sz22 (by (simp [hX]; done)) (by exact mem0) (by (simp; done)) (by exact upd0) ?_
      refine Tr.nil ?_
      refine at_n ?_
      refine Sat.seq ?_
      refine Sat.region ?_
      refine Tr.alloc (cs := (bytesV (List.replicate 64 0))) rfl Zr28 rfl ?_
      intro n11 hn11 hf11
      refine Tr.nil ?_
      refine at_n ?_
      refine Sat.seq ?_
      refine Sat.draw [(0, 0), (0, 1), (4, 2)] Mixed (by kernel_rfl) ?_
      refine Tr.sliceArrHi 32 rfl rfl rfl rfl rfl dE dE Tryz.underlying28 Sz5 ?_
      refine Tr.sliceArr rfl rfl rfl Tryz.underlying22 Sz5 ?_
      refine Tr.copyP (bytesV X) 32 rfl rfl rfl rfl rfl Tryz.underlying23 Sz5 (fun w h => SeesP.of (sees_own h (by exact mem1))) (fun e => by cases e) (by rw [bytesV, List.length_map]; exact hX) rfl (by rw [bytesV, ← List.map_take, List.take_of_length_le (Nat.le_of_eq hX)]) (bytesV_cell _) (by exact mem0) (by (simp; done)) (by exact upd_first hX) (by exact upd0) ?_
      refine Tr.nil ?_
      refine at_n ?_
      refine Sat.seq ?_
      refine Sat.region ?_
      refine Tr.move rfl rfl rfl ?_
      refine Tr.idxArr1 rfl rfl rfl rfl Tryz.underlying28 Sz5 32 rfl dE ?_
      refine Tr.store1 rfl rfl rfl rfl rfl Sz5 (by exact mem0) (by (simp [hX]; done)) (by exact set_bytes _ _ _) (by exact upd0) ?_
      refine Tr.nil ?_
      refine at_n ?_
      refine Sat.seq ?_
      refine Sat.draw [(1, 0), (0, 1), (1, 3), (3, 2), (3, 4), (0, 5)] Mixed (by kernel_rfl) ?_
      rw [sg_put hX x]
      refine Tr.loadAll rfl rfl rfl Tryz.underlying25 rfl Sz25 (by exact mem3) (by (simp [hk]; done)) ?_
      refine Tr.move rfl rfl rfl ?_
      refine Tr.loadAll rfl rfl rfl Tryz.underlying28 rfl Sz28 (by exact mem0) (by (simp [hX]; done)) ?_
      refine Tr.call rfl rfl rfl rfl Body11 (kit_own sb bb oM) (FreshRow.loose _ _ _ _) (fun w h => bytes_ext h rfl hW) ?_
      rintro v39 out39 ⟨q39, c39, rfl, hc39, rfl⟩
      refine Tr.callB rfl rfl rfl rfl Body13 (sign_Good k hk ⟨some ⟨q39, 0, none⟩, sb.n, c39⟩ bb hbb (X ++ (x :: List.replicate 31 0)) hsg) (fun w h => own_bytes (SeesP.of (sees_own (cs := bytesV bb) h (by exact mem0))) hW.len oM hW.max) (fun hs11_40 => ?_) (fun hs11_40 => ?_)
      ·
        have hs11_4 := hs11_40
        have hs11_4 := hs11_40
        refine Tr.assign rfl rfl rfl ?_
        refine Tr.nil ?_
        refine at_n ?_
        refine Sat.seq ?_
        refine Sat.region ?_
        refine Tr.loadAll rfl rfl rfl Tryz.underlying25 rfl Sz25 (by exact mem4) (by (simp [hk]; done)) ?_
        refine Tr.callV rfl rfl rfl rfl Body20 (r5_ReadC k hk) (fun _ _ => trivial) ?_
        refine Tr.move rfl rfl rfl ?_
        refine Tr.extract rfl rfl rfl rfl ?_
        refine Tr.extract rfl rfl rfl rfl ?_
        refine Tr.alloc (cs := Point.zero.cells) rfl Point.zr rfl ?_
        intro n13 hn13 hf13
        refine Tr.storeAll rfl rfl rfl rfl (Point.isCell (by exact rdC_ok _)) Sz41 (Point.length (by exact rdC_ok _)) (by exact mem0) (Point.length (by exact Point.zero_ok)) (by exact upd0) ?_
        refine Tr.assign rfl rfl rfl ?_
        refine Tr.nil ?_
        refine at_n ?_
        refine Sat.seq ?_
        refine Sat.region ?_
        refine Tr.loadAll rfl rfl rfl Tryz.underlying22 rfl Sz22 (by exact mem3) (by (simp [hX]; done)) ?_
        refine Tr.callV rfl rfl rfl rfl Body20 (r5_ReadC X hX) (fun _ _ => trivial) ?_
        refine Tr.move rfl rfl rfl ?_
        refine Tr.extract rfl rfl rfl rfl ?_
        refine Tr.extract rfl rfl rfl rfl ?_
        refine Tr.alloc (cs := Point.zero.cells) rfl Point.zr rfl ?_
        intro n15 hn15 hf15
        refine Tr.storeAll rfl rfl rfl rfl (Point.isCell (by exact rdC_ok _)) Sz41 (Point.length (by exact rdC_ok _)) (by exact mem0) (Point.length (by exact Point.zero_ok)) (by exact upd0) ?_
        refine Tr.assign rfl rfl rfl ?_
        refine Tr.nil ?_
        refine at_n ?_
        refine Sat.seq ?_
        refine Sat.region ?_
        refine Tr.move rfl rfl rfl ?_
        refine Tr.loadAll rfl rfl rfl Tryz.underlying25 rfl Sz25 (by exact mem6) (by (simp [hk]; done)) ?_
        refine Tr.move rfl rfl rfl ?_
        refine Tr.loadAll rfl rfl rfl Tryz.underlying28 rfl Sz28 (by exact mem3) (by (simp [hX]; done)) ?_
        refine Tr.callV rfl rfl rfl rfl Body14 (r6_Good_b true k hk sb bb hbb (X ++ (x :: List.replicate 31 0)) hsg hs11_4) (fun w h => bytes_ext h rfl hW) ?_
        refine Tr.neb (r := false) rfl rfl rfl rfl Tryz.underlying4 rfl ?_
        refine Tr.move rfl rfl rfl ?_
        refine Tr.move rfl rfl rfl ?_
        refine Tr.move rfl rfl rfl ?_
        refine Tr.move rfl rfl rfl ?_
        refine Tr.nei rfl rfl rfl rfl (show (!decide _) = false from congrArg not (decide_eq_true ((good_reads hs11_4).1))) ?_
        refine Tr.move rfl rfl rfl ?_
        refine Tr.move rfl rfl rfl ?_
        refine Tr.nei rfl rfl rfl rfl (show (!decide _) = false from congrArg not (decide_eq_true (hrd (good_reads hs11_4).2))) ?_
        refine Tr.pick rfl rfl rfl rfl rfl rfl ?_
        refine Tr.pick rfl rfl rfl rfl rfl rfl ?_
        refine Tr.pick rfl rfl rfl rfl rfl rfl ?_
        refine Tr.nil ?_
        refine at_n ?_
        refine Sat.cond_f rfl rfl ?_
        refine Sat.skip ?_
        refine bl_n ?_
        refine at_n ?_
        refine Sat.region ?_
        refine Tr.add_i64 rfl rfl rfl rfl oM ?_
        refine Tr.move rfl rfl rfl ?_
        refine Tr.nil ?_
        refine at_n ?_
        exact ⟨j + 1, by omega, by omega, weak_of (wk1 rfl (wk1 rfl (wk1 rfl (wk1 rfl (wk1 rfl (wk1 rfl wk0)))))) (wh1 (by exact mem5) (wh1 (by exact mem6) wh0)) nD⟩
      ·
        have hs11_4 := hs11_40
        have hs11_4 := hs11_40
        refine Tr.assign rfl rfl rfl ?_
        refine Tr.nil ?_
        refine at_n ?_
        refine Sat.seq ?_
        refine Sat.region ?_
        refine Tr.loadAll rfl rfl rfl Tryz.underlying25 rfl Sz25 (by exact mem4) (by (simp [hk]; done)) ?_
        refine Tr.callV rfl rfl rfl rfl Body20 (r5_ReadC k hk) (fun _ _ => trivial) ?_
        refine Tr.move rfl rfl rfl ?_
        refine Tr.extract rfl rfl rfl rfl ?_
        refine Tr.extract rfl rfl rfl rfl ?_
        refine Tr.alloc (cs := Point.zero.cells) rfl Point.zr rfl ?_
        intro n13 hn13 hf13
        refine Tr.storeAll rfl rfl rfl rfl (Point.isCell (by exact rdC_ok _)) Sz41 (Point.length (by exact rdC_ok _)) (by exact mem0) (Point.length (by exact Point.zero_ok)) (by exact upd0) ?_
        refine Tr.assign rfl rfl rfl ?_
        refine Tr.nil ?_
        refine at_n ?_
        refine Sat.seq ?_
        refine Sat.region ?_
        refine Tr.loadAll rfl rfl rfl Tryz.underlying22 rfl Sz22 (by exact mem3) (by (simp [hX]; done)) ?_
        refine Tr.callV rfl rfl rfl rfl Body20 (r5_ReadC X hX) (fun _ _ => trivial) ?_
        refine Tr.move rfl rfl rfl ?_
        refine Tr.extract rfl rfl rfl rfl ?_
        refine Tr.extract rfl rfl rfl rfl ?_
        refine Tr.alloc (cs := Point.zero.cells) rfl Point.zr rfl ?_
        intro n15 hn15 hf15
        refine Tr.storeAll rfl rfl rfl rfl (Point.isCell (by exact rdC_ok _)) Sz41 (Point.length (by exact rdC_ok _)) (by exact mem0) (Point.length (by exact Point.zero_ok)) (by exact upd0) ?_
        refine Tr.assign rfl rfl rfl ?_
        refine Tr.nil ?_
        refine at_n ?_
        refine Sat.seq ?_
        refine Sat.region ?_
        refine Tr.move rfl rfl rfl ?_
        refine Tr.loadAll rfl rfl rfl Tryz.underlying25 rfl Sz25 (by exact mem6) (by (simp [hk]; done)) ?_
        refine Tr.move rfl rfl rfl ?_
        refine Tr.loadAll rfl rfl rfl Tryz.underlying28 rfl Sz28 (by exact mem3) (by (simp [hX]; done)) ?_
        refine Tr.callV rfl rfl rfl rfl Body14 (r6_Good_b false k hk sb bb hbb (X ++ (x :: List.replicate 31 0)) hsg hs11_4) (fun w h => bytes_ext h rfl hW) ?_
        refine Tr.neb (r := false) rfl rfl rfl rfl Tryz.underlying4 rfl ?_
        refine Tr.move rfl rfl rfl ?_
        refine Tr.move rfl rfl rfl ?_
        refine Tr.move rfl rfl rfl ?_
        refine Tr.skp rfl rfl ?_
        refine Tr.skp rfl rfl ?_
        refine Tr.skp rfl rfl ?_
        refine Tr.skp rfl rfl ?_
        refine Tr.skp rfl rfl ?_
        refine Tr.skp rfl rfl ?_
        refine Tr.pick rfl rfl rfl rfl rfl rfl ?_
        refine Tr.pick rfl rfl rfl rfl rfl rfl ?_
        refine Tr.nil ?_
        refine at_n ?_
        refine Sat.cond_f rfl rfl ?_
        refine Sat.skip ?_
        refine bl_n ?_
        refine at_n ?_
        refine Sat.region ?_
        refine Tr.add_i64 rfl rfl rfl rfl oM ?_
        refine Tr.move rfl rfl rfl ?_
        refine Tr.nil ?_
        refine at_n ?_
        exact ⟨j + 1, by omega, by omega, weak_of (wk1 rfl (wk1 rfl (wk1 rfl (wk1 rfl (wk1 rfl (wk1 rfl wk0)))))) (wh1 (by exact mem5) (wh1 (by exact mem6) wh0)) nD⟩
    ·
      refine Sat.exit ?_
      refine at_x ?_
      refine at_x ?_
      refine bl_h ?_
      refine at_n ?_
      refine Sat.seq ?_
      refine Sat.draw [(1, 0), (1, 2), (3, 1), (3, 3), (0, 4), (0, 5)] Mixed (by kernel_rfl) ?_
      refine Tr.loadAll rfl rfl rfl Tryz.underlying25 rfl Sz25 (by exact mem1) (by (simp [hk]; done)) ?_
      refine Tr.loadAll rfl rfl rfl Tryz.underlying25 rfl Sz25 (by exact mem1) (by (simp [hk]; done)) ?_
      refine Tr.callV rfl rfl rfl rfl Body25 (cV) (fun _ _ => trivial) ?_
      refine Tr.callV rfl rfl rfl rfl Body26 (rV) (fun _ _ => trivial) ?_
      refine Tr.eqb (r := true) rfl rfl rfl rfl Tryz.underlying4 sP ?_
      refine Tr.assign rfl rfl rfl ?_
      refine Tr.nil ?_
      refine at_n ?_
      refine Sat.ret ?_
      refine en_r ?_
      refine ⟨_, [], res_tmp rfl rfl, sP, sP, ?_, rfl⟩
      rfl

theorem law_signstrict_all (k : List UInt8) (hk : k.length = 32) (sb : Sl) (bb : List UInt8) (r : List UInt8) (hr : r.length = 32) (x : UInt8) : Meets Tryz.prog 5 [agg (bytesV k), sb.v, agg (bytesV r), u8 x] [] (fun W => BytesAt W sb bb) (fun v out => v = .bool true ∧ out = []) := by
  intro W hW
  rcases Nat.lt_or_ge 1000 sb.n with h | h
  · exact law_signstrict_long k hk sb bb r hr x h W hW
  · exact law_signstrict k hk sb bb r hr x h hW.len W hW

end Go.Proofs.YtmddgelpllffoaaGreat
end

section
namespace Go.Proofs.YtmddgelpllffoaaGreat
open Go Go.ChangeShapes Go.WideShapes Go.ChangeAt Go.RowKit
set_option linter.unusedVariables false

theorem ownSStrict : ownKnob Tryz.prog.godebug = none := by kernel_rfl
theorem laidOutSStrict : laidOutB Tryz.prog = true := by kernel_rfl

theorem openSlSStrict {H : Type} {enc : TypeId × Value → H} {P : Program} {W : World} {base : Nat} {sp : Nat → Bool} {held : Bool} {k e : TypeId} (hu : P.underlying k = some (.slice e)) (he : P.underlying e = some (.int .u8)) (hc : P.cellsOf e = 1) {r : Reach} {b0 : Nat} {v : Value} {d : DataW H} {ps : List MemPlace}
    (hval : Value.okWide P W r b0 k v) (hd : DataW.Trod enc P W base sp held k v d ps) : ∃ s l, v = Hw.Sl.v s ∧ Hw.BytesAt W s l := by
  simp only [Value.okWide, hu, Cell.okWide] at hval
  obtain ⟨a1, len, cap, rfl⟩ : ∃ a1 len cap, v = .slice a1 len cap := by
    unfold Cell.ok at hval
    rw [hu] at hval
    split at hval <;> first | exact hval.elim | exact ⟨_, _, _, rfl⟩ | simp_all
  obtain ⟨fuel, hf⟩ := hd
  obtain ⟨s, l, h1, h2⟩ := Hw.open_bytesS hu he hc hf
  refine ⟨s, l, ?_, h2⟩
  simp [Value.cells] at h1
  exact h1

theorem walkSStrict (w : World) (l0 : List UInt8) (hl0 : l0.length = 32) (s1 : Hw.Sl) (l1 : List UInt8) (hs1 : Hw.BytesAt w s1 l1) (l2 : List UInt8) (hl2 : l2.length = 32) (x3 : UInt8) : Calls Tryz.prog 5 #[Hw.agg (Hw.bytesV l0), Hw.Sl.v s1, Hw.agg (Hw.bytesV l2), Hw.u8 x3] w fun e w' => e = .returned (.bool true) ∧ Below w.heap.size w w' :=
  by
  have fin : ∀ {us : Array Value}, Calls Tryz.prog 5 us w (fun e W' => ∃ v out, e = .returned v ∧ (v = .bool true ∧ out = []) ∧ Hw.Ret [] out w W') → Calls Tryz.prog 5 us w (fun e w' => e = .returned (.bool true) ∧ Below w.heap.size w w') :=
    fun h => h.mono fun e w' ⟨v, out, he, ⟨hv, ho⟩, hr⟩ => ⟨by rw [he, hv], Hw.Keeps.below hr.keeps⟩
  exact fin (law_signstrict_all l0 hl0 s1 l1 l2 hl2 x3 w hs1)

set_option maxRecDepth 100000 in
theorem liftedSStrict (os : Os) (started : os.Started) (H : Type) (enc : TypeId × Value → H) :
    ReturnsInHanded {} Tryz.checked os 5 .any (Rows.signStrictSpec.pre6 enc Tryz.prog Tryz.f5 Rows.signStrictRow.domain false) (Rows.signStrictSpec.post enc Tryz.prog Tryz.f5 false true false false) := by
  refine returnsInHanded_of_change (C := Tryz.checked) ownSStrict started (by kernel_rfl) Tryz.func5
    (ChangeSpec.witness6 (enc := enc) (C := Tryz.checked) false ⟨#[], #[.agg (Array.replicate 32 (.int .u8 0)), .slice none 0 0, .agg (Array.replicate 32 (.int .u8 0)), .int .u8 0], []⟩ 8 (by kernel_rfl) (by kernel_rfl) (by kernel_rfl) (by kernel_rfl)) ?_
  intro W base args ds gs before hval0 hW hcnd _
  have hval : ∀ (j : Nat) t v, Tryz.f5.params[j]? = some t → args[j]? = some v → Value.okWide Tryz.prog W .any base t v := hval0
  have hW' := hW
  obtain ⟨p, q, hA0, hV, rfl, hfz, hnd⟩ := hW
  have hA : DataW.TrodAll enc Tryz.prog W 0 (fun _ => true) true Tryz.f5.params.toList args.toList ds p := hA0
  rw [Tryz.params5] at hA hval
  obtain ⟨v0, vs0, d0, ds0, p0, q0, hargs, rfl, rfl, h0, r0⟩ := trodAll_cons hA
  obtain ⟨v1, vs1, d1, ds1, p1, q1, rfl, rfl, rfl, h1, r1⟩ := trodAll_cons r0
  obtain ⟨v2, vs2, d2, ds2, p2, q2, rfl, rfl, rfl, h2, r2⟩ := trodAll_cons r1
  obtain ⟨v3, vs3, d3, ds3, p3, q3, rfl, rfl, rfl, h3, r3⟩ := trodAll_cons r2
  obtain ⟨rfl, rfl, rfl⟩ := trodAll_nil r3
  obtain rfl : args = #[v0, v1, v2, v3] := by cases args; simp_all
  obtain ⟨rfl, rfl⟩ := trodVars_none hV
  have k0 := h0
  have lt0 : ∀ x ∈ p0, x.block < W.heap.size := by obtain ⟨m, hm⟩ := k0; exact DataW.trod_lt m _ _ _ hm
  have k1 := h1
  have lt1 : ∀ x ∈ p1, x.block < W.heap.size := by obtain ⟨m, hm⟩ := k1; exact DataW.trod_lt m _ _ _ hm
  have k2 := h2
  have lt2 : ∀ x ∈ p2, x.block < W.heap.size := by obtain ⟨m, hm⟩ := k2; exact DataW.trod_lt m _ _ _ hm
  have k3 := h3
  have lt3 : ∀ x ∈ p3, x.block < W.heap.size := by obtain ⟨m, hm⟩ := k3; exact DataW.trod_lt m _ _ _ hm
  obtain ⟨l0, rfl, hl0⟩ := Hw.open_bytes Tryz.underlying25 Tryz.underlying5 (by kernel_rfl) (by kernel_rfl) (hval 0 25 v0 rfl rfl) h0
  obtain ⟨s1, l1, rfl, hs1⟩ := openSlSStrict Tryz.underlying23 Tryz.underlying5 (by kernel_rfl) (hval 1 23 v1 rfl rfl) h1
  obtain ⟨l2, rfl, hl2⟩ := Hw.open_bytes Tryz.underlying22 Tryz.underlying5 (by kernel_rfl) (by kernel_rfl) (hval 2 22 v2 rfl rfl) h2
  obtain ⟨a3, rfl, rfl, rfl, w3⟩ := open_int Tryz.underlying5 (hval 3 5 v3 rfl rfl) h3
  obtain ⟨x3, rfl⟩ := Hw.u8_back w3
  clear hA0 hval0
  refine (walkSStrict W l0 hl0 s1 l1 hs1 l2 hl2 x3).mono fun e W' ⟨he, bel⟩ => ?_
  subst he
  exact ⟨_, rfl, _, _, _, [], _, [], hW', trodAll_mk1 (shut_bool Tryz.underlying4 _), (trodAll_cons_mk (Below.trod laidOutSStrict (by kernel_rfl) (of_decide_eq_true (by kernel_rfl)) k0 bel lt0) (trodAll_cons_mk (Below.trod laidOutSStrict (by kernel_rfl) (of_decide_eq_true (by kernel_rfl)) k1 bel lt1) (trodAll_cons_mk (Below.trod laidOutSStrict (by kernel_rfl) (of_decide_eq_true (by kernel_rfl)) k2 bel lt2) (trodAll_cons_mk (Below.trod laidOutSStrict (by kernel_rfl) (of_decide_eq_true (by kernel_rfl)) k3 bel lt3) trodAll_mk0)))), rfl, bel.frame _, fun h => by cases h⟩

theorem signStrict_holds : Rows.SignStrictSaid :=
  OpenClaim.holds_of_wide 5 Tryz.f5 rfl rfl rfl rfl rfl rfl rfl ⟨rfl, rfl, rfl, rfl, rfl⟩ rfl rfl rfl rfl rfl (by kernel_rfl) Tryz.func5 (by kernel_rfl)
    (of_decide_eq_true (by kernel_rfl)) (by unfold Func.isWrapper; first | (rw [if_pos (by decide +kernel)]; kernel_rfl) | (rw [if_neg (by decide +kernel)]; exact ⟨rfl, rfl⟩))
    (fun os started H enc _ => liftedSStrict os started H enc)

end Go.Proofs.YtmddgelpllffoaaGreat
end

section
namespace Go.Proofs.YtmddgelpllffoaaGreat
open Go Hw
set_option linter.unusedVariables false
set_option linter.unusedSimpArgs false

open Ed

theorem tmod_lo (a : Int) {n : Nat} (h : 0 < n) : -(n : Int) < a.tmod n ∧ a.tmod n < n := ⟨Int.lt_tmod_of_pos a oM, Int.tmod_lt_of_pos a oM⟩
/-- what Pick comes to -/
def pickN (a : Int) (n : Nat) : Nat := if a.tmod n < 0 then (a.tmod n + n).toNat else (a.tmod n).toNat
theorem pickN_lt (a : Int) {n : Nat} (h : 0 < n) : pickN a n < n := by
  have := tmod_lo a h
  unfold pickN
  split <;> omega
theorem pickN_neg {a : Int} {n : Nat} (h : 0 < n) (hc : a.tmod n < 0) : a.tmod n + (n : Int) = ((pickN a n : Nat) : Int) := by
  have := tmod_lo a h
  rw [pickN, if_pos hc]; omega
theorem pickN_pos {a : Int} {n : Nat} (h : 0 < n) (hc : ¬ a.tmod n < 0) : a.tmod n = ((pickN a n : Nat) : Int) := by
  rw [pickN, if_neg hc]; omega
section
variable {C : Cx} {ops : Array Oper} {rest : List (Nat × Oper)} {sl : List (Nat × Value)} {hp : List Blk} {Q : St → Prop} {c d : Nat} {ty : TypeId} {pos : String} {af : Array Edge} {g : Option (Nat × Bool)}
variable {xT yT : TypeId} {x y : Operand} {a b : Int}
theorem Tr.rem_i64t (hg : guardOk ops sl g = true) (hk : okD c d C.N = true) (hx : evIn sl x = some (i64 a)) (hy : evIn sl y = some (i64 b)) (hr : 1 ≤ b)
    (k : Tr C ops rest ⟨(d, i64 (a.tmod b)) :: sl, hp⟩ Q) : Tr C ops ((c, ⟨some d, .binOp .rem xT x y yT, ty, pos, af, g⟩) :: rest) ⟨sl, hp⟩ Q :=
  .bin hg hk hx hy (fun w => by simp [binOp, Op.intDiv, show b ≠ 0 by omega]) k
end
/-- a sum's bytes, one by one -/
def hiAt (S : List UInt8) (i : Nat) : List UInt8 := (leb 32 (le S + L)).take i ++ S.drop i
def cyL (a b p : Nat) : Nat := (a % p + b % p) / p
theorem cyL_next (a b p : Nat) (hp : 0 < p) : (cyL a b p + a / p % 256 + b / p % 256) % 256 = (a + b) / p % 256 ∧ (cyL a b p + a / p % 256 + b / p % 256) / 256 = cyL a b (p * 256) := by
  have e1 : a = a % p + p * (a / p) := (Nat.mod_add_div a p).symm
  have e2 : b = b % p + p * (b / p) := (Nat.mod_add_div b p).symm
  have h1 : (a + b) / p = (a % p + b % p) / p + (a / p + b / p) := by
    have e : a + b = (a % p + b % p) + p * (a / p + b / p) := by rw [Nat.mul_add]; omega
    rw [e, Nat.add_mul_div_left _ _ hp]
  constructor
  · rw [h1, cyL]
    omega
  · have m1 : a % (p * 256) = a % p + p * (a / p % 256) := Nat.mod_mul
    have m2 : b % (p * 256) = b % p + p * (b / p % 256) := Nat.mod_mul
    have e : a % (p * 256) + b % (p * 256) = (a % p + b % p) + p * (a / p % 256 + b / p % 256) := by rw [m1, m2, Nat.mul_add]; omega
    rw [cyL, cyL, e, ← Nat.div_div_eq_div_mul, Nat.add_mul_div_left _ _ hp]
    omega
theorem cyL_le (a b p : Nat) (hp : 0 < p) : cyL a b p ≤ 1 := by
  have h1 := Nat.mod_lt a hp
  have h2 := Nat.mod_lt b hp
  rw [cyL]
  have : a % p + b % p < p * 2 := by omega
  have := Nat.div_lt_of_lt_mul this
  omega
theorem hiAt_length {S : List UInt8} (h : S.length = 32) (i : Nat) (hi : i ≤ 32) : (hiAt S i).length = 32 := by
  rw [hiAt, List.length_append, List.length_take, leb_length, List.length_drop, h]; omega
theorem hiAt_step {F S : List UInt8} (hF : F.length = 32) (h : S.length = 32) {i : Nat} (hi : i < 32) (v : UInt8) (hv : v = UInt8.ofNat ((le S + L) / 256 ^ i)) : (F ++ hiAt S i).set (32 + i) v = F ++ hiAt S (i + 1) := by
  have hl : (leb 32 (le S + L)).length = 32 := leb_length _ _
  have e : (leb 32 (le S + L)).take (i + 1) = (leb 32 (le S + L)).take i ++ [v] := by
    have e3 : (leb 32 (le S + L))[i]'oM = v := by
      have := leb_get 32 (le S + L) i hi
      rw [List.getElem?_eq_getElem oM] at this
      rw [hv]
      exact Option.some.inj this
    rw [← e3]
    exact List.take_succ_eq_append_getElem oM
  have e2 : S.drop i = S[i]'oM :: S.drop (i + 1) := List.drop_eq_getElem_cons oM
  rw [List.set_append_right _ _ oM, hF, show 32 + i - 32 = i by omega, hiAt, hiAt, e, e2, List.set_append_right _ _ (by rw [List.length_take, hl]; omega), List.length_take, hl, show i - min i 32 = 0 by omega, List.set_cons_zero, List.append_assoc]
  rfl
theorem hiAt_end {S : List UInt8} (h : S.length = 32) : hiAt S 32 = leb 32 (le S + L) := by
  rw [hiAt, List.take_of_length_le (by rw [leb_length]; exact Nat.le_refl _), List.drop_of_length_le oM, List.append_nil]
theorem high_bad {k bb F S : List UInt8} (hF : F.length = 32) (h : S.length = 32) (hS : le S < L) : goodB k bb (F ++ hiAt S 32) = false := by
  refine good_no (fun e => ?_)
  have h1 := e.1
  have h2 : 2 * L < 2 ^ 256 := by decide
  rw [List.drop_left' hF, hiAt_end h, le_leb, Nat.mod_eq_of_lt (Nat.lt_of_lt_of_le (show le S + L < 2 ^ 256 by omega) (Nat.le_of_eq dE))] at h1
  omega
theorem cat_byte {F S : List UInt8} (hF : F.length = 32) (i : Nat) : ((F ++ S).getD (32 + i) 0).toNat = le S / 256 ^ i % 256 := by
  rw [← le_byte, List.getD_eq_getElem?_getD, List.getElem?_append_right oM, hF, show 32 + i - 32 = i by omega, ← List.getD_eq_getElem?_getD]
theorem L_byte (i : Nat) (l : List UInt8) (h : leb 32 L = l) : (l.getD i 0).toNat = L / 256 ^ i % 256 := by
  rw [← h, le_byte, le_leb32 L_lt]
theorem acc_set {q n c p : Nat} {l : List UInt8} {E : TypeId} (v : UInt8) (hl : l.length = n) (hc : n ≤ c) : Acc ⟨some ⟨q, 0, none⟩, n, c⟩ [⟨q, bytesV (l.set p v), E, c * 1⟩] (bytesV (l.set p v)) E (l.set p v).length 1 := by
  have h2 : (l.set p v).length = n := by rw [List.length_set, hl]
  have h3 := Acc.some (q := q) (E := E) (size := 1) (cells := bytesV (l.set p v)) hc (by rw [bytesV, List.length_map, h2, Nat.mul_one])
  rw [h2]; exact h3
theorem acc_one {q : Nat} {E : TypeId} (v : UInt8) : Acc ⟨some ⟨q, 0, none⟩, 1, 1⟩ [⟨q, bytesV [v], E, 1 * 1⟩] (bytesV [v]) E [v].length 1 := Acc.some (Nat.le_refl 1) rfl

set_option maxRecDepth 100000 in
set_option maxHeartbeats 1000000 in
theorem kit_pickN (g : Int) (n : Nat) (hn : 0 < n) (hn2 : n ≤ 1000000) : Meets Tryz.prog 10 [i64 g, i64 (n : Int)] [] (fun _ => True) (fun v out => v = i64 ((pickN g n : Nat) : Int) ∧ out = []) := by
  intro W hW
  have htm := tmod_lo g hn
  refine calls_of (hp0 := []) Tryz.func10 rfl 16 Tryz.ntmps10 rfl (HRep.nil _) ?_
  refine Sat.seq ?_
  refine Sat.region ?_
  refine Tr.assign rfl rfl rfl ?_
  refine Tr.nil ?_
  refine at_n ?_
  refine Sat.seq ?_
  refine Sat.seq ?_
  refine Sat.region ?_
  refine Tr.move rfl rfl rfl ?_
  refine Tr.lss rfl rfl rfl rfl (decide_eq_false oM) ?_
  refine Tr.nil ?_
  refine at_n ?_
  refine Sat.cond_f rfl (rfl) ?_
  refine Sat.skip ?_
  refine at_n ?_
  refine Sat.seq ?_
  refine Sat.region ?_
  refine Tr.move rfl rfl rfl ?_
  refine Tr.move rfl rfl rfl ?_
  refine Tr.rem_i64t rfl rfl rfl rfl oM ?_
  refine Tr.assign rfl rfl rfl ?_
  refine Tr.nil ?_
  refine at_n ?_
  refine Sat.seq ?_
  refine Sat.seq ?_
  refine Sat.region ?_
  refine Tr.move rfl rfl rfl ?_
  refine Tr.lss rfl rfl rfl rfl rfl ?_
  refine Tr.nil ?_
  refine at_n ?_
  refine Sat.condP rfl (fun hc1 => ?_) (fun hc1 => ?_)
  ·
    refine Sat.region ?_
    refine Tr.move rfl rfl rfl ?_
    refine Tr.move rfl rfl rfl ?_
    refine Tr.add_i64 rfl rfl rfl rfl oM ?_
    refine Tr.assign rfl rfl rfl ?_
    refine Tr.nil ?_
    refine at_n ?_
    refine Sat.seq ?_
    refine Sat.region ?_
    refine Tr.move rfl rfl rfl ?_
    refine Tr.assign rfl rfl rfl ?_
    refine Tr.nil ?_
    refine at_n ?_
    refine Sat.ret ?_
    refine en_r ?_
    refine ⟨_, [], res_tmp rfl rfl, sP, sP, ?_, rfl⟩
    rw [pickN_neg hn hc1]
  ·
    refine Sat.skip ?_
    refine at_n ?_
    refine Sat.seq ?_
    refine Sat.region ?_
    refine Tr.move rfl rfl rfl ?_
    refine Tr.assign rfl rfl rfl ?_
    refine Tr.nil ?_
    refine at_n ?_
    refine Sat.ret ?_
    refine en_r ?_
    refine ⟨_, [], res_tmp rfl rfl, sP, sP, ?_, rfl⟩
    rw [pickN_pos hn hc1]

set_option maxRecDepth 100000 in
set_option maxHeartbeats 1000000 in
theorem law_signturned_long (seed : List UInt8) (h32 : seed.length = 32) (sb : Sl) (bb : List UInt8) (g : Int) (wg : (Lit.int .i64 g).wf = true) (x : UInt8) (hn : 1000 < sb.n) : Meets Tryz.prog 3 [agg (bytesV seed), sb.v, i64 g, u8 x] [] (fun W => BytesAt W sb bb) (fun v out => v = .bool true ∧ out = []) := by
  intro W hW
  refine calls_of (hp0 := []) Tryz.func3 rfl 135 Tryz.ntmps3 rfl (HRep.nil _) ?_
  refine Sat.seq ?_
  refine Sat.region ?_
  refine Tr.boxA rfl rfl ?_
  intro n4 hn4 hf4
  refine Tr.assign rfl rfl rfl ?_
  refine Tr.nil ?_
  refine at_n ?_
  refine Sat.seq ?_
  refine Sat.seq ?_
  refine Sat.region ?_
  refine Tr.callV rfl rfl rfl rfl Body7 (law06_lives) (fun _ _ => trivial) ?_
  refine Tr.not rfl rfl rfl ?_
  refine Tr.nil ?_
  refine at_n ?_
  refine Sat.cond_f rfl (rfl) ?_
  refine Sat.skip ?_
  refine at_n ?_
  refine Sat.seq ?_
  refine Sat.seq ?_
  refine Sat.region ?_
  refine Tr.move rfl rfl rfl ?_
  refine Tr.lenSl rfl rfl rfl Tryz.underlying23 ?_
  refine Tr.gtr rfl rfl rfl rfl (decide_eq_true oM) ?_
  refine Tr.move rfl rfl rfl ?_
  refine Tr.skp rfl rfl ?_
  refine Tr.skp rfl rfl ?_
  refine Tr.pick rfl rfl rfl rfl rfl rfl ?_
  refine Tr.nil ?_
  refine at_n ?_
  refine Sat.cond_t rfl rfl ?_
  refine Sat.seq ?_
  refine Sat.region ?_
  refine Tr.assign rfl rfl rfl ?_
  refine Tr.nil ?_
  refine at_n ?_
  refine Sat.ret ?_
  refine at_r ?_
  refine en_r ?_
  refine ⟨_, [], res_tmp rfl rfl, sP, sP, ?_, rfl⟩
  rfl

theorem cyL_first (a b : Nat) : 0 = cyL a b (256 ^ 0) := by rw [Nat.pow_zero, cyL, Nat.mod_one, Nat.mod_one]

set_option maxRecDepth 100000 in
set_option maxHeartbeats 8000000 in
theorem law_signturned (seed : List UInt8) (h32 : seed.length = 32) (sb : Sl) (bb : List UInt8) (g : Int) (wg : (Lit.int .i64 g).wf = true) (x : UInt8) (hn : sb.n ≤ 1000) (hbl : bb.length = sb.n) : Meets Tryz.prog 3 [agg (bytesV seed), sb.v, i64 g, u8 x] [] (fun W => BytesAt W sb bb) (fun v out => v = .bool true ∧ out = []) := by
  intro W hW
  obtain ⟨s, hs⟩ : ∃ s, Hid (sha512 seed = s) := ⟨_, ⟨rfl⟩⟩
  have hs64 : s.length = 64 := by rw [← hs.out]; exact sha512_length seed
  obtain ⟨s1, hs1⟩ : ∃ s1, Hid (sha512 (s.drop 32 ++ bb) = s1) := ⟨_, ⟨rfl⟩⟩
  obtain ⟨s2, hs2⟩ : ∃ s2, Hid (sha512 (sgF s1 ++ (sgK s ++ bb)) = s2) := ⟨_, ⟨rfl⟩⟩
  have hbb : bb.length ≤ 80000 := by omega
  have lC := clampB_length (l := s.take 32) (by rw [List.length_take, hs64]; rfl)
  have lG : (sgF s1 ++ sgS s s1 s2).length = 64 := by rw [List.length_append, sgF_length, sgS_length]
  have lK := sgK_length s
  have cO := fun (x : Sl) => sign_Sign seed h32 x bb hbb s s1 s2 hs hs1 hs2
  have rS := r6_Sign seed h32 sb bb hbb s s1 s2 hs hs1 hs2
  have cK : Meets Tryz.prog 23 [agg (bytesV seed)] [] (fun _ => True) (fun v out => v = agg (bytesV (sgK s)) ∧ out = []) := sign_Key seed h32 s hs
  have rK := r6_Key seed h32 s hs
  have lF := sgF_length s1
  have lS := sgS_length s s1 s2
  have hSL := sgS_lt s s1 s2
  have hgs := good_self s s1 bb hs2.out
  clear hs2 lC cO
  have hself : ∀ b, goodB (sgK s) bb (sgF s1 ++ sgS s s1 s2) = b → b = true := fun b e => by rw [← e]; exact hgs
  revert lG lK rS cK rK lF lS hSL hgs hself
  generalize sgS s s1 s2 = S3
  generalize sgF s1 = F
  generalize sgK s = K
  intro lG lK rS cK rK lF lS hSL hgs hself
  have p64 := pickN_lt g (n := 64) dE
  have p32 := pickN_lt g (n := 32) dE
  obtain ⟨TG, hTG⟩ : ∃ l, ((F ++ S3).set (pickN g 64) ((F ++ S3).getD (pickN g 64) 0 ^^^ x)) = l := ⟨_, rfl⟩
  obtain ⟨JK, hJK⟩ : ∃ l, (K.set (pickN g 32) (K.getD (pickN g 32) 0 ^^^ x)) = l := ⟨_, rfl⟩
  have lT : TG.length = 64 := by rw [← hTG, List.length_set]; exact lG
  have lJ : JK.length = 32 := by rw [← hJK, List.length_set]; exact lK
  obtain ⟨LL, hLL⟩ : ∃ l, Hid (leb 32 L = l) := ⟨_, ⟨rfl⟩⟩
  have lLL : LL.length = 32 := by rw [← hLL.out]; exact leb_length _ _
  have cL := ref_L
  rw [hLL.out] at cL
  have lhi : True := trivial
  have hbad := fun kk => high_bad (k := kk) (bb := bb) lF lS hSL
  refine calls_of (hp0 := []) Tryz.func3 rfl 135 Tryz.ntmps3 rfl (HRep.nil _) ?_
  refine Sat.seq ?_
  refine Sat.region ?_
  refine Tr.boxA rfl rfl ?_
  intro n4 hn4 hf4
  refine Tr.assign rfl rfl rfl ?_
  refine Tr.nil ?_
  refine at_n ?_
  refine Sat.seq ?_
  refine Sat.seq ?_
  refine Sat.region ?_
  refine Tr.callV rfl rfl rfl rfl Body7 (law06_lives) (fun _ _ => trivial) ?_
  refine Tr.not rfl rfl rfl ?_
  refine Tr.nil ?_
  refine at_n ?_
  refine Sat.cond_f rfl (rfl) ?_
  refine Sat.skip ?_
  refine at_n ?_
  refine Sat.seq ?_
  refine Sat.seq ?_
  refine Sat.region ?_
  refine Tr.move rfl rfl rfl ?_
  refine Tr.lenSl rfl rfl rfl Tryz.underlying23 ?_
  refine Tr.gtr rfl rfl rfl rfl (decide_eq_false oM) ?_
  refine Tr.move rfl rfl rfl ?_
  refine Tr.move rfl rfl rfl ?_
  refine two (fun r hr k => Tr.eqi rfl rfl rfl rfl hr k) (fun hs3_50 => ?_) (fun hs3_50 => ?_)
  ·
    have hs3_5 := of_decide_eq_true hs3_50
    refine Tr.pick rfl rfl rfl rfl rfl rfl ?_
    refine Tr.nil ?_
    refine at_n ?_
    refine Sat.cond_t rfl rfl ?_
    refine Sat.seq ?_
    refine Sat.region ?_
    refine Tr.assign rfl rfl rfl ?_
    refine Tr.nil ?_
    refine at_n ?_
    refine Sat.ret ?_
    refine at_r ?_
    refine en_r ?_
    refine ⟨_, [], res_tmp rfl rfl, sP, sP, ?_, rfl⟩
    rfl
  ·
    have hs3_5 := of_decide_eq_false hs3_50
    refine Tr.pick rfl rfl rfl rfl rfl rfl ?_
    refine Tr.nil ?_
    refine at_n ?_
    refine Sat.cond_f rfl rfl ?_
    refine Sat.skip ?_
    refine at_n ?_
    refine Sat.seq ?_
    refine Sat.region ?_
    refine Tr.loadAll rfl rfl rfl Tryz.underlying22 rfl Sz22 (by exact mem0) (by (simp [h32]; done)) ?_
    refine Tr.callV rfl rfl rfl rfl Body8 (rK) (fun _ _ => trivial) ?_
    refine Tr.alloc (cs := (bytesV (List.replicate 32 0))) rfl Zr25 rfl ?_
    intro n9 hn9 hf9
    refine Tr.storeAll rfl rfl rfl rfl (by exact bytesV_cell _) Sz25 (by (simp [lK]; done)) (by exact mem0) (by (simp; done)) (by exact upd0) ?_
    refine Tr.nil ?_
    refine at_n ?_
    refine Sat.seq ?_
    refine Sat.region ?_
    refine Tr.loadAll rfl rfl rfl Tryz.underlying22 rfl Sz22 (by exact mem1) (by (simp [h32]; done)) ?_
    refine Tr.move rfl rfl rfl ?_
    refine Tr.callV rfl rfl rfl rfl Body9 (rS) (fun w h => bytes_ext h rfl hW) ?_
    refine Tr.alloc (cs := (bytesV (List.replicate 64 0))) rfl Zr28 rfl ?_
    intro n10 hn10 hf10
    refine Tr.storeAll rfl rfl rfl rfl (by exact bytesV_cell _) Sz28 (by (rw [bytesV, List.length_map]; assumption)) (by exact mem0) (by (simp; done)) (by exact upd0) ?_
    refine Tr.nil ?_
    refine at_n ?_
    refine Sat.seq ?_
    refine Sat.withK (sp_k (sp_k (sp_v sp_n))) rfl ?_
    refine Sat.draw [(0, 0), (0, 1), (2, 2), (2, 3), (4, 4), (4, 5)] Mixed (by kernel_rfl) ?_
    refine Tr.kloadAll rfl rfl rfl Tryz.underlying28 rfl Sz28 (by exact mem0) (by (rw [bytesV, List.length_map]; assumption)) ?_
    refine Tr.kloadAll rfl rfl rfl Tryz.underlying25 rfl Sz25 (by exact mem1) (by (simp [lK]; done)) ?_
    refine Tr.alloc (cs := (bytesV (List.replicate 64 0))) rfl Zr28 rfl ?_
    intro n11 hn11 hf11
    refine Tr.alloc (cs := (bytesV (List.replicate 32 0))) rfl Zr25 rfl ?_
    intro n12 hn12 hf12
    refine Tr.storeAll rfl rfl rfl rfl (by exact bytesV_cell _) Sz28 (by (rw [bytesV, List.length_map]; assumption)) (by exact mem1) (by (simp; done)) (by exact upd1) ?_
    refine Tr.storeAll rfl rfl rfl rfl (by exact bytesV_cell _) Sz25 (by (simp [lK]; done)) (by exact mem0) (by (simp; done)) (by exact upd0) ?_
    refine Tr.nil ?_
    refine at_n ?_
    refine Sat.seq ?_
    refine Sat.region ?_
    simp only [List.cons_append, List.nil_append, List.append_nil]
    refine Tr.move rfl rfl rfl ?_
    refine Tr.callV rfl rfl rfl rfl Body10 (kit_pickN g 64 dE dE) (fun _ _ => trivial) ?_
    refine Tr.idxArr1 rfl rfl rfl rfl Tryz.underlying28 Sz5 _ rfl oM ?_
    refine Tr.load1 rfl rfl rfl Tryz.underlying5 rfl (by exact mem1) (by exact get_bytes oM) ?_
    refine Tr.move rfl rfl rfl ?_
    refine Tr.xor_u8 rfl rfl rfl rfl ?_
    refine Tr.idxArr1 rfl rfl rfl rfl Tryz.underlying28 Sz5 _ rfl oM ?_
    refine Tr.store1 rfl rfl rfl rfl rfl Sz5 (by exact mem1) (by (simp; omega)) (by exact set_bytes _ _ _) (by exact upd1) ?_
    refine Tr.nil ?_
    refine at_n ?_
    refine Sat.seq ?_
    refine Sat.region ?_
    rw [hTG]
    refine Tr.move rfl rfl rfl ?_
    refine Tr.callV rfl rfl rfl rfl Body10 (kit_pickN g 32 dE dE) (fun _ _ => trivial) ?_
    refine Tr.idxArr1 rfl rfl rfl rfl Tryz.underlying25 Sz5 _ rfl oM ?_
    refine Tr.load1 rfl rfl rfl Tryz.underlying5 rfl (by exact mem0) (by exact get_bytes oM) ?_
    refine Tr.move rfl rfl rfl ?_
    refine Tr.xor_u8 rfl rfl rfl rfl ?_
    refine Tr.idxArr1 rfl rfl rfl rfl Tryz.underlying25 Sz5 _ rfl oM ?_
    refine Tr.store1 rfl rfl rfl rfl rfl Sz5 (by exact mem0) (by (simp [lK]; omega)) (by exact set_bytes _ _ _) (by exact upd0) ?_
    refine Tr.nil ?_
    refine at_n ?_
    refine Sat.seq ?_
    refine Sat.region ?_
    rw [hJK]
    refine Tr.move rfl rfl rfl ?_
    refine Tr.call4 rfl rfl rfl rfl rfl Body11 (kit_own sb bb oM) (fun w h => bytes_ext h rfl hW) ?_
    rintro v49 out49 ⟨q49, c49, rfl, hc49, rfl⟩
    refine Tr.assign rfl rfl rfl ?_
    refine Tr.nil ?_
    refine at_n ?_
    refine Sat.join (ι := Sl × List Blk × List UInt8) (fun y => ⟨[(1, sb.v), (9, ptr n9 0), (10, ptr n10 0), (11, ptr n11 0), (12, ptr n12 0), (13, y.1.v)], (y.2.1 ++ (⟨n12, bytesV JK, 25, 32⟩ :: (⟨n11, bytesV TG, 28, 64⟩ :: (⟨n10, bytesV (F ++ S3), 28, 64⟩ :: (⟨n9, bytesV K, 25, 32⟩ :: [])))))⟩) (fun y => Acc y.1 y.2.1 (bytesV y.2.2) 5 y.2.2.length 1 ∧ y.2.2.length ≤ 1000) ?_ ?_
    ·
      refine Sat.seq ?_
      refine Sat.region ?_
      refine Tr.move rfl rfl rfl ?_
      refine Tr.lenSl rfl rfl rfl Tryz.underlying23 ?_
      refine Tr.gtr rfl rfl rfl rfl rfl ?_
      refine Tr.nil ?_
      refine at_n ?_
      refine Sat.condP rfl (fun hc2 => ?_) (fun hc2 => ?_)
      ·
        have hsb : 0 < sb.n := by omega
        have hpk := pickN_lt g hsb
        have hpk2 : pickN g sb.n < bb.length := by omega
        refine Sat.region ?_
        refine Tr.move rfl rfl rfl ?_
        refine Tr.move rfl rfl rfl ?_
        refine Tr.move rfl rfl rfl ?_
        refine Tr.lenSl rfl rfl rfl Tryz.underlying23 ?_
        refine Tr.callV rfl rfl rfl rfl Body10 (kit_pickN g sb.n oM oM) (fun _ _ => trivial) ?_
        refine Tr.idxSl1 rfl rfl rfl rfl Tryz.underlying23 Sz5 (pickN g sb.n) rfl (pickN_lt g oM) ?_
        refine Tr.load1 rfl rfl rfl Tryz.underlying5 rfl (by exact mem0) (by exact get_bytes oM) ?_
        refine Tr.move rfl rfl rfl ?_
        refine Tr.xor_u8 rfl rfl rfl rfl ?_
        refine Tr.idxSl1 rfl rfl rfl rfl Tryz.underlying23 Sz5 (pickN g sb.n) rfl (pickN_lt g oM) ?_
        refine Tr.store1 rfl rfl rfl rfl rfl Sz5 (by exact mem0) (by rw [bytesV, List.length_map]; exact hpk2) (set_bytes _ _ _) (by exact upd0) ?_
        refine Tr.nil ?_
        refine at_n ?_
        exact ⟨(⟨some ⟨q49, 0, none⟩, sb.n, c49⟩, [⟨q49, bytesV (bb.set (pickN g sb.n) (bb.getD (pickN g sb.n) 0 ^^^ x)), 5, c49 * 1⟩], bb.set (pickN g sb.n) (bb.getD (pickN g sb.n) 0 ^^^ x)), ⟨acc_set _ hbl hc49, by rw [List.length_set]; omega⟩, weak_perm (wk1 rfl (wk1 rfl (wk1 rfl (wk1 rfl (wk1 rfl (wk1 rfl wk0)))))) (pm_consE (by repeat (exact rem_here)) rfl rfl (pm_cons (by repeat (exact rem_here)) (pm_cons (by repeat (exact rem_here)) (pm_cons (by repeat (first | exact rem_here | apply rem_there)) (pm_cons (by repeat (first | exact rem_here | apply rem_there)) pm_nil)))))⟩
      ·
        refine Sat.region ?_
        refine Tr.move rfl rfl rfl ?_
        refine Tr.mkRow (z := u8 0) [u8 x] (bytesV [x]) rfl rfl rfl Tryz.underlying23 Sz5 Zr5 rfl rfl (by intro v hv; rw [List.mem_singleton.1 hv]; rfl) dE rfl ?_
        intro q64
        refine Tr.assign rfl rfl rfl ?_
        refine Tr.nil ?_
        refine at_n ?_
        exact ⟨(⟨some ⟨q64, 0, none⟩, 1, 1⟩, [⟨q64, bytesV [x], 5, 1 * 1⟩], [x]), ⟨acc_one x, by show (1 : Nat) ≤ 1000; decide⟩, weak_perm (wk1 rfl (wk1 rfl (wk1 rfl (wk1 rfl (wk1 rfl (wk1 rfl wk0)))))) (pm_consE (by repeat (exact rem_here)) rfl (by rfl) (pm_cons (by repeat (first | exact rem_here | apply rem_there)) (pm_cons (by repeat (first | exact rem_here | apply rem_there)) (pm_cons (by repeat (first | exact rem_here | apply rem_there)) (pm_cons (by repeat (first | exact rem_here | apply rem_there)) pm_nil)))))⟩
    ·
      intro y hj
      obtain ⟨hay, hyl⟩ := hj
      refine Sat.seq ?_
      refine Sat.region ?_
      refine Tr.callV rfl rfl rfl rfl Body12 (cL) (fun _ _ => trivial) ?_
      refine Tr.alloc (cs := (bytesV (List.replicate 32 0))) rfl Zr32 rfl ?_
      intro n14 hn14 hf14
      refine Tr.storeAll rfl rfl rfl rfl (by exact bytesV_cell _) Sz32 (by (simp [lLL]; done)) (by exact mem0) (by (simp; done)) (by exact upd0) ?_
      refine Tr.nil ?_
      refine at_n ?_
      refine Sat.seq ?_
      refine Sat.region ?_
      refine Tr.loadAll rfl rfl rfl Tryz.underlying28 rfl Sz28 (by (repeat (first | exact List.mem_cons_self | refine List.mem_cons_of_mem _ ?_ | refine mem_seg ?_))) (by (rw [bytesV, List.length_map]; assumption)) ?_
      refine Tr.alloc (cs := (bytesV (List.replicate 64 0))) rfl Zr28 rfl ?_
      intro n15 hn15 hf15
      refine Tr.storeAll rfl rfl rfl rfl (by exact bytesV_cell _) Sz28 (by (rw [bytesV, List.length_map]; assumption)) (by exact mem0) (by (simp; done)) (by exact upd0) ?_
      refine Tr.nil ?_
      refine at_n ?_
      refine Sat.seq ?_
      refine Sat.region ?_
      refine Tr.assign rfl rfl rfl ?_
      refine Tr.nil ?_
      refine at_n ?_
      refine Sat.seq ?_
      refine Sat.seq ?_
      refine Sat.region ?_
      refine Tr.assign rfl rfl rfl ?_
      refine Tr.nil ?_
      refine at_n ?_
      refine Sat.block ?_
      refine Sat.loop (ι := Nat) (fun i => ⟨[(1, sb.v), (9, ptr n9 0), (10, ptr n10 0), (11, ptr n11 0), (12, ptr n12 0), (13, y.1.v), (14, ptr n14 0), (15, ptr n15 0), (16, i64 ((cyL (le S3) L (256 ^ i) : Nat) : Int)), (17, i64 (i : Int))], (⟨n15, bytesV (F ++ hiAt S3 i), 28, 64⟩ :: (⟨n14, bytesV LL, 32, 32⟩ :: (y.2.1 ++ (⟨n12, bytesV JK, 25, 32⟩ :: (⟨n11, bytesV TG, 28, 64⟩ :: (⟨n10, bytesV (F ++ S3), 28, 64⟩ :: (⟨n9, bytesV K, 25, 32⟩ :: [])))))))⟩) (fun i => i ≤ 32) (fun i => 32 - i) (0) ?_ ?_ ?_
      · omega
      · exact weak_perm (wk1 rfl (wk1 rfl (wk1 rfl (wk1 rfl (wk1 rfl (wk1 rfl (wk1 rfl (wk1 rfl (wk1 (congrArg (fun n : Nat => some (i64 (n : Int))) (cyL_first _ _)) (wk1 rfl wk0)))))))))) (pm_cons (by repeat (exact rem_here)) (pm_cons (by repeat (exact rem_here)) (pm_seg (by repeat (exact sg_here)) (pm_cons (by repeat (exact rem_here)) (pm_cons (by repeat (exact rem_here)) (pm_cons (by repeat (exact rem_here)) (pm_cons (by repeat (exact rem_here)) pm_nil)))))))
      ·
        rintro i hi
        have lhh := hiAt_length lS i hi
        have lhi : (F ++ hiAt S3 i).length = 64 := by rw [List.length_append, lF, hiAt_length lS i hi]
        refine Sat.seq ?_
        refine Sat.seq ?_
        refine Sat.region ?_
        refine Tr.move rfl rfl rfl ?_
        refine Tr.lss rfl rfl rfl rfl rfl ?_
        refine Tr.nil ?_
        refine at_n ?_
        refine Sat.condP rfl (fun hc3 => ?_) (fun hc3 => ?_)
        ·
          have hi2 : i < 32 := by omega
          have hb1 := cat_byte (S := S3) lF i
          have hb2 := L_byte i LL hLL.out
          have hcy := cyL_next (le S3) L (256 ^ i) (Nat.pow_pos dE)
          have hcl := cyL_le (le S3) L (256 ^ i) (Nat.pow_pos dE)
          have hm1 := Nat.mod_lt (le S3 / 256 ^ i) (show 0 < 256 by decide)
          have hm2 := Nat.mod_lt (L / 256 ^ i) (show 0 < 256 by decide)
          rw [← hb1, ← hb2] at hcy
          rw [← hb1] at hm1
          rw [← hb2] at hm2
          have hst := hiAt_step lF lS hi2 (UInt8.ofNat ((cyL (le S3) L (256 ^ i) + ((F ++ S3).getD (32 + i) 0).toNat + (LL.getD i 0).toNat) % 256)) (ofNat8 (by rw [Nat.mod_mod, hcy.1]))
          refine Sat.skip ?_
          refine at_n ?_
          refine Sat.seq ?_
          refine Sat.block ?_
          refine Sat.seq ?_
          refine Sat.draw [(0, 0), (0, 1), (0, 2), (0, 3), (1, 4), (0, 5), (0, 6), (0, 7), (0, 8), (1, 9), (0, 10), (0, 11), (0, 12)] Mixed (by kernel_rfl) ?_
          refine Tr.move rfl rfl rfl ?_
          refine Tr.move rfl rfl rfl ?_
          refine Tr.addN 32 i rfl rfl rfl rfl oM ?_
          refine Tr.idxArr1 rfl rfl rfl rfl Tryz.underlying28 Sz5 _ rfl oM ?_
          refine Tr.load1 rfl rfl rfl Tryz.underlying5 rfl (by (repeat (first | exact List.mem_cons_self | refine List.mem_cons_of_mem _ ?_ | refine mem_seg ?_))) (by exact get_bytes oM) ?_
          refine Tr.conv rfl rfl rfl Tryz.underlying5 Tryz.underlying3 (cv_u8_i64 _) ?_
          refine Tr.addN (cyL (le S3) L (256 ^ i)) (((F ++ S3).getD (32 + i) 0).toNat) rfl rfl rfl rfl oM ?_
          refine Tr.move rfl rfl rfl ?_
          refine Tr.idxArr1 rfl rfl rfl rfl Tryz.underlying32 Sz5 _ rfl oM ?_
          refine Tr.load1 rfl rfl rfl Tryz.underlying5 rfl (by exact mem1) (by exact get_bytes oM) ?_
          refine Tr.conv rfl rfl rfl Tryz.underlying5 Tryz.underlying3 (cv_u8_i64 _) ?_
          refine Tr.addN (cyL (le S3) L (256 ^ i) + ((F ++ S3).getD (32 + i) 0).toNat) ((LL.getD i 0).toNat) rfl rfl rfl rfl oM ?_
          refine Tr.assign rfl rfl rfl ?_
          refine Tr.nil ?_
          refine at_n ?_
          refine Sat.seq ?_
          refine Sat.region ?_
          refine Tr.move rfl rfl rfl ?_
          refine Tr.addN 32 i rfl rfl rfl rfl oM ?_
          refine Tr.move rfl rfl rfl ?_
          refine Tr.remN (cyL (le S3) L (256 ^ i) + ((F ++ S3).getD (32 + i) 0).toNat + (LL.getD i 0).toNat) 256 rfl rfl rfl rfl dE ?_
          refine Tr.conv rfl rfl rfl Tryz.underlying3 Tryz.underlying5 (cv_i64_u8 _) ?_
          refine Tr.idxArr1 rfl rfl rfl rfl Tryz.underlying28 Sz5 _ rfl oM ?_
          rw [byteOf_nat]
          refine Tr.store1 rfl rfl rfl rfl rfl Sz5 (by exact mem0) (by (simp; omega)) (by exact set_bytes _ _ _) (by exact upd0) ?_
          refine Tr.nil ?_
          refine at_n ?_
          refine Sat.region ?_
          refine Tr.move rfl rfl rfl ?_
          refine Tr.quoN (cyL (le S3) L (256 ^ i) + ((F ++ S3).getD (32 + i) 0).toNat + (LL.getD i 0).toNat) 256 rfl rfl rfl rfl ⟨by decide, by omega⟩ ?_
          refine Tr.assign rfl rfl rfl ?_
          refine Tr.nil ?_
          refine bl_n ?_
          refine at_n ?_
          refine Sat.region ?_
          refine Tr.move rfl rfl rfl ?_
          refine Tr.add_i64 rfl rfl rfl rfl oM ?_
          refine Tr.assign rfl rfl rfl ?_
          refine Tr.nil ?_
          refine at_n ?_
          exact ⟨i + 1, by omega, by omega, weak_perm (wk1 rfl (wk1 rfl (wk1 rfl (wk1 rfl (wk1 rfl (wk1 rfl (wk1 rfl (wk1 rfl (wk1 (congrArg (fun n : Nat => some (i64 (n : Int))) (by rw [Nat.pow_succ]; exact hcy.2)) (wk1 rfl wk0)))))))))) (pm_consE (by repeat (exact rem_here)) (congrArg bytesV hst) rfl (pm_cons (by repeat (exact rem_here)) (pm_seg (by repeat (exact sg_here)) (pm_cons (by repeat (exact rem_here)) (pm_cons (by repeat (exact rem_here)) (pm_cons (by repeat (exact rem_here)) (pm_cons (by repeat (exact rem_here)) pm_nil)))))))⟩
        ·
          obtain rfl : i = 32 := by omega
          have hhigh := sign_Good K lK sb bb hbb _ lhi
          rw [hbad K] at hhigh
          have hgood := sign_Good K lK sb bb hbb (F ++ S3) lG
          rw [hgs] at hgood
          revert hhigh lhi
          generalize F ++ hiAt S3 32 = H
          intro lhi hhigh
          refine Sat.exit ?_
          refine at_x ?_
          refine at_x ?_
          refine bl_h ?_
          refine at_n ?_
          refine Sat.seq ?_
          refine Sat.draw [(1, 0), (0, 1), (1, 2), (1, 4), (0, 5), (1, 6), (3, 3), (3, 7), (0, 8), (0, 9), (1, 10), (0, 11), (1, 12), (1, 14), (0, 15), (1, 16), (3, 13), (3, 17), (0, 18), (0, 19), (0, 20), (1, 21), (0, 22), (1, 23), (1, 25), (0, 26), (1, 27), (3, 24), (3, 28), (0, 29), (0, 30), (0, 31), (1, 32), (0, 33), (1, 34), (3, 35), (0, 36), (0, 37), (0, 38), (1, 39), (0, 40), (1, 41), (3, 42), (0, 43), (0, 44)] Mixed (by kernel_rfl) ?_
          refine Tr.loadAll rfl rfl rfl Tryz.underlying25 rfl Sz25 (by (repeat (first | exact List.mem_cons_self | refine List.mem_cons_of_mem _ ?_ | refine mem_seg ?_))) (by (simp [lK]; done)) ?_
          refine Tr.move rfl rfl rfl ?_
          refine Tr.loadAll rfl rfl rfl Tryz.underlying28 rfl Sz28 (by (repeat (first | exact List.mem_cons_self | refine List.mem_cons_of_mem _ ?_ | refine mem_seg ?_))) (by (simp [lT]; done)) ?_
          refine Tr.loadAll rfl rfl rfl Tryz.underlying25 rfl Sz25 (by (repeat (first | exact List.mem_cons_self | refine List.mem_cons_of_mem _ ?_ | refine mem_seg ?_))) (by (simp [lK]; done)) ?_
          refine Tr.move rfl rfl rfl ?_
          refine Tr.loadAll rfl rfl rfl Tryz.underlying28 rfl Sz28 (by (repeat (first | exact List.mem_cons_self | refine List.mem_cons_of_mem _ ?_ | refine mem_seg ?_))) (by (simp [lT]; done)) ?_
          refine Tr.callV rfl rfl rfl rfl Body13 (sign_Good K lK sb bb hbb TG lT) (fun w h => bytes_ext h rfl hW) ?_
          refine Tr.callV rfl rfl rfl rfl Body14 (r6_Good K lK sb bb hbb TG lT) (fun w h => bytes_ext h rfl hW) ?_
          refine Tr.eqb (r := true) rfl rfl rfl rfl Tryz.underlying4 sP ?_
          refine Tr.move rfl rfl rfl ?_
          refine Tr.loadAll rfl rfl rfl Tryz.underlying25 rfl Sz25 (by (repeat (first | exact List.mem_cons_self | refine List.mem_cons_of_mem _ ?_ | refine mem_seg ?_))) (by (simp [lJ]; done)) ?_
          refine Tr.move rfl rfl rfl ?_
          refine Tr.loadAll rfl rfl rfl Tryz.underlying28 rfl Sz28 (by (repeat (first | exact List.mem_cons_self | refine List.mem_cons_of_mem _ ?_ | refine mem_seg ?_))) (by (rw [bytesV, List.length_map]; assumption)) ?_
          refine Tr.loadAll rfl rfl rfl Tryz.underlying25 rfl Sz25 (by (repeat (first | exact List.mem_cons_self | refine List.mem_cons_of_mem _ ?_ | refine mem_seg ?_))) (by (simp [lJ]; done)) ?_
          refine Tr.move rfl rfl rfl ?_
          refine Tr.loadAll rfl rfl rfl Tryz.underlying28 rfl Sz28 (by (repeat (first | exact List.mem_cons_self | refine List.mem_cons_of_mem _ ?_ | refine mem_seg ?_))) (by (rw [bytesV, List.length_map]; assumption)) ?_
          refine Tr.callV rfl rfl rfl rfl Body13 (sign_Good JK lJ sb bb hbb (F ++ S3) lG) (fun w h => bytes_ext h rfl hW) ?_
          refine Tr.callV rfl rfl rfl rfl Body14 (r6_Good JK lJ sb bb hbb (F ++ S3) lG) (fun w h => bytes_ext h rfl hW) ?_
          refine Tr.eqb (r := true) rfl rfl rfl rfl Tryz.underlying4 sP ?_
          refine Tr.pick rfl rfl rfl rfl rfl rfl ?_
          refine Tr.move rfl rfl rfl ?_
          refine Tr.loadAll rfl rfl rfl Tryz.underlying25 rfl Sz25 (by (repeat (first | exact List.mem_cons_self | refine List.mem_cons_of_mem _ ?_ | refine mem_seg ?_))) (by (simp [lK]; done)) ?_
          refine Tr.move rfl rfl rfl ?_
          refine Tr.loadAll rfl rfl rfl Tryz.underlying28 rfl Sz28 (by (repeat (first | exact List.mem_cons_self | refine List.mem_cons_of_mem _ ?_ | refine mem_seg ?_))) (by (rw [bytesV, List.length_map]; assumption)) ?_
          refine Tr.loadAll rfl rfl rfl Tryz.underlying25 rfl Sz25 (by (repeat (first | exact List.mem_cons_self | refine List.mem_cons_of_mem _ ?_ | refine mem_seg ?_))) (by (simp [lK]; done)) ?_
          refine Tr.move rfl rfl rfl ?_
          refine Tr.loadAll rfl rfl rfl Tryz.underlying28 rfl Sz28 (by (repeat (first | exact List.mem_cons_self | refine List.mem_cons_of_mem _ ?_ | refine mem_seg ?_))) (by (rw [bytesV, List.length_map]; assumption)) ?_
          refine Tr.callV rfl rfl rfl rfl Body13 (sign_Good K lK y.1 y.2.2 oM (F ++ S3) lG) (fun w h => acc_bytes hay (Lies.of h (by repeat (first | exact in_here | refine in_there ?_))) rfl oM) ?_
          refine Tr.callV rfl rfl rfl rfl Body14 (r6_Good K lK y.1 y.2.2 oM (F ++ S3) lG) (fun w h => acc_bytes hay (Lies.of h (by repeat (first | exact in_here | refine in_there ?_))) rfl oM) ?_
          refine Tr.eqb (r := true) rfl rfl rfl rfl Tryz.underlying4 sP ?_
          refine Tr.pick rfl rfl rfl rfl rfl rfl ?_
          refine Tr.move rfl rfl rfl ?_
          refine Tr.loadAll rfl rfl rfl Tryz.underlying25 rfl Sz25 (by (repeat (first | exact List.mem_cons_self | refine List.mem_cons_of_mem _ ?_ | refine mem_seg ?_))) (by (simp [lK]; done)) ?_
          refine Tr.move rfl rfl rfl ?_
          refine Tr.loadAll rfl rfl rfl Tryz.underlying28 rfl Sz28 (by exact mem0) (by (simp [lhi]; done)) ?_
          refine Tr.callV rfl rfl rfl rfl Body13 (hhigh) (fun w h => bytes_ext h rfl hW) ?_
          refine Tr.not rfl rfl rfl ?_
          refine Tr.pick rfl rfl rfl rfl rfl rfl ?_
          refine Tr.move rfl rfl rfl ?_
          refine Tr.loadAll rfl rfl rfl Tryz.underlying25 rfl Sz25 (by (repeat (first | exact List.mem_cons_self | refine List.mem_cons_of_mem _ ?_ | refine mem_seg ?_))) (by (simp [lK]; done)) ?_
          refine Tr.move rfl rfl rfl ?_
          refine Tr.loadAll rfl rfl rfl Tryz.underlying28 rfl Sz28 (by (repeat (first | exact List.mem_cons_self | refine List.mem_cons_of_mem _ ?_ | refine mem_seg ?_))) (by (rw [bytesV, List.length_map]; assumption)) ?_
          refine Tr.callV rfl rfl rfl rfl Body13 (hgood) (fun w h => bytes_ext h rfl hW) ?_
          refine Tr.pick rfl rfl rfl rfl rfl rfl ?_
          refine Tr.assign rfl rfl rfl ?_
          refine Tr.nil ?_
          refine at_n ?_
          refine Sat.ret ?_
          refine en_r ?_
          refine ⟨_, [], res_tmp rfl rfl, sP, sP, ?_, rfl⟩
          rfl

theorem law_signturned_all (seed : List UInt8) (h32 : seed.length = 32) (sb : Sl) (bb : List UInt8) (g : Int) (wg : (Lit.int .i64 g).wf = true) (x : UInt8) : Meets Tryz.prog 3 [agg (bytesV seed), sb.v, i64 g, u8 x] [] (fun W => BytesAt W sb bb) (fun v out => v = .bool true ∧ out = []) := by
  intro W hW
  rcases Nat.lt_or_ge 1000 sb.n with h | h
  · exact law_signturned_long seed h32 sb bb g wg x h W hW
  · exact law_signturned seed h32 sb bb g wg x h hW.len W hW

end Go.Proofs.YtmddgelpllffoaaGreat
end

section
namespace Go.Proofs.YtmddgelpllffoaaGreat
open Go Go.ChangeShapes Go.WideShapes Go.ChangeAt Go.RowKit
set_option linter.unusedVariables false

theorem ownSTurned : ownKnob Tryz.prog.godebug = none := by kernel_rfl
theorem laidOutSTurned : laidOutB Tryz.prog = true := by kernel_rfl

theorem openSlSTurned {H : Type} {enc : TypeId × Value → H} {P : Program} {W : World} {base : Nat} {sp : Nat → Bool} {held : Bool} {k e : TypeId} (hu : P.underlying k = some (.slice e)) (he : P.underlying e = some (.int .u8)) (hc : P.cellsOf e = 1) {r : Reach} {b0 : Nat} {v : Value} {d : DataW H} {ps : List MemPlace}
    (hval : Value.okWide P W r b0 k v) (hd : DataW.Trod enc P W base sp held k v d ps) : ∃ s l, v = Hw.Sl.v s ∧ Hw.BytesAt W s l := by
  simp only [Value.okWide, hu, Cell.okWide] at hval
  obtain ⟨a1, len, cap, rfl⟩ : ∃ a1 len cap, v = .slice a1 len cap := by
    unfold Cell.ok at hval
    rw [hu] at hval
    split at hval <;> first | exact hval.elim | exact ⟨_, _, _, rfl⟩ | simp_all
  obtain ⟨fuel, hf⟩ := hd
  obtain ⟨s, l, h1, h2⟩ := Hw.open_bytesS hu he hc hf
  refine ⟨s, l, ?_, h2⟩
  simp [Value.cells] at h1
  exact h1

theorem walkSTurned (w : World) (l0 : List UInt8) (hl0 : l0.length = 32) (s1 : Hw.Sl) (l1 : List UInt8) (hs1 : Hw.BytesAt w s1 l1) (a2 : Int) (w2 : (Lit.int .i64 a2).wf = true) (x3 : UInt8) : Calls Tryz.prog 3 #[Hw.agg (Hw.bytesV l0), Hw.Sl.v s1, Hw.i64 a2, Hw.u8 x3] w fun e w' => e = .returned (.bool true) ∧ Below w.heap.size w w' :=
  by
  have fin : ∀ {us : Array Value}, Calls Tryz.prog 3 us w (fun e W' => ∃ v out, e = .returned v ∧ (v = .bool true ∧ out = []) ∧ Hw.Ret [] out w W') → Calls Tryz.prog 3 us w (fun e w' => e = .returned (.bool true) ∧ Below w.heap.size w w') :=
    fun h => h.mono fun e w' ⟨v, out, he, ⟨hv, ho⟩, hr⟩ => ⟨by rw [he, hv], Hw.Keeps.below hr.keeps⟩
  exact fin (law_signturned_all l0 hl0 s1 l1 a2 w2 x3 w hs1)

set_option maxRecDepth 100000 in
theorem liftedSTurned (os : Os) (started : os.Started) (H : Type) (enc : TypeId × Value → H) :
    ReturnsInHanded {} Tryz.checked os 3 .any (Rows.signTurnedSpec.pre6 enc Tryz.prog Tryz.f3 Rows.signTurnedRow.domain false) (Rows.signTurnedSpec.post enc Tryz.prog Tryz.f3 false true false false) := by
  refine returnsInHanded_of_change (C := Tryz.checked) ownSTurned started (by kernel_rfl) Tryz.func3
    (ChangeSpec.witness6 (enc := enc) (C := Tryz.checked) false ⟨#[], #[.agg (Array.replicate 32 (.int .u8 0)), .slice none 0 0, .int .i64 0, .int .u8 0], []⟩ 8 (by kernel_rfl) (by kernel_rfl) (by kernel_rfl) (by kernel_rfl)) ?_
  intro W base args ds gs before hval0 hW hcnd _
  have hval : ∀ (j : Nat) t v, Tryz.f3.params[j]? = some t → args[j]? = some v → Value.okWide Tryz.prog W .any base t v := hval0
  have hW' := hW
  obtain ⟨p, q, hA0, hV, rfl, hfz, hnd⟩ := hW
  have hA : DataW.TrodAll enc Tryz.prog W 0 (fun _ => true) true Tryz.f3.params.toList args.toList ds p := hA0
  rw [Tryz.params3] at hA hval
  obtain ⟨v0, vs0, d0, ds0, p0, q0, hargs, rfl, rfl, h0, r0⟩ := trodAll_cons hA
  obtain ⟨v1, vs1, d1, ds1, p1, q1, rfl, rfl, rfl, h1, r1⟩ := trodAll_cons r0
  obtain ⟨v2, vs2, d2, ds2, p2, q2, rfl, rfl, rfl, h2, r2⟩ := trodAll_cons r1
  obtain ⟨v3, vs3, d3, ds3, p3, q3, rfl, rfl, rfl, h3, r3⟩ := trodAll_cons r2
  obtain ⟨rfl, rfl, rfl⟩ := trodAll_nil r3
  obtain rfl : args = #[v0, v1, v2, v3] := by cases args; simp_all
  obtain ⟨rfl, rfl⟩ := trodVars_none hV
  have k0 := h0
  have lt0 : ∀ x ∈ p0, x.block < W.heap.size := by obtain ⟨m, hm⟩ := k0; exact DataW.trod_lt m _ _ _ hm
  have k1 := h1
  have lt1 : ∀ x ∈ p1, x.block < W.heap.size := by obtain ⟨m, hm⟩ := k1; exact DataW.trod_lt m _ _ _ hm
  have k2 := h2
  have lt2 : ∀ x ∈ p2, x.block < W.heap.size := by obtain ⟨m, hm⟩ := k2; exact DataW.trod_lt m _ _ _ hm
  have k3 := h3
  have lt3 : ∀ x ∈ p3, x.block < W.heap.size := by obtain ⟨m, hm⟩ := k3; exact DataW.trod_lt m _ _ _ hm
  obtain ⟨l0, rfl, hl0⟩ := Hw.open_bytes Tryz.underlying22 Tryz.underlying5 (by kernel_rfl) (by kernel_rfl) (hval 0 22 v0 rfl rfl) h0
  obtain ⟨s1, l1, rfl, hs1⟩ := openSlSTurned Tryz.underlying23 Tryz.underlying5 (by kernel_rfl) (hval 1 23 v1 rfl rfl) h1
  obtain ⟨a2, rfl, rfl, rfl, w2⟩ := open_int Tryz.underlying3 (hval 2 3 v2 rfl rfl) h2
  obtain ⟨a3, rfl, rfl, rfl, w3⟩ := open_int Tryz.underlying5 (hval 3 5 v3 rfl rfl) h3
  obtain ⟨x3, rfl⟩ := Hw.u8_back w3
  clear hA0 hval0
  refine (walkSTurned W l0 hl0 s1 l1 hs1 a2 w2 x3).mono fun e W' ⟨he, bel⟩ => ?_
  subst he
  exact ⟨_, rfl, _, _, _, [], _, [], hW', trodAll_mk1 (shut_bool Tryz.underlying4 _), (trodAll_cons_mk (Below.trod laidOutSTurned (by kernel_rfl) (of_decide_eq_true (by kernel_rfl)) k0 bel lt0) (trodAll_cons_mk (Below.trod laidOutSTurned (by kernel_rfl) (of_decide_eq_true (by kernel_rfl)) k1 bel lt1) (trodAll_cons_mk (Below.trod laidOutSTurned (by kernel_rfl) (of_decide_eq_true (by kernel_rfl)) k2 bel lt2) (trodAll_cons_mk (Below.trod laidOutSTurned (by kernel_rfl) (of_decide_eq_true (by kernel_rfl)) k3 bel lt3) trodAll_mk0)))), rfl, bel.frame _, fun h => by cases h⟩

theorem signTurned_holds : Rows.SignTurnedSaid :=
  OpenClaim.holds_of_wide 3 Tryz.f3 rfl rfl rfl rfl rfl rfl rfl ⟨rfl, rfl, rfl, rfl, rfl⟩ rfl rfl rfl rfl rfl (by kernel_rfl) Tryz.func3 (by kernel_rfl)
    (of_decide_eq_true (by kernel_rfl)) (by unfold Func.isWrapper; first | (rw [if_pos (by decide +kernel)]; kernel_rfl) | (rw [if_neg (by decide +kernel)]; exact ⟨rfl, rfl⟩))
    (fun os started H enc _ => liftedSTurned os started H enc)

end Go.Proofs.YtmddgelpllffoaaGreat
end
