/- Contracts of package block over plain data: Check, Bytes, Name, Same. Conditions: what the rows hold. -/
import Derived.Test.YtejjamifnombhaaWhole
import Derived.Laws.Externs
namespace Go.Proofs.Ytejjamifnombhaa
open Go Hw
set_option linter.unusedVariables false
set_option linter.unusedSimpArgs false


theorem DB.head_small {D : DB} (h : D.check = 0) : D.ls.length ≤ 16 ∧ D.ds.length ≤ 512 := by
  unfold DB.check at h
  by_cases h1 : D.head = true
  · rw [if_pos h1] at h; cases h
  · unfold DB.head at h1
    simp at h1
    omega
theorem DB.bytes_small {D : DB} (h : D.check = 0) (hd : D.ok) : D.bytes.length ≤ 5000 := by
  have hs := D.head_small h
  have hz1 := szN_pos D.seq.toNat
  have hz2 := szN_pos (UInt64.ofNat D.ls.length).toNat
  have hz3 := szN_pos (UInt64.ofNat D.ds.length).toNat
  have hfl := flatten_take_len hd.ls (Nat.le_refl D.ls.length)
  rw [List.take_length] at hfl
  simp only [DB.bytes, DB.body, List.length_append, numB_length, hd.w, hd.prev, hd.sg, hfl]
  omega
/-- what Bytes gives -/
def bytesR (D : DB) : List UInt8 := if D.check = 0 then D.bytes else []
theorem db_check (B : Block) (D : DB) : Meets Try.prog 12 [agg B.cells] [] (fun W => BlockIs W B D) (fun v out => v = i64 D.check ∧ out = []) :=
  fun W hW => by rw [← hW.check]; exact block_check B hW.ok D.ls W hW.ls
theorem db_bytes (B : Block) (D : DB) : Meets Try.prog 11 [agg B.cells] [] (fun W => BlockIs W B D) (fun v out => ∃ s, v = .tuple #[s.v, i64 D.check] ∧ Acc s out (bytesV (bytesR D)) 5 (bytesR D).length 1) := fun W hW => by
  unfold bytesR
  by_cases h : D.check = 0
  · rw [if_pos h]
    refine (bytes_ok B hW.ok D.ls D.ds (by rw [hW.check]; exact h) W ⟨hW.ls, hW.ds⟩).mono fun e W' ⟨v, out, h1, ⟨q, c, N, h2, h3, h4, h5, h6⟩, h7⟩ => ⟨v, out, h1, ⟨⟨some ⟨q, 0, none⟩, N, c⟩, ?_, ?_⟩, h7⟩
    · rw [h]; exact h4
    · rw [h6]
      rw [hW.bytes] at h2 ⊢
      rw [← h2]
      exact Acc.some h5 (by rw [bytesV, List.length_map, ← h2]; omega)
  · rw [if_neg h]
    refine (bytes_bad B hW.ok D.ls D.ds (by rw [hW.check]; exact h) W ⟨hW.ls, hW.ds⟩).mono fun e W' ⟨v, out, h1, ⟨h2, h3⟩, h7⟩ => ⟨v, out, h1, ⟨Sl.nil, ?_, ?_⟩, h7⟩
    · rw [h2, hW.check]; rfl
    · rw [h3]; exact Acc.none
/-- the name of a block -/
def nameD (D : DB) : List UInt8 := if D.check = 0 then sha256 D.bytes else List.replicate 32 0
theorem nameD_length (D : DB) : (nameD D).length = 32 := by
  unfold nameD
  split
  · exact sha256_length _
  · rfl
def sameD (A B : DB) : Bool := decide (A.w = B.w) && (decide ((A.seq.toNat : Int) = (B.seq.toNat : Int)) && (decide (A.prev = B.prev) && (decide (A.ls = B.ls) && (decide (A.ds = B.ds) && decide (A.sg = B.sg)))))
theorem sameD_eq (A B : DB) : sameD A B = decide (A = B) := by
  obtain ⟨a1, a2, a3, a4, a5, a6⟩ := A
  obtain ⟨b1, b2, b3, b4, b5, b6⟩ := B
  have e : ((a2.toNat : Int) = (b2.toNat : Int)) ↔ a2 = b2 := by
    constructor
    · intro h; exact UInt64.toNat_inj.1 (by omega)
    · intro h; rw [h]
  rw [Bool.eq_iff_iff]
  simp [sameD, e]
theorem db_same (A B : Block) (D E : DB) (hn : D.ls.length ≤ 1000000) : Meets Try.prog 15 [agg A.cells, agg B.cells] [] (fun W => BlockIs W A D ∧ BlockIs W B E) (fun v out => v = .bool (decide (D = E)) ∧ out = []) := fun W hW => by
  have := block_same A B hW.1.ok hW.2.ok D.ls E.ls D.ds E.ds (by rw [← hW.1.ls.len]; exact hn) W ⟨⟨hW.1.ls, hW.1.ds⟩, hW.2.ls, hW.2.ds⟩
  rw [← sameD_eq, show sameD D E = sameB A B D.ls E.ls D.ds E.ds by simp only [sameD, sameB, hW.1.w, hW.2.w, hW.1.seq, hW.2.seq, hW.1.prev, hW.2.prev, hW.1.sg, hW.2.sg]]
  exact this
theorem db_kit (A B : Block) (D E : DB) (hn : D.ls.length ≤ 1000000) : Meets Try.prog 13 [agg A.cells, agg B.cells] [] (fun W => BlockIs W A D ∧ BlockIs W B E) (fun v out => v = .bool (decide (D = E)) ∧ out = []) := fun W hW => by
  have := kit_block A B hW.1.ok hW.2.ok D.ls E.ls D.ds E.ds (by rw [← hW.1.ls.len]; exact hn) W ⟨⟨hW.1.ls, hW.1.ds⟩, hW.2.ls, hW.2.ds⟩
  rw [← sameD_eq, show sameD D E = sameB A B D.ls E.ls D.ds E.ds by simp only [sameD, sameB, hW.1.w, hW.2.w, hW.1.seq, hW.2.seq, hW.1.prev, hW.2.prev, hW.1.sg, hW.2.sg]]
  exact this
theorem BlockIs.ext {C : Cx} {hp : List Blk} {w : World} {B : Block} {D : DB} (hh : HRep C hp w) (hl : C.lent = []) (h : BlockIs C.W0 B D) : BlockIs w B D :=
  ⟨h.ok, h.w, h.seq, h.prev, rows_ext hh hl h.ls, bytes_ext hh hl h.ds, h.sg⟩


set_option maxRecDepth 100000 in
set_option maxHeartbeats 4000000 in
theorem db_name (B : Block) (D : DB) : Meets Try.prog 14 [agg B.cells] [] (fun W => BlockIs W B D) (fun v out => v = agg (bytesV (nameD D)) ∧ out = []) := by
  intro W hW
  have hok := hW.ok
  obtain ⟨k, hk⟩ : ∃ k, Hid (kW = k) := ⟨_, ⟨rfl⟩⟩
  obtain ⟨s0, hs0⟩ : ∃ s0, Hid (xorUp 8 = s0) := ⟨_, ⟨rfl⟩⟩
  obtain ⟨G, hG⟩ : ∃ G, Hid (shaTag = G) := ⟨_, ⟨rfl⟩⟩
  obtain ⟨i0, hi0⟩ : ∃ i0, Hid (allW k s0 G = i0) := ⟨_, ⟨rfl⟩⟩
  have hk80 : k.length = 80 := by rw [← hk.out]; rfl
  have hs8 : s0.length = 8 := by rw [← hs0.out]; exact xorUp_length 8
  have hGl : G.length = 11 := by rw [← hG.out]; rfl
  have hi8 : i0.length = 8 := by rw [← hi0.out, allW_length]; exact hs8
  obtain ⟨r, hr⟩ : ∃ r, Hid (allW k i0 (D.bytes) = r) := ⟨_, ⟨rfl⟩⟩
  obtain ⟨s, hs⟩ : ∃ s, Hid (sumUp r 64 = s) := ⟨_, ⟨rfl⟩⟩
  have hsd : Hid (s.take 32 = sha256 (D.bytes)) := ⟨by rw [← hs.out, ← hr.out, ← hi0.out, ← hG.out, ← hs0.out, ← hk.out]; rfl⟩
  have hs64 : s.length = 64 := by rw [← hs.out]; exact sumUp_length r 64
  have hs32 : (s.take 32).length = 32 := by rw [List.length_take, hs64]; rfl
  refine calls_of (hp0 := []) Try.func14 rfl 16 Try.ntmps14 rfl (HRep.nil _) ?_
  refine Sat.seq ?_
  -- region 0
  refine Sat.region ?_
  refine Tr.boxA rfl rfl ?_
  intro n1 hn1 hf1
  refine Tr.alloc (cs := (bytesV (List.replicate 32 0))) rfl Zr25 rfl ?_
  intro n2 hn2 hf2
  refine Tr.nil ?_
  refine at_n ?_
  refine Sat.seq ?_
  -- region 1
  refine Sat.region ?_
  refine Tr.loadAll rfl rfl rfl Try.underlying31 rfl Sz31 (by first | exact mem0 | exact mem1 | exact mem2 | exact mem3 | exact mem4 | exact mem5 | exact mem6 | exact mem7 | (repeat (first | exact List.mem_cons_self | refine List.mem_cons_of_mem _ ?_ | refine mem_seg ?_))) (Block.length (by first | assumption | (simp [hs32, hs64]; done) | exact Block.zero_ok | exact Vote.zero_ok | exact Reader.zero_ok  | exact hW.ok)) ?_
  refine Tr.call4 rfl rfl rfl rfl rfl Body11 (db_bytes B D) (fun w h => hW.ext h rfl) ?_
  rintro v7 out7 ⟨s7, rfl, hac7⟩
  refine Tr.move rfl rfl rfl ?_
  refine Tr.extract rfl rfl rfl rfl ?_
  refine Tr.extract rfl rfl rfl rfl ?_
  refine Tr.assign rfl rfl rfl ?_
  refine Tr.assign rfl rfl rfl ?_
  refine Tr.nil ?_
  refine at_n ?_
  refine Sat.seq ?_
  refine Sat.seq ?_
  -- region 2
  refine Sat.region ?_
  refine Tr.move rfl rfl rfl ?_
  refine two (fun r hr k => Tr.nei rfl rfl rfl rfl hr k) (fun hs2_10 => ?_) (fun hs2_10 => ?_)
  ·
    first | have hs2_1 := of_decide_eq_true hs2_10 | have hs2_1 := of_decide_eq_false hs2_10 | have hs2_1 := nd_t hs2_10 | have hs2_1 := nd_f hs2_10 | have hs2_1 := hs2_10
    skip
    refine Tr.nil ?_
    refine at_n ?_
    refine Sat.cond_t rfl rfl ?_
    refine Sat.seq ?_
    -- region 3
    refine Sat.region ?_
    refine Tr.build (cs := bytesV (List.replicate 32 0)) rfl rfl rfl (fun w => by kernel_rfl) ?_
    first
      | refine Tr.storeAll rfl rfl rfl rfl (by first | exact bytesV_cell _ | simp [isCell]) Sz25 (by first | assumption | (simp [hs32, hs64]; done) | (rw [bytesV, List.length_map]; assumption)) (by first | exact mem0 | exact mem1 | exact mem2 | exact mem3 | exact mem4 | exact mem5 | exact mem6 | exact mem7 | (repeat (first | exact List.mem_cons_self | refine List.mem_cons_of_mem _ ?_ | refine mem_seg ?_))) (by first | assumption | (simp [hs32, hs64]; done) | (rw [bytesV, List.length_map]; assumption)) (by first | exact upd0 | exact upd1 | exact upd2 | exact upd3 | exact upd4 | exact upd5 | exact upd6 | exact upd7 | (repeat (first | exact upd0 | apply Upd.tail | apply Upd.seg))) ?_
      | refine Tr.storeN _ rfl rfl rfl rfl rfl (by first | exact bytesV_cell _ | simp [isCell]) Sz25 (by first | assumption | (simp [hs32, hs64]; done) | (rw [bytesV, List.length_map]; assumption)) (by first | exact mem0 | exact mem1 | exact mem2 | exact mem3 | exact mem4 | exact mem5 | exact mem6 | exact mem7 | (repeat (first | exact List.mem_cons_self | refine List.mem_cons_of_mem _ ?_ | refine mem_seg ?_))) (by first | assumption | (simp [hs32, hs64]; done) | (rw [bytesV, List.length_map]; assumption)) (by exact rfl) (by first | exact upd0 | exact upd1 | exact upd2 | exact upd3 | exact upd4 | exact upd5 | exact upd6 | exact upd7 | (repeat (first | exact upd0 | apply Upd.tail | apply Upd.seg))) ?_
    refine Tr.nil ?_
    refine at_n ?_
    refine Sat.ret ?_
    refine at_r ?_
    refine en_r ?_
    refine ⟨_, [], res_cell rfl rfl Try.underlying25 rfl Sz25 (by first | exact mem0 | exact mem1 | exact mem2 | exact mem3 | exact mem4 | exact mem5 | exact mem6 | exact mem7 | (repeat (first | exact List.mem_cons_self | refine List.mem_cons_of_mem _ ?_ | refine mem_seg ?_))) (by simp [hs32, hs64]), (by simp), (by simp), ?_, rfl⟩
    first
      | (rw [nameD, if_neg hs2_1]; done)
      | (rw [nameD, if_pos h0, hsd.out]; done)
  ·
    first | have hs2_1 := of_decide_eq_true hs2_10 | have hs2_1 := of_decide_eq_false hs2_10 | have hs2_1 := nd_t hs2_10 | have hs2_1 := nd_f hs2_10 | have hs2_1 := hs2_10
    have h0 : D.check = 0 := by omega
    have hb7 : bytesR D = D.bytes := if_pos h0
    refine Tr.nil ?_
    refine at_n ?_
    refine Sat.cond_f rfl rfl ?_
    refine Sat.skip ?_
    refine at_n ?_
    refine Sat.seq ?_
    -- region 4
    refine Sat.region ?_
    refine Tr.move rfl rfl rfl ?_
    refine Tr.mkRow (z := .slice none 0 0) [s7.v] [s7.v] rfl rfl rfl Try.underlying57 Sz27 Zr27 rfl rfl (by intro v hv; rw [List.mem_singleton.1 hv]; rfl) (by decide) rfl ?_
    intro q14
    refine Tr.callV rfl rfl rfl rfl Body46 (sha_Sum k s0 i0 G hk hk80 hs0 hs8 hG hGl hi0 hi8 (some ⟨q14, 0, none⟩) 1 1 [s7] [D.bytes] rfl rfl (fun j hj => (by obtain rfl : j = 0 := (by omega); exact ⟨by simp [hac7.num, hb7], fun e => hac7.nil e⟩)) D.bytes (by simp) (by have := D.bytes_small h0 hW.dok; omega) (by decide) r hr s hs) (fun w h => ⟨SeesP.of (sees_own h (by first | exact mem0 | exact mem1 | exact mem2 | exact mem3 | exact mem4 | exact mem5 | exact mem6 | exact mem7 | (repeat (first | exact List.mem_cons_self | refine List.mem_cons_of_mem _ ?_ | refine mem_seg ?_)))), fun j hj => (by obtain rfl : j = 0 := (by omega); exact (by have := hac7.see (Lies.of h (by repeat (first | exact in_here | exact in_all | refine in_there ?_ | refine in_seg ?_))); rw [hb7] at this; exact this))⟩) ?_
    first
      | refine Tr.storeAll rfl rfl rfl rfl (by first | exact bytesV_cell _ | simp [isCell]) Sz25 (by first | assumption | (simp [hs32, hs64]; done) | (rw [bytesV, List.length_map]; assumption)) (by first | exact mem0 | exact mem1 | exact mem2 | exact mem3 | exact mem4 | exact mem5 | exact mem6 | exact mem7 | (repeat (first | exact List.mem_cons_self | refine List.mem_cons_of_mem _ ?_ | refine mem_seg ?_))) (by first | assumption | (simp [hs32, hs64]; done) | (rw [bytesV, List.length_map]; assumption)) (by first | exact upd0 | exact upd1 | exact upd2 | exact upd3 | exact upd4 | exact upd5 | exact upd6 | exact upd7 | (repeat (first | exact upd0 | apply Upd.tail | apply Upd.seg))) ?_
      | refine Tr.storeN _ rfl rfl rfl rfl rfl (by first | exact bytesV_cell _ | simp [isCell]) Sz25 (by first | assumption | (simp [hs32, hs64]; done) | (rw [bytesV, List.length_map]; assumption)) (by first | exact mem0 | exact mem1 | exact mem2 | exact mem3 | exact mem4 | exact mem5 | exact mem6 | exact mem7 | (repeat (first | exact List.mem_cons_self | refine List.mem_cons_of_mem _ ?_ | refine mem_seg ?_))) (by first | assumption | (simp [hs32, hs64]; done) | (rw [bytesV, List.length_map]; assumption)) (by exact rfl) (by first | exact upd0 | exact upd1 | exact upd2 | exact upd3 | exact upd4 | exact upd5 | exact upd6 | exact upd7 | (repeat (first | exact upd0 | apply Upd.tail | apply Upd.seg))) ?_
    refine Tr.nil ?_
    refine at_n ?_
    refine Sat.ret ?_
    refine en_r ?_
    refine ⟨_, [], res_cell rfl rfl Try.underlying25 rfl Sz25 (by first | exact mem0 | exact mem1 | exact mem2 | exact mem3 | exact mem4 | exact mem5 | exact mem6 | exact mem7 | (repeat (first | exact List.mem_cons_self | refine List.mem_cons_of_mem _ ?_ | refine mem_seg ?_))) (by simp [hs32, hs64]), (by simp), (by simp), ?_, rfl⟩
    first
      | (rw [nameD, if_neg hs2_1]; done)
      | (rw [nameD, if_pos h0, hsd.out]; done)

end Go.Proofs.Ytejjamifnombhaa
