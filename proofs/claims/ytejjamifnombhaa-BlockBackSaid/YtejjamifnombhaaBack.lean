/- What the law BlockBack returns. Conditions: what the rows hold. -/
import Derived.Test.YtejjamifnombhaaCodec
import Derived.Laws.Externs
namespace Go.Proofs.Ytejjamifnombhaa
open Go Hw
set_option linter.unusedVariables false
set_option linter.unusedSimpArgs false


theorem light2 {A B : Block} (h : lightB [A, B] 2 = true) : A.fLinks.n ≤ 40 ∧ A.fData.n ≤ 2000 ∧ B.fLinks.n ≤ 40 ∧ B.fData.n ≤ 2000 := by
  unfold lightB at h
  simp at h
  omega
theorem back_eq {D E : DB} (hD : D.ok) (hE : E.ok) (cD : D.check = 0) (cE : E.check = 0) : (decide (bytesR D = bytesR E) == decide (D = E)) = true := by
  rw [show bytesR D = D.bytes from if_pos cD, show bytesR E = E.bytes from if_pos cE]
  by_cases h : D = E
  · simp [h]
  · simp [h, mt (bytes_inj hD hE cD cE).1 h]
theorem own_rows {C : Cx} {hp : List Blk} {w : World} {q c n m : Nat} {T : TypeId} {k : Nat} {ls : List (List UInt8)} (h : HRep C hp w) (hb : (⟨q, flatB ls, T, k⟩ : Blk) ∈ hp) (hl : ls.length = n) (hr : ∀ l ∈ ls, l.length = m) (hc : n ≤ c) (hn : n ≤ 1000000) : RowsAt w ⟨some ⟨q, 0, none⟩, n, c⟩ m ls :=
  ⟨hl, hr, hc, SeesP.of (sees_own h hb), by simp only [maxLen]; omega, fun e => by cases e⟩


set_option maxRecDepth 100000 in
set_option maxHeartbeats 4000000 in
theorem law15_lives  : Meets Try.prog 7 [] [] (fun _ => True) (fun v out => v = .bool true ∧ out = []) := by
  intro W hW
  refine calls_of (hp0 := []) Try.func7 rfl 36 Try.ntmps7 rfl (HRep.nil _) ?_
  refine Sat.seq ?_
  -- region 0
  refine Sat.region ?_
  refine Tr.assign rfl rfl rfl ?_
  refine Tr.nil ?_
  refine at_n ?_
  refine Sat.seq ?_
  -- region 1
  refine Sat.region ?_
  refine Tr.build (cs := bytesV (1 :: List.replicate 31 0)) rfl rfl rfl (fun w => by kernel_rfl) ?_
  refine Tr.build (cs := bytesV (2 :: List.replicate 31 0)) rfl rfl rfl (fun w => by kernel_rfl) ?_
  refine Tr.alloc (cs := (bytesV (List.replicate 32 0))) rfl Zr25 rfl ?_
  intro n1 hn1 hf1
  refine Tr.alloc (cs := (bytesV (List.replicate 32 0))) rfl Zr25 rfl ?_
  intro n2 hn2 hf2
  first
    | refine Tr.storeAll rfl rfl rfl rfl (by first | exact bytesV_cell _ | simp [isCell]) Sz25 (by first | assumption | (simp; done) | (rw [bytesV, List.length_map]; assumption)) (by first | exact mem0 | exact mem1 | exact mem2 | exact mem3 | exact mem4 | exact mem5 | exact mem6 | exact mem7 | (repeat (first | exact List.mem_cons_self | refine List.mem_cons_of_mem _ ?_ | refine mem_seg ?_))) (by first | assumption | (simp; done) | (rw [bytesV, List.length_map]; assumption)) (by first | exact upd0 | exact upd1 | exact upd2 | exact upd3 | exact upd4 | exact upd5 | exact upd6 | exact upd7 | (repeat (first | exact upd0 | apply Upd.tail | apply Upd.seg))) ?_
    | refine Tr.storeN _ rfl rfl rfl rfl rfl (by first | exact bytesV_cell _ | simp [isCell]) Sz25 (by first | assumption | (simp; done) | (rw [bytesV, List.length_map]; assumption)) (by first | exact mem0 | exact mem1 | exact mem2 | exact mem3 | exact mem4 | exact mem5 | exact mem6 | exact mem7 | (repeat (first | exact List.mem_cons_self | refine List.mem_cons_of_mem _ ?_ | refine mem_seg ?_))) (by first | assumption | (simp; done) | (rw [bytesV, List.length_map]; assumption)) (by exact rfl) (by first | exact upd0 | exact upd1 | exact upd2 | exact upd3 | exact upd4 | exact upd5 | exact upd6 | exact upd7 | (repeat (first | exact upd0 | apply Upd.tail | apply Upd.seg))) ?_
  first
    | refine Tr.storeAll rfl rfl rfl rfl (by first | exact bytesV_cell _ | simp [isCell]) Sz25 (by first | assumption | (simp; done) | (rw [bytesV, List.length_map]; assumption)) (by first | exact mem0 | exact mem1 | exact mem2 | exact mem3 | exact mem4 | exact mem5 | exact mem6 | exact mem7 | (repeat (first | exact List.mem_cons_self | refine List.mem_cons_of_mem _ ?_ | refine mem_seg ?_))) (by first | assumption | (simp; done) | (rw [bytesV, List.length_map]; assumption)) (by first | exact upd0 | exact upd1 | exact upd2 | exact upd3 | exact upd4 | exact upd5 | exact upd6 | exact upd7 | (repeat (first | exact upd0 | apply Upd.tail | apply Upd.seg))) ?_
    | refine Tr.storeN _ rfl rfl rfl rfl rfl (by first | exact bytesV_cell _ | simp [isCell]) Sz25 (by first | assumption | (simp; done) | (rw [bytesV, List.length_map]; assumption)) (by first | exact mem0 | exact mem1 | exact mem2 | exact mem3 | exact mem4 | exact mem5 | exact mem6 | exact mem7 | (repeat (first | exact List.mem_cons_self | refine List.mem_cons_of_mem _ ?_ | refine mem_seg ?_))) (by first | assumption | (simp; done) | (rw [bytesV, List.length_map]; assumption)) (by exact rfl) (by first | exact upd0 | exact upd1 | exact upd2 | exact upd3 | exact upd4 | exact upd5 | exact upd6 | exact upd7 | (repeat (first | exact upd0 | apply Upd.tail | apply Upd.seg))) ?_
  refine Tr.nil ?_
  refine at_n ?_
  refine Sat.seq ?_
  -- region 2
  refine Sat.region ?_
  refine Tr.build (cs := (⟨List.replicate 32 0, 0, List.replicate 32 0, Sl.nil, Sl.nil, List.replicate 64 0⟩ : Block).cells) rfl rfl rfl (fun w => by kernel_rfl) ?_
  refine Tr.callV rfl rfl rfl rfl Body12 (block_check (⟨List.replicate 32 0, 0, List.replicate 32 0, Sl.nil, Sl.nil, List.replicate 64 0⟩ : Block) ⟨rfl, rfl, rfl⟩ []) (fun w h => ⟨rfl, by simp, Nat.le_refl _, SeesP.nil, by decide, fun _ => rfl⟩) ?_
  refine Tr.eqi rfl rfl rfl rfl (decide_eq_true (by rfl)) ?_
  refine Tr.move rfl rfl rfl ?_
  refine Tr.build (cs := (⟨List.replicate 32 0, 1, List.replicate 32 0, Sl.nil, Sl.nil, List.replicate 64 0⟩ : Block).cells) rfl rfl rfl (fun w => by kernel_rfl) ?_
  refine Tr.callV rfl rfl rfl rfl Body12 (block_check (⟨List.replicate 32 0, 1, List.replicate 32 0, Sl.nil, Sl.nil, List.replicate 64 0⟩ : Block) ⟨rfl, rfl, rfl⟩ []) (fun w h => ⟨rfl, by simp, Nat.le_refl _, SeesP.nil, by decide, fun _ => rfl⟩) ?_
  refine Tr.eqi rfl rfl rfl rfl (decide_eq_true (by rfl)) ?_
  refine Tr.pick rfl rfl rfl rfl rfl rfl ?_
  refine Tr.move rfl rfl rfl ?_
  refine Tr.build (cs := bytesV (List.replicate 32 0)) rfl rfl rfl (fun w => by kernel_rfl) ?_
  refine Tr.mkRow (z := agg (bytesV (List.replicate 32 0))) [agg (bytesV (List.replicate 32 0))] (flatB [(List.replicate 32 0)]) rfl rfl rfl Try.underlying26 Sz25 Zr25 rfl rfl (by intro v hv; simp at hv; rcases hv with rfl | rfl <;> rfl) (by decide) (by rfl) ?_
  intro q15
  refine Tr.build (cs := (⟨List.replicate 32 0, 0, List.replicate 32 0, ⟨some ⟨q15, 0, none⟩, 1, 1⟩, Sl.nil, List.replicate 64 0⟩ : Block).cells) rfl rfl rfl (fun w => by kernel_rfl) ?_
  refine Tr.callV rfl rfl rfl rfl Body12 (block_check (⟨List.replicate 32 0, 0, List.replicate 32 0, ⟨some ⟨q15, 0, none⟩, 1, 1⟩, Sl.nil, List.replicate 64 0⟩ : Block) ⟨rfl, rfl, rfl⟩ [(List.replicate 32 0)]) (fun w h => own_rows h mem0 rfl (by intro l hl; simp at hl; rcases hl with rfl | rfl <;> rfl) (by decide) (by decide)) ?_
  refine Tr.eqi rfl rfl rfl rfl (decide_eq_true (by rfl)) ?_
  refine Tr.pick rfl rfl rfl rfl rfl rfl ?_
  refine Tr.move rfl rfl rfl ?_
  first
    | refine Tr.loadAll rfl rfl rfl Try.underlying25 rfl Sz25 (by first | exact mem0 | exact mem1 | exact mem2 | exact mem3 | exact mem4 | exact mem5 | exact mem6 | exact mem7 | (repeat (first | exact List.mem_cons_self | refine List.mem_cons_of_mem _ ?_ | refine mem_seg ?_))) (by first | assumption | (simp; done) | (rw [bytesV, List.length_map]; assumption)) ?_
    | refine Tr.loadN _ rfl rfl rfl Try.underlying25 rfl Sz25 (by first | exact mem0 | exact mem1 | exact mem2 | exact mem3 | exact mem4 | exact mem5 | exact mem6 | exact mem7 | (repeat (first | exact List.mem_cons_self | refine List.mem_cons_of_mem _ ?_ | refine mem_seg ?_))) (by exact rfl) (by first | assumption | (simp; done) | (rw [bytesV, List.length_map]; assumption)) ?_
  first
    | refine Tr.loadAll rfl rfl rfl Try.underlying25 rfl Sz25 (by first | exact mem0 | exact mem1 | exact mem2 | exact mem3 | exact mem4 | exact mem5 | exact mem6 | exact mem7 | (repeat (first | exact List.mem_cons_self | refine List.mem_cons_of_mem _ ?_ | refine mem_seg ?_))) (by first | assumption | (simp; done) | (rw [bytesV, List.length_map]; assumption)) ?_
    | refine Tr.loadN _ rfl rfl rfl Try.underlying25 rfl Sz25 (by first | exact mem0 | exact mem1 | exact mem2 | exact mem3 | exact mem4 | exact mem5 | exact mem6 | exact mem7 | (repeat (first | exact List.mem_cons_self | refine List.mem_cons_of_mem _ ?_ | refine mem_seg ?_))) (by exact rfl) (by first | assumption | (simp; done) | (rw [bytesV, List.length_map]; assumption)) ?_
  refine Tr.mkRow (z := agg (bytesV (List.replicate 32 0))) [agg (bytesV (2 :: List.replicate 31 0)), agg (bytesV (1 :: List.replicate 31 0))] (flatB [(2 :: List.replicate 31 0), (1 :: List.replicate 31 0)]) rfl rfl rfl Try.underlying26 Sz25 Zr25 rfl rfl (by intro v hv; simp at hv; rcases hv with rfl | rfl <;> rfl) (by decide) (by rfl) ?_
  intro q23
  refine Tr.build (cs := (⟨List.replicate 32 0, 0, List.replicate 32 0, ⟨some ⟨q23, 0, none⟩, 2, 2⟩, Sl.nil, List.replicate 64 0⟩ : Block).cells) rfl rfl rfl (fun w => by kernel_rfl) ?_
  refine Tr.callV rfl rfl rfl rfl Body12 (block_check (⟨List.replicate 32 0, 0, List.replicate 32 0, ⟨some ⟨q23, 0, none⟩, 2, 2⟩, Sl.nil, List.replicate 64 0⟩ : Block) ⟨rfl, rfl, rfl⟩ [(2 :: List.replicate 31 0), (1 :: List.replicate 31 0)]) (fun w h => own_rows h mem0 rfl (by intro l hl; simp at hl; rcases hl with rfl | rfl <;> rfl) (by decide) (by decide)) ?_
  refine Tr.eqi rfl rfl rfl rfl (decide_eq_true (by rfl)) ?_
  refine Tr.pick rfl rfl rfl rfl rfl rfl ?_
  refine Tr.move rfl rfl rfl ?_
  first
    | refine Tr.loadAll rfl rfl rfl Try.underlying25 rfl Sz25 (by first | exact mem0 | exact mem1 | exact mem2 | exact mem3 | exact mem4 | exact mem5 | exact mem6 | exact mem7 | (repeat (first | exact List.mem_cons_self | refine List.mem_cons_of_mem _ ?_ | refine mem_seg ?_))) (by first | assumption | (simp; done) | (rw [bytesV, List.length_map]; assumption)) ?_
    | refine Tr.loadN _ rfl rfl rfl Try.underlying25 rfl Sz25 (by first | exact mem0 | exact mem1 | exact mem2 | exact mem3 | exact mem4 | exact mem5 | exact mem6 | exact mem7 | (repeat (first | exact List.mem_cons_self | refine List.mem_cons_of_mem _ ?_ | refine mem_seg ?_))) (by exact rfl) (by first | assumption | (simp; done) | (rw [bytesV, List.length_map]; assumption)) ?_
  first
    | refine Tr.loadAll rfl rfl rfl Try.underlying25 rfl Sz25 (by first | exact mem0 | exact mem1 | exact mem2 | exact mem3 | exact mem4 | exact mem5 | exact mem6 | exact mem7 | (repeat (first | exact List.mem_cons_self | refine List.mem_cons_of_mem _ ?_ | refine mem_seg ?_))) (by first | assumption | (simp; done) | (rw [bytesV, List.length_map]; assumption)) ?_
    | refine Tr.loadN _ rfl rfl rfl Try.underlying25 rfl Sz25 (by first | exact mem0 | exact mem1 | exact mem2 | exact mem3 | exact mem4 | exact mem5 | exact mem6 | exact mem7 | (repeat (first | exact List.mem_cons_self | refine List.mem_cons_of_mem _ ?_ | refine mem_seg ?_))) (by exact rfl) (by first | assumption | (simp; done) | (rw [bytesV, List.length_map]; assumption)) ?_
  refine Tr.mkRow (z := agg (bytesV (List.replicate 32 0))) [agg (bytesV (1 :: List.replicate 31 0)), agg (bytesV (2 :: List.replicate 31 0))] (flatB [(1 :: List.replicate 31 0), (2 :: List.replicate 31 0)]) rfl rfl rfl Try.underlying26 Sz25 Zr25 rfl rfl (by intro v hv; simp at hv; rcases hv with rfl | rfl <;> rfl) (by decide) (by rfl) ?_
  intro q31
  refine Tr.build (cs := (⟨List.replicate 32 0, 0, List.replicate 32 0, ⟨some ⟨q31, 0, none⟩, 2, 2⟩, Sl.nil, List.replicate 64 0⟩ : Block).cells) rfl rfl rfl (fun w => by kernel_rfl) ?_
  refine Tr.callV rfl rfl rfl rfl Body12 (block_check (⟨List.replicate 32 0, 0, List.replicate 32 0, ⟨some ⟨q31, 0, none⟩, 2, 2⟩, Sl.nil, List.replicate 64 0⟩ : Block) ⟨rfl, rfl, rfl⟩ [(1 :: List.replicate 31 0), (2 :: List.replicate 31 0)]) (fun w h => own_rows h mem0 rfl (by intro l hl; simp at hl; rcases hl with rfl | rfl <;> rfl) (by decide) (by decide)) ?_
  refine Tr.eqi rfl rfl rfl rfl (decide_eq_true (by rfl)) ?_
  refine Tr.pick rfl rfl rfl rfl rfl rfl ?_
  refine Tr.assign rfl rfl rfl ?_
  refine Tr.nil ?_
  refine at_n ?_
  refine Sat.ret ?_
  refine en_r ?_
  refine ⟨_, [], res_tmp rfl rfl, (by simp), (by simp), ?_, rfl⟩
  rfl

set_option maxRecDepth 100000 in
set_option maxHeartbeats 8000000 in
theorem law_back (B O : Block) (D E : DB) (s : Sl) (xs : List UInt8) : Meets Try.prog 3 [agg B.cells, agg O.cells, s.v] [] (fun W => BlockIs W B D ∧ BlockIs W O E ∧ BytesAt W s xs) (fun v out => v = .bool true ∧ out = []) := by
  intro W hW
  have hB := hW.1.ok
  have hO := hW.2.1.ok
  have dD := hW.1.dok
  have dE := hW.2.1.dok
  refine calls_of (hp0 := []) Try.func3 rfl 136 Try.ntmps3 rfl (HRep.nil _) ?_
  refine Sat.seq ?_
  -- region 0
  refine Sat.region ?_
  refine Tr.boxA rfl rfl ?_
  intro n3 hn3 hf3
  refine Tr.boxA rfl rfl ?_
  intro n4 hn4 hf4
  refine Tr.assign rfl rfl rfl ?_
  refine Tr.nil ?_
  refine at_n ?_
  refine Sat.seq ?_
  refine Sat.seq ?_
  -- region 1
  refine Sat.region ?_
  refine Tr.callV rfl rfl rfl rfl Body7 (law15_lives) (fun _ _ => trivial) ?_
  refine Tr.not rfl rfl rfl ?_
  refine Tr.nil ?_
  refine at_n ?_
  refine Sat.cond_f rfl (rfl) ?_
  refine Sat.skip ?_
  refine at_n ?_
  refine Sat.seq ?_
  refine Sat.seq ?_
  -- region 3
  refine Sat.region ?_
  refine Tr.loadAll rfl rfl rfl Try.underlying31 rfl Sz31 (by first | exact mem0 | exact mem1 | exact mem2 | exact mem3 | exact mem4 | exact mem5 | exact mem6 | exact mem7 | (repeat (first | exact List.mem_cons_self | refine List.mem_cons_of_mem _ ?_ | refine mem_seg ?_))) (Block.length (by first | assumption | (simp [nameD_length]; done) | exact Block.zero_ok | exact Vote.zero_ok | exact Reader.zero_ok  | exact hB | exact hO)) ?_
  refine Tr.loadAll rfl rfl rfl Try.underlying31 rfl Sz31 (by first | exact mem0 | exact mem1 | exact mem2 | exact mem3 | exact mem4 | exact mem5 | exact mem6 | exact mem7 | (repeat (first | exact List.mem_cons_self | refine List.mem_cons_of_mem _ ?_ | refine mem_seg ?_))) (Block.length (by first | assumption | (simp [nameD_length]; done) | exact Block.zero_ok | exact Vote.zero_ok | exact Reader.zero_ok  | exact hB | exact hO)) ?_
  refine Tr.mkRow (z := agg Block.zero.cells) [agg B.cells, agg O.cells] ([B, O].map Block.cells).flatten rfl rfl rfl Try.underlying34 Sz31 Block.zr rfl rfl (by intro v hv; simp only [List.mem_cons, List.not_mem_nil, or_false] at hv; rcases hv with rfl | rfl; exact Block.length hB; exact Block.length hO) (by decide) (by simp [Value.cells]) ?_
  intro q22
  refine Tr.callB rfl rfl rfl rfl Body8 (light_blocks q22 0 2 2 [B, O] (by intro b hb; simp at hb; rcases hb with rfl | rfl; exact hB; exact hO) rfl (by decide) 2) (fun w h => sees_own h (by first | exact mem0 | exact mem1 | exact mem2 | exact mem3 | exact mem4 | exact mem5 | exact mem6 | exact mem7 | (repeat (first | exact List.mem_cons_self | refine List.mem_cons_of_mem _ ?_ | refine mem_seg ?_)))) (fun hs3_30 => ?_) (fun hs3_30 => ?_)
  ·
    first | have hs3_3 := of_decide_eq_true hs3_30 | have hs3_3 := of_decide_eq_false hs3_30 | have hs3_3 := nd_t hs3_30 | have hs3_3 := nd_f hs3_30 | have hs3_3 := hs3_30
    refine Tr.not rfl rfl rfl ?_
    refine Tr.move rfl rfl rfl ?_
    refine Tr.move rfl rfl rfl ?_
    refine Tr.lenSl rfl rfl rfl Try.underlying27 ?_
    refine Tr.gtr rfl rfl rfl rfl rfl ?_
    refine Tr.pick rfl rfl rfl rfl rfl rfl ?_
    refine Tr.nil ?_
    refine at_n ?_
    first
      | refine Sat.condP rfl (fun hc1 => ?_) (fun hc1 => ?_)
      | refine Sat.condNP rfl (fun hc1 => ?_) (fun hc1 => ?_)
      | refine Sat.cond rfl (fun hc1 => ?_) (fun hc1 => ?_)
    ·
      refine Sat.seq ?_
      -- region 4
      refine Sat.region ?_
      refine Tr.assign rfl rfl rfl ?_
      refine Tr.nil ?_
      refine at_n ?_
      refine Sat.ret ?_
      refine at_r ?_
      refine en_r ?_
      refine ⟨_, [], res_tmp rfl rfl, (by simp), (by simp), ?_, rfl⟩
      first
        | rfl
        | simp_all
    ·
      have hsn : s.n ≤ 3000 := by omega
      refine Sat.skip ?_
      refine at_n ?_
      refine Sat.seq ?_
      -- region 5
      refine Sat.region ?_
      refine Tr.move rfl rfl rfl ?_
      refine Tr.call4 rfl rfl rfl rfl rfl Body10 (kit_own s xs (by omega)) (fun w h => bytes_ext h rfl hW.2.2) ?_
      rintro v32 out32 ⟨q32, c32, rfl, hc32, rfl⟩
      refine Tr.call4 rfl rfl rfl rfl rfl Body9 (block_read (some ⟨q32, 0, none⟩) s.n c32 xs hW.2.2.len (fun e => by cases e) (by omega)) (fun w h => SeesP.of (sees_own h (by first | exact mem0 | exact mem1 | exact mem2 | exact mem3 | exact mem4 | exact mem5 | exact mem6 | exact mem7 | (repeat (first | exact List.mem_cons_self | refine List.mem_cons_of_mem _ ?_ | refine mem_seg ?_))))) ?_
      rintro v33 out33 ⟨B1, ok1, rfl, hB1⟩
      refine Tr.move rfl rfl rfl ?_
      refine Tr.extract rfl rfl rfl rfl ?_
      refine Tr.extract rfl rfl rfl rfl ?_
      refine Tr.alloc (cs := Block.zero.cells) rfl Block.zr rfl ?_
      intro n7 hn7 hf7
      refine Tr.storeAll rfl rfl rfl rfl (Block.isCell (by first | assumption | (simp [nameD_length]; done) | exact Block.zero_ok | exact Vote.zero_ok | exact Reader.zero_ok  | exact hB | exact hO)) Sz31 (Block.length (by first | assumption | (simp [nameD_length]; done) | exact Block.zero_ok | exact Vote.zero_ok | exact Reader.zero_ok  | exact hB | exact hO)) (by first | exact mem0 | exact mem1 | exact mem2 | exact mem3 | exact mem4 | exact mem5 | exact mem6 | exact mem7 | (repeat (first | exact List.mem_cons_self | refine List.mem_cons_of_mem _ ?_ | refine mem_seg ?_))) (Block.length (by first | assumption | (simp [nameD_length]; done) | exact Block.zero_ok | exact Vote.zero_ok | exact Reader.zero_ok  | exact hB | exact hO)) (by first | exact upd0 | exact upd1 | exact upd2 | exact upd3 | exact upd4 | exact upd5 | exact upd6 | exact upd7 | (repeat (first | exact upd0 | apply Upd.tail | apply Upd.seg))) ?_
      refine Tr.assign rfl rfl rfl ?_
      refine Tr.nil ?_
      refine at_n ?_
      refine Sat.join (ι := Unit) (fun _u => ⟨[(2, s.v), (3, ptr n3 0), (4, ptr n4 0)], [⟨n4, O.cells, 31, O.cells.length⟩, ⟨n3, B.cells, 31, B.cells.length⟩]⟩) (fun _u => True) ?_ ?_
      ·
        refine Sat.seq ?_
        -- region 6
        refine Sat.region ?_
        refine Tr.move rfl rfl rfl ?_
        refine Tr.eqi rfl rfl rfl rfl rfl ?_
        refine Tr.nil ?_
        refine at_n ?_
        first
          | refine Sat.condP rfl (fun hc2 => ?_) (fun hc2 => ?_)
          | refine Sat.condNP rfl (fun hc2 => ?_) (fun hc2 => ?_)
          | refine Sat.cond rfl (fun hc2 => ?_) (fun hc2 => ?_)
        ·
          have hro := readD_only hc2
          refine Sat.seq ?_
          -- region 7
          refine Sat.region ?_
          refine Tr.loadAll rfl rfl rfl Try.underlying31 rfl Sz31 (by first | exact mem0 | exact mem1 | exact mem2 | exact mem3 | exact mem4 | exact mem5 | exact mem6 | exact mem7 | (repeat (first | exact List.mem_cons_self | refine List.mem_cons_of_mem _ ?_ | refine mem_seg ?_))) (Block.length (by first | assumption | (simp [nameD_length]; done) | exact Block.zero_ok | exact Vote.zero_ok | exact Reader.zero_ok  | exact hB | exact hO)) ?_
          refine Tr.call4 rfl rfl rfl rfl rfl Body11 (db_bytes B1 (readD xs).1) (fun w h => hB1 w (Lies.of h (by repeat (first | exact in_here | exact in_all | refine in_there ?_ | refine in_seg ?_)))) ?_
          rintro v40 out40 ⟨s9, rfl, hac9⟩
          refine Tr.move rfl rfl rfl ?_
          refine Tr.extract rfl rfl rfl rfl ?_
          refine Tr.extract rfl rfl rfl rfl ?_
          refine Tr.assign rfl rfl rfl ?_
          refine Tr.assign rfl rfl rfl ?_
          refine Tr.nil ?_
          refine at_n ?_
          refine Sat.seq ?_
          -- region 8
          refine Sat.region ?_
          refine Tr.move rfl rfl rfl ?_
          refine Tr.nei rfl rfl rfl rfl (show (!decide _) = false from congrArg not (decide_eq_true (hro.1))) ?_
          refine Tr.move rfl rfl rfl ?_
          refine Tr.move rfl rfl rfl ?_
          refine Tr.toStr rfl rfl rfl Try.underlying27 Try.underlying5 Try.underlying9 (fun w h => hac9.see (Lies.of h (by repeat (first | exact in_here | exact in_all | refine in_there ?_ | refine in_seg ?_)))) hac9.num.symm ?_
          refine Tr.move rfl rfl rfl ?_
          refine Tr.toStr rfl rfl rfl Try.underlying27 Try.underlying5 Try.underlying9 (fun w h => seesP_ext h rfl hW.2.2.see) hW.2.2.len ?_
          refine Tr.neq_str rfl rfl rfl rfl (show (!decide _) = false from congrArg not (decide_eq_true ((if_pos hro.1).trans hro.2))) ?_
          refine Tr.pick rfl rfl rfl rfl rfl rfl ?_
          refine Tr.move rfl rfl rfl ?_
          refine Tr.loadAll rfl rfl rfl Try.underlying31 rfl Sz31 (by first | exact mem0 | exact mem1 | exact mem2 | exact mem3 | exact mem4 | exact mem5 | exact mem6 | exact mem7 | (repeat (first | exact List.mem_cons_self | refine List.mem_cons_of_mem _ ?_ | refine mem_seg ?_))) (Block.length (by first | assumption | (simp [nameD_length]; done) | exact Block.zero_ok | exact Vote.zero_ok | exact Reader.zero_ok  | exact hB | exact hO)) ?_
          refine Tr.callV rfl rfl rfl rfl Body12 (db_check B1 (readD xs).1) (fun w h => hB1 w (Lies.of h (by repeat (first | exact in_here | exact in_all | refine in_there ?_ | refine in_seg ?_)))) ?_
          refine Tr.nei rfl rfl rfl rfl (show (!decide _) = false from congrArg not (decide_eq_true (hro.1))) ?_
          refine Tr.pick rfl rfl rfl rfl rfl rfl ?_
          refine Tr.nil ?_
          refine at_n ?_
          refine Sat.cond_f rfl rfl ?_
          refine Sat.skip ?_
          refine at_n ?_
          refine ⟨(), trivial, weak_perm (wk1 rfl (wk1 rfl (wk1 rfl wk0))) (pm_cons (by repeat (first | exact rem_here | apply rem_there | apply rem_seg)) (pm_cons (by repeat (first | exact rem_here | apply rem_there | apply rem_seg)) pm_nil))⟩
        ·
          refine Sat.skip ?_
          refine at_n ?_
          refine ⟨(), trivial, weak_perm (wk1 rfl (wk1 rfl (wk1 rfl wk0))) (pm_cons (by repeat (first | exact rem_here | apply rem_there | apply rem_seg)) (pm_cons (by repeat (first | exact rem_here | apply rem_there | apply rem_seg)) pm_nil))⟩
      ·
        intro _u hj
        skip
        refine Sat.seq ?_
        -- region 10
        refine Sat.region ?_
        refine Tr.loadAll rfl rfl rfl Try.underlying31 rfl Sz31 (by first | exact mem0 | exact mem1 | exact mem2 | exact mem3 | exact mem4 | exact mem5 | exact mem6 | exact mem7 | (repeat (first | exact List.mem_cons_self | refine List.mem_cons_of_mem _ ?_ | refine mem_seg ?_))) (Block.length (by first | assumption | (simp [nameD_length]; done) | exact Block.zero_ok | exact Vote.zero_ok | exact Reader.zero_ok  | exact hB | exact hO)) ?_
        refine Tr.call4 rfl rfl rfl rfl rfl Body11 (db_bytes B D) (fun w h => hW.1.ext h rfl) ?_
        rintro v59 out59 ⟨s11, rfl, hac11⟩
        refine Tr.move rfl rfl rfl ?_
        refine Tr.extract rfl rfl rfl rfl ?_
        refine Tr.extract rfl rfl rfl rfl ?_
        refine Tr.assign rfl rfl rfl ?_
        refine Tr.assign rfl rfl rfl ?_
        refine Tr.nil ?_
        refine at_n ?_
        refine Sat.seq ?_
        -- region 11
        refine Sat.region ?_
        refine Tr.loadAll rfl rfl rfl Try.underlying31 rfl Sz31 (by first | exact mem0 | exact mem1 | exact mem2 | exact mem3 | exact mem4 | exact mem5 | exact mem6 | exact mem7 | (repeat (first | exact List.mem_cons_self | refine List.mem_cons_of_mem _ ?_ | refine mem_seg ?_))) (Block.length (by first | assumption | (simp [nameD_length]; done) | exact Block.zero_ok | exact Vote.zero_ok | exact Reader.zero_ok  | exact hB | exact hO)) ?_
        refine Tr.call4 rfl rfl rfl rfl rfl Body11 (db_bytes O E) (fun w h => hW.2.1.ext h rfl) ?_
        rintro v64 out64 ⟨s12, rfl, hac12⟩
        refine Tr.move rfl rfl rfl ?_
        refine Tr.extract rfl rfl rfl rfl ?_
        refine Tr.extract rfl rfl rfl rfl ?_
        refine Tr.assign rfl rfl rfl ?_
        refine Tr.assign rfl rfl rfl ?_
        refine Tr.nil ?_
        refine at_n ?_
        refine Sat.seq ?_
        refine Sat.seq ?_
        -- region 12
        refine Sat.region ?_
        refine Tr.move rfl rfl rfl ?_
        refine two (fun r hr k => Tr.nei rfl rfl rfl rfl hr k) (fun hs12_10 => ?_) (fun hs12_10 => ?_)
        ·
          first | have hs12_1 := of_decide_eq_true hs12_10 | have hs12_1 := of_decide_eq_false hs12_10 | have hs12_1 := nd_t hs12_10 | have hs12_1 := nd_f hs12_10 | have hs12_1 := hs12_10
          refine Tr.move rfl rfl rfl ?_
          refine Tr.skp rfl rfl ?_
          refine Tr.skp rfl rfl ?_
          refine Tr.pick rfl rfl rfl rfl rfl rfl ?_
          refine Tr.nil ?_
          refine at_n ?_
          refine Sat.cond_t rfl rfl ?_
          refine Sat.seq ?_
          -- region 13
          refine Sat.region ?_
          refine Tr.move rfl rfl rfl ?_
          refine Tr.loadAll rfl rfl rfl Try.underlying31 rfl Sz31 (by first | exact mem0 | exact mem1 | exact mem2 | exact mem3 | exact mem4 | exact mem5 | exact mem6 | exact mem7 | (repeat (first | exact List.mem_cons_self | refine List.mem_cons_of_mem _ ?_ | refine mem_seg ?_))) (Block.length (by first | assumption | (simp [nameD_length]; done) | exact Block.zero_ok | exact Vote.zero_ok | exact Reader.zero_ok  | exact hB | exact hO)) ?_
          refine Tr.callV rfl rfl rfl rfl Body12 (db_check B D) (fun w h => hW.1.ext h rfl) ?_
          refine Tr.eqi rfl rfl rfl rfl (decide_eq_true (rfl)) ?_
          refine Tr.move rfl rfl rfl ?_
          refine Tr.move rfl rfl rfl ?_
          refine Tr.loadAll rfl rfl rfl Try.underlying31 rfl Sz31 (by first | exact mem0 | exact mem1 | exact mem2 | exact mem3 | exact mem4 | exact mem5 | exact mem6 | exact mem7 | (repeat (first | exact List.mem_cons_self | refine List.mem_cons_of_mem _ ?_ | refine mem_seg ?_))) (Block.length (by first | assumption | (simp [nameD_length]; done) | exact Block.zero_ok | exact Vote.zero_ok | exact Reader.zero_ok  | exact hB | exact hO)) ?_
          refine Tr.callV rfl rfl rfl rfl Body12 (db_check O E) (fun w h => hW.2.1.ext h rfl) ?_
          refine Tr.eqi rfl rfl rfl rfl (decide_eq_true (rfl)) ?_
          refine Tr.pick rfl rfl rfl rfl rfl rfl ?_
          refine Tr.assign rfl rfl rfl ?_
          refine Tr.nil ?_
          refine at_n ?_
          refine Sat.ret ?_
          refine at_r ?_
          refine en_r ?_
          refine ⟨_, [], res_tmp rfl rfl, (by simp), (by simp), ?_, rfl⟩
          first
            | rfl
            | simp_all
        ·
          first | have hs12_1 := of_decide_eq_true hs12_10 | have hs12_1 := of_decide_eq_false hs12_10 | have hs12_1 := nd_t hs12_10 | have hs12_1 := nd_f hs12_10 | have hs12_1 := hs12_10
          refine Tr.move rfl rfl rfl ?_
          refine Tr.move rfl rfl rfl ?_
          refine Tr.nei rfl rfl rfl rfl rfl ?_
          refine Tr.pick rfl rfl rfl rfl rfl rfl ?_
          refine Tr.nil ?_
          refine at_n ?_
          first
            | refine Sat.condP rfl (fun hc4 => ?_) (fun hc4 => ?_)
            | refine Sat.condNP rfl (fun hc4 => ?_) (fun hc4 => ?_)
            | refine Sat.cond rfl (fun hc4 => ?_) (fun hc4 => ?_)
          ·
            refine Sat.seq ?_
            -- region 13
            refine Sat.region ?_
            refine Tr.move rfl rfl rfl ?_
            refine Tr.loadAll rfl rfl rfl Try.underlying31 rfl Sz31 (by first | exact mem0 | exact mem1 | exact mem2 | exact mem3 | exact mem4 | exact mem5 | exact mem6 | exact mem7 | (repeat (first | exact List.mem_cons_self | refine List.mem_cons_of_mem _ ?_ | refine mem_seg ?_))) (Block.length (by first | assumption | (simp [nameD_length]; done) | exact Block.zero_ok | exact Vote.zero_ok | exact Reader.zero_ok  | exact hB | exact hO)) ?_
            refine Tr.callV rfl rfl rfl rfl Body12 (db_check B D) (fun w h => hW.1.ext h rfl) ?_
            refine Tr.eqi rfl rfl rfl rfl (decide_eq_true (rfl)) ?_
            refine Tr.move rfl rfl rfl ?_
            refine Tr.move rfl rfl rfl ?_
            refine Tr.loadAll rfl rfl rfl Try.underlying31 rfl Sz31 (by first | exact mem0 | exact mem1 | exact mem2 | exact mem3 | exact mem4 | exact mem5 | exact mem6 | exact mem7 | (repeat (first | exact List.mem_cons_self | refine List.mem_cons_of_mem _ ?_ | refine mem_seg ?_))) (Block.length (by first | assumption | (simp [nameD_length]; done) | exact Block.zero_ok | exact Vote.zero_ok | exact Reader.zero_ok  | exact hB | exact hO)) ?_
            refine Tr.callV rfl rfl rfl rfl Body12 (db_check O E) (fun w h => hW.2.1.ext h rfl) ?_
            refine Tr.eqi rfl rfl rfl rfl (decide_eq_true (rfl)) ?_
            refine Tr.pick rfl rfl rfl rfl rfl rfl ?_
            refine Tr.assign rfl rfl rfl ?_
            refine Tr.nil ?_
            refine at_n ?_
            refine Sat.ret ?_
            refine at_r ?_
            refine en_r ?_
            refine ⟨_, [], res_tmp rfl rfl, (by simp), (by simp), ?_, rfl⟩
            first
              | rfl
              | simp_all
          ·
            have cD : D.check = 0 := hs12_1
            have cE : E.check = 0 := by omega
            have hbD : bytesR D = D.bytes := if_pos cD
            refine Sat.skip ?_
            refine at_n ?_
            refine Sat.seq ?_
            -- region 14
            refine Sat.region ?_
            refine Tr.move rfl rfl rfl ?_
            refine Tr.call4 rfl rfl rfl rfl rfl Body9 (block_read s11.p s11.n s11.c (bytesR D) hac11.num.symm (fun e => hac11.nil e) (by have := D.bytes_small cD dD; rw [hac11.num, hbD]; omega)) (fun w h => hac11.see (Lies.of h (by repeat (first | exact in_here | exact in_all | refine in_there ?_ | refine in_seg ?_)))) ?_
            rintro v85 out85 ⟨B14, ok14, rfl, hB14⟩
            rw [hbD, readD_bytes dD cD] at hB14 ⊢
            refine Tr.move rfl rfl rfl ?_
            refine Tr.extract rfl rfl rfl rfl ?_
            refine Tr.extract rfl rfl rfl rfl ?_
            refine Tr.alloc (cs := Block.zero.cells) rfl Block.zr rfl ?_
            intro n14 hn14 hf14
            refine Tr.storeAll rfl rfl rfl rfl (Block.isCell (by first | assumption | (simp [nameD_length]; done) | exact Block.zero_ok | exact Vote.zero_ok | exact Reader.zero_ok  | exact hB | exact hO)) Sz31 (Block.length (by first | assumption | (simp [nameD_length]; done) | exact Block.zero_ok | exact Vote.zero_ok | exact Reader.zero_ok  | exact hB | exact hO)) (by first | exact mem0 | exact mem1 | exact mem2 | exact mem3 | exact mem4 | exact mem5 | exact mem6 | exact mem7 | (repeat (first | exact List.mem_cons_self | refine List.mem_cons_of_mem _ ?_ | refine mem_seg ?_))) (Block.length (by first | assumption | (simp [nameD_length]; done) | exact Block.zero_ok | exact Vote.zero_ok | exact Reader.zero_ok  | exact hB | exact hO)) (by first | exact upd0 | exact upd1 | exact upd2 | exact upd3 | exact upd4 | exact upd5 | exact upd6 | exact upd7 | (repeat (first | exact upd0 | apply Upd.tail | apply Upd.seg))) ?_
            refine Tr.assign rfl rfl rfl ?_
            refine Tr.nil ?_
            refine at_n ?_
            refine Sat.seq ?_
            -- region 15
            refine Sat.region ?_
            refine Tr.move rfl rfl rfl ?_
            refine Tr.call4 rfl rfl rfl rfl rfl Body10 (kit_own s11 (bytesR D) (by have := D.bytes_small cD dD; rw [hac11.num, hbD]; omega)) (fun w h => acc_bytes hac11 (Lies.of h (by repeat (first | exact in_here | exact in_all | refine in_there ?_ | refine in_seg ?_))) rfl (by have := D.bytes_small cD dD; rw [hbD]; omega)) ?_
            rintro v90 out90 ⟨q90, c90, rfl, hc90, rfl⟩
            refine Tr.mkRow (z := u8 0) [u8 0] (bytesV [0]) rfl rfl rfl Try.underlying27 Sz5 Zr5 rfl rfl (by intro v hv; rw [List.mem_singleton.1 hv]; rfl) (by decide) rfl ?_
            intro q91
            refine Tr.appendSl (z := u8 0) (by' := 1) (bytesV [0]) rfl rfl rfl rfl rfl Try.underlying27 Try.underlying27 Sz5 Zr5 (by unfold By; kernel_rfl) rfl (fun w h => SeesP.of (sees_own h (by first | exact mem0 | exact mem1 | exact mem2 | exact mem3 | exact mem4 | exact mem5 | exact mem6 | exact mem7 | (repeat (first | exact List.mem_cons_self | refine List.mem_cons_of_mem _ ?_ | refine mem_seg ?_))))) (fun e => by cases e) (bytesV_cell _) (by repeat (first | exact rem_here | apply rem_there | apply rem_seg)) rfl (by rw [bytesV, List.length_map, hac11.num, Nat.mul_one]) hc90 (by have := D.bytes_small cD dD; rw [hac11.num, hbD]; omega) (by have := D.bytes_small cD dD; rw [hac11.num, hbD]; omega) (by rfl) ?_
            intro q92 c92 hq92
            refine Tr.call4 rfl rfl rfl rfl rfl Body9 (block_read (some ⟨q92, 0, none⟩) (s11.n + 1) c92 (bytesR D ++ [0]) (by rw [List.length_append, hac11.num]; rfl) (fun e => by cases e) (by have := D.bytes_small cD dD; rw [hac11.num, hbD]; omega)) (fun w h => by rw [bytesV_app]; exact SeesP.of (sees_own h (by first | exact mem0 | exact mem1 | exact mem2 | exact mem3 | exact mem4 | exact mem5 | exact mem6 | exact mem7 | (repeat (first | exact List.mem_cons_self | refine List.mem_cons_of_mem _ ?_ | refine mem_seg ?_))))) ?_
            rintro v93 out93 ⟨B16, ok16, rfl, hB16⟩
            clear hB16
            rw [hbD, readD_more dD cD]
            refine Tr.move rfl rfl rfl ?_
            refine Tr.extract rfl rfl rfl rfl ?_
            refine Tr.extract rfl rfl rfl rfl ?_
            refine Tr.alloc (cs := Block.zero.cells) rfl Block.zr rfl ?_
            intro n16 hn16 hf16
            refine Tr.storeAll rfl rfl rfl rfl (Block.isCell (by first | assumption | (simp [nameD_length]; done) | exact Block.zero_ok | exact Vote.zero_ok | exact Reader.zero_ok  | exact hB | exact hO)) Sz31 (Block.length (by first | assumption | (simp [nameD_length]; done) | exact Block.zero_ok | exact Vote.zero_ok | exact Reader.zero_ok  | exact hB | exact hO)) (by first | exact mem0 | exact mem1 | exact mem2 | exact mem3 | exact mem4 | exact mem5 | exact mem6 | exact mem7 | (repeat (first | exact List.mem_cons_self | refine List.mem_cons_of_mem _ ?_ | refine mem_seg ?_))) (Block.length (by first | assumption | (simp [nameD_length]; done) | exact Block.zero_ok | exact Vote.zero_ok | exact Reader.zero_ok  | exact hB | exact hO)) (by first | exact upd0 | exact upd1 | exact upd2 | exact upd3 | exact upd4 | exact upd5 | exact upd6 | exact upd7 | (repeat (first | exact upd0 | apply Upd.tail | apply Upd.seg))) ?_
            refine Tr.assign rfl rfl rfl ?_
            refine Tr.nil ?_
            refine at_n ?_
            refine Sat.seq ?_
            -- region 16
            refine Sat.draw [(0, 0), (0, 1), (0, 2), (1, 3), (1, 4), (3, 5), (0, 6), (0, 7), (0, 8), (0, 9), (0, 10), (0, 11), (0, 12), (1, 13), (0, 14), (1, 15), (0, 16), (1, 17), (1, 18), (3, 19), (0, 20), (0, 21), (0, 22), (1, 23), (1, 24), (3, 25), (0, 26), (1, 27), (1, 29), (3, 28), (3, 30), (0, 31), (0, 32), (0, 33), (1, 34), (1, 35), (3, 36), (0, 37), (0, 38), (0, 39), (0, 40)] Mixed (by kernel_rfl) ?_
            refine Tr.move rfl rfl rfl ?_
            refine Tr.eqi rfl rfl rfl rfl (decide_eq_true (rfl)) ?_
            refine Tr.move rfl rfl rfl ?_
            refine Tr.loadAll rfl rfl rfl Try.underlying31 rfl Sz31 (by first | exact mem0 | exact mem1 | exact mem2 | exact mem3 | exact mem4 | exact mem5 | exact mem6 | exact mem7 | (repeat (first | exact List.mem_cons_self | refine List.mem_cons_of_mem _ ?_ | refine mem_seg ?_))) (Block.length (by first | assumption | (simp [nameD_length]; done) | exact Block.zero_ok | exact Vote.zero_ok | exact Reader.zero_ok  | exact hB | exact hO)) ?_
            refine Tr.loadAll rfl rfl rfl Try.underlying31 rfl Sz31 (by first | exact mem0 | exact mem1 | exact mem2 | exact mem3 | exact mem4 | exact mem5 | exact mem6 | exact mem7 | (repeat (first | exact List.mem_cons_self | refine List.mem_cons_of_mem _ ?_ | refine mem_seg ?_))) (Block.length (by first | assumption | (simp [nameD_length]; done) | exact Block.zero_ok | exact Vote.zero_ok | exact Reader.zero_ok  | exact hB | exact hO)) ?_
            refine Tr.callV rfl rfl rfl rfl Body13 ((db_kit B14 B D D (by have := D.head_small cD; omega)).imp (fun w h => h) (fun v out h => by rwa [decide_eq_true rfl] at h)) (fun w h => ⟨hB14 w (Lies.of h (by repeat (first | exact in_here | exact in_all | refine in_there ?_ | refine in_seg ?_))), hW.1.ext h rfl⟩) ?_
            refine Tr.pick rfl rfl rfl rfl rfl rfl ?_
            refine Tr.move rfl rfl rfl ?_
            refine Tr.move rfl rfl rfl ?_
            refine Tr.eqi rfl rfl rfl rfl (decide_eq_true (rfl)) ?_
            refine Tr.pick rfl rfl rfl rfl rfl rfl ?_
            refine Tr.move rfl rfl rfl ?_
            refine Tr.move rfl rfl rfl ?_
            refine Tr.toStr rfl rfl rfl Try.underlying27 Try.underlying5 Try.underlying9 (fun w h => hac11.see (Lies.of h (by repeat (first | exact in_here | exact in_all | refine in_there ?_ | refine in_seg ?_)))) hac11.num.symm ?_
            refine Tr.move rfl rfl rfl ?_
            refine Tr.toStr rfl rfl rfl Try.underlying27 Try.underlying5 Try.underlying9 (fun w h => hac12.see (Lies.of h (by repeat (first | exact in_here | exact in_all | refine in_there ?_ | refine in_seg ?_)))) hac12.num.symm ?_
            refine Tr.eql_str rfl rfl rfl rfl rfl ?_
            refine Tr.loadAll rfl rfl rfl Try.underlying31 rfl Sz31 (by first | exact mem0 | exact mem1 | exact mem2 | exact mem3 | exact mem4 | exact mem5 | exact mem6 | exact mem7 | (repeat (first | exact List.mem_cons_self | refine List.mem_cons_of_mem _ ?_ | refine mem_seg ?_))) (Block.length (by first | assumption | (simp [nameD_length]; done) | exact Block.zero_ok | exact Vote.zero_ok | exact Reader.zero_ok  | exact hB | exact hO)) ?_
            refine Tr.loadAll rfl rfl rfl Try.underlying31 rfl Sz31 (by first | exact mem0 | exact mem1 | exact mem2 | exact mem3 | exact mem4 | exact mem5 | exact mem6 | exact mem7 | (repeat (first | exact List.mem_cons_self | refine List.mem_cons_of_mem _ ?_ | refine mem_seg ?_))) (Block.length (by first | assumption | (simp [nameD_length]; done) | exact Block.zero_ok | exact Vote.zero_ok | exact Reader.zero_ok  | exact hB | exact hO)) ?_
            refine Tr.callV rfl rfl rfl rfl Body13 (db_kit B O D E (by have := D.head_small cD; omega)) (fun w h => ⟨hW.1.ext h rfl, hW.2.1.ext h rfl⟩) ?_
            refine Tr.eqb rfl rfl rfl rfl Try.underlying4 (back_eq dD dE cD cE) ?_
            refine Tr.pick rfl rfl rfl rfl rfl rfl ?_
            refine Tr.move rfl rfl rfl ?_
            refine Tr.loadAll rfl rfl rfl Try.underlying31 rfl Sz31 (by first | exact mem0 | exact mem1 | exact mem2 | exact mem3 | exact mem4 | exact mem5 | exact mem6 | exact mem7 | (repeat (first | exact List.mem_cons_self | refine List.mem_cons_of_mem _ ?_ | refine mem_seg ?_))) (Block.length (by first | assumption | (simp [nameD_length]; done) | exact Block.zero_ok | exact Vote.zero_ok | exact Reader.zero_ok  | exact hB | exact hO)) ?_
            refine Tr.loadAll rfl rfl rfl Try.underlying31 rfl Sz31 (by first | exact mem0 | exact mem1 | exact mem2 | exact mem3 | exact mem4 | exact mem5 | exact mem6 | exact mem7 | (repeat (first | exact List.mem_cons_self | refine List.mem_cons_of_mem _ ?_ | refine mem_seg ?_))) (Block.length (by first | assumption | (simp [nameD_length]; done) | exact Block.zero_ok | exact Vote.zero_ok | exact Reader.zero_ok  | exact hB | exact hO)) ?_
            refine Tr.callB rfl rfl rfl rfl Body13 (db_kit B O D E (by have := D.head_small cD; omega)) (fun w h => ⟨hW.1.ext h rfl, hW.2.1.ext h rfl⟩) (fun hs16_250 => ?_) (fun hs16_250 => ?_)
            ·
              first | have hs16_25 := of_decide_eq_true hs16_250 | have hs16_25 := of_decide_eq_false hs16_250 | have hs16_25 := nd_t hs16_250 | have hs16_25 := nd_f hs16_250 | have hs16_25 := hs16_250
              refine Tr.move rfl rfl rfl ?_
              refine Tr.skp rfl rfl ?_
              refine Tr.skp rfl rfl ?_
              refine Tr.skp rfl rfl ?_
              refine Tr.skp rfl rfl ?_
              refine Tr.skp rfl rfl ?_
              refine Tr.pick rfl rfl rfl rfl rfl rfl ?_
              refine Tr.move rfl rfl rfl ?_
              refine Tr.skp rfl rfl ?_
              refine Tr.skp rfl rfl ?_
              refine Tr.skp rfl rfl ?_
              refine Tr.skp rfl rfl ?_
              refine Tr.pick rfl rfl rfl rfl rfl rfl ?_
              refine Tr.pick rfl rfl rfl rfl rfl rfl ?_
              refine Tr.assign rfl rfl rfl ?_
              refine Tr.nil ?_
              refine at_n ?_
              refine Sat.ret ?_
              refine en_r ?_
              refine ⟨_, [], res_tmp rfl rfl, (by simp), (by simp), ?_, rfl⟩
              first
                | rfl
                | simp_all
            ·
              first | have hs16_25 := of_decide_eq_true hs16_250 | have hs16_25 := of_decide_eq_false hs16_250 | have hs16_25 := nd_t hs16_250 | have hs16_25 := nd_f hs16_250 | have hs16_25 := hs16_250
              refine Tr.move rfl rfl rfl ?_
              refine Tr.loadAll rfl rfl rfl Try.underlying31 rfl Sz31 (by first | exact mem0 | exact mem1 | exact mem2 | exact mem3 | exact mem4 | exact mem5 | exact mem6 | exact mem7 | (repeat (first | exact List.mem_cons_self | refine List.mem_cons_of_mem _ ?_ | refine mem_seg ?_))) (Block.length (by first | assumption | (simp [nameD_length]; done) | exact Block.zero_ok | exact Vote.zero_ok | exact Reader.zero_ok  | exact hB | exact hO)) ?_
              refine Tr.loadAll rfl rfl rfl Try.underlying31 rfl Sz31 (by first | exact mem0 | exact mem1 | exact mem2 | exact mem3 | exact mem4 | exact mem5 | exact mem6 | exact mem7 | (repeat (first | exact List.mem_cons_self | refine List.mem_cons_of_mem _ ?_ | refine mem_seg ?_))) (Block.length (by first | assumption | (simp [nameD_length]; done) | exact Block.zero_ok | exact Vote.zero_ok | exact Reader.zero_ok  | exact hB | exact hO)) ?_
              refine Tr.callV rfl rfl rfl rfl Body14 (db_name B D) (fun w h => hW.1.ext h rfl) ?_
              refine Tr.callV rfl rfl rfl rfl Body14 (db_name O E) (fun w h => hW.2.1.ext h rfl) ?_
              refine two (fun r hr k => Tr.eql_bytes rfl rfl rfl rfl Try.eqGuardType25 Try.underlying25 Try.underlying5 Sz5 (by first | assumption | (simp [nameD_length]; done) | (rw [bytesV, List.length_map]; assumption)) (by first | assumption | (simp [nameD_length]; done) | (rw [bytesV, List.length_map]; assumption)) hr k) (fun hs16_310 => ?_) (fun hs16_310 => ?_)
              ·
                first | have hs16_31 := of_decide_eq_true hs16_310 | have hs16_31 := of_decide_eq_false hs16_310 | have hs16_31 := nd_t hs16_310 | have hs16_31 := nd_f hs16_310 | have hs16_31 := hs16_310
                refine Tr.pick rfl rfl rfl rfl rfl rfl ?_
                refine Tr.move rfl rfl rfl ?_
                refine Tr.skp rfl rfl ?_
                refine Tr.skp rfl rfl ?_
                refine Tr.skp rfl rfl ?_
                refine Tr.skp rfl rfl ?_
                refine Tr.pick rfl rfl rfl rfl rfl rfl ?_
                refine Tr.pick rfl rfl rfl rfl rfl rfl ?_
                refine Tr.assign rfl rfl rfl ?_
                refine Tr.nil ?_
                refine at_n ?_
                refine Sat.ret ?_
                refine en_r ?_
                refine ⟨_, [], res_tmp rfl rfl, (by simp), (by simp), ?_, rfl⟩
                first
                  | rfl
                  | simp_all
              ·
                first | have hs16_31 := of_decide_eq_true hs16_310 | have hs16_31 := of_decide_eq_false hs16_310 | have hs16_31 := nd_t hs16_310 | have hs16_31 := nd_f hs16_310 | have hs16_31 := hs16_310
                refine Tr.pick rfl rfl rfl rfl rfl rfl ?_
                refine Tr.move rfl rfl rfl ?_
                refine Tr.loadAll rfl rfl rfl Try.underlying31 rfl Sz31 (by first | exact mem0 | exact mem1 | exact mem2 | exact mem3 | exact mem4 | exact mem5 | exact mem6 | exact mem7 | (repeat (first | exact List.mem_cons_self | refine List.mem_cons_of_mem _ ?_ | refine mem_seg ?_))) (Block.length (by first | assumption | (simp [nameD_length]; done) | exact Block.zero_ok | exact Vote.zero_ok | exact Reader.zero_ok  | exact hB | exact hO)) ?_
                refine Tr.loadAll rfl rfl rfl Try.underlying31 rfl Sz31 (by first | exact mem0 | exact mem1 | exact mem2 | exact mem3 | exact mem4 | exact mem5 | exact mem6 | exact mem7 | (repeat (first | exact List.mem_cons_self | refine List.mem_cons_of_mem _ ?_ | refine mem_seg ?_))) (Block.length (by first | assumption | (simp [nameD_length]; done) | exact Block.zero_ok | exact Vote.zero_ok | exact Reader.zero_ok  | exact hB | exact hO)) ?_
                refine Tr.callV rfl rfl rfl rfl Body15 (db_same B O D E (by have := D.head_small cD; omega)) (fun w h => ⟨hW.1.ext h rfl, hW.2.1.ext h rfl⟩) ?_
                refine Tr.not rfl rfl rfl ?_
                refine Tr.pick rfl rfl rfl rfl rfl rfl ?_
                refine Tr.pick rfl rfl rfl rfl rfl rfl ?_
                refine Tr.assign rfl rfl rfl ?_
                refine Tr.nil ?_
                refine at_n ?_
                refine Sat.ret ?_
                refine en_r ?_
                refine ⟨_, [], res_tmp rfl rfl, (by simp), (by simp), ?_, rfl⟩
                first
                  | rfl
                  | simp_all
  ·
    first | have hs3_3 := of_decide_eq_true hs3_30 | have hs3_3 := of_decide_eq_false hs3_30 | have hs3_3 := nd_t hs3_30 | have hs3_3 := nd_f hs3_30 | have hs3_3 := hs3_30
    refine Tr.not rfl rfl rfl ?_
    refine Tr.move rfl rfl rfl ?_
    refine Tr.skp rfl rfl ?_
    refine Tr.skp rfl rfl ?_
    refine Tr.skp rfl rfl ?_
    refine Tr.pick rfl rfl rfl rfl rfl rfl ?_
    refine Tr.nil ?_
    refine at_n ?_
    refine Sat.cond_t rfl rfl ?_
    refine Sat.seq ?_
    -- region 4
    refine Sat.region ?_
    refine Tr.assign rfl rfl rfl ?_
    refine Tr.nil ?_
    refine at_n ?_
    refine Sat.ret ?_
    refine at_r ?_
    refine en_r ?_
    refine ⟨_, [], res_tmp rfl rfl, (by simp), (by simp), ?_, rfl⟩
    first
      | rfl
      | simp_all

end Go.Proofs.Ytejjamifnombhaa
