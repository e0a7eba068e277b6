/- Contracts of package block: body, Bytes. Conditions: what the rows hold. -/
import Derived.Test.YtejjamifnombhaaBlock
import Derived.Test.YtejjamifnombhaaReader2
import Derived.Laws.Externs
namespace Go.Proofs.Ytejjamifnombhaa
open Go Hw
set_option linter.unusedVariables false
set_option linter.unusedSimpArgs false

set_option maxRecDepth 100000 in
set_option maxHeartbeats 1000000 in
theorem clone_bytes (a : Addr) (n c : Nat) (l : List UInt8) (hl : l.length = n) (hn : n ≤ 90000) : Meets Try.prog 89 [.slice (some a) n c] [] (fun W => SeesP W (some a) (bytesV l)) (fun v out => FreshRow v out (bytesV l) 5 n 1) := by
  intro W hW
  refine calls_of (hp0 := []) Try.func89 rfl 8 Try.ntmps89 rfl (HRep.nil _) ?_
  refine Sat.seq ?_
  -- region 0
  refine Sat.region ?_
  refine Tr.assign rfl rfl rfl ?_
  refine Tr.nil ?_
  refine at_n ?_
  refine Sat.seq ?_
  refine Sat.seq ?_
  -- region 1
  refine Sat.region ?_
  refine Tr.move rfl rfl rfl ?_
  refine Tr.eqNilS (r := false) rfl rfl rfl rfl Try.underlying27 rfl ?_
  refine Tr.nil ?_
  refine at_n ?_
  refine Sat.cond_f rfl (rfl) ?_
  refine Sat.skip ?_
  refine at_n ?_
  refine Sat.seq ?_
  -- region 3
  refine Sat.region ?_
  refine Tr.mkRow (z := u8 0) [] [] rfl rfl rfl Try.underlying27 Sz5 Zr5 rfl rfl (by intro v hv; cases hv) (by decide) rfl ?_
  intro q0
  refine Tr.move rfl rfl rfl ?_
  refine Tr.appendSl (z := u8 0) (by' := 1) (bytesV l) rfl rfl rfl rfl rfl Try.underlying27 Try.underlying27 Sz5 Zr5 (by unfold By; kernel_rfl) rfl (fun w h => seesP_ext h rfl hW) (fun e => by cases e) (by simp [bytesV, isCell, u8]) rem_here rfl rfl (by omega) (by omega) (by omega) (by simp [bytesV, hl]) ?_
  intro q1 c1 hq1
  refine Tr.assign rfl rfl rfl ?_
  refine Tr.nil ?_
  refine at_n ?_
  refine Sat.ret ?_
  refine en_r ?_
  refine ⟨_, [⟨q1, [] ++ bytesV l, 5, c1 * 1⟩], res_tmp rfl rfl, (by intro b hb; rw [List.mem_singleton.1 hb]; exact mem0), nodup1, ⟨q1, c1, by rw [Nat.zero_add], by omega, rfl⟩⟩


def bodyB (B : Block) (ls : List (List UInt8)) (ds : List UInt8) : List UInt8 := B.fWriter ++ numB B.fSeq ++ B.fPrev ++ numB (UInt64.ofNat B.fLinks.n) ++ ls.flatten ++ (numB (UInt64.ofNat B.fData.n) ++ ds)
theorem word_nat {n : Nat} (h : n ≤ 1000000) : wordOf (n : Int) = UInt64.ofNat n := by simp only [wordOf]; congr 1; omega
theorem ofNat_nat {n : Nat} (h : n ≤ 1000000) : (UInt64.ofNat n).toNat = n := by rw [UInt64.toNat_ofNat', Nat.mod_eq_of_lt (by omega)]
theorem flatten_take_step {ls : List (List UInt8)} {k : Nat} (hk : k < ls.length) : (ls.take (k + 1)).flatten = (ls.take k).flatten ++ ls.getD k [] := by
  rw [List.take_succ_eq_append_getElem hk, List.flatten_append]
  simp [List.getD, hk]
theorem flatten_take_len {ls : List (List UInt8)} (h : ∀ l ∈ ls, l.length = 32) {k : Nat} (hk : k ≤ ls.length) : (ls.take k).flatten.length = k * 32 := by
  rw [flatten_len 32 _ (fun l hl => h l (List.mem_of_mem_take hl)), List.length_take, Nat.min_eq_left hk]


set_option maxRecDepth 100000 in
set_option maxHeartbeats 4000000 in
theorem block_body (B : Block) (hB : B.ok) (ls : List (List UInt8)) (ds : List UInt8) (hn : B.fLinks.n ≤ 40) (hd : B.fData.n ≤ 2000) : Meets Try.prog 43 [agg B.cells] [] (fun W => RowsAt W B.fLinks 32 ls ∧ BytesAt W B.fData ds) (fun v out => ∃ N, N = (bodyB B ls ds).length ∧ N ≤ 4000 ∧ FreshRow v out (bytesV (bodyB B ls ds)) 5 N 1) := by
  intro W hW
  have hz1 := szN_pos B.fSeq.toNat
  have hz2 := szN_pos (UInt64.ofNat B.fLinks.n).toNat
  have hz3 := szN_pos B.fData.n
  have hw2 := word_nat (n := B.fLinks.n) (by omega)
  have hll := hW.1.len
  refine calls_of (hp0 := []) Try.func43 rfl 41 Try.ntmps43 rfl (HRep.nil _) ?_
  refine Sat.seq ?_
  -- region 0
  refine Sat.region ?_
  refine Tr.boxA rfl rfl ?_
  intro n1 hn1 hf1
  refine Tr.assign rfl rfl rfl ?_
  refine Tr.nil ?_
  refine at_n ?_
  refine Sat.seq ?_
  -- region 1
  refine Sat.region ?_
  refine Tr.fld rfl rfl rfl Try.underlying31 rfl Sz23 (by decide) _ rfl ?_
  refine Tr.sliceArr rfl rfl rfl Try.underlying23 Sz5 ?_
  refine Tr.call rfl rfl rfl rfl Body89 (clone_bytes ⟨n1, 0, none⟩ 32 32 B.fWriter hB.l_fWriter (by omega)) (FreshRow.loose _ _ _ _) (fun W2 W2h => (SeesP.of (sees_part W2h (by first | exact mem0 | exact mem1 | exact mem2 | exact mem3 | exact mem4 | exact mem5 | exact mem6 | exact mem7 | (repeat (first | exact List.mem_cons_self | refine List.mem_cons_of_mem _ ?_ | refine mem_seg ?_))) (Block.see_fWriter hB)))) ?_
  rintro v1 out1 ⟨q1, c1, rfl, hc1, rfl⟩
  refine Tr.assign rfl rfl rfl ?_
  refine Tr.nil ?_
  refine at_n ?_
  refine Sat.seq ?_
  -- region 2
  refine Sat.region ?_
  refine Tr.move rfl rfl rfl ?_
  refine Tr.fld rfl rfl rfl Try.underlying31 rfl Sz24 (by decide) _ rfl ?_
  refine Tr.load1 rfl rfl rfl Try.underlying24 rfl (by first | exact mem0 | exact mem1 | exact mem2 | exact mem3 | exact mem4 | exact mem5 | exact mem6 | exact mem7 | (repeat (first | exact List.mem_cons_self | refine List.mem_cons_of_mem _ ?_ | refine mem_seg ?_))) (by first | exact Block.get_fSeq (by first | assumption | (simp [hB.l_fWriter, hB.l_fPrev]; done) | exact Block.zero_ok | exact Vote.zero_ok | exact Reader.zero_ok ) | exact (by first | rfl | exact get_words (by first | omega | (simp [hB.l_fWriter, hB.l_fPrev]; done) | (simp [hB.l_fWriter, hB.l_fPrev]; omega)) | exact get_bytes (by first | omega | (simp [hB.l_fWriter, hB.l_fPrev]; done) | (simp [hB.l_fWriter, hB.l_fPrev]; omega)) | exact get_ints (by first | omega | (simp [hB.l_fWriter, hB.l_fPrev]; done) | (simp [hB.l_fWriter, hB.l_fPrev]; omega)))) ?_
  refine Tr.call rfl rfl rfl rfl Body90 (oct_Number none 0 0 [] (B.fSeq) rfl (fun _ => rfl) (by omega)) (FreshRow.loose _ _ _ _) (fun _ _ => SeesP.nil) ?_
  rintro v2 out2 ⟨q2, c2, rfl, hc2, rfl⟩
  refine Tr.appendSl (z := u8 0) (by' := 1) (bytesV ([] ++ numB B.fSeq)) rfl rfl rfl rfl rfl Try.underlying27 Try.underlying27 Sz5 Zr5 (by unfold By; kernel_rfl) rfl (fun w h => SeesP.of (sees_own h mem0)) (fun e => by cases e) (bytesV_cell _) (rem_there rem_here) rfl (by simp only [bytesV, List.length_map, List.length_append, numB_length, hB.l_fWriter, hB.l_fPrev, List.length_nil]; try omega) hc1 (by omega) (by omega) (by simp [numB_length]) ?_
  intro q3 c3 hq3
  refine Tr.assign rfl rfl rfl ?_
  refine Tr.nil ?_
  refine at_n ?_
  refine Sat.seq ?_
  -- region 3
  refine Sat.region ?_
  refine Tr.move rfl rfl rfl ?_
  refine Tr.fld rfl rfl rfl Try.underlying31 rfl Sz25 (by decide) _ rfl ?_
  refine Tr.sliceArr rfl rfl rfl Try.underlying25 Sz5 ?_
  refine Tr.appendSl (z := u8 0) (by' := 1) (bytesV B.fPrev) rfl rfl rfl rfl rfl Try.underlying27 Try.underlying27 Sz5 Zr5 (by unfold By; kernel_rfl) rfl (fun W2 W2h => (SeesP.of (sees_part W2h (by first | exact mem0 | exact mem1 | exact mem2 | exact mem3 | exact mem4 | exact mem5 | exact mem6 | exact mem7 | (repeat (first | exact List.mem_cons_self | refine List.mem_cons_of_mem _ ?_ | refine mem_seg ?_))) (Block.see_fPrev hB)))) (fun e => by cases e) (bytesV_cell _) rem_here rfl (by simp only [bytesV, List.length_map, List.length_append, numB_length, hB.l_fWriter, hB.l_fPrev, List.length_nil]; try omega) hq3 (by omega) (by omega) (by simp [hB.l_fPrev]) ?_
  intro q5 c5 hq5
  refine Tr.assign rfl rfl rfl ?_
  refine Tr.nil ?_
  refine at_n ?_
  refine Sat.seq ?_
  -- region 4
  refine Sat.region ?_
  refine Tr.move rfl rfl rfl ?_
  refine Tr.fld rfl rfl rfl Try.underlying31 rfl Sz26 (by decide) _ rfl ?_
  refine Tr.load1 rfl rfl rfl Try.underlying26 rfl (by first | exact mem0 | exact mem1 | exact mem2 | exact mem3 | exact mem4 | exact mem5 | exact mem6 | exact mem7 | (repeat (first | exact List.mem_cons_self | refine List.mem_cons_of_mem _ ?_ | refine mem_seg ?_))) (by first | exact Block.get_fLinks (by first | assumption | (simp [hB.l_fWriter, hB.l_fPrev]; done) | exact Block.zero_ok | exact Vote.zero_ok | exact Reader.zero_ok ) | exact (by first | rfl | exact get_words (by first | omega | (simp [hB.l_fWriter, hB.l_fPrev]; done) | (simp [hB.l_fWriter, hB.l_fPrev]; omega)) | exact get_bytes (by first | omega | (simp [hB.l_fWriter, hB.l_fPrev]; done) | (simp [hB.l_fWriter, hB.l_fPrev]; omega)) | exact get_ints (by first | omega | (simp [hB.l_fWriter, hB.l_fPrev]; done) | (simp [hB.l_fWriter, hB.l_fPrev]; omega)))) ?_
  refine Tr.lenSl rfl rfl rfl Try.underlying26 ?_
  refine Tr.conv rfl rfl rfl Try.underlying3 Try.underlying24 (cv_i64_u64 _) ?_
  rw [hw2]
  refine Tr.call rfl rfl rfl rfl Body90 (oct_Number none 0 0 [] (UInt64.ofNat B.fLinks.n) rfl (fun _ => rfl) (by omega)) (FreshRow.loose _ _ _ _) (fun _ _ => SeesP.nil) ?_
  rintro v4 out4 ⟨q4, c4, rfl, hc4, rfl⟩
  refine Tr.appendSl (z := u8 0) (by' := 1) (bytesV ([] ++ numB (UInt64.ofNat B.fLinks.n))) rfl rfl rfl rfl rfl Try.underlying27 Try.underlying27 Sz5 Zr5 (by unfold By; kernel_rfl) rfl (fun w h => SeesP.of (sees_own h mem0)) (fun e => by cases e) (bytesV_cell _) (rem_there rem_here) rfl (by simp only [bytesV, List.length_map, List.length_append, numB_length, hB.l_fWriter, hB.l_fPrev, List.length_nil]; try omega) hq5 (by omega) (by omega) (by simp [numB_length]) ?_
  intro q6 c6 hq6
  refine Tr.assign rfl rfl rfl ?_
  refine Tr.nil ?_
  refine at_n ?_
  refine Sat.seq ?_
  refine Sat.seq ?_
  -- region 5
  refine Sat.region ?_
  refine Tr.fld rfl rfl rfl Try.underlying31 rfl Sz26 (by decide) _ rfl ?_
  refine Tr.load1 rfl rfl rfl Try.underlying26 rfl (by first | exact mem0 | exact mem1 | exact mem2 | exact mem3 | exact mem4 | exact mem5 | exact mem6 | exact mem7 | (repeat (first | exact List.mem_cons_self | refine List.mem_cons_of_mem _ ?_ | refine mem_seg ?_))) (by first | exact Block.get_fLinks (by first | assumption | (simp [hB.l_fWriter, hB.l_fPrev]; done) | exact Block.zero_ok | exact Vote.zero_ok | exact Reader.zero_ok ) | exact (by first | rfl | exact get_words (by first | omega | (simp [hB.l_fWriter, hB.l_fPrev]; done) | (simp [hB.l_fWriter, hB.l_fPrev]; omega)) | exact get_bytes (by first | omega | (simp [hB.l_fWriter, hB.l_fPrev]; done) | (simp [hB.l_fWriter, hB.l_fPrev]; omega)) | exact get_ints (by first | omega | (simp [hB.l_fWriter, hB.l_fPrev]; done) | (simp [hB.l_fWriter, hB.l_fPrev]; omega)))) ?_
  refine Tr.lenSl rfl rfl rfl Try.underlying26 ?_
  refine Tr.move rfl rfl rfl ?_
  refine Tr.nil ?_
  refine at_n ?_
  refine Sat.block ?_
  refine Sat.loop (ι := Nat × Nat × Nat) (fun p => ⟨[(1, ptr n1 0), (3, .slice (some ⟨p.2.1, 0, none⟩) (32 + (0 + szN B.fSeq.toNat) + 32 + (0 + szN (UInt64.ofNat B.fLinks.n).toNat) + 32 * p.1) p.2.2), (26, B.fLinks.v), (27, i64 (B.fLinks.n : Int)), (28, i64 (p.1 : Int))], [⟨p.2.1, bytesV (B.fWriter ++ numB B.fSeq ++ B.fPrev ++ numB (UInt64.ofNat B.fLinks.n) ++ (ls.take p.1).flatten), 5, p.2.2 * 1⟩, ⟨n1, B.cells, 31, B.cells.length⟩]⟩) (fun p => p.1 ≤ B.fLinks.n ∧ 32 + (0 + szN B.fSeq.toNat) + 32 + (0 + szN (UInt64.ofNat B.fLinks.n).toNat) + 32 * p.1 ≤ p.2.2) (fun p => B.fLinks.n - p.1) ((0, q6, c6)) ?_ ?_ ?_
  · exact ⟨Nat.zero_le _, by simp only []; omega⟩
  · exact weak_of (wk1 rfl (wk1 rfl (wk1 rfl (wk1 rfl (wk1 rfl wk0))))) (wh1 (by simp only [List.take_zero, List.flatten_nil, List.append_nil, bytesV, List.map_append, List.nil_append]; exact mem0) (wh1 (by first | exact mem0 | exact mem1 | exact mem2 | exact mem3 | exact mem4 | exact mem5 | exact mem6 | exact mem7 | (repeat (first | exact List.mem_cons_self | refine List.mem_cons_of_mem _ ?_ | refine mem_seg ?_))) wh0)) (by repeat (first | exact ns_nil | refine ns_keep rfl ?_ | refine ns_skip ?_))
  ·
    rintro p ⟨hp1, hp2⟩
    refine Sat.seq ?_
    -- region 6
    refine Sat.region ?_
    refine Tr.lss rfl rfl rfl rfl rfl ?_
    refine Tr.nil ?_
    refine at_n ?_
    refine Sat.seq ?_
    first
      | refine Sat.condP rfl (fun hc0 => ?_) (fun hc0 => ?_)
      | refine Sat.condNP rfl (fun hc0 => ?_) (fun hc0 => ?_)
      | refine Sat.cond rfl (fun hc0 => ?_) (fun hc0 => ?_)
    ·
      have hp3 : p.1 < B.fLinks.n := by omega
      obtain ⟨b, o, hbp, hbs⟩ := hW.1.see.at (by rw [flatB_length hW.1.row]; omega)
      have hrk : (ls.getD p.1 []).length = 32 := getD_len hW.1.row (by omega)
      refine Sat.skip ?_
      refine at_n ?_
      refine Sat.seq ?_
      refine Sat.block ?_
      refine Sat.seq ?_
      -- region 7
      refine Sat.region ?_
      refine Tr.idxSlP 32 rfl rfl rfl hbp rfl Try.underlying26 Sz25 p.1 rfl (by omega) ?_
      refine Tr.loadEN (bytesV (ls.getD p.1 [])) rfl rfl rfl Try.underlying25 rfl Sz25 (by simp) (by rw [bytesV, List.length_map]; exact hrk) (sees_row hW.1.row hbs (by omega)) ?_
      refine Tr.alloc (cs := (bytesV (List.replicate 32 0))) rfl Zr25 rfl ?_
      intro n5 hn5 hf5
      first
        | refine Tr.storeAll rfl rfl rfl rfl (by first | exact bytesV_cell _ | simp [isCell]) Sz25 (by first | assumption | (simp [hB.l_fWriter, hB.l_fPrev]; done) | (rw [bytesV, List.length_map]; assumption)) (by first | exact mem0 | exact mem1 | exact mem2 | exact mem3 | exact mem4 | exact mem5 | exact mem6 | exact mem7 | (repeat (first | exact List.mem_cons_self | refine List.mem_cons_of_mem _ ?_ | refine mem_seg ?_))) (by first | assumption | (simp [hB.l_fWriter, hB.l_fPrev]; done) | (rw [bytesV, List.length_map]; assumption)) (by first | exact upd0 | exact upd1 | exact upd2 | exact upd3 | exact upd4 | exact upd5 | exact upd6 | exact upd7 | (repeat (first | exact upd0 | apply Upd.tail | apply Upd.seg))) ?_
        | refine Tr.storeN _ rfl rfl rfl rfl rfl (by first | exact bytesV_cell _ | simp [isCell]) Sz25 (by first | assumption | (simp [hB.l_fWriter, hB.l_fPrev]; done) | (rw [bytesV, List.length_map]; assumption)) (by first | exact mem0 | exact mem1 | exact mem2 | exact mem3 | exact mem4 | exact mem5 | exact mem6 | exact mem7 | (repeat (first | exact List.mem_cons_self | refine List.mem_cons_of_mem _ ?_ | refine mem_seg ?_))) (by first | assumption | (simp [hB.l_fWriter, hB.l_fPrev]; done) | (rw [bytesV, List.length_map]; assumption)) (by exact rfl) (by first | exact upd0 | exact upd1 | exact upd2 | exact upd3 | exact upd4 | exact upd5 | exact upd6 | exact upd7 | (repeat (first | exact upd0 | apply Upd.tail | apply Upd.seg))) ?_
      refine Tr.nil ?_
      refine at_n ?_
      -- region 8
      refine Sat.region ?_
      refine Tr.move rfl rfl rfl ?_
      refine Tr.sliceArr rfl rfl rfl Try.underlying25 Sz5 ?_
      refine Tr.appendSl (z := u8 0) (by' := 1) (bytesV (ls.getD p.1 [])) rfl rfl rfl rfl rfl Try.underlying27 Try.underlying27 Sz5 Zr5 (by unfold By; kernel_rfl) rfl (fun w h => SeesP.of (sees_own h mem0)) (fun e => by cases e) (bytesV_cell _) (rem_there rem_here) rfl (by simp only [bytesV, List.length_map, List.length_append, numB_length, hB.l_fWriter, hB.l_fPrev, flatten_take_len hW.1.row (show p.1 ≤ ls.length by omega)]; omega) hp2 (by omega) (by omega) (by rw [bytesV, List.length_map, hrk]) ?_
      intro q7 c7 hq7
      refine Tr.assign rfl rfl rfl ?_
      refine Tr.nil ?_
      refine bl_n ?_
      refine at_n ?_
      -- region 9
      refine Sat.region ?_
      refine Tr.add_i64 rfl rfl rfl rfl (by omega) ?_
      refine Tr.move rfl rfl rfl ?_
      refine Tr.nil ?_
      refine at_n ?_
      exact ⟨(p.1 + 1, q7, c7), ⟨by simp only []; omega, by simp only []; omega⟩, by simp only []; omega, weak_of (wk1 rfl (wk1 (by rw [show 32 + (0 + szN B.fSeq.toNat) + 32 + (0 + szN (UInt64.ofNat B.fLinks.n).toNat) + 32 * (p.1 + 1) = 32 + (0 + szN B.fSeq.toNat) + 32 + (0 + szN (UInt64.ofNat B.fLinks.n).toNat) + 32 * p.1 + 32 by omega]; rfl) (wk1 rfl (wk1 rfl (wk1 rfl wk0))))) (wh1 (by rw [flatten_take_step (by omega), ← List.append_assoc]; simp only [bytesV, List.map_append]; exact mem0) (wh1 (by first | exact mem0 | exact mem1 | exact mem2 | exact mem3 | exact mem4 | exact mem5 | exact mem6 | exact mem7 | (repeat (first | exact List.mem_cons_self | refine List.mem_cons_of_mem _ ?_ | refine mem_seg ?_))) wh0)) (by repeat (first | exact ns_nil | refine ns_keep rfl ?_ | refine ns_skip ?_))⟩
    ·
      have hp3 : p.1 = B.fLinks.n := by omega
      refine Sat.exit ?_
      refine at_x ?_
      refine at_x ?_
      refine bl_h ?_
      refine at_n ?_
      refine Sat.seq ?_
      -- region 10
      refine Sat.region ?_
      refine Tr.move rfl rfl rfl ?_
      refine Tr.fld rfl rfl rfl Try.underlying31 rfl Sz27 (by decide) _ rfl ?_
      refine Tr.load1 rfl rfl rfl Try.underlying27 rfl (by first | exact mem0 | exact mem1 | exact mem2 | exact mem3 | exact mem4 | exact mem5 | exact mem6 | exact mem7 | (repeat (first | exact List.mem_cons_self | refine List.mem_cons_of_mem _ ?_ | refine mem_seg ?_))) (by first | exact Block.get_fData (by first | assumption | (simp [hB.l_fWriter, hB.l_fPrev]; done) | exact Block.zero_ok | exact Vote.zero_ok | exact Reader.zero_ok ) | exact (by first | rfl | exact get_words (by first | omega | (simp [hB.l_fWriter, hB.l_fPrev]; done) | (simp [hB.l_fWriter, hB.l_fPrev]; omega)) | exact get_bytes (by first | omega | (simp [hB.l_fWriter, hB.l_fPrev]; done) | (simp [hB.l_fWriter, hB.l_fPrev]; omega)) | exact get_ints (by first | omega | (simp [hB.l_fWriter, hB.l_fPrev]; done) | (simp [hB.l_fWriter, hB.l_fPrev]; omega)))) ?_
      refine Tr.call rfl rfl rfl rfl Body91 (oct_Block none B.fData.p 0 0 B.fData.n B.fData.c [] ds rfl hW.2.len (fun _ => rfl) (fun e => by have := hW.2.nil e; have := hW.2.cap; omega) (by omega) (by omega)) (FreshRow.loose _ _ _ _) (fun w h => ⟨SeesP.nil, seesP_ext h rfl hW.2.see⟩) ?_
      rintro v9 out9 ⟨q9, c9, rfl, hc9, rfl⟩
      refine Tr.appendSl (z := u8 0) (by' := 1) (bytesV ([] ++ numB (UInt64.ofNat B.fData.n) ++ ds)) rfl rfl rfl rfl rfl Try.underlying27 Try.underlying27 Sz5 Zr5 (by unfold By; kernel_rfl) rfl (fun w h => SeesP.of (sees_own h mem0)) (fun e => by cases e) (bytesV_cell _) (rem_there rem_here) rfl (by simp only [bytesV, List.length_map, List.length_append, numB_length, hB.l_fWriter, hB.l_fPrev, flatten_take_len hW.1.row (show p.1 ≤ ls.length by omega)]; omega) hp2 (by omega) (by omega) (by simp [numB_length, hW.2.len, ofNat_nat (show B.fData.n ≤ 1000000 by omega)]) ?_
      intro q8 c8 hq8
      refine Tr.assign rfl rfl rfl ?_
      refine Tr.nil ?_
      refine at_n ?_
      refine Sat.ret ?_
      refine en_r ?_
      have hN : 32 + (0 + szN B.fSeq.toNat) + 32 + (0 + szN (UInt64.ofNat B.fLinks.n).toNat) + 32 * p.1 + (0 + szN B.fData.n + B.fData.n) = (bodyB B ls ds).length := by
        have hfl := flatten_take_len hW.1.row (Nat.le_refl ls.length)
        rw [List.take_length] at hfl
        simp only [bodyB, List.length_append, numB_length, hB.l_fWriter, hB.l_fPrev, hfl, hW.2.len, ofNat_nat (show B.fData.n ≤ 1000000 by omega)]
        omega
      refine ⟨_, [⟨q8, bytesV (bodyB B ls ds), 5, c8 * 1⟩], res_tmp rfl rfl, (by intro b hb; rw [List.mem_singleton.1 hb, show bodyB B ls ds = B.fWriter ++ numB B.fSeq ++ B.fPrev ++ numB (UInt64.ofNat B.fLinks.n) ++ (ls.take p.1).flatten ++ (numB (UInt64.ofNat B.fData.n) ++ ds) by rw [bodyB, List.take_of_length_le (by omega)]]; simp only [bytesV, List.map_append, List.append_assoc, List.nil_append]; exact mem0), nodup1, ⟨_, rfl, by omega, q8, c8, by rw [← hN], by omega, rfl⟩⟩


theorem check_small {B : Block} {ls : List (List UInt8)} (h : bcheck B ls = 0) : B.fLinks.n ≤ 16 ∧ B.fData.n ≤ 512 := by
  unfold bcheck at h
  by_cases h1 : bheadB B = true
  · rw [if_pos h1] at h; cases h
  · unfold bheadB at h1
    simp at h1
    omega
def bytesB (B : Block) (ls : List (List UInt8)) (ds : List UInt8) : List UInt8 := bodyB B ls ds ++ B.fSig



theorem body_small (B : Block) (hB : B.ok) (ls : List (List UInt8)) (ds : List UInt8) (hr : ∀ l ∈ ls, l.length = 32) (hl : ls.length = B.fLinks.n) (hd : ds.length = B.fData.n) (hn : B.fLinks.n ≤ 40) (hd2 : B.fData.n ≤ 2000) : (bodyB B ls ds).length ≤ 4000 := by
  have hz1 := szN_pos B.fSeq.toNat
  have hz2 := szN_pos (UInt64.ofNat B.fLinks.n).toNat
  have hz3 := szN_pos (UInt64.ofNat B.fData.n).toNat
  have hfl := flatten_take_len hr (Nat.le_refl ls.length)
  rw [List.take_length] at hfl
  simp only [bodyB, List.length_append, numB_length, hB.l_fWriter, hB.l_fPrev, hfl, hd]
  omega


set_option maxRecDepth 100000 in
set_option maxHeartbeats 1000000 in
theorem bytes_bad (B : Block) (hB : B.ok) (ls : List (List UInt8)) (ds : List UInt8) (hc : ¬ bcheck B ls = 0) : Meets Try.prog 11 [agg B.cells] [] (fun W => RowsAt W B.fLinks 32 ls ∧ BytesAt W B.fData ds) (fun v out => v = .tuple #[.slice none 0 0, i64 (bcheck B ls)] ∧ out = []) := by
  intro W hW
  refine calls_of (hp0 := []) Try.func11 rfl 15 Try.ntmps11 rfl (HRep.nil _) ?_
  refine Sat.seq ?_
  -- region 0
  refine Sat.region ?_
  refine Tr.boxA rfl rfl ?_
  intro n1 hn1 hf1
  refine Tr.assign rfl rfl rfl ?_
  refine Tr.assign rfl rfl rfl ?_
  refine Tr.nil ?_
  refine at_n ?_
  refine Sat.seq ?_
  refine Sat.seq ?_
  -- region 1
  refine Sat.region ?_
  refine Tr.loadAll rfl rfl rfl Try.underlying31 rfl Sz31 (by first | exact mem0 | exact mem1 | exact mem2 | exact mem3 | exact mem4 | exact mem5 | exact mem6 | exact mem7 | (repeat (first | exact List.mem_cons_self | refine List.mem_cons_of_mem _ ?_ | refine mem_seg ?_))) (Block.length (by first | assumption | (simp; done) | exact Block.zero_ok | exact Vote.zero_ok | exact Reader.zero_ok )) ?_
  refine Tr.callV rfl rfl rfl rfl Body12 (block_check B hB ls) (fun w h => rows_ext h rfl hW.1) ?_
  refine Tr.assign rfl rfl rfl ?_
  refine Tr.nil ?_
  refine at_n ?_
  refine Sat.seq ?_
  -- region 2
  refine Sat.region ?_
  refine Tr.move rfl rfl rfl ?_
  refine Tr.nei rfl rfl rfl rfl (show (!decide _) = true from congrArg not (decide_eq_false (hc))) ?_
  refine Tr.nil ?_
  refine at_n ?_
  refine Sat.cond_t rfl (rfl) ?_
  refine Sat.seq ?_
  -- region 3
  refine Sat.region ?_
  refine Tr.move rfl rfl rfl ?_
  refine Tr.assign rfl rfl rfl ?_
  refine Tr.assign rfl rfl rfl ?_
  refine Tr.nil ?_
  refine at_n ?_
  refine Sat.ret ?_
  refine at_r ?_
  refine en_r ?_
  refine ⟨_, [], res_tmp2 rfl rfl rfl, (by simp), (by simp), ?_, rfl⟩
  rfl

set_option maxRecDepth 100000 in
set_option maxHeartbeats 1000000 in
theorem bytes_ok (B : Block) (hB : B.ok) (ls : List (List UInt8)) (ds : List UInt8) (hc : bcheck B ls = 0) : Meets Try.prog 11 [agg B.cells] [] (fun W => RowsAt W B.fLinks 32 ls ∧ BytesAt W B.fData ds) (fun v out => ∃ q c N, N = (bytesB B ls ds).length ∧ N ≤ 5000 ∧ v = .tuple #[.slice (some ⟨q, 0, none⟩) N c, i64 0] ∧ N ≤ c ∧ out = [⟨q, bytesV (bytesB B ls ds), 5, c * 1⟩]) := by
  intro W hW
  have hsm := check_small hc
  refine calls_of (hp0 := []) Try.func11 rfl 15 Try.ntmps11 rfl (HRep.nil _) ?_
  refine Sat.seq ?_
  -- region 0
  refine Sat.region ?_
  refine Tr.boxA rfl rfl ?_
  intro n1 hn1 hf1
  refine Tr.assign rfl rfl rfl ?_
  refine Tr.assign rfl rfl rfl ?_
  refine Tr.nil ?_
  refine at_n ?_
  refine Sat.seq ?_
  refine Sat.seq ?_
  -- region 1
  refine Sat.region ?_
  refine Tr.loadAll rfl rfl rfl Try.underlying31 rfl Sz31 (by first | exact mem0 | exact mem1 | exact mem2 | exact mem3 | exact mem4 | exact mem5 | exact mem6 | exact mem7 | (repeat (first | exact List.mem_cons_self | refine List.mem_cons_of_mem _ ?_ | refine mem_seg ?_))) (Block.length (by first | assumption | (simp [hB.l_fSig]; done) | exact Block.zero_ok | exact Vote.zero_ok | exact Reader.zero_ok )) ?_
  refine Tr.callV rfl rfl rfl rfl Body12 (block_check B hB ls) (fun w h => rows_ext h rfl hW.1) ?_
  refine Tr.assign rfl rfl rfl ?_
  refine Tr.nil ?_
  refine at_n ?_
  refine Sat.seq ?_
  -- region 2
  refine Sat.region ?_
  refine Tr.move rfl rfl rfl ?_
  refine Tr.nei rfl rfl rfl rfl (show (!decide _) = false from congrArg not (decide_eq_true (hc))) ?_
  refine Tr.nil ?_
  refine at_n ?_
  refine Sat.cond_f rfl (rfl) ?_
  refine Sat.skip ?_
  refine at_n ?_
  refine Sat.seq ?_
  -- region 4
  refine Sat.draw [(1, 0), (0, 2), (0, 3), (3, 1), (4, 4), (0, 5), (0, 6)] Mixed (by kernel_rfl) ?_
  refine Tr.loadAll rfl rfl rfl Try.underlying31 rfl Sz31 (by first | exact mem0 | exact mem1 | exact mem2 | exact mem3 | exact mem4 | exact mem5 | exact mem6 | exact mem7 | (repeat (first | exact List.mem_cons_self | refine List.mem_cons_of_mem _ ?_ | refine mem_seg ?_))) (Block.length (by first | assumption | (simp [hB.l_fSig]; done) | exact Block.zero_ok | exact Vote.zero_ok | exact Reader.zero_ok )) ?_
  refine Tr.fld rfl rfl rfl Try.underlying31 rfl Sz29 (by decide) _ rfl ?_
  refine Tr.sliceArr rfl rfl rfl Try.underlying29 Sz5 ?_
  refine Tr.call rfl rfl rfl rfl Body43 (block_body B hB ls ds (by omega) (by omega)) (fun l hl => by obtain ⟨v, out, h1, h2⟩ := FreshRow.loose (bytesV (bodyB B ls ds)) 5 (bodyB B ls ds).length 1 l hl; exact ⟨v, out, ⟨_, rfl, body_small B hB ls ds hW.1.row hW.1.len hW.2.len (by omega) (by omega), h1⟩, h2⟩) (fun w h => ⟨rows_ext h rfl hW.1, bytes_ext h rfl hW.2⟩) ?_
  rintro v1 out1 ⟨N1, hN1, hN2, q1, c1, rfl, hc1, rfl⟩
  refine Tr.appendSl (z := u8 0) (by' := 1) (bytesV B.fSig) rfl rfl rfl rfl rfl Try.underlying27 Try.underlying27 Sz5 Zr5 (by unfold By; kernel_rfl) rfl (fun W2 W2h => (SeesP.of (sees_part W2h (by first | exact mem0 | exact mem1 | exact mem2 | exact mem3 | exact mem4 | exact mem5 | exact mem6 | exact mem7 | (repeat (first | exact List.mem_cons_self | refine List.mem_cons_of_mem _ ?_ | refine mem_seg ?_))) (Block.see_fSig hB)))) (fun e => by cases e) (bytesV_cell _) rem_here rfl (by rw [bytesV, List.length_map, hN1, Nat.mul_one]) hc1 (by omega) (by omega) (by simp [hB.l_fSig]) ?_
  intro q2 c2 hq2
  refine Tr.assign rfl rfl rfl ?_
  refine Tr.assign rfl rfl rfl ?_
  refine Tr.nil ?_
  refine at_n ?_
  refine Sat.ret ?_
  refine en_r ?_
  refine ⟨_, [⟨q2, bytesV (bytesB B ls ds), 5, c2 * 1⟩], res_tmp2 rfl rfl rfl, (by intro b hb; rw [List.mem_singleton.1 hb, bytesB]; simp only [bytesV, List.map_append]; exact mem0), nodup1, ⟨q2, c2, N1 + 64, by rw [hN1, bytesB, List.length_append, hB.l_fSig], by omega, rfl, hq2, rfl⟩⟩

set_option maxRecDepth 100000 in
set_option maxHeartbeats 1000000 in
theorem bytes_equal (p q : Option Addr) (n m c1 c2 : Nat) (xs ys : List UInt8) (h1 : xs.length = n) (h2 : ys.length = m) : Meets Try.prog 48 [.slice p n c1, .slice q m c2] [] (fun W => SeesP W p (bytesV xs) ∧ SeesP W q (bytesV ys)) (fun v out => v = .bool (decide (xs = ys)) ∧ out = []) := by
  intro W hW
  refine calls_of (hp0 := []) Try.func48 rfl 10 Try.ntmps48 rfl (HRep.nil _) ?_
  refine Sat.seq ?_
  -- region 0
  refine Sat.region ?_
  refine Tr.assign rfl rfl rfl ?_
  refine Tr.nil ?_
  refine at_n ?_
  refine Sat.seq ?_
  -- region 1
  refine Sat.region ?_
  refine Tr.move rfl rfl rfl ?_
  refine Tr.toStr rfl rfl rfl Try.underlying27 Try.underlying5 Try.underlying9 (fun w h => seesP_ext h rfl hW.1) h1 ?_
  refine Tr.move rfl rfl rfl ?_
  refine Tr.toStr rfl rfl rfl Try.underlying27 Try.underlying5 Try.underlying9 (fun w h => seesP_ext h rfl hW.2) h2 ?_
  refine Tr.eql_str rfl rfl rfl rfl rfl ?_
  refine Tr.assign rfl rfl rfl ?_
  refine Tr.nil ?_
  refine at_n ?_
  refine Sat.ret ?_
  refine en_r ?_
  refine ⟨_, [], res_tmp rfl rfl, (by simp), (by simp), ?_, rfl⟩
  rfl

end Go.Proofs.Ytejjamifnombhaa
