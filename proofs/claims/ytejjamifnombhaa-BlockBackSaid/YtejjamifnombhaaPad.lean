/- Contracts of package sha: padding. Conditions: what the rows hold, and that they are not too long. -/
import Derived.Test.YtejjamifnombhaaSha2
import Derived.Laws.Externs
namespace Go.Proofs.Ytejjamifnombhaa
open Go Hw
set_option linter.unusedVariables false
set_option linter.unusedSimpArgs false


theorem and_low {x : UInt64} (h : x.toNat < 4294967296) : x &&& 4294967295 = x := by
  apply UInt64.toNat_inj.1
  rw [UInt64.toNat_and]
  show x.toNat &&& (2 ^ 32 - 1) = x.toNat
  rw [Nat.and_two_pow_sub_one_eq_mod, Nat.mod_eq_of_lt (by omega)]
theorem shr_small {x : UInt64} {n : Nat} (h : x.toNat < 2 ^ n) : shr64 x n = 0 := by
  apply UInt64.toNat_inj.1
  rw [shr64_nat, Nat.div_eq_of_lt h]; rfl
theorem mul8_nat {x : UInt64} (h : x.toNat < 536870912) : (x * 8).toNat = x.toNat * 8 := by
  rw [UInt64.toNat_mul]; show x.toNat * 8 % 18446744073709551616 = _; omega


set_option maxRecDepth 100000 in
set_option maxHeartbeats 1000000 in
theorem bits_mul8 (x : UInt64) (hx : x.toNat < 536870912) : Meets Try.prog 154 [u64 x, u64 8] [] (fun _ => True) (fun v out => v = .tuple #[u64 0, u64 (x * 8)] ∧ out = []) := by
  intro W hW
  have h1 := and_low (x := x) (by omega)
  have h2 := shr_small (x := x) (n := 32) (by omega)
  have h3 := mul8_nat hx
  have h4 := shr_small (x := x * 8) (n := 32) (by omega)
  refine calls_of (hp0 := []) Try.func154 rfl 51 Try.ntmps154 rfl (HRep.nil _) ?_
  refine Sat.seq ?_
  -- region 0
  refine Sat.region ?_
  refine Tr.assign rfl rfl (show evIn _ _ = some (u64 0) from rfl) ?_
  refine Tr.assign rfl rfl (show evIn _ _ = some (u64 0) from rfl) ?_
  refine Tr.nil ?_
  refine at_n ?_
  refine Sat.seq ?_
  -- region 1
  refine Sat.region ?_
  refine Tr.move rfl rfl rfl ?_
  refine Tr.and_u64 rfl rfl rfl (show evIn _ _ = some (u64 4294967295) from rfl) ?_
  refine Tr.assign rfl rfl rfl ?_
  refine Tr.nil ?_
  refine at_n ?_
  refine Sat.seq ?_
  -- region 2
  refine Sat.region ?_
  refine Tr.move rfl rfl rfl ?_
  refine Tr.shr_u64 rfl rfl rfl rfl 32 (by omega) (by omega) ?_
  refine Tr.assign rfl rfl rfl ?_
  refine Tr.nil ?_
  refine at_n ?_
  refine Sat.seq ?_
  -- region 3
  refine Sat.region ?_
  refine Tr.move rfl rfl rfl ?_
  refine Tr.and_u64 rfl rfl rfl (show evIn _ _ = some (u64 4294967295) from rfl) ?_
  refine Tr.assign rfl rfl rfl ?_
  refine Tr.nil ?_
  refine at_n ?_
  refine Sat.seq ?_
  -- region 4
  refine Sat.region ?_
  refine Tr.move rfl rfl rfl ?_
  refine Tr.shr_u64 rfl rfl (show evIn _ _ = some (u64 8) from rfl) rfl 32 (by omega) (by omega) ?_
  refine Tr.assign rfl rfl rfl ?_
  refine Tr.nil ?_
  refine at_n ?_
  refine Sat.seq ?_
  -- region 5
  refine Sat.region ?_
  refine Tr.move rfl rfl rfl ?_
  refine Tr.move rfl rfl rfl ?_
  refine Tr.mul_u64 rfl rfl rfl rfl ?_
  refine Tr.assign rfl rfl rfl ?_
  refine Tr.nil ?_
  refine at_n ?_
  refine Sat.seq ?_
  -- region 6
  refine Sat.region ?_
  refine Tr.move rfl rfl rfl ?_
  refine Tr.move rfl rfl rfl ?_
  refine Tr.mul_u64 rfl rfl rfl rfl ?_
  refine Tr.move rfl rfl rfl ?_
  refine Tr.shr_u64 rfl rfl rfl rfl 32 rfl (by decide) ?_
  refine Tr.add_u64 rfl rfl rfl rfl ?_
  refine Tr.assign rfl rfl rfl ?_
  refine Tr.nil ?_
  refine at_n ?_
  refine Sat.seq ?_
  -- region 7
  refine Sat.region ?_
  refine Tr.move rfl rfl rfl ?_
  refine Tr.and_u64 rfl rfl rfl (show evIn _ _ = some (u64 4294967295) from rfl) ?_
  refine Tr.assign rfl rfl rfl ?_
  refine Tr.nil ?_
  refine at_n ?_
  refine Sat.seq ?_
  -- region 8
  refine Sat.region ?_
  refine Tr.move rfl rfl rfl ?_
  refine Tr.shr_u64 rfl rfl rfl rfl 32 rfl (by decide) ?_
  refine Tr.assign rfl rfl rfl ?_
  refine Tr.nil ?_
  refine at_n ?_
  refine Sat.seq ?_
  -- region 9
  refine Sat.region ?_
  refine Tr.move rfl rfl rfl ?_
  refine Tr.move rfl rfl rfl ?_
  refine Tr.move rfl rfl rfl ?_
  refine Tr.mul_u64 rfl rfl rfl rfl ?_
  refine Tr.add_u64 rfl rfl rfl rfl ?_
  refine Tr.assign rfl rfl rfl ?_
  refine Tr.nil ?_
  refine at_n ?_
  refine Sat.seq ?_
  -- region 10
  refine Sat.region ?_
  refine Tr.move rfl rfl rfl ?_
  refine Tr.move rfl rfl rfl ?_
  refine Tr.mul_u64 rfl rfl rfl rfl ?_
  refine Tr.move rfl rfl rfl ?_
  refine Tr.add_u64 rfl rfl rfl rfl ?_
  refine Tr.move rfl rfl rfl ?_
  refine Tr.shr_u64 rfl rfl rfl rfl 32 rfl (by decide) ?_
  refine Tr.add_u64 rfl rfl rfl rfl ?_
  refine Tr.assign rfl rfl rfl ?_
  refine Tr.nil ?_
  refine at_n ?_
  refine Sat.seq ?_
  -- region 11
  refine Sat.region ?_
  refine Tr.move rfl rfl rfl ?_
  refine Tr.move rfl rfl rfl ?_
  refine Tr.mul_u64 rfl rfl rfl rfl ?_
  refine Tr.assign rfl rfl rfl ?_
  refine Tr.nil ?_
  refine at_n ?_
  refine Sat.ret ?_
  refine en_r ?_
  refine ⟨_, [], res_tmp2 rfl rfl rfl, (by simp), (by simp), ?_, rfl⟩
  simp only [h1, h2, show shr64 8 32 = 0 from rfl, show (8 : UInt64) &&& 4294967295 = 8 from rfl]
  rw [h4, UInt64.mul_zero (a := x)]
  rfl


theorem bytesV_app (a b : List UInt8) : bytesV (a ++ b) = bytesV a ++ bytesV b := List.map_append
theorem sl_get {ss : List Sl} {j : Nat} (h : j < ss.length) : (ss.map Sl.v)[j]? = some (ss.getD j Sl.nil).v := by simp [List.getElem?_eq_getElem h, List.getD]
theorem take_flat {ls : List (List UInt8)} {j : Nat} (h : j < ls.length) : (ls.take (j + 1)).flatten = (ls.take j).flatten ++ ls.getD j [] := by
  rw [List.take_succ_eq_append_getElem h, List.flatten_append]
  simp [List.getD, h]
theorem take_flat_le (ls : List (List UInt8)) (j : Nat) : (ls.take j).flatten.length ≤ ls.flatten.length := by
  have : ls.flatten = (ls.take j).flatten ++ (ls.drop j).flatten := by rw [← List.flatten_append, List.take_append_drop]
  rw [this, List.length_append]; omega


set_option maxRecDepth 100000 in
set_option maxHeartbeats 4000000 in
theorem sha_padded (p : Option Addr) (n c : Nat) (ss : List Sl) (ls : List (List UInt8)) (hss : ss.length = n) (hls : ls.length = n) (hsl : ∀ j, j < n → (ss.getD j Sl.nil).n = (ls.getD j []).length ∧ ((ss.getD j Sl.nil).p = none → (ss.getD j Sl.nil).n = 0)) (F : List UInt8) (hF : ls.flatten = F) (htot : F.length ≤ 90000) (hn : n ≤ 1000000) : Meets Try.prog 135 [.slice p n c] [] (fun W => SeesP W p (ss.map Sl.v) ∧ ∀ j, j < n → SeesP W (ss.getD j Sl.nil).p (bytesV (ls.getD j []))) (fun v out => ∃ s, v = s.v ∧ Acc s out (bytesV (padB F)) 5 (padB F).length 1) := by
  intro W hW
  have hz := padZ_lt F.length
  have hle := take_flat_le ls
  rw [hF] at hle
  refine calls_of (hp0 := []) Try.func135 rfl 76 Try.ntmps135 rfl (HRep.nil _) ?_
  refine Sat.seq ?_
  -- region 0
  refine Sat.region ?_
  refine Tr.assign rfl rfl rfl ?_
  refine Tr.nil ?_
  refine at_n ?_
  refine Sat.seq ?_
  -- region 1
  refine Sat.region ?_
  refine Tr.assign rfl rfl rfl ?_
  refine Tr.nil ?_
  refine at_n ?_
  refine Sat.seq ?_
  refine Sat.seq ?_
  -- region 2
  refine Sat.region ?_
  refine Tr.move rfl rfl rfl ?_
  refine Tr.lenSl rfl rfl rfl Try.underlying57 ?_
  refine Tr.move rfl rfl rfl ?_
  refine Tr.nil ?_
  refine at_n ?_
  refine Sat.block ?_
  refine Sat.loop (ι := Nat) (fun k => ⟨[(0, .slice p n c), (3, i64 ((ls.take k).flatten.length : Int)), (14, .slice p n c), (15, i64 (n : Int)), (16, i64 (k : Int))], []⟩) (fun k => k ≤ n) (fun k => n - k) (0) ?_ ?_ ?_
  · omega
  · exact weak_perm (wk1 rfl (wk1 rfl (wk1 rfl (wk1 rfl (wk1 rfl wk0))))) pm_nil
  ·
    rintro k hi
    refine Sat.seq ?_
    -- region 3
    refine Sat.region ?_
    refine Tr.lss rfl rfl rfl rfl rfl ?_
    refine Tr.nil ?_
    refine at_n ?_
    refine Sat.seq ?_
    first
      | refine Sat.condP rfl (fun hc0 => ?_) (fun hc0 => ?_)
      | refine Sat.condNP rfl (fun hc0 => ?_) (fun hc0 => ?_)
      | refine Sat.cond rfl (fun hc0 => ?_) (fun hc0 => ?_)
    ·
      have hk3 : k < n := by omega
      obtain ⟨b, o, hbp, hbs⟩ := hW.1.at (by rw [List.length_map]; omega)
      have hv : W.cell? ⟨b, o + k * 1, none⟩ = some (ss.getD k Sl.nil).v := by rw [Nat.mul_one]; exact hbs k _ (sl_get (by omega))
      have hstep := hle (k + 1)
      rw [take_flat (by omega), List.length_append, ← (hsl k (by omega)).1] at hstep
      refine Sat.skip ?_
      refine at_n ?_
      refine Sat.seq ?_
      refine Sat.block ?_
      refine Sat.seq ?_
      -- region 4
      refine Sat.region ?_
      refine Tr.idxSlP 1 rfl rfl rfl hbp rfl Try.underlying57 Sz27 k rfl (by omega) ?_
      refine Tr.loadE rfl rfl rfl Try.underlying27 rfl (by first | (simp; done) | (simp; exact hW.2.2) | (simp [Cx.with]; omega)) (hv) ?_
      refine Tr.assign rfl rfl rfl ?_
      refine Tr.nil ?_
      refine at_n ?_
      -- region 5
      refine Sat.region ?_
      refine Tr.move rfl rfl rfl ?_
      refine Tr.move rfl rfl rfl ?_
      refine Tr.lenSl rfl rfl rfl Try.underlying27 ?_
      refine Tr.add_i64 rfl rfl rfl rfl (by omega) ?_
      refine Tr.assign rfl rfl rfl ?_
      refine Tr.nil ?_
      refine bl_n ?_
      refine at_n ?_
      -- region 6
      refine Sat.region ?_
      refine Tr.add_i64 rfl rfl rfl rfl (by omega) ?_
      refine Tr.move rfl rfl rfl ?_
      refine Tr.nil ?_
      refine at_n ?_
      exact ⟨k + 1, by omega, by omega, weak_perm (wk1 rfl (wk1 (congrArg (fun z => some (i64 z)) (by rw [take_flat (by omega), List.length_append, (hsl k (by omega)).1]; simp)) (wk1 rfl (wk1 rfl (wk1 rfl wk0))))) pm_nil⟩
    ·
      have hk3 : k = n := by omega
      rw [hk3, List.take_of_length_le (by omega), hF]
      refine Sat.exit ?_
      refine at_x ?_
      refine at_x ?_
      refine bl_h ?_
      refine at_n ?_
      refine Sat.seq ?_
      -- region 7
      refine Sat.region ?_
      refine Tr.move rfl rfl rfl ?_
      refine Tr.add_i64 rfl rfl rfl rfl (by omega) ?_
      refine Tr.quo_i64 rfl rfl rfl rfl (by omega) ?_
      refine Tr.mul_i64 rfl rfl rfl rfl (by omega) ?_
      refine Tr.add_i64 rfl rfl rfl rfl (by omega) ?_
      refine Tr.mkRoom (z := u8 0) (by' := 1) ((F.length + 16) / 128 * 128 + 128) rfl rfl rfl rfl (by omega) Try.underlying27 Sz5 Zr5 (by unfold By; kernel_rfl) rfl (by omega) (by omega) ?_
      intro q30
      refine Tr.assign rfl rfl rfl ?_
      refine Tr.nil ?_
      refine at_n ?_
      refine Sat.seq ?_
      refine Sat.seq ?_
      -- region 8
      refine Sat.region ?_
      refine Tr.move rfl rfl rfl ?_
      refine Tr.lenSl rfl rfl rfl Try.underlying57 ?_
      refine Tr.move rfl rfl rfl ?_
      refine Tr.nil ?_
      refine at_n ?_
      refine Sat.block ?_
      refine Sat.loop (ι := Nat × Sl × List Blk) (fun x => ⟨[(3, i64 (F.length : Int)), (6, x.2.1.v), (31, .slice p n c), (32, i64 (n : Int)), (33, i64 (x.1 : Int))], (x.2.2 ++ [])⟩) (fun x => x.1 ≤ n ∧ Acc x.2.1 x.2.2 (bytesV (ls.take x.1).flatten) 5 (ls.take x.1).flatten.length 1) (fun x => n - x.1) ((0, ⟨some ⟨q30, 0, none⟩, 0, (F.length + 16) / 128 * 128 + 128⟩, [⟨q30, [], 5, ((F.length + 16) / 128 * 128 + 128) * 1⟩])) ?_ ?_ ?_
      · exact ⟨Nat.zero_le _, Acc.some (Nat.zero_le _) rfl⟩
      · exact weak_perm (wk1 rfl (wk1 rfl (wk1 rfl (wk1 rfl (wk1 rfl wk0))))) (pm_consE (by repeat (first | exact rem_here | apply rem_there | apply rem_seg)) rfl (Nat.mul_one _).symm pm_nil)
      ·
        rintro x ⟨hx, hax⟩
        refine Sat.seq ?_
        -- region 9
        refine Sat.region ?_
        refine Tr.lss rfl rfl rfl rfl rfl ?_
        refine Tr.nil ?_
        refine at_n ?_
        refine Sat.seq ?_
        first
          | refine Sat.condP rfl (fun hc1 => ?_) (fun hc1 => ?_)
          | refine Sat.condNP rfl (fun hc1 => ?_) (fun hc1 => ?_)
          | refine Sat.cond rfl (fun hc1 => ?_) (fun hc1 => ?_)
        ·
          have hx3 : x.1 < n := by omega
          obtain ⟨b, o, hbp, hbs⟩ := hW.1.at (by rw [List.length_map]; omega)
          have hv : W.cell? ⟨b, o + x.1 * 1, none⟩ = some (ss.getD x.1 Sl.nil).v := by rw [Nat.mul_one]; exact hbs x.1 _ (sl_get (by omega))
          have hstep := hle (x.1 + 1)
          rw [take_flat (by omega), List.length_append, ← (hsl x.1 (by omega)).1] at hstep
          refine Sat.skip ?_
          refine at_n ?_
          refine Sat.seq ?_
          refine Sat.block ?_
          refine Sat.seq ?_
          -- region 10
          refine Sat.region ?_
          refine Tr.idxSlP 1 rfl rfl rfl hbp rfl Try.underlying57 Sz27 x.1 rfl (by omega) ?_
          refine Tr.loadE rfl rfl rfl Try.underlying27 rfl (by first | (simp; done) | (simp; exact hW.2.2) | (simp [Cx.with]; omega)) (hv) ?_
          refine Tr.assign rfl rfl rfl ?_
          refine Tr.nil ?_
          refine at_n ?_
          -- region 11
          refine Sat.region ?_
          refine Tr.move rfl rfl rfl ?_
          refine Tr.move rfl rfl rfl ?_
          refine Tr.appendAcc (z := u8 0) (by' := 1) (bytesV (ls.getD x.1 [])) rfl rfl rfl rfl rfl Try.underlying27 Try.underlying27 Sz5 Zr5 (by unfold By; kernel_rfl) rfl hax (by repeat (first | exact sg_here | exact sg_end | apply sg_there | apply sg_seg)) (fun w h => seesP_ext h rfl (hW.2 x.1 (by omega))) (hsl x.1 (by omega)).2 (bytesV_cell _) (by omega) (by omega) (by rw [bytesV, List.length_map, Nat.mul_one]; exact (hsl x.1 (by omega)).1.symm) ?_
          intro s39 bl39 hac39
          refine Tr.assign rfl rfl rfl ?_
          refine Tr.nil ?_
          refine bl_n ?_
          refine at_n ?_
          -- region 12
          refine Sat.region ?_
          refine Tr.add_i64 rfl rfl rfl rfl (by omega) ?_
          refine Tr.move rfl rfl rfl ?_
          refine Tr.nil ?_
          refine at_n ?_
          refine ⟨(x.1 + 1, s39, bl39), ⟨by simp only []; omega, ?_⟩, by simp only []; omega, weak_perm (wk1 rfl (wk1 rfl (wk1 rfl (wk1 rfl (wk1 rfl wk0))))) (pm_seg (by repeat (first | exact sg_here | exact sg_end | apply sg_there | apply sg_seg)) pm_nil)⟩
          rw [take_flat (by omega), List.length_append, ← (hsl x.1 (by omega)).1]
          simpa [bytesV] using hac39
        ·
          have hx3 : x.1 = n := by omega
          rw [hx3, List.take_of_length_le (by omega), hF] at hax
          refine Sat.exit ?_
          refine at_x ?_
          refine at_x ?_
          refine bl_h ?_
          refine at_n ?_
          refine Sat.seq ?_
          -- region 13
          refine Sat.region ?_
          refine Tr.move rfl rfl rfl ?_
          refine Tr.mkRow (z := u8 0) [u8 (128)] (bytesV [128]) rfl rfl rfl Try.underlying27 Sz5 Zr5 rfl rfl (by intro v hv; rw [List.mem_singleton.1 hv]; rfl) (by decide) rfl ?_
          intro q42
          refine Tr.appendAcc (z := u8 0) (by' := 1) (bytesV [128]) rfl rfl rfl rfl rfl Try.underlying27 Try.underlying27 Sz5 Zr5 (by unfold By; kernel_rfl) rfl hax (by repeat (first | exact sg_here | exact sg_end | apply sg_there | apply sg_seg)) (fun w h => SeesP.of (sees_own h (by first | exact mem0 | exact mem1 | exact mem2 | exact mem3 | exact mem4 | exact mem5 | exact mem6 | exact mem7 | (repeat (first | exact List.mem_cons_self | refine List.mem_cons_of_mem _ ?_ | refine mem_seg ?_))))) (fun e => by cases e) (bytesV_cell _) (by omega) (by omega) (by rfl) ?_
          intro s43 bl43 hac43
          refine Tr.assign rfl rfl rfl ?_
          refine Tr.nil ?_
          refine at_n ?_
          refine Sat.seq ?_
          refine Sat.block ?_
          refine Sat.loop (ι := Nat × Sl × List Blk) (fun z => ⟨[(3, i64 (F.length : Int)), (6, z.2.1.v)], (z.2.2 ++ [])⟩) (fun z => z.1 ≤ padZ F.length ∧ Acc z.2.1 z.2.2 (bytesV (F ++ [128] ++ List.replicate z.1 0)) 5 (F.length + 1 + z.1) 1) (fun z => padZ F.length - z.1) ((0, s43, bl43)) ?_ ?_ ?_
          · exact ⟨Nat.zero_le _, by simpa [bytesV] using hac43⟩
          · exact weak_perm (wk1 rfl (wk1 rfl wk0)) (pm_seg (by repeat (first | exact sg_here | exact sg_end | apply sg_there | apply sg_seg)) pm_nil)
          ·
            rintro z ⟨hz1, haz⟩
            have hzn := haz.num
            have hpz := padZ_at F.length z.1 hz1
            refine Sat.seq ?_
            refine Sat.seq ?_
            -- region 14
            refine Sat.region ?_
            refine Tr.move rfl rfl rfl ?_
            refine Tr.lenSl rfl rfl rfl Try.underlying27 ?_
            refine Tr.rem_i64 rfl rfl rfl rfl (by omega) ?_
            refine Tr.nei rfl rfl rfl rfl rfl ?_
            refine Tr.nil ?_
            refine at_n ?_
            first
              | refine Sat.condP rfl (fun hc2 => ?_) (fun hc2 => ?_)
              | refine Sat.condNP rfl (fun hc2 => ?_) (fun hc2 => ?_)
              | refine Sat.cond rfl (fun hc2 => ?_) (fun hc2 => ?_)
            ·
              have hz3 : z.1 < padZ F.length := by omega
              refine Sat.skip ?_
              refine at_n ?_
              refine Sat.block ?_
              -- region 15
              refine Sat.region ?_
              refine Tr.move rfl rfl rfl ?_
              refine Tr.mkRow (z := u8 0) [u8 (0)] (bytesV [0]) rfl rfl rfl Try.underlying27 Sz5 Zr5 rfl rfl (by intro v hv; rw [List.mem_singleton.1 hv]; rfl) (by decide) rfl ?_
              intro q49
              refine Tr.appendAcc (z := u8 0) (by' := 1) (bytesV [0]) rfl rfl rfl rfl rfl Try.underlying27 Try.underlying27 Sz5 Zr5 (by unfold By; kernel_rfl) rfl haz (by repeat (first | exact sg_here | exact sg_end | apply sg_there | apply sg_seg)) (fun w h => SeesP.of (sees_own h (by first | exact mem0 | exact mem1 | exact mem2 | exact mem3 | exact mem4 | exact mem5 | exact mem6 | exact mem7 | (repeat (first | exact List.mem_cons_self | refine List.mem_cons_of_mem _ ?_ | refine mem_seg ?_))))) (fun e => by cases e) (bytesV_cell _) (by omega) (by omega) (by rfl) ?_
              intro s50 bl50 hac50
              refine Tr.assign rfl rfl rfl ?_
              refine Tr.nil ?_
              refine bl_n ?_
              refine at_n ?_
              refine ⟨(z.1 + 1, s50, bl50), ⟨by simp only []; omega, ?_⟩, by simp only []; omega, weak_perm (wk1 rfl (wk1 rfl wk0)) (pm_seg (by repeat (first | exact sg_here | exact sg_end | apply sg_there | apply sg_seg)) pm_nil)⟩
              rw [List.replicate_succ', ← List.append_assoc]
              simpa [bytesV, Nat.add_assoc] using hac50
            ·
              have hz3 : z.1 = padZ F.length := by omega
              rw [hz3] at haz
              refine Sat.exit ?_
              refine at_x ?_
              refine at_x ?_
              refine bl_h ?_
              refine at_n ?_
              refine Sat.seq ?_
              -- region 16
              refine Sat.region ?_
              refine Tr.move rfl rfl rfl ?_
              refine Tr.conv rfl rfl rfl Try.underlying3 Try.underlying24 (cv_i64_u64 _) ?_
              rw [word_nat (n := F.length) (by omega)]
              refine Tr.callV rfl rfl rfl rfl Body154 (bits_mul8 (UInt64.ofNat F.length) (by rw [ofNat_nat (by omega)]; omega)) (fun _ _ => trivial) ?_
              refine Tr.move rfl rfl rfl ?_
              refine Tr.extract rfl rfl rfl rfl ?_
              refine Tr.extract rfl rfl rfl rfl ?_
              refine Tr.assign rfl rfl rfl ?_
              refine Tr.assign rfl rfl rfl ?_
              refine Tr.nil ?_
              refine at_n ?_
              refine Sat.seq ?_
              refine Sat.seq ?_
              -- region 17
              refine Sat.region ?_
              refine Tr.move rfl rfl rfl ?_
              refine Tr.move rfl rfl rfl ?_
              refine Tr.build (cs := [u64 0, u64 (UInt64.ofNat F.length * 8)]) rfl rfl rfl (fun w => by kernel_rfl) ?_
              refine Tr.move rfl rfl rfl ?_
              refine Tr.nil ?_
              refine at_n ?_
              refine Sat.block ?_
              refine Sat.rounds 3 (SRounds.more ?_)
              refine Sat.seq ?_
              -- region 18
              refine Sat.region ?_
              refine Tr.lss rfl rfl rfl rfl rfl ?_
              refine Tr.nil ?_
              refine at_n ?_
              refine Sat.seq ?_
              refine Sat.cond_t rfl (rfl) ?_
              refine Sat.skip ?_
              refine at_n ?_
              refine Sat.seq ?_
              refine Sat.block ?_
              refine Sat.seq ?_
              -- region 19
              refine Sat.region ?_
              refine Tr.idxA1 rfl rfl rfl rfl Try.underlying217 Sz24 Try.underlying24 rfl 0 rfl (by omega) rfl ?_
              refine Tr.assign rfl rfl rfl ?_
              refine Tr.nil ?_
              refine at_n ?_
              refine Sat.seq ?_
              -- region 20
              refine Sat.region ?_
              refine Tr.assign rfl rfl rfl ?_
              refine Tr.nil ?_
              refine at_n ?_
              refine Sat.block ?_
              refine Sat.loop (ι := Nat × Sl × List Blk) (fun y => ⟨[(3, i64 (F.length : Int)), (6, y.2.1.v), (12, u64 (0)), (13, i64 (56 - 8 * (y.1 : Int))), (59, agg [u64 0, u64 (UInt64.ofNat F.length * 8)]), (60, i64 0)], (y.2.2 ++ [])⟩) (fun y => y.1 ≤ 8 ∧ Acc y.2.1 y.2.2 (bytesV (F ++ [128] ++ List.replicate (padZ F.length) 0 ++ beUp (0) y.1)) 5 ((F.length + 1 + padZ F.length) + y.1) 1) (fun y => 8 - y.1) ((0, z.2.1, z.2.2)) ?_ ?_ ?_
              · exact ⟨Nat.zero_le _, by simpa [beUp] using haz⟩
              · exact weak_perm (wk1 rfl (wk1 rfl (wk1 rfl (wk1 rfl (wk1 rfl (wk1 rfl wk0)))))) (pm_seg (by repeat (first | exact sg_here | exact sg_end | apply sg_there | apply sg_seg)) pm_nil)
              ·
                rintro y ⟨hy, hay⟩
                refine Sat.seq ?_
                refine Sat.seq ?_
                -- region 21
                refine Sat.region ?_
                refine Tr.move rfl rfl rfl ?_
                refine Tr.geq rfl rfl rfl rfl rfl ?_
                refine Tr.nil ?_
                refine at_n ?_
                first
                  | refine Sat.condP rfl (fun hc4 => ?_) (fun hc4 => ?_)
                  | refine Sat.condNP rfl (fun hc4 => ?_) (fun hc4 => ?_)
                  | refine Sat.cond rfl (fun hc4 => ?_) (fun hc4 => ?_)
                ·
                  have hy3 : y.1 ≤ 7 := by omega
                  refine Sat.skip ?_
                  refine at_n ?_
                  refine Sat.seq ?_
                  refine Sat.block ?_
                  -- region 23
                  refine Sat.region ?_
                  refine Tr.move rfl rfl rfl ?_
                  refine Tr.move rfl rfl rfl ?_
                  refine Tr.move rfl rfl rfl ?_
                  refine Tr.shr_u64 rfl rfl rfl rfl (56 - 8 * y.1) (by omega) (by omega) ?_
                  refine Tr.conv rfl rfl rfl Try.underlying24 Try.underlying5 (cv_u64_u8 _) ?_
                  refine Tr.mkRow (z := u8 0) [u8 ((shr64 0 (56 - 8 * y.1)).toUInt8)] (bytesV [(shr64 0 (56 - 8 * y.1)).toUInt8]) rfl rfl rfl Try.underlying27 Sz5 Zr5 rfl rfl (by intro v hv; rw [List.mem_singleton.1 hv]; rfl) (by decide) rfl ?_
                  intro q72
                  refine Tr.appendAcc (z := u8 0) (by' := 1) (bytesV [(shr64 0 (56 - 8 * y.1)).toUInt8]) rfl rfl rfl rfl rfl Try.underlying27 Try.underlying27 Sz5 Zr5 (by unfold By; kernel_rfl) rfl hay (by repeat (first | exact sg_here | exact sg_end | apply sg_there | apply sg_seg)) (fun w h => SeesP.of (sees_own h (by first | exact mem0 | exact mem1 | exact mem2 | exact mem3 | exact mem4 | exact mem5 | exact mem6 | exact mem7 | (repeat (first | exact List.mem_cons_self | refine List.mem_cons_of_mem _ ?_ | refine mem_seg ?_))))) (fun e => by cases e) (bytesV_cell _) (by omega) (by omega) (by rfl) ?_
                  intro s73 bl73 hac73
                  refine Tr.assign rfl rfl rfl ?_
                  refine Tr.nil ?_
                  refine bl_n ?_
                  refine at_n ?_
                  -- region 22
                  refine Sat.region ?_
                  refine Tr.move rfl rfl rfl ?_
                  refine Tr.sub_i64 rfl rfl rfl rfl (by omega) ?_
                  refine Tr.assign rfl rfl rfl ?_
                  refine Tr.nil ?_
                  refine at_n ?_
                  refine ⟨(y.1 + 1, s73, bl73), ⟨by simp only []; omega, ?_⟩, by simp only []; omega, weak_perm (wk1 rfl (wk1 rfl (wk1 rfl (wk1 (congrArg (fun z => some (i64 z)) (by omega)) (wk1 rfl (wk1 rfl wk0)))))) (pm_seg (by repeat (first | exact sg_here | exact sg_end | apply sg_there | apply sg_seg)) pm_nil)⟩
                  rw [show beUp (0) (y.1 + 1) = beUp (0) y.1 ++ [(shr64 (0) (56 - 8 * y.1)).toUInt8] from rfl, ← List.append_assoc, bytesV_app]
                  exact hac73
                ·
                  have hy3 : y.1 = 8 := by omega
                  rw [hy3] at hay
                  refine Sat.exit ?_
                  refine at_x ?_
                  refine at_x ?_
                  refine bl_h ?_
                  refine bl_n ?_
                  refine at_n ?_
                  -- region 24
                  refine Sat.region ?_
                  refine Tr.add_i64 rfl rfl rfl rfl (by omega) ?_
                  refine Tr.move rfl rfl rfl ?_
                  refine Tr.nil ?_
                  refine at_n (SRounds.more ?_)
                  refine Sat.seq ?_
                  -- region 18
                  refine Sat.region ?_
                  refine Tr.lss rfl rfl rfl rfl rfl ?_
                  refine Tr.nil ?_
                  refine at_n ?_
                  refine Sat.seq ?_
                  refine Sat.cond_t rfl (rfl) ?_
                  refine Sat.skip ?_
                  refine at_n ?_
                  refine Sat.seq ?_
                  refine Sat.block ?_
                  refine Sat.seq ?_
                  -- region 19
                  refine Sat.region ?_
                  refine Tr.idxA1 rfl rfl rfl rfl Try.underlying217 Sz24 Try.underlying24 rfl 1 rfl (by omega) rfl ?_
                  refine Tr.assign rfl rfl rfl ?_
                  refine Tr.nil ?_
                  refine at_n ?_
                  refine Sat.seq ?_
                  -- region 20
                  refine Sat.region ?_
                  refine Tr.assign rfl rfl rfl ?_
                  refine Tr.nil ?_
                  refine at_n ?_
                  refine Sat.block ?_
                  refine Sat.loop (ι := Nat × Sl × List Blk) (fun y => ⟨[(3, i64 (F.length : Int)), (6, y.2.1.v), (12, u64 (UInt64.ofNat F.length * 8)), (13, i64 (56 - 8 * (y.1 : Int))), (59, agg [u64 0, u64 (UInt64.ofNat F.length * 8)]), (60, i64 (0 + 1))], (y.2.2 ++ [])⟩) (fun y => y.1 ≤ 8 ∧ Acc y.2.1 y.2.2 (bytesV (F ++ [128] ++ List.replicate (padZ F.length) 0 ++ beUp 0 8 ++ beUp (UInt64.ofNat F.length * 8) y.1)) 5 ((F.length + 1 + padZ F.length + 8) + y.1) 1) (fun y => 8 - y.1) ((0, y.2.1, y.2.2)) ?_ ?_ ?_
                  · exact ⟨Nat.zero_le _, by simpa [beUp] using hay⟩
                  · exact weak_perm (wk1 rfl (wk1 rfl (wk1 rfl (wk1 rfl (wk1 rfl (wk1 rfl wk0)))))) (pm_seg (by repeat (first | exact sg_here | exact sg_end | apply sg_there | apply sg_seg)) pm_nil)
                  ·
                    rintro y ⟨hy, hay⟩
                    refine Sat.seq ?_
                    refine Sat.seq ?_
                    -- region 21
                    refine Sat.region ?_
                    refine Tr.move rfl rfl rfl ?_
                    refine Tr.geq rfl rfl rfl rfl rfl ?_
                    refine Tr.nil ?_
                    refine at_n ?_
                    first
                      | refine Sat.condP rfl (fun hc4 => ?_) (fun hc4 => ?_)
                      | refine Sat.condNP rfl (fun hc4 => ?_) (fun hc4 => ?_)
                      | refine Sat.cond rfl (fun hc4 => ?_) (fun hc4 => ?_)
                    ·
                      have hy3 : y.1 ≤ 7 := by omega
                      refine Sat.skip ?_
                      refine at_n ?_
                      refine Sat.seq ?_
                      refine Sat.block ?_
                      -- region 23
                      refine Sat.region ?_
                      refine Tr.move rfl rfl rfl ?_
                      refine Tr.move rfl rfl rfl ?_
                      refine Tr.move rfl rfl rfl ?_
                      refine Tr.shr_u64 rfl rfl rfl rfl (56 - 8 * y.1) (by omega) (by omega) ?_
                      refine Tr.conv rfl rfl rfl Try.underlying24 Try.underlying5 (cv_u64_u8 _) ?_
                      refine Tr.mkRow (z := u8 0) [u8 ((shr64 (UInt64.ofNat F.length * 8) (56 - 8 * y.1)).toUInt8)] (bytesV [(shr64 (UInt64.ofNat F.length * 8) (56 - 8 * y.1)).toUInt8]) rfl rfl rfl Try.underlying27 Sz5 Zr5 rfl rfl (by intro v hv; rw [List.mem_singleton.1 hv]; rfl) (by decide) rfl ?_
                      intro q72
                      refine Tr.appendAcc (z := u8 0) (by' := 1) (bytesV [(shr64 (UInt64.ofNat F.length * 8) (56 - 8 * y.1)).toUInt8]) rfl rfl rfl rfl rfl Try.underlying27 Try.underlying27 Sz5 Zr5 (by unfold By; kernel_rfl) rfl hay (by repeat (first | exact sg_here | exact sg_end | apply sg_there | apply sg_seg)) (fun w h => SeesP.of (sees_own h (by first | exact mem0 | exact mem1 | exact mem2 | exact mem3 | exact mem4 | exact mem5 | exact mem6 | exact mem7 | (repeat (first | exact List.mem_cons_self | refine List.mem_cons_of_mem _ ?_ | refine mem_seg ?_))))) (fun e => by cases e) (bytesV_cell _) (by omega) (by omega) (by rfl) ?_
                      intro s73 bl73 hac73
                      refine Tr.assign rfl rfl rfl ?_
                      refine Tr.nil ?_
                      refine bl_n ?_
                      refine at_n ?_
                      -- region 22
                      refine Sat.region ?_
                      refine Tr.move rfl rfl rfl ?_
                      refine Tr.sub_i64 rfl rfl rfl rfl (by omega) ?_
                      refine Tr.assign rfl rfl rfl ?_
                      refine Tr.nil ?_
                      refine at_n ?_
                      refine ⟨(y.1 + 1, s73, bl73), ⟨by simp only []; omega, ?_⟩, by simp only []; omega, weak_perm (wk1 rfl (wk1 rfl (wk1 rfl (wk1 (congrArg (fun z => some (i64 z)) (by omega)) (wk1 rfl (wk1 rfl wk0)))))) (pm_seg (by repeat (first | exact sg_here | exact sg_end | apply sg_there | apply sg_seg)) pm_nil)⟩
                      rw [show beUp (UInt64.ofNat F.length * 8) (y.1 + 1) = beUp (UInt64.ofNat F.length * 8) y.1 ++ [(shr64 (UInt64.ofNat F.length * 8) (56 - 8 * y.1)).toUInt8] from rfl, ← List.append_assoc, bytesV_app]
                      exact hac73
                    ·
                      have hy3 : y.1 = 8 := by omega
                      rw [hy3] at hay
                      refine Sat.exit ?_
                      refine at_x ?_
                      refine at_x ?_
                      refine bl_h ?_
                      refine bl_n ?_
                      refine at_n ?_
                      -- region 24
                      refine Sat.region ?_
                      refine Tr.add_i64 rfl rfl rfl rfl (by omega) ?_
                      refine Tr.move rfl rfl rfl ?_
                      refine Tr.nil ?_
                      refine at_n (SRounds.more ?_)
                      refine Sat.seq ?_
                      -- region 18
                      refine Sat.region ?_
                      refine Tr.lss rfl rfl rfl rfl rfl ?_
                      refine Tr.nil ?_
                      refine at_n ?_
                      refine Sat.seq ?_
                      refine Sat.cond_f rfl (rfl) ?_
                      refine Sat.exit ?_
                      refine at_x ?_
                      refine at_x ?_
                      refine bl_h ?_
                      refine at_n ?_
                      refine Sat.seq ?_
                      -- region 25
                      refine Sat.region ?_
                      refine Tr.move rfl rfl rfl ?_
                      refine Tr.assign rfl rfl rfl ?_
                      refine Tr.nil ?_
                      refine at_n ?_
                      refine Sat.ret ?_
                      refine en_r ?_
                      refine end_perm (out := (y.2.2 ++ [])) (res_tmp rfl rfl) (pm_seg (by repeat (first | exact sg_here | exact sg_end | apply sg_there | apply sg_seg)) pm_nil) ?_
                      refine ⟨y.2.1, rfl, ?_⟩
                      have e8 : UInt64.ofNat F.length * 8 = UInt64.ofNat (8 * F.length) := by
                        apply UInt64.toNat_inj.1
                        rw [mul8_nat (by rw [ofNat_nat (by omega)]; omega), ofNat_nat (by omega), ofNat_nat (by omega)]; omega
                      rw [e8] at hay
                      rw [padB_length, padB]
                      simpa [Nat.add_assoc, Nat.add_comm, Nat.add_left_comm] using hay

end Go.Proofs.Ytejjamifnombhaa
