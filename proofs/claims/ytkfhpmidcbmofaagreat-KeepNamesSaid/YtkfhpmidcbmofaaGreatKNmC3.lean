/- Contracts of functions of the loaded program, and the lemmas that they need (part 3). It proves no statement by itself; it has no conditions. -/
import Derived.WalkKit
import Derived.Orders
import Derived.Deep.LoopGhost
import Derived.IntWalk
import Derived.Laws.StructEq
import Derived.ArgAppend
import Derived.Deep.AppendSrc
import Derived.Lib.Bytealg
import Derived.Lib.BytesEntry
import Derived.Laws.IdiomStrings
import Derived.WideKeyArr2
import Derived.ProofKit
import Derived.OpenShut
import Derived.Deep.Slices
import Derived.Laws.Pointers
import Derived.Laws.Cover3
import Derived.LaidEqlPtr
import Derived.LoopN
import Derived.RangeFuncLeaves
import Derived.RangeFuncSeq
import Derived.OrdersIn
import Derived.Test.YtkfhpmidcbmofaaGreatRows
import Derived.KernelRfl
import Derived.Laws.Externs
import Derived.Defers
import Derived.ChangeOld
import Derived.Below
import Derived.Test.YtkfhpmidcbmofaaGreatKNmC2
set_option maxRecDepth 100000
set_option maxHeartbeats 8000000
set_option linter.unusedVariables false
set_option linter.unusedSimpArgs false
section
namespace Go.Proofs.YtkfhpmidcbmofaaGreat
open Go Hw

theorem and_low {x : UInt64} (h : x.toNat < 4294967296) : x &&& 4294967295 = x := by
  apply UInt64.toNat_inj.1
  rw [UInt64.toNat_and]
  show x.toNat &&& (2 ^ 32 - 1) = x.toNat
  rw [Nat.and_two_pow_sub_one_eq_mod, Nat.mod_eq_of_lt oM]
theorem shr_small {x : UInt64} {n : Nat} (h : x.toNat < 2 ^ n) : shr64 x n = 0 := by
  apply UInt64.toNat_inj.1
  rw [shr64_nat, Nat.div_eq_of_lt h]; rfl
theorem mul8_nat {x : UInt64} (h : x.toNat < 536870912) : (x * 8).toNat = x.toNat * 8 := by
  rw [UInt64.toNat_mul]; show x.toNat * 8 % 18446744073709551616 = _; omega

theorem bits_mul8 (x : UInt64) (hx : x.toNat < 536870912) : Meets Tryz.prog 150 [u64 x, u64 8] [] (fun _ => True) (fun v out => v = .tuple #[u64 0, u64 (x * 8)] ∧ out = []) := by
 intro W hW
 have h1 := and_low (x := x) oM
 have h2 := shr_small (x := x) (n := 32) oM
 have h3 := mul8_nat hx
 have h4 := shr_small (x := x * 8) (n := 32) oM
 refine Aj Tryz.func150 rfl 51 Tryz.ntmps150 rfl ?_
 refine Sat.seq (Sat.region ?_)
 refine Tr.a rfl rfl (show Ai _ _ = some (u64 0) from rfl) ?_
 refine Tr.a rfl rfl (show Ai _ _ = some (u64 0) from rfl) ?_
 refine Tr.nil (Aa (Sat.seq (Sat.region ?_)))
 refine Tr.m rfl rfl rfl ?_
 refine Tr.and_u64 rfl rfl rfl (show Ai _ _ = some (u64 4294967295) from rfl) ?_
 refine Tr.a rfl rfl rfl ?_
 refine Tr.nil (Aa (Sat.seq (Sat.region ?_)))
 refine Tr.m rfl rfl rfl ?_
 refine Tr.shr_u64 rfl rfl rfl rfl 32 oM oM ?_
 refine Tr.a rfl rfl rfl ?_
 refine Tr.nil (Aa (Sat.seq (Sat.region ?_)))
 refine Tr.m rfl rfl rfl ?_
 refine Tr.and_u64 rfl rfl rfl (show Ai _ _ = some (u64 4294967295) from rfl) ?_
 refine Tr.a rfl rfl rfl ?_
 refine Tr.nil (Aa (Sat.seq (Sat.region ?_)))
 refine Tr.m rfl rfl rfl ?_
 refine Tr.shr_u64 rfl rfl (show Ai _ _ = some (u64 8) from rfl) rfl 32 oM oM ?_
 refine Tr.a rfl rfl rfl ?_
 refine Tr.nil (Aa (Sat.seq (Sat.region ?_)))
 refine Tr.m rfl rfl rfl ?_
 refine Tr.m rfl rfl rfl ?_
 refine Tr.mul_u64 rfl rfl rfl rfl ?_
 refine Tr.a rfl rfl rfl ?_
 refine Tr.nil (Aa (Sat.seq (Sat.region ?_)))
 refine Tr.m rfl rfl rfl ?_
 refine Tr.m rfl rfl rfl ?_
 refine Tr.mul_u64 rfl rfl rfl rfl ?_
 refine Tr.m rfl rfl rfl ?_
 refine Tr.shr_u64 rfl rfl rfl rfl 32 rfl dE ?_
 refine Tr.add_u64 rfl rfl rfl rfl ?_
 refine Tr.a rfl rfl rfl ?_
 refine Tr.nil (Aa (Sat.seq (Sat.region ?_)))
 refine Tr.m rfl rfl rfl ?_
 refine Tr.and_u64 rfl rfl rfl (show Ai _ _ = some (u64 4294967295) from rfl) ?_
 refine Tr.a rfl rfl rfl ?_
 refine Tr.nil (Aa (Sat.seq (Sat.region ?_)))
 refine Tr.m rfl rfl rfl ?_
 refine Tr.shr_u64 rfl rfl rfl rfl 32 rfl dE ?_
 refine Tr.a rfl rfl rfl ?_
 refine Tr.nil (Aa (Sat.seq (Sat.region ?_)))
 refine Tr.m rfl rfl rfl ?_
 refine Tr.m rfl rfl rfl ?_
 refine Tr.m rfl rfl rfl ?_
 refine Tr.mul_u64 rfl rfl rfl rfl ?_
 refine Tr.add_u64 rfl rfl rfl rfl ?_
 refine Tr.a rfl rfl rfl ?_
 refine Tr.nil (Aa (Sat.seq (Sat.region ?_)))
 refine Tr.m rfl rfl rfl ?_
 refine Tr.m rfl rfl rfl ?_
 refine Tr.mul_u64 rfl rfl rfl rfl ?_
 refine Tr.m rfl rfl rfl ?_
 refine Tr.add_u64 rfl rfl rfl rfl ?_
 refine Tr.m rfl rfl rfl ?_
 refine Tr.shr_u64 rfl rfl rfl rfl 32 rfl dE ?_
 refine Tr.add_u64 rfl rfl rfl rfl ?_
 refine Tr.a rfl rfl rfl ?_
 refine Tr.nil (Aa (Sat.seq (Sat.region ?_)))
 refine Tr.m rfl rfl rfl ?_
 refine Tr.m rfl rfl rfl ?_
 refine Tr.mul_u64 rfl rfl rfl rfl ?_
 refine Tr.a rfl rfl rfl ?_
 refine Tr.nil (Aa (Sat.ret (Ak ?_)))
 refine ⟨_, [], res_tmp2 rfl rfl rfl, sP, sP, ?_, rfl⟩
 simp only [h1, h2, show shr64 8 32 = 0 from rfl, show (8 : UInt64) &&& 4294967295 = 8 from rfl]
 rw [h4, UInt64.mul_zero (a := x)]
 rfl

theorem bytesV_app (a b : List UInt8) : Ab (a ++ b) = Ab a ++ Ab b := List.map_append
theorem sl_get {ss : List Sl} {j : Nat} (h : j < ss.length) : (ss.map Sl.v)[j]? = some (ss.getD j Sl.nil).v := by simp [List.getElem?_eq_getElem h, List.getD]
theorem take_flat {ls : List (List UInt8)} {j : Nat} (h : j < ls.length) : (ls.take (j + 1)).flatten = (ls.take j).flatten ++ ls.getD j [] := by
  rw [List.take_succ_eq_append_getElem h, List.flatten_append]
  simp [List.getD, h]
theorem take_flat_le (ls : List (List UInt8)) (j : Nat) : (ls.take j).flatten.length ≤ ls.flatten.length := by
  have : ls.flatten = (ls.take j).flatten ++ (ls.drop j).flatten := by rw [← List.flatten_append, List.take_append_drop]
  rw [this, List.length_append]; omega

theorem sha_padded (p : Option Addr) (n c : Nat) (ss : List Sl) (ls : List (List UInt8)) (hss : ss.length = n) (hls : ls.length = n) (hsl : ∀ j, j < n → (ss.getD j Sl.nil).n = (ls.getD j []).length ∧ ((ss.getD j Sl.nil).p = none → (ss.getD j Sl.nil).n = 0)) (F : List UInt8) (hF : ls.flatten = F) (htot : F.length ≤ 90000) (hn : n ≤ 1000000) : Meets Tryz.prog 146 [.slice p n c] [] (fun W => SeesP W p (ss.map Sl.v) ∧ ∀ j, j < n → SeesP W (ss.getD j Sl.nil).p (Ab (ls.getD j []))) (fun v out => ∃ s, v = s.v ∧ Acc s out (Ab (padB F)) 5 (padB F).length 1) := by
 intro W hW
 have hz := padZ_lt F.length
 have hle := take_flat_le ls
 rw [hF] at hle
 refine Aj Tryz.func146 rfl 76 Tryz.ntmps146 rfl ?_
 refine Sat.seq (Sat.region ?_)
 refine Tr.a rfl rfl rfl ?_
 refine Tr.nil (Aa (Sat.seq (Sat.region ?_)))
 refine Tr.a rfl rfl rfl ?_
 refine Tr.nil (Aa (Sat.seq (Sat.seq (Sat.region ?_))))
 refine Tr.m rfl rfl rfl ?_
 refine Tr.lenSl rfl rfl rfl Tryz.underlying189 ?_
 refine Tr.m rfl rfl rfl ?_
 refine Tr.nil (Aa (Sat.block ?_))
 refine Sat.loop (ι := Nat) (fun k => ⟨[(0, .slice p n c), (3, i64 ((ls.take k).flatten.length : Int)), (14, .slice p n c), (15, i64 (n : Int)), (16, i64 (k : Int))], []⟩) (fun k => k ≤ n) (fun k => n - k) (0) ?_ ?_ ?_
 · omega
 · exact Am (wk1 rfl (wk1 rfl (wk1 rfl (wk1 rfl (wk1 rfl wk0))))) Ag
 ·
  rintro k hi
  refine Sat.seq (Sat.region ?_)
  refine Tr.lss rfl rfl rfl rfl rfl ?_
  refine Tr.nil (Aa (Sat.seq ?_))
  refine Sat.condP rfl (fun hc0 => ?_) (fun hc0 => ?_)
  ·
   have hk3 : k < n := by omega
   obtain ⟨b, o, hbp, hbs⟩ := hW.1.at (by rw [List.length_map]; omega)
   have hv : W.cell? ⟨b, o + k * 1, none⟩ = some (ss.getD k Sl.nil).v := by rw [Nat.mul_one]; exact hbs k _ (sl_get oM)
   have hstep := hle (k + 1)
   rw [take_flat oM, List.length_append, ← (hsl k oM).1] at hstep
   refine Sat.skip (Aa (Sat.seq (Sat.block (Sat.seq (Sat.region ?_)))))
   refine Tr.idxSlP 1 rfl rfl rfl hbp rfl Tryz.underlying189 Sz30 k rfl oM ?_
   refine Tr.loadE rfl rfl rfl U30 rfl sP (hv) ?_
   refine Tr.a rfl rfl rfl ?_
   refine Tr.nil (Aa (Sat.region ?_))
   refine Tr.m rfl rfl rfl ?_
   refine Tr.m rfl rfl rfl ?_
   refine Tr.lenSl rfl rfl rfl U30 ?_
   refine Tr.aI rfl rfl rfl rfl oM ?_
   refine Tr.a rfl rfl rfl ?_
   refine Tr.nil (Bu (Aa (Sat.region ?_)))
   refine Tr.aI rfl rfl rfl rfl oM ?_
   refine Tr.m rfl rfl rfl ?_
   refine Tr.nil (Aa ?_)
   exact ⟨k + 1, by omega, by omega, Am (wk1 rfl (wk1 (congrArg (fun z => some (i64 z)) (by rw [take_flat oM, List.length_append, (hsl k oM).1]; simp)) (wk1 rfl (wk1 rfl (wk1 rfl wk0))))) Ag⟩
  ·
   have hk3 : k = n := by omega
   rw [hk3, List.take_of_length_le oM, hF]
   refine Sat.exit (A9 (A9 (bl_h (Aa (Sat.seq (Sat.region ?_))))))
   refine Tr.m rfl rfl rfl ?_
   refine Tr.aI rfl rfl rfl rfl oM ?_
   refine Tr.quo_i64 rfl rfl rfl rfl oM ?_
   refine Tr.mul_i64 rfl rfl rfl rfl oM ?_
   refine Tr.aI rfl rfl rfl rfl oM ?_
   refine Tr.mkRoom (z := u8 0) (by' := 1) ((F.length + 16) / 128 * 128 + 128) rfl rfl rfl rfl oM U30 Sz5 Zr5 (by unfold By; kernel_rfl) rfl oM oM ?_
   intro q30
   refine Tr.a rfl rfl rfl ?_
   refine Tr.nil (Aa (Sat.seq (Sat.seq (Sat.region ?_))))
   refine Tr.m rfl rfl rfl ?_
   refine Tr.lenSl rfl rfl rfl Tryz.underlying189 ?_
   refine Tr.m rfl rfl rfl ?_
   refine Tr.nil (Aa (Sat.block ?_))
   refine Sat.loop (ι := Nat × Sl × List Blk) (fun x => ⟨[(3, i64 (F.length : Int)), (6, x.2.1.v), (31, .slice p n c), (32, i64 (n : Int)), (33, i64 (x.1 : Int))], (x.2.2 ++ [])⟩) (fun x => x.1 ≤ n ∧ Acc x.2.1 x.2.2 (Ab (ls.take x.1).flatten) 5 (ls.take x.1).flatten.length 1) (fun x => n - x.1) ((0, ⟨some ⟨q30, 0, none⟩, 0, (F.length + 16) / 128 * 128 + 128⟩, [⟨q30, [], 5, ((F.length + 16) / 128 * 128 + 128) * 1⟩])) ?_ ?_ ?_
   · exact ⟨Nat.zero_le _, Acc.some (Nat.zero_le _) rfl⟩
   · exact Am (wk1 rfl (wk1 rfl (wk1 rfl (wk1 rfl (wk1 rfl wk0))))) (pm_consE rM rfl (Nat.mul_one _).symm Ag)
   ·
    rintro x ⟨hx, hax⟩
    refine Sat.seq (Sat.region ?_)
    refine Tr.lss rfl rfl rfl rfl rfl ?_
    refine Tr.nil (Aa (Sat.seq ?_))
    refine Sat.condP rfl (fun hc1 => ?_) (fun hc1 => ?_)
    ·
     have hx3 : x.1 < n := by omega
     obtain ⟨b, o, hbp, hbs⟩ := hW.1.at (by rw [List.length_map]; omega)
     have hv : W.cell? ⟨b, o + x.1 * 1, none⟩ = some (ss.getD x.1 Sl.nil).v := by rw [Nat.mul_one]; exact hbs x.1 _ (sl_get oM)
     have hstep := hle (x.1 + 1)
     rw [take_flat oM, List.length_append, ← (hsl x.1 oM).1] at hstep
     refine Sat.skip (Aa (Sat.seq (Sat.block (Sat.seq (Sat.region ?_)))))
     refine Tr.idxSlP 1 rfl rfl rfl hbp rfl Tryz.underlying189 Sz30 x.1 rfl oM ?_
     refine Tr.loadE rfl rfl rfl U30 rfl sP (hv) ?_
     refine Tr.a rfl rfl rfl ?_
     refine Tr.nil (Aa (Sat.region ?_))
     refine Tr.m rfl rfl rfl ?_
     refine Tr.m rfl rfl rfl ?_
     refine Tr.appendAcc (z := u8 0) (by' := 1) (Ab (ls.getD x.1 [])) rfl rfl rfl rfl rfl U30 U30 Sz5 Zr5 (by unfold By; kernel_rfl) rfl hax sG (fun w h => Az h rfl (hW.2 x.1 oM)) (hsl x.1 oM).2 (A7 _) oM oM (by rw [Ab, List.length_map, Nat.mul_one]; exact (hsl x.1 oM).1.symm) ?_
     intro s39 bl39 hac39
     refine Tr.a rfl rfl rfl ?_
     refine Tr.nil (Bu (Aa (Sat.region ?_)))
     refine Tr.aI rfl rfl rfl rfl oM ?_
     refine Tr.m rfl rfl rfl ?_
     refine Tr.nil (Aa ?_)
     refine ⟨(x.1 + 1, s39, bl39), ⟨by simp only []; omega, ?_⟩, by simp only []; omega, Am (wk1 rfl (wk1 rfl (wk1 rfl (wk1 rfl (wk1 rfl wk0))))) (Ac sG Ag)⟩
     rw [take_flat oM, List.length_append, ← (hsl x.1 oM).1]
     simpa [Ab] using hac39
    ·
     have hx3 : x.1 = n := by omega
     rw [hx3, List.take_of_length_le oM, hF] at hax
     refine Sat.exit (A9 (A9 (bl_h (Aa (Sat.seq (Sat.region ?_))))))
     refine Tr.m rfl rfl rfl ?_
     refine Tr.mkRow (z := u8 0) [u8 (128)] (Ab [128]) rfl rfl rfl U30 Sz5 Zr5 rfl rfl (by intro v hv; rw [List.mem_singleton.1 hv]; rfl) dE rfl ?_
     intro q42
     refine Tr.appendAcc (z := u8 0) (by' := 1) (Ab [128]) rfl rfl rfl rfl rfl U30 U30 Sz5 Zr5 (by unfold By; kernel_rfl) rfl hax sG (fun w h => SeesP.of (Ay h Z0)) (fun e => by cases e) (A7 _) oM oM (by rfl) ?_
     intro s43 bl43 hac43
     refine Tr.a rfl rfl rfl ?_
     refine Tr.nil (Aa (Sat.seq (Sat.block ?_)))
     refine Sat.loop (ι := Nat × Sl × List Blk) (fun z => ⟨[(3, i64 (F.length : Int)), (6, z.2.1.v)], (z.2.2 ++ [])⟩) (fun z => z.1 ≤ padZ F.length ∧ Acc z.2.1 z.2.2 (Ab (F ++ [128] ++ List.replicate z.1 0)) 5 (F.length + 1 + z.1) 1) (fun z => padZ F.length - z.1) ((0, s43, bl43)) ?_ ?_ ?_
     · exact ⟨Nat.zero_le _, by simpa [Ab] using hac43⟩
     · exact Am (wk1 rfl (wk1 rfl wk0)) (Ac sG Ag)
     ·
      rintro z ⟨hz1, haz⟩
      have hzn := haz.num
      have hpz := padZ_at F.length z.1 hz1
      refine Sat.seq (Sat.seq (Sat.region ?_))
      refine Tr.m rfl rfl rfl ?_
      refine Tr.lenSl rfl rfl rfl U30 ?_
      refine Tr.rem_i64 rfl rfl rfl rfl oM ?_
      refine Tr.nei rfl rfl rfl rfl rfl ?_
      refine Tr.nil (Aa ?_)
      refine Sat.condNP rfl (fun hc2 => ?_) (fun hc2 => ?_)
      ·
       have hz3 : z.1 < padZ F.length := by omega
       refine Sat.skip (Aa (Sat.block (Sat.region ?_)))
       refine Tr.m rfl rfl rfl ?_
       refine Tr.mkRow (z := u8 0) [u8 (0)] (Ab [0]) rfl rfl rfl U30 Sz5 Zr5 rfl rfl (by intro v hv; rw [List.mem_singleton.1 hv]; rfl) dE rfl ?_
       intro q49
       refine Tr.appendAcc (z := u8 0) (by' := 1) (Ab [0]) rfl rfl rfl rfl rfl U30 U30 Sz5 Zr5 (by unfold By; kernel_rfl) rfl haz sG (fun w h => SeesP.of (Ay h Z0)) (fun e => by cases e) (A7 _) oM oM (by rfl) ?_
       intro s50 bl50 hac50
       refine Tr.a rfl rfl rfl ?_
       refine Tr.nil (Bu (Aa ?_))
       refine ⟨(z.1 + 1, s50, bl50), ⟨by simp only []; omega, ?_⟩, by simp only []; omega, Am (wk1 rfl (wk1 rfl wk0)) (Ac sG Ag)⟩
       rw [List.replicate_succ', ← List.append_assoc]
       simpa [Ab, Nat.add_assoc] using hac50
      ·
       have hz3 : z.1 = padZ F.length := by omega
       rw [hz3] at haz
       refine Sat.exit (A9 (A9 (bl_h (Aa (Sat.seq (Sat.region ?_))))))
       refine Tr.m rfl rfl rfl ?_
       refine Tr.conv rfl rfl rfl U3 U22 (Bl _) ?_
       rw [word_nat (n := F.length) oM]
       refine Tr.cV rfl rfl rfl rfl Body150 (bits_mul8 (UInt64.ofNat F.length) (by rw [Bq oM]; omega)) tV ?_
       refine Tr.m rfl rfl rfl ?_
       refine Tr.eX rfl rfl rfl rfl ?_
       refine Tr.eX rfl rfl rfl rfl ?_
       refine Tr.a rfl rfl rfl ?_
       refine Tr.a rfl rfl rfl ?_
       refine Tr.nil (Aa (Sat.seq (Sat.seq (Sat.region ?_))))
       refine Tr.m rfl rfl rfl ?_
       refine Tr.m rfl rfl rfl ?_
       refine Tr.build (cs := [u64 0, u64 (UInt64.ofNat F.length * 8)]) rfl rfl rfl (fun w => by kernel_rfl) ?_
       refine Tr.m rfl rfl rfl ?_
       refine Tr.nil (Aa (Sat.block ?_))
       refine Sat.rounds 3 (SRounds.more ?_)
       refine Sat.seq (Sat.region ?_)
       refine Tr.lss rfl rfl rfl rfl rfl ?_
       refine Tr.nil (Aa (Sat.seq ?_))
       refine Sat.cond_t rfl (rfl) ?_
       refine Sat.skip (Aa (Sat.seq (Sat.block (Sat.seq (Sat.region ?_)))))
       refine Tr.idxA1 rfl rfl rfl rfl Tryz.underlying203 Bp U22 rfl 0 rfl oM rfl ?_
       refine Tr.a rfl rfl rfl ?_
       refine Tr.nil (Aa (Sat.seq (Sat.region ?_)))
       refine Tr.a rfl rfl rfl ?_
       refine Tr.nil (Aa (Sat.block ?_))
       refine Sat.loop (ι := Nat × Sl × List Blk) (fun y => ⟨[(3, i64 (F.length : Int)), (6, y.2.1.v), (12, u64 (0)), (13, i64 (56 - 8 * (y.1 : Int))), (59, agg [u64 0, u64 (UInt64.ofNat F.length * 8)]), (60, i64 0)], (y.2.2 ++ [])⟩) (fun y => y.1 ≤ 8 ∧ Acc y.2.1 y.2.2 (Ab (F ++ [128] ++ List.replicate (padZ F.length) 0 ++ beUp (0) y.1)) 5 ((F.length + 1 + padZ F.length) + y.1) 1) (fun y => 8 - y.1) ((0, z.2.1, z.2.2)) ?_ ?_ ?_
       · exact ⟨Nat.zero_le _, by simpa [beUp] using haz⟩
       · exact Am (wk1 rfl (wk1 rfl (wk1 rfl (wk1 rfl (wk1 rfl (wk1 rfl wk0)))))) (Ac sG Ag)
       ·
        rintro y ⟨hy, hay⟩
        refine Sat.seq (Sat.seq (Sat.region ?_))
        refine Tr.m rfl rfl rfl ?_
        refine Tr.geq rfl rfl rfl rfl rfl ?_
        refine Tr.nil (Aa ?_)
        refine Sat.condP rfl (fun hc4 => ?_) (fun hc4 => ?_)
        ·
         have hy3 : y.1 ≤ 7 := by omega
         refine Sat.skip (Aa (Sat.seq (Sat.block (Sat.region ?_))))
         refine Tr.m rfl rfl rfl ?_
         refine Tr.m rfl rfl rfl ?_
         refine Tr.m rfl rfl rfl ?_
         refine Tr.shr_u64 rfl rfl rfl rfl (56 - 8 * y.1) oM oM ?_
         refine Tr.conv rfl rfl rfl U22 U5 (cv_u64_u8 _) ?_
         refine Tr.mkRow (z := u8 0) [u8 ((shr64 0 (56 - 8 * y.1)).toUInt8)] (Ab [(shr64 0 (56 - 8 * y.1)).toUInt8]) rfl rfl rfl U30 Sz5 Zr5 rfl rfl (by intro v hv; rw [List.mem_singleton.1 hv]; rfl) dE rfl ?_
         intro q72
         refine Tr.appendAcc (z := u8 0) (by' := 1) (Ab [(shr64 0 (56 - 8 * y.1)).toUInt8]) rfl rfl rfl rfl rfl U30 U30 Sz5 Zr5 (by unfold By; kernel_rfl) rfl hay sG (fun w h => SeesP.of (Ay h Z0)) (fun e => by cases e) (A7 _) oM oM (by rfl) ?_
         intro s73 bl73 hac73
         refine Tr.a rfl rfl rfl ?_
         refine Tr.nil (Bu (Aa (Sat.region ?_)))
         refine Tr.m rfl rfl rfl ?_
         refine Tr.sub_i64 rfl rfl rfl rfl oM ?_
         refine Tr.a rfl rfl rfl ?_
         refine Tr.nil (Aa ?_)
         refine ⟨(y.1 + 1, s73, bl73), ⟨by simp only []; omega, ?_⟩, by simp only []; omega, Am (wk1 rfl (wk1 rfl (wk1 rfl (wk1 (congrArg (fun z => some (i64 z)) oM) (wk1 rfl (wk1 rfl wk0)))))) (Ac sG Ag)⟩
         rw [show beUp (0) (y.1 + 1) = beUp (0) y.1 ++ [(shr64 (0) (56 - 8 * y.1)).toUInt8] from rfl, ← List.append_assoc, bytesV_app]
         exact hac73
        ·
         have hy3 : y.1 = 8 := by omega
         rw [hy3] at hay
         refine Sat.exit (A9 (A9 (bl_h (Bu (Aa (Sat.region ?_))))))
         refine Tr.aI rfl rfl rfl rfl oM ?_
         refine Tr.m rfl rfl rfl ?_
         refine Tr.nil ?_
         refine Aa (SRounds.more (Sat.seq (Sat.region ?_)))
         refine Tr.lss rfl rfl rfl rfl rfl ?_
         refine Tr.nil (Aa (Sat.seq ?_))
         refine Sat.cond_t rfl (rfl) ?_
         refine Sat.skip (Aa (Sat.seq (Sat.block (Sat.seq (Sat.region ?_)))))
         refine Tr.idxA1 rfl rfl rfl rfl Tryz.underlying203 Bp U22 rfl 1 rfl oM rfl ?_
         refine Tr.a rfl rfl rfl ?_
         refine Tr.nil (Aa (Sat.seq (Sat.region ?_)))
         refine Tr.a rfl rfl rfl ?_
         refine Tr.nil (Aa (Sat.block ?_))
         refine Sat.loop (ι := Nat × Sl × List Blk) (fun y => ⟨[(3, i64 (F.length : Int)), (6, y.2.1.v), (12, u64 (UInt64.ofNat F.length * 8)), (13, i64 (56 - 8 * (y.1 : Int))), (59, agg [u64 0, u64 (UInt64.ofNat F.length * 8)]), (60, i64 (0 + 1))], (y.2.2 ++ [])⟩) (fun y => y.1 ≤ 8 ∧ Acc y.2.1 y.2.2 (Ab (F ++ [128] ++ List.replicate (padZ F.length) 0 ++ beUp 0 8 ++ beUp (UInt64.ofNat F.length * 8) y.1)) 5 ((F.length + 1 + padZ F.length + 8) + y.1) 1) (fun y => 8 - y.1) ((0, y.2.1, y.2.2)) ?_ ?_ ?_
         · exact ⟨Nat.zero_le _, by simpa [beUp] using hay⟩
         · exact Am (wk1 rfl (wk1 rfl (wk1 rfl (wk1 rfl (wk1 rfl (wk1 rfl wk0)))))) (Ac sG Ag)
         ·
          rintro y ⟨hy, hay⟩
          refine Sat.seq (Sat.seq (Sat.region ?_))
          refine Tr.m rfl rfl rfl ?_
          refine Tr.geq rfl rfl rfl rfl rfl ?_
          refine Tr.nil (Aa ?_)
          refine Sat.condP rfl (fun hc4 => ?_) (fun hc4 => ?_)
          ·
           have hy3 : y.1 ≤ 7 := by omega
           refine Sat.skip (Aa (Sat.seq (Sat.block (Sat.region ?_))))
           refine Tr.m rfl rfl rfl ?_
           refine Tr.m rfl rfl rfl ?_
           refine Tr.m rfl rfl rfl ?_
           refine Tr.shr_u64 rfl rfl rfl rfl (56 - 8 * y.1) oM oM ?_
           refine Tr.conv rfl rfl rfl U22 U5 (cv_u64_u8 _) ?_
           refine Tr.mkRow (z := u8 0) [u8 ((shr64 (UInt64.ofNat F.length * 8) (56 - 8 * y.1)).toUInt8)] (Ab [(shr64 (UInt64.ofNat F.length * 8) (56 - 8 * y.1)).toUInt8]) rfl rfl rfl U30 Sz5 Zr5 rfl rfl (by intro v hv; rw [List.mem_singleton.1 hv]; rfl) dE rfl ?_
           intro q72
           refine Tr.appendAcc (z := u8 0) (by' := 1) (Ab [(shr64 (UInt64.ofNat F.length * 8) (56 - 8 * y.1)).toUInt8]) rfl rfl rfl rfl rfl U30 U30 Sz5 Zr5 (by unfold By; kernel_rfl) rfl hay sG (fun w h => SeesP.of (Ay h Z0)) (fun e => by cases e) (A7 _) oM oM (by rfl) ?_
           intro s73 bl73 hac73
           refine Tr.a rfl rfl rfl ?_
           refine Tr.nil (Bu (Aa (Sat.region ?_)))
           refine Tr.m rfl rfl rfl ?_
           refine Tr.sub_i64 rfl rfl rfl rfl oM ?_
           refine Tr.a rfl rfl rfl ?_
           refine Tr.nil (Aa ?_)
           refine ⟨(y.1 + 1, s73, bl73), ⟨by simp only []; omega, ?_⟩, by simp only []; omega, Am (wk1 rfl (wk1 rfl (wk1 rfl (wk1 (congrArg (fun z => some (i64 z)) oM) (wk1 rfl (wk1 rfl wk0)))))) (Ac sG Ag)⟩
           rw [show beUp (UInt64.ofNat F.length * 8) (y.1 + 1) = beUp (UInt64.ofNat F.length * 8) y.1 ++ [(shr64 (UInt64.ofNat F.length * 8) (56 - 8 * y.1)).toUInt8] from rfl, ← List.append_assoc, bytesV_app]
           exact hac73
          ·
           have hy3 : y.1 = 8 := by omega
           rw [hy3] at hay
           refine Sat.exit (A9 (A9 (bl_h (Bu (Aa (Sat.region ?_))))))
           refine Tr.aI rfl rfl rfl rfl oM ?_
           refine Tr.m rfl rfl rfl ?_
           refine Tr.nil ?_
           refine Aa (SRounds.more (Sat.seq (Sat.region ?_)))
           refine Tr.lss rfl rfl rfl rfl rfl ?_
           refine Tr.nil (Aa (Sat.seq ?_))
           refine Sat.cond_f rfl (rfl) ?_
           refine Sat.exit (A9 (A9 (bl_h (Aa (Sat.seq (Sat.region ?_))))))
           refine Tr.m rfl rfl rfl ?_
           refine Tr.a rfl rfl rfl ?_
           refine Tr.nil (Aa (Sat.ret (Ak ?_)))
           refine Al (out := (y.2.2 ++ [])) (Ae rfl rfl) (Ac sG Ag) ?_
           refine ⟨y.2.1, rfl, ?_⟩
           have e8 : UInt64.ofNat F.length * 8 = UInt64.ofNat (8 * F.length) := by
            apply UInt64.toNat_inj.1
            rw [mul8_nat (by rw [Bq oM]; omega), Bq oM, Bq oM]; omega
           rw [e8] at hay
           rw [padB_length, padB]
           simpa [Nat.add_assoc, Nat.add_comm, Nat.add_left_comm] using hay

end Go.Proofs.YtkfhpmidcbmofaaGreat
end

section
namespace Go.Proofs.YtkfhpmidcbmofaaGreat
open Go Hw

theorem mk_chunk (p : Option Addr) (n c : Nat) : Meets Tryz.prog 145 [.slice p n c, i64 128] [] (fun _ => True) (fun v out => ∃ b1 b2, v = .func (.func 149) #[] #[ptr b1 0, ptr b2 0] ∧ out = [⟨b1, [.slice p n c], 30, 1⟩, ⟨b2, [i64 128], 3, 1⟩]) := by
 intro W hW
 refine Aj Tryz.func145 rfl 9 Tryz.ntmps145 rfl ?_
 refine Sat.seq (Sat.region ?_)
 refine Tr.box1 rfl rfl rfl ?_
 intro n2 hn2 hf2
 refine Tr.box1 rfl rfl rfl ?_
 intro n3 hn3 hf3
 refine Tr.a rfl rfl rfl ?_
 refine Tr.nil (Aa (Sat.seq (Sat.seq (Sat.region ?_))))
 refine Tr.load1 rfl rfl rfl U3 rfl Z0 (by rfl) ?_
 refine Tr.lss rfl rfl rfl rfl rfl ?_
 refine Tr.nil (Aa ?_)
 refine Sat.cond_f rfl dE ?_
 refine Sat.skip (Aa (Sat.seq (Sat.region ?_)))
 refine Tr.makeFunc rfl rfl rfl rfl ?_
 refine Tr.a rfl rfl rfl ?_
 refine Tr.nil (Aa (Sat.ret (Ak ?_)))
 refine Al (out := (⟨n2, [.slice p n c], 30, 1⟩ :: (⟨n3, [i64 128], 3, 1⟩ :: []))) (Ae rfl rfl) (Ad rM (Ad rM Ag)) ?_
 exact ⟨n2, n3, rfl, by simp⟩

def encC (q i : Nat) : Value := .slice (some ⟨q, 128 * i, none⟩) 128 128
theorem encC_eq (q i : Nat) : (.slice (some ⟨q, if 128 * i + 128 = 128 * i then 0 else 0 + 128 * i * 1, none⟩) (128 * i + 128 - 128 * i) (128 * i + 128 - 128 * i) : Value) = encC q i := by
  have e1 : 128 * i + 128 - 128 * i = 128 := by omega
  have e2 : 0 + 128 * i * 1 = 128 * i := by omega
  rw [if_neg oM, e1, e2]; rfl

theorem chunk_iter (l b1 b2 q n c K : Nat) (X : Nat → List Blk) (names : List Nat) (hnk : n = 128 * K) (hnc : n ≤ c) (hbig : n ≤ 1000000) : Meets Tryz.prog 149 [.func (.yield l) #[] #[], ptr b1 0, ptr b2 0] names (fun W => HRep ⟨Tryz.prog, W, 0, names, [], []⟩ (⟨b1, [.slice (some ⟨q, 0, none⟩) n c], 30, 1⟩ :: ⟨b2, [i64 128], 3, 1⟩ :: X 0) W ∧ ∀ i, i < K → ∀ W2, HRep ⟨Tryz.prog, W, 0, names, [], []⟩ (⟨b1, [.slice (some ⟨q, 0, none⟩) n c], 30, 1⟩ :: ⟨b2, [i64 128], 3, 1⟩ :: X i) W2 → YieldAt Fence.wide 0 Tryz.prog l #[encC q i] W2 fun e W3 => e = .returned (.bool true) ∧ HRep ⟨Tryz.prog, W, 0, names, [], []⟩ (⟨b1, [.slice (some ⟨q, 0, none⟩) n c], 30, 1⟩ :: ⟨b2, [i64 128], 3, 1⟩ :: X (i + 1)) W3) (fun v out => v = .tuple #[] ∧ out = ⟨b1, [.slice (some ⟨q, 0, none⟩) n c], 30, 1⟩ :: ⟨b2, [i64 128], 3, 1⟩ :: X K) := by
 intro W hW
 refine A6 (hp0 := ⟨b1, [.slice (some ⟨q, 0, none⟩) n c], 30, 1⟩ :: ⟨b2, [i64 128], 3, 1⟩ :: X 0) Tryz.func149 rfl 31 Tryz.ntmps149 rfl (HRep.reN hW.1) ?_
 refine Sat.seq (Sat.region ?_)
 refine Tr.a rfl rfl rfl ?_
 refine Tr.nil (Aa (Sat.block ?_))
 refine Sat.loop (ι := Nat) (fun i => ⟨[(0, .func (.yield l) #[] #[]), (1, ptr b1 0), (2, ptr b2 0), (4, i64 (128 * (i : Int)))], (⟨b1, [.slice (some ⟨q, 0, none⟩) n c], 30, 1⟩ :: (⟨b2, [i64 128], 3, 1⟩ :: (X i ++ [])))⟩) (fun i => i ≤ K) (fun i => K - i) (0) ?_ ?_ ?_
 · exact Nat.zero_le _
 · exact Am (wk1 rfl (wk1 rfl (wk1 rfl (wk1 rfl wk0)))) (Ad rM (Ad rM (Ac (by repeat (exact sg_end)) Ag)))
 ·
  rintro i hi
  refine Sat.seq (Sat.seq (Sat.region ?_))
  refine Tr.m rfl rfl rfl ?_
  refine Tr.load1 rfl rfl rfl U30 rfl Z0 (by rfl) ?_
  refine Tr.lenSl rfl rfl rfl U30 ?_
  refine Tr.lss rfl rfl rfl rfl rfl ?_
  refine Tr.nil (Aa ?_)
  refine Sat.condP rfl (fun hc0 => ?_) (fun hc0 => ?_)
  ·
   have hi3 : i < K := by omega
   refine Sat.skip (Aa (Sat.seq (Sat.block (Sat.seq ?_))))
   refine Sat.draw [(1, 0), (1, 1), (0, 2), (0, 3), (0, 4), (0, 5), (0, 6)] Bt zK ?_
   refine Tr.load1 rfl rfl rfl U3 rfl Z1 (by rfl) ?_
   refine Tr.load1 rfl rfl rfl U30 rfl Z0 (by rfl) ?_
   refine Tr.m rfl rfl rfl ?_
   refine Tr.sliceLoN (128*i) rfl rfl rfl rfl oM oM oM U30 Sz5 ?_
   refine Tr.lenSl rfl rfl rfl U30 ?_
   refine Tr.min2 rfl rfl rfl rfl (show Value.int .i64 (if ((n - 128 * i : Nat) : Int) < (128 : Int) then ((n - 128 * i : Nat) : Int) else (128 : Int)) = i64 128 from by rw [if_neg oM]) ?_
   refine Tr.a rfl rfl rfl ?_
   refine Tr.nil (Aa (Sat.seq ?_))
   refine Sat.regionY 10 rfl zK ?_
   refine Tr.m rfl rfl rfl ?_
   refine Tr.load1 rfl rfl rfl U30 rfl Z0 (by rfl) ?_
   refine Tr.m rfl rfl rfl ?_
   refine Tr.m rfl rfl rfl ?_
   refine Tr.m rfl rfl rfl ?_
   refine Tr.aI rfl rfl rfl rfl oM ?_
   refine Tr.m rfl rfl rfl ?_
   refine Tr.m rfl rfl rfl ?_
   refine Tr.aI rfl rfl rfl rfl oM ?_
   refine Tr.slice3 (128*i) (128*i+128) (128*i+128) rfl rfl rfl rfl rfl rfl oM oM oM oM oM oM U30 Sz5 ?_
   refine Tr.nil ?_
   refine yop rfl rfl (congrArg some (encC_eq q i)) (fun w h => hW.2 i hi3 w (by rw [List.append_nil] at h; exact h)) ?_
   refine Tr.not rfl rfl rfl ?_
   refine Tr.nil (Aa ?_)
   refine Sat.cond_f rfl (rfl) ?_
   refine Sat.skip (Bu (Aa (Sat.region ?_)))
   refine Tr.m rfl rfl rfl ?_
   refine Tr.load1 rfl rfl rfl U3 rfl Z1 (by rfl) ?_
   refine Tr.aI rfl rfl rfl rfl oM ?_
   refine Tr.a rfl rfl rfl ?_
   refine Tr.nil (Aa ?_)
   exact ⟨i + 1, by omega, by omega, Am (wk1 rfl (wk1 rfl (wk1 rfl (wk1 (congrArg (fun z => some (i64 z)) oM) wk0)))) (Ad rM (Ad rM (Ac (by repeat (exact sg_end)) Ag)))⟩
  ·
   have hi3 : i = K := by omega
   refine Sat.exit (A9 (A9 (bl_h (en_n ?_))))
   refine Al (out := (⟨b1, [.slice (some ⟨q, 0, none⟩) n c], 30, 1⟩ :: (⟨b2, [i64 128], 3, 1⟩ :: (X i ++ [])))) (res_none rfl) (Ad rM (Ad rM (Ac sG Ag))) ?_
   rw [hi3]; exact ⟨rfl, by simp⟩

theorem chunk_seq {l b1 b2 q n c K : Nat} {X : Nat → List Blk} {names : List Nat} (hnk : n = 128 * K) (hnc : n ≤ c) (hbig : n ≤ 1000000) (hnm : ∀ i, (⟨b1, [.slice (some ⟨q, 0, none⟩) n c], 30, 1⟩ :: ⟨b2, [i64 128], 3, 1⟩ :: X i).map (·.n) = names) (w1 : World) (hh : HRep ⟨Tryz.prog, w1, 0, names, [], []⟩ (⟨b1, [.slice (some ⟨q, 0, none⟩) n c], 30, 1⟩ :: ⟨b2, [i64 128], 3, 1⟩ :: X 0) w1)
    (hy : ∀ i, i < K → ∀ W2, HRep ⟨Tryz.prog, w1, 0, names, [], []⟩ (⟨b1, [.slice (some ⟨q, 0, none⟩) n c], 30, 1⟩ :: ⟨b2, [i64 128], 3, 1⟩ :: X i) W2 → YieldAt Fence.wide 0 Tryz.prog l #[encC q i] W2 fun e W3 => e = .returned (.bool true) ∧ HRep ⟨Tryz.prog, w1, 0, names, [], []⟩ (⟨b1, [.slice (some ⟨q, 0, none⟩) n c], 30, 1⟩ :: ⟨b2, [i64 128], 3, 1⟩ :: X (i + 1)) W3) :
    CallsIn Fence.wide 0 Tryz.prog 149 (#[.func (.yield l) #[] #[]] ++ #[ptr b1 0, ptr b2 0]) w1 fun e W' => (∃ v, e = .returned v) ∧ HRep ⟨Tryz.prog, w1, 0, names, [], []⟩ (⟨b1, [.slice (some ⟨q, 0, none⟩) n c], 30, 1⟩ :: ⟨b2, [i64 128], 3, 1⟩ :: X K) W' :=
  callsIn_wide.2 ((chunk_iter l b1 b2 q n c K X names hnk hnc hbig w1 ⟨hh, hy⟩).mono fun e W' ⟨v, out, he, ⟨_, ho⟩, hr⟩ => ⟨⟨v, he⟩, by subst ho; exact HRep.ofRet hr (hnm K)⟩)
theorem take_len {xs : List UInt8} {i K : Nat} (h : xs.length = 128 * K) (hi : i < K) : ((xs.drop (128 * i)).take 128).length = 128 := by simp; omega

theorem sha_whole (st : List UInt64) (hst : st.length = 8) (k : List UInt64) (hk : Hid (kW = k)) (hk80 : k.length = 80) (p : Option Addr) (n c : Nat) (ss : List Sl) (ls : List (List UInt8)) (hss : ss.length = n) (hls : ls.length = n) (hsl : ∀ j, j < n → (ss.getD j Sl.nil).n = (ls.getD j []).length ∧ ((ss.getD j Sl.nil).p = none → (ss.getD j Sl.nil).n = 0)) (F : List UInt8) (hF : ls.flatten = F) (htot : F.length ≤ 90000) (hn : n ≤ 1000000)  : Meets Tryz.prog 143 [agg (A0 st), .slice p n c] [] (fun W => SeesP W p (ss.map Sl.v) ∧ ∀ j, j < n → SeesP W (ss.getD j Sl.nil).p (Ab (ls.getD j []))) (fun v out => v = agg (A0 (allW k st F)) ∧ out = []) := by
  intro W hW
  have hpl := padB_length F
  have hpz := padZ_lt F.length
  have hpm := padB_mod F
  have hst2 : (runW k st (padB F) ((padB F).length / 128)).length = 8 := by rw [runW_length]; exact hst
  refine calls_range Tryz.func143 rfl 16 Tryz.ntmps143 rfl ?_
  refine Sat.region ?_
  refine Tr.boxA rfl rfl ?_
  intro n2 hn2 hf2
  refine Tr.alloc (cs := (A0 (List.replicate 8 0))) rfl Zr191 rfl ?_
  intro n4 hn4 hf4
  refine Tr.nil ?_
  refine Aa ?_
  refine Sat.region ?_
  refine Tr.m rfl rfl rfl ?_
  refine Tr.call4 rfl rfl rfl rfl rfl Body146 (sha_padded p n c ss ls hss hls hsl F hF htot hn) (fun w h => ⟨Az h rfl hW.1, fun j hj => Az h rfl (hW.2 j hj)⟩) ?_
  rintro v7 out7 ⟨s7, rfl, hac7⟩
  obtain ⟨q7, c7, rfl, hc7, rfl⟩ := acc_pos hac7 oM
  refine Tr.call4 rfl rfl rfl rfl rfl Body145 (mk_chunk (some ⟨q7, 0, none⟩) (padB F).length c7) tV ?_
  rintro v8 out8 ⟨b1, b2, rfl, rfl⟩
  refine Tr.nil ?_
  refine Aa ?_
  refine ⟨_, _, fun i => ⟨b1, [.slice (some ⟨q7, 0, none⟩) (padB F).length c7], 30, 1⟩ :: ⟨b2, [i64 128], 3, 1⟩ :: [⟨q7, Ab (padB F), 5, c7 * 1⟩, ⟨n4, A0 (List.replicate 8 0), 191, (A0 (List.replicate 8 0)).length⟩, ⟨n2, A0 (runW k st (padB F) i), 191, (A0 st).length⟩], [b1, b2, q7, n4, n2], encC q7, ((padB F).length / 128), fun sl i => (5, encC q7 i) :: (9, encC q7 i) :: sl, rfl, rfl, Body149, dE, fun _ => rfl, ?_, ?_, ?_, ?_⟩
  ·
    intro l w1 hh hy
    exact chunk_seq (X := fun i => [⟨q7, Ab (padB F), 5, c7 * 1⟩, ⟨n4, A0 (List.replicate 8 0), 191, (A0 (List.replicate 8 0)).length⟩, ⟨n2, A0 (runW k st (padB F) i), 191, (A0 st).length⟩]) hpm hc7 oM (fun _ => rfl) w1 hh hy
  ·
    intro i hi l W2 hh
    refine SatI.region zK ?_
    refine Tr.a rfl rfl rfl ?_
    refine Tr.nil ?_
    exact ⟨rfl, rfl⟩
  ·
    intro i hi l W2 hh
    obtain ⟨A, hA⟩ : ∃ A, Hid (schA ((padB F).drop (128 * i) |>.take 128) 128 = A) := ⟨_, ⟨rfl⟩⟩
    obtain ⟨w, hwp⟩ : ∃ w, Hid (schB A 64 = w) := ⟨_, ⟨rfl⟩⟩
    obtain ⟨R, hR⟩ : ∃ R, Hid (rnds k w (W8.of (runW k st (padB F) i)) 80 = R) := ⟨_, ⟨rfl⟩⟩
    have hw : w.length = 80 := by rw [← hwp.out, schB_length, ← hA.out]; exact schA_length _ 128
    have e1 : addUp (runW k st (padB F) i) R.l 8 = runW k st (padB F) (i + 1) := by rw [runW, pieceW, schW, hA.out, hwp.out, hR.out]
    refine SatI.block ?_
    refine SatI.draw [(1, 0), (0, 1), (0, 2), (1, 3), (3, 4), (4, 5)] Bt zK zK ?_
    refine Tr.lA rfl rfl rfl U191 rfl Sz191 Z4 (by rw [List.length_map, runW_length]; exact hst) ?_
    refine Tr.m rfl rfl rfl ?_
    refine Tr.s2a rfl rfl rfl Tryz.underlying199 oM ?_
    refine Tr.lN (Ab ((padB F).drop (128 * i) |>.take 128)) rfl rfl rfl Tryz.underlying199 rfl Sz199 Z2 (by rw [← List.map_drop, ← List.map_take]) (by rw [List.length_map]; exact take_len hpm hi) ?_
    refine Tr.cV rfl rfl rfl rfl Body147 (sha_Piece (runW k st (padB F) i) (by rw [runW_length]; exact hst) ((padB F).drop (128 * i) |>.take 128) (take_len hpm hi) A w k R hA hwp hw hk hk80 hR) tV ?_
    refine Tr.sA rfl rfl rfl rfl zB Sz191 (by (rw [List.length_map, addUp_length, runW_length]; exact hst)) Z4 (by (rw [List.length_map, runW_length]; exact hst)) (by exact upd4) ?_
    refine Tr.nil ?_
    rw [e1]
  ·
    intro D W2
    refine Sat.seq ?_
    refine Sat.region ?_
    refine Tr.lA rfl rfl rfl U191 rfl Sz191 Z4 (by (simp [hst2]; done)) ?_
    refine Tr.sA rfl rfl rfl rfl zB Sz191 (by (simp [hst2]; done)) Z3 sP (by exact upd3) ?_
    refine Tr.nil ?_
    refine Aa ?_
    refine Sat.ret ?_
    refine enA_r ?_
    refine ⟨_, [], fun W names => res_cell rfl rfl U191 rfl Sz191 Z3 (by simp [hst2]), sP, sP, ?_⟩
    exact ⟨rfl, rfl⟩

theorem startW_length : startW.length = 8 := rfl
def xorUp : Nat → List UInt64
  | 0 => startW
  | i + 1 => (xorUp i).set i ((xorUp i).getD i 0 ^^^ 11936128518282651045)
theorem xorUp_length : ∀ i, (xorUp i).length = 8
  | 0 => rfl
  | i + 1 => by rw [xorUp, List.length_set, xorUp_length i]
def shaTag : List UInt8 := [83, 72, 65, 45, 53, 49, 50, 47, 50, 53, 54]
def shaI : List UInt64 := allW kW (xorUp 8) shaTag
def sha256 (l : List UInt8) : List UInt8 := (sumUp (allW kW shaI l) 64).take 32
theorem sha256_length (l : List UInt8) : (sha256 l).length = 32 := by rw [sha256, List.length_take, sumUp_length]; rfl

theorem sha_StartShort (k s0 i0 : List UInt64) (G : List UInt8) (hk : Hid (kW = k)) (hk80 : k.length = 80) (hs0 : Hid (xorUp 8 = s0)) (hs8 : s0.length = 8) (hG : Hid (shaTag = G)) (hGl : G.length = 11) (hi0 : Hid (allW k s0 G = i0)) (hi8 : i0.length = 8)  : Meets Tryz.prog 144 [] [] (fun _ => True) (fun v out => v = agg (A0 i0) ∧ out = []) := by
 intro W hW
 refine Aj Tryz.func144 rfl 18 Tryz.ntmps144 rfl ?_
 refine Sat.seq (Sat.region ?_)
 refine Tr.alloc (cs := (A0 (List.replicate 8 0))) rfl Zr191 rfl ?_
 intro n0 hn0 hf0
 refine Tr.nil (Aa (Sat.seq (Sat.region ?_)))
 refine Tr.cV rfl rfl rfl rfl Body148 (sha_Start) tV ?_
 refine Tr.alloc (cs := (A0 (List.replicate 8 0))) rfl Zr191 rfl ?_
 intro n1 hn1 hf1
 refine Tr.sA rfl rfl rfl rfl zB Sz191 (by (simp [startW_length]; done)) Z0 sP zU ?_
 refine Tr.nil (Aa (Sat.seq (Sat.seq (Sat.region ?_))))
 refine Tr.m rfl rfl rfl ?_
 refine Tr.nil (Aa (Sat.block ?_))
 refine Sat.loop (ι := Nat) (fun j => ⟨[(0, ptr n0 0), (1, ptr n1 0), (4, i64 (j : Int))], [⟨n1, A0 (xorUp j), 191, 8⟩, ⟨n0, A0 (List.replicate 8 0), 191, 8⟩]⟩) (fun j => j ≤ 8) (fun j => 8 - j) (0) ?_ ?_ ?_
 · omega
 · exact Am (wk1 rfl (wk1 rfl (wk1 rfl wk0))) (Ad rM (Ad rM Ag))
 ·
  rintro j hi
  have hlj := xorUp_length j
  refine Sat.seq (Sat.region ?_)
  refine Tr.lss rfl rfl rfl rfl rfl ?_
  refine Tr.nil (Aa (Sat.seq ?_))
  refine Sat.condP rfl (fun hc0 => ?_) (fun hc0 => ?_)
  ·
   refine Sat.skip (Aa (Sat.seq (Sat.block (Sat.seq (Sat.region ?_)))))
   refine Tr.m rfl rfl rfl ?_
   refine Tr.a rfl rfl rfl ?_
   refine Tr.nil (Aa (Sat.region ?_))
   refine Tr.m rfl rfl rfl ?_
   refine Tr.i1 rfl rfl rfl rfl U191 Bp _ rfl oM ?_
   refine Tr.load1 rfl rfl rfl U22 rfl Z0 (by exact Ap oM) ?_
   refine Tr.xor_u64 rfl rfl rfl (show Ai _ _ = some (u64 11936128518282651045) from rfl) ?_
   refine Tr.i1 rfl rfl rfl rfl U191 Bp _ rfl oM ?_
   refine Tr.s1 rfl rfl rfl rfl rfl Bp Z0 (by (simp [xorUp_length]; omega)) (by exact set_words _ _ _) zU ?_
   refine Tr.nil (Bu (Aa (Sat.region ?_)))
   refine Tr.aI rfl rfl rfl rfl oM ?_
   refine Tr.m rfl rfl rfl ?_
   refine Tr.nil (Aa ?_)
   exact ⟨j + 1, by omega, by omega, Am (wk1 rfl (wk1 rfl (wk1 rfl wk0))) (Ad rM (Ad rM Ag))⟩
  ·
   obtain rfl : j = 8 := by omega
   rw [hs0.out]
   clear hlj
   refine Sat.exit (A9 (A9 (bl_h (Aa (Sat.seq (Sat.region ?_))))))
   refine Tr.lA rfl rfl rfl U191 rfl Sz191 Z0 (by (simp [hs8]; done)) ?_
   refine Tr.mkRow (z := u8 0) [u8 83, u8 72, u8 65, u8 45, u8 53, u8 49, u8 50, u8 47, u8 50, u8 53, u8 54] (Ab shaTag) rfl rfl rfl U30 Sz5 Zr5 rfl rfl (by intro v hv; simp only [List.mem_cons, List.not_mem_nil, or_false] at hv; rcases hv with rfl | rfl | rfl | rfl | rfl | rfl | rfl | rfl | rfl | rfl | rfl <;> rfl) dE rfl ?_
   intro q14
   rw [hG.out]
   refine Tr.constB rfl rfl rfl rfl U30 U5 Z0 ?_
   refine Tr.mkRow (z := .slice none 0 0) [.slice (some ⟨q14, 0, none⟩) 11 11] [.slice (some ⟨q14, 0, none⟩) 11 11] rfl rfl rfl Tryz.underlying189 Sz30 Zr30 rfl rfl (by intro v hv; rw [List.mem_singleton.1 hv]; rfl) dE rfl ?_
   intro q16
   refine Tr.cV rfl rfl rfl rfl Body143 (sha_whole s0 hs8 k hk hk80 (some ⟨q16, 0, none⟩) 1 1 [⟨some ⟨q14, 0, none⟩, 11, 11⟩] [G] rfl rfl (fun j hj => (by obtain rfl : j = 0 := oM; exact ⟨by simp [hGl], fun e => by cases e⟩)) G sP oM dE) (fun w h => ⟨SeesP.of (Ay h Z0), fun j hj => (by obtain rfl : j = 0 := oM; exact SeesP.of (Ay h Z1))⟩) ?_
   rw [hi0.out]
   refine Tr.sA rfl rfl rfl rfl zB Sz191 (by (simp [hi8]; done)) Z3 sP (by exact upd3) ?_
   refine Tr.nil (Aa (Sat.ret (Ak ?_)))
   refine ⟨_, [], res_cell rfl rfl U191 rfl Sz191 Z3 (by simp [hi8]), sP, sP, ?_, rfl⟩
   rfl

theorem sha_Sum (k s0 i0 : List UInt64) (G : List UInt8) (hk : Hid (kW = k)) (hk80 : k.length = 80) (hs0 : Hid (xorUp 8 = s0)) (hs8 : s0.length = 8) (hG : Hid (shaTag = G)) (hGl : G.length = 11) (hi0 : Hid (allW k s0 G = i0)) (hi8 : i0.length = 8) (p : Option Addr) (n c : Nat) (ss : List Sl) (ls : List (List UInt8)) (hss : ss.length = n) (hls : ls.length = n) (hsl : ∀ j, j < n → (ss.getD j Sl.nil).n = (ls.getD j []).length ∧ ((ss.getD j Sl.nil).p = none → (ss.getD j Sl.nil).n = 0)) (F : List UInt8) (hF : ls.flatten = F) (htot : F.length ≤ 90000) (hn : n ≤ 1000000) (r : List UInt64) (hr : Hid (allW k i0 F = r)) (s : List UInt8) (hs : Hid (sumUp r 64 = s))  : Meets Tryz.prog 135 [.slice p n c] [] (fun W => SeesP W p (ss.map Sl.v) ∧ ∀ j, j < n → SeesP W (ss.getD j Sl.nil).p (Ab (ls.getD j []))) (fun v out => v = agg (Ab (s.take 32)) ∧ out = []) := by
 intro W hW
 have hr8 : r.length = 8 := by rw [← hr.out, allW_length]; exact hi8
 have hs64 : s.length = 64 := by rw [← hs.out]; exact sumUp_length r 64
 have hs32 : (s.take 32).length = 32 := by rw [List.length_take, hs64]; rfl
 refine Aj Tryz.func135 rfl 11 Tryz.ntmps135 rfl ?_
 refine Sat.seq (Sat.region ?_)
 refine Tr.alloc (cs := (Ab (List.replicate 32 0))) rfl Zr24 rfl ?_
 intro n2 hn2 hf2
 refine Tr.nil (Aa (Sat.seq (Sat.region ?_)))
 refine Tr.cV rfl rfl rfl rfl Body144 (sha_StartShort k s0 i0 G hk hk80 hs0 hs8 hG hGl hi0 hi8) tV ?_
 refine Tr.m rfl rfl rfl ?_
 refine Tr.cV rfl rfl rfl rfl Body143 (sha_whole i0 hi8 k hk hk80 p n c ss ls hss hls hsl F hF htot hn) (fun w h => ⟨Az h rfl hW.1, fun j hj => Az h rfl (hW.2 j hj)⟩) ?_
 rw [hr.out]
 refine Tr.cV rfl rfl rfl rfl Body142 (sha_sum r hr8 s hs) tV ?_
 refine Tr.alloc (cs := (Ab (List.replicate 64 0))) rfl Zr26 rfl ?_
 intro n3 hn3 hf3
 refine Tr.sA rfl rfl rfl rfl zE Sz26 (by (simp [hs64]; done)) Z0 sP zU ?_
 refine Tr.nil (Aa (Sat.seq (Sat.region ?_)))
 refine Tr.sliceArrHi 32 rfl rfl rfl rfl rfl dE dE Tryz.underlying26 Sz5 ?_
 refine Tr.s2a rfl rfl rfl U24 oM ?_
 refine Tr.lN (Ab (s.take 32)) rfl rfl rfl U24 rfl A5 Z0 (by rw [List.drop_zero, ← List.map_take]) (by rw [List.length_map]; exact hs32) ?_
 refine Tr.sA rfl rfl rfl rfl zE A5 (by (simp [hs64]; done)) Z1 sP zV ?_
 refine Tr.nil (Aa (Sat.ret (Ak ?_)))
 refine ⟨_, [], res_cell rfl rfl U24 rfl A5 Z1 (by simp [hs64]), sP, sP, ?_, rfl⟩
 rfl

end Go.Proofs.YtkfhpmidcbmofaaGreat
end

section
namespace Go.Proofs.YtkfhpmidcbmofaaGreat
open Go Hw

theorem DB.head_small {D : DB} (h : D.check = 0) : D.ls.length ≤ 16 ∧ D.ds.length ≤ 512 := by
  unfold DB.check at h
  by_cases h1 : D.head = true
  · rw [if_pos h1] at h; cases h
  · unfold DB.head at h1
    simp at h1
    omega
theorem DB.bytes_small {D : DB} (h : D.check = 0) (hd : D.ok) : D.bytes.length ≤ 5000 := by
  have hs := D.head_small h
  have hz1 := Bb D.seq.toNat
  have hz2 := Bb (UInt64.ofNat D.ls.length).toNat
  have hz3 := Bb (UInt64.ofNat D.ds.length).toNat
  have hfl := flatten_take_len hd.ls (Nat.le_refl D.ls.length)
  rw [List.take_length] at hfl
  simp only [DB.bytes, DB.body, List.length_append, A3, hd.w, hd.prev, hd.sg, hfl]
  omega
theorem db_check (B : Block) (D : DB) : Meets Tryz.prog 48 [agg B.cells] [] (fun W => BlockIs W B D) (fun v out => v = i64 D.check ∧ out = []) :=
  fun W hW => by rw [← hW.check]; exact block_check B hW.ok D.ls W hW.ls
theorem BlockIs.ext {C : Cx} {hp : List Blk} {w : World} {B : Block} {D : DB} (hh : HRep C hp w) (hl : C.lent = []) (h : BlockIs C.W0 B D) : BlockIs w B D :=
  ⟨h.ok, h.w, h.seq, h.prev, rows_ext hh hl h.ls, bytes_ext hh hl h.ds, h.sg⟩

end Go.Proofs.YtkfhpmidcbmofaaGreat
end

section
namespace Go.Proofs.YtkfhpmidcbmofaaGreat
open Go Hw
set_option maxRecDepth 100000
structure VoteIs (W : World) (x : Vote) (d : Vote) : Prop where
  ok : x.ok
  eq : x = d
  wf : (Lit.int .i64 d.fPhase).wf = true
theorem VoteIs.ext {C : Cx} {hp : List Blk} {w : World} {x d : Vote} (h : VoteIs C.W0 x d) (hh : HRep C hp w) (hl : C.lent = []) : VoteIs w x d := ⟨h.ok, h.eq, h.wf⟩
section
variable {H : Type} {enc : TypeId × Value → H} {P : Program} {W : World} {base : Nat} {sp : Nat → Bool} {held : Bool}
end
section
variable {H : Type} {enc : TypeId × Value → H} {W : World} {base : Nat} {sp : Nat → Bool} {held : Bool}
end
section
variable {H : Type} {enc : TypeId × Value → H} {W : World} {base : Nat} {sp : Nat → Bool} {held : Bool}
end
def VotesAt (W : World) (s : Sl) (ds : List Vote) : Prop := ∃ rs, SeqIs Vote.cells 132 VoteIs W s rs ds
theorem Votes_ext {C : Cx} {hp : List Blk} {w : World} {s : Sl} {ds : List Vote} (hh : HRep C hp w) (hl : C.lent = []) (h : VotesAt C.W0 s ds) : VotesAt w s ds := by
  obtain ⟨rs, h⟩ := h
  exact ⟨rs, h.ext hh hl fun r d hd => hd.ext hh hl⟩
section
variable {H : Type} {enc : TypeId × Value → H} {W : World} {base : Nat} {sp : Nat → Bool} {held : Bool}
end
section
variable {H : Type} {enc : TypeId × Value → H} {W : World} {base : Nat} {sp : Nat → Bool} {held : Bool}
end
def BlocksAt (W : World) (s : Sl) (ds : List DB) : Prop := ∃ rs, SeqIs Block.cells 131 BlockIs W s rs ds
theorem Blocks_ext {C : Cx} {hp : List Blk} {w : World} {s : Sl} {ds : List DB} (hh : HRep C hp w) (hl : C.lent = []) (h : BlocksAt C.W0 s ds) : BlocksAt w s ds := by
  obtain ⟨rs, h⟩ := h
  exact ⟨rs, h.ext hh hl fun r d hd => hd.ext hh hl⟩
section
variable {H : Type} {enc : TypeId × Value → H} {W : World} {base : Nat} {sp : Nat → Bool} {held : Bool}
end
structure DCut where
  dHeight : UInt64
  dPrev : List UInt8
  dHeads : List (List UInt8)
structure CutIs (W : World) (x : Cut) (d : DCut) : Prop where
  ok : x.ok
  fHeight : x.fHeight = d.dHeight
  fPrev : x.fPrev = d.dPrev
  fHeads : RowsAt W x.fHeads 32 d.dHeads
theorem CutIs.ext {C : Cx} {hp : List Blk} {w : World} {x : Cut} {d : DCut} (h : CutIs C.W0 x d) (hh : HRep C hp w) (hl : C.lent = []) : CutIs w x d := ⟨h.ok, h.fHeight, h.fPrev, rows_ext hh hl h.fHeads⟩
section
variable {H : Type} {enc : TypeId × Value → H} {W : World} {base : Nat} {sp : Nat → Bool} {held : Bool}
end
section
variable {H : Type} {enc : TypeId × Value → H} {W : World} {base : Nat} {sp : Nat → Bool} {held : Bool}
end
def CutsAt (W : World) (s : Sl) (ds : List DCut) : Prop := ∃ rs, SeqIs Cut.cells 34 CutIs W s rs ds
theorem Cuts_ext {C : Cx} {hp : List Blk} {w : World} {s : Sl} {ds : List DCut} (hh : HRep C hp w) (hl : C.lent = []) (h : CutsAt C.W0 s ds) : CutsAt w s ds := by
  obtain ⟨rs, h⟩ := h
  exact ⟨rs, h.ext hh hl fun r d hd => hd.ext hh hl⟩
section
variable {H : Type} {enc : TypeId × Value → H} {W : World} {base : Nat} {sp : Nat → Bool} {held : Bool}
end
structure DCert where
  dCut : DCut
  dVotes : List Vote
structure CertIs (W : World) (x : Cert) (d : DCert) : Prop where
  ok : x.ok
  fCut : CutIs W x.fCut d.dCut
  fVotes : VotesAt W x.fVotes d.dVotes
theorem CertIs.ext {C : Cx} {hp : List Blk} {w : World} {x : Cert} {d : DCert} (h : CertIs C.W0 x d) (hh : HRep C hp w) (hl : C.lent = []) : CertIs w x d := ⟨h.ok, (h.fCut.ext hh hl), Votes_ext hh hl h.fVotes⟩
section
variable {H : Type} {enc : TypeId × Value → H} {W : World} {base : Nat} {sp : Nat → Bool} {held : Bool}
end
section
variable {H : Type} {enc : TypeId × Value → H} {W : World} {base : Nat} {sp : Nat → Bool} {held : Bool}
end
def CertsAt (W : World) (s : Sl) (ds : List DCert) : Prop := ∃ rs, SeqIs Cert.cells 35 CertIs W s rs ds
theorem Certs_ext {C : Cx} {hp : List Blk} {w : World} {s : Sl} {ds : List DCert} (hh : HRep C hp w) (hl : C.lent = []) (h : CertsAt C.W0 s ds) : CertsAt w s ds := by
  obtain ⟨rs, h⟩ := h
  exact ⟨rs, h.ext hh hl fun r d hd => hd.ext hh hl⟩
section
variable {H : Type} {enc : TypeId × Value → H} {W : World} {base : Nat} {sp : Nat → Bool} {held : Bool}
end
structure DRecord where
  dKind : UInt8
  dData : List UInt8
structure RecordIs (W : World) (x : Record) (d : DRecord) : Prop where
  ok : x.ok
  fKind : x.fKind = d.dKind
  fData : BytesAt W x.fData d.dData
theorem RecordIs.ext {C : Cx} {hp : List Blk} {w : World} {x : Record} {d : DRecord} (h : RecordIs C.W0 x d) (hh : HRep C hp w) (hl : C.lent = []) : RecordIs w x d := ⟨h.ok, h.fKind, bytes_ext hh hl h.fData⟩
section
variable {H : Type} {enc : TypeId × Value → H} {W : World} {base : Nat} {sp : Nat → Bool} {held : Bool}
end
section
variable {H : Type} {enc : TypeId × Value → H} {W : World} {base : Nat} {sp : Nat → Bool} {held : Bool}
end
def RecordsAt (W : World) (s : Sl) (ds : List DRecord) : Prop := ∃ rs, SeqIs Record.cells 2 RecordIs W s rs ds
section
variable {H : Type} {enc : TypeId × Value → H} {W : World} {base : Nat} {sp : Nat → Bool} {held : Bool}
end
structure DKept where
  dBlocks : List DB
  dCerts : List DCert
  dVotes : List Vote
  dCuts : List DCut
structure KeptIs (W : World) (x : Kept) (d : DKept) : Prop where
  ok : x.ok
  fBlocks : BlocksAt W x.fBlocks d.dBlocks
  fCerts : CertsAt W x.fCerts d.dCerts
  fVotes : VotesAt W x.fVotes d.dVotes
  fCuts : CutsAt W x.fCuts d.dCuts
theorem KeptIs.ext {C : Cx} {hp : List Blk} {w : World} {x : Kept} {d : DKept} (h : KeptIs C.W0 x d) (hh : HRep C hp w) (hl : C.lent = []) : KeptIs w x d := ⟨h.ok, Blocks_ext hh hl h.fBlocks, Certs_ext hh hl h.fCerts, Votes_ext hh hl h.fVotes, Cuts_ext hh hl h.fCuts⟩
section
variable {H : Type} {enc : TypeId × Value → H} {W : World} {base : Nat} {sp : Nat → Bool} {held : Bool}
end
section
variable {H : Type} {enc : TypeId × Value → H} {W : World} {base : Nat} {sp : Nat → Bool} {held : Bool}
end
section
variable {H : Type} {enc : TypeId × Value → H} {W : World} {base : Nat} {sp : Nat → Bool} {held : Bool}
end
end Go.Proofs.YtkfhpmidcbmofaaGreat
end

section
namespace Go.Proofs.YtkfhpmidcbmofaaGreat
open Go Hw

def vheadB (V : Vote) : Bool := decide ((V.fHeight.toNat : Int) < 1) || (decide ((4294967295 : Int) < (V.fHeight.toNat : Int)) || decide ((20 : Int) < (V.fRound.toNat : Int)))
def vokB (V : Vote) : Bool := if V.fPhase = 1 then (!decide (V.fValue = List.replicate 32 0)) && decide ((V.fProof.toNat : Int) ≤ (V.fRound.toNat : Int)) else if V.fPhase = 2 ∨ V.fPhase = 3 then decide ((V.fProof.toNat : Int) = 0) else false
def Bk (V : Vote) : Int := if vheadB V = true then 2 else if vokB V = true then 0 else 2

theorem vote_check (V : Vote) (hV : V.ok) : Meets Tryz.prog 52 [agg V.cells] [] (fun _ => True) (fun v out => v = i64 (Bk V) ∧ out = []) := by
 intro W hW
 refine Aj Tryz.func52 rfl 40 Tryz.ntmps52 rfl ?_
 refine Sat.seq (Sat.region ?_)
 refine Tr.boxA rfl rfl ?_
 intro n1 hn1 hf1
 refine Tr.a rfl rfl rfl ?_
 refine Tr.nil (Aa (Sat.seq (Sat.seq (Sat.region ?_))))
 refine Tr.fld rfl rfl rfl U29 rfl Bp dE _ rfl ?_
 refine Tr.load1 rfl rfl rfl U22 rfl Z0 (by exact Vote.get_fHeight zA) ?_
 refine two (fun r hr k => Tr.lss rfl rfl rfl rfl hr k) (fun hs1_20 => ?_) (fun hs1_20 => ?_)
 ·
  have hs1_2 := of_decide_eq_true hs1_20
  refine Tr.m rfl rfl rfl ?_
  refine Tr.skp rfl rfl ?_
  refine Tr.skp rfl rfl ?_
  refine Tr.skp rfl rfl ?_
  refine Tr.pick rfl rfl rfl rfl rfl rfl ?_
  refine Tr.m rfl rfl rfl ?_
  refine Tr.skp rfl rfl ?_
  refine Tr.skp rfl rfl ?_
  refine Tr.skp rfl rfl ?_
  refine Tr.pick rfl rfl rfl rfl rfl rfl ?_
  refine Tr.nil (Aa ?_)
  refine Sat.cond_t rfl rfl ?_
  refine Sat.seq (Sat.region ?_)
  refine Tr.a rfl rfl rfl ?_
  refine Tr.nil (Aa (Sat.ret (As (Ak ?_))))
  refine ⟨_, [], Ae rfl rfl, sP, sP, ?_, rfl⟩
  (unfold Bk vheadB vokB; simp_all; done)
 ·
  have hs1_2 := of_decide_eq_false hs1_20
  refine Tr.m rfl rfl rfl ?_
  refine Tr.fld rfl rfl rfl U29 rfl Bp dE _ rfl ?_
  refine Tr.load1 rfl rfl rfl U22 rfl Z0 (by exact Vote.get_fHeight zA) ?_
  refine two (fun r hr k => Tr.gtr rfl rfl rfl rfl hr k) (fun hs1_60 => ?_) (fun hs1_60 => ?_)
  ·
   have hs1_6 := of_decide_eq_true hs1_60
   refine Tr.pick rfl rfl rfl rfl rfl rfl ?_
   refine Tr.m rfl rfl rfl ?_
   refine Tr.skp rfl rfl ?_
   refine Tr.skp rfl rfl ?_
   refine Tr.skp rfl rfl ?_
   refine Tr.pick rfl rfl rfl rfl rfl rfl ?_
   refine Tr.nil (Aa ?_)
   refine Sat.cond_t rfl rfl ?_
   refine Sat.seq (Sat.region ?_)
   refine Tr.a rfl rfl rfl ?_
   refine Tr.nil (Aa (Sat.ret (As (Ak ?_))))
   refine ⟨_, [], Ae rfl rfl, sP, sP, ?_, rfl⟩
   (unfold Bk vheadB vokB; simp_all; done)
  ·
   have hs1_6 := of_decide_eq_false hs1_60
   refine Tr.pick rfl rfl rfl rfl rfl rfl ?_
   refine Tr.m rfl rfl rfl ?_
   refine Tr.fld rfl rfl rfl U29 rfl Bp dE _ rfl ?_
   refine Tr.load1 rfl rfl rfl U22 rfl Z0 (by exact Vote.get_fRound zA) ?_
   refine Tr.gtr rfl rfl rfl rfl rfl ?_
   refine Tr.pick rfl rfl rfl rfl rfl rfl ?_
   refine Tr.nil (Aa ?_)
   refine Sat.condP rfl (fun hc0 => ?_) (fun hc0 => ?_)
   ·
    refine Sat.seq (Sat.region ?_)
    refine Tr.a rfl rfl rfl ?_
    refine Tr.nil (Aa (Sat.ret (As (Ak ?_))))
    refine ⟨_, [], Ae rfl rfl, sP, sP, ?_, rfl⟩
    (unfold Bk vheadB vokB; simp_all; done)
   ·
    refine Sat.skip (Aa (Sat.seq (Sat.region ?_)))
    refine Tr.a rfl rfl rfl ?_
    refine Tr.nil (Aa (Sat.seq (Sat.seq (Sat.region ?_))))
    refine Tr.fld rfl rfl rfl U29 rfl Sz3 dE _ rfl ?_
    refine Tr.load1 rfl rfl rfl U3 rfl Z0 (by exact Vote.get_fPhase zA) ?_
    refine Tr.nil (Aa (Sat.block (Sat.seq (Sat.region ?_))))
    refine Tr.eqi rfl rfl rfl rfl rfl ?_
    refine Tr.a rfl rfl rfl ?_
    refine Tr.nil (Aa ?_)
    refine Sat.condP rfl (fun hc1 => ?_) (fun hc1 => ?_)
    ·
     refine Sat.region ?_
     refine Tr.fld rfl rfl rfl U29 rfl A5 dE _ rfl ?_
     refine Tr.lN (Ab _) rfl rfl rfl U24 rfl A5 Z0 (Vote.row_fValue zA) (Vote.rl_fValue zA) ?_
     refine Tr.build (cs := Ab (List.replicate 32 0)) rfl rfl rfl (fun w => by kernel_rfl) ?_
     refine two (fun r hr k => Tr.neq_bytes rfl rfl rfl rfl Tryz.eqGuardType24 U24 U5 Sz5 (by (simp [hV.l_fValue]; done)) sP hr k) (fun hs6_30 => ?_) (fun hs6_30 => ?_)
     ·
      have hs6_3 := nd_t hs6_30
      refine Tr.m rfl rfl rfl ?_
      refine Tr.fld rfl rfl rfl U29 rfl Bp dE _ rfl ?_
      refine Tr.load1 rfl rfl rfl U22 rfl Z0 (by exact Vote.get_fProof zA) ?_
      refine Tr.fld rfl rfl rfl U29 rfl Bp dE _ rfl ?_
      refine Tr.load1 rfl rfl rfl U22 rfl Z0 (by exact Vote.get_fRound zA) ?_
      refine Tr.leq rfl rfl rfl rfl rfl ?_
      refine Tr.pick rfl rfl rfl rfl rfl rfl ?_
      refine Tr.a rfl rfl rfl ?_
      refine Tr.nil (Bu (Aa (Sat.seq (Sat.seq (Sat.region ?_)))))
      refine Tr.m rfl rfl rfl ?_
      refine Tr.not rfl rfl rfl ?_
      refine Tr.nil (Aa ?_)
      refine Sat.condNP rfl (fun hc4 => ?_) (fun hc4 => ?_)
      ·
       refine Sat.seq (Sat.region ?_)
       refine Tr.a rfl rfl rfl ?_
       refine Tr.nil (Aa (Sat.ret (As (Ak ?_))))
       refine ⟨_, [], Ae rfl rfl, sP, sP, ?_, rfl⟩
       (unfold Bk vheadB vokB; simp_all; done)
      ·
       refine Sat.skip (Aa (Sat.seq (Sat.region ?_)))
       refine Tr.a rfl rfl rfl ?_
       refine Tr.nil (Aa (Sat.ret (Ak ?_)))
       refine ⟨_, [], Ae rfl rfl, sP, sP, ?_, rfl⟩
       (unfold Bk vheadB vokB; simp_all; done)
     ·
      have hs6_3 := nd_f hs6_30
      refine Tr.m rfl rfl rfl ?_
      refine Tr.skp rfl rfl ?_
      refine Tr.skp rfl rfl ?_
      refine Tr.skp rfl rfl ?_
      refine Tr.skp rfl rfl ?_
      refine Tr.skp rfl rfl ?_
      refine Tr.pick rfl rfl rfl rfl rfl rfl ?_
      refine Tr.a rfl rfl rfl ?_
      refine Tr.nil (Bu (Aa (Sat.seq (Sat.seq (Sat.region ?_)))))
      refine Tr.m rfl rfl rfl ?_
      refine Tr.not rfl rfl rfl ?_
      refine Tr.nil (Aa ?_)
      refine Sat.cond_t rfl rfl ?_
      refine Sat.seq (Sat.region ?_)
      refine Tr.a rfl rfl rfl ?_
      refine Tr.nil (Aa (Sat.ret (As (Ak ?_))))
      refine ⟨_, [], Ae rfl rfl, sP, sP, ?_, rfl⟩
      (unfold Bk vheadB vokB; simp_all; done)
    ·
     refine Sat.seq (Sat.seq (Sat.region ?_))
     refine Tr.eqi rfl rfl rfl rfl rfl ?_
     refine Tr.a rfl rfl rfl ?_
     refine Tr.nil (Aa ?_)
     refine Sat.condP rfl (fun hc2 => ?_) (fun hc2 => ?_)
     ·
      refine Sat.skip (Aa ?_)
      refine Sat.condP rfl (fun hc3 => ?_) (fun hc3 => ?_)
      ·
       refine Sat.region ?_
       refine Tr.fld rfl rfl rfl U29 rfl Bp dE _ rfl ?_
       refine Tr.load1 rfl rfl rfl U22 rfl Z0 (by exact Vote.get_fProof zA) ?_
       refine Tr.eqi rfl rfl rfl rfl rfl ?_
       refine Tr.a rfl rfl rfl ?_
       refine Tr.nil (Bu (Aa (Sat.seq (Sat.seq (Sat.region ?_)))))
       refine Tr.m rfl rfl rfl ?_
       refine Tr.not rfl rfl rfl ?_
       refine Tr.nil (Aa ?_)
       refine Sat.condNP rfl (fun hc4 => ?_) (fun hc4 => ?_)
       ·
        refine Sat.seq (Sat.region ?_)
        refine Tr.a rfl rfl rfl ?_
        refine Tr.nil (Aa (Sat.ret (As (Ak ?_))))
        refine ⟨_, [], Ae rfl rfl, sP, sP, ?_, rfl⟩
        (unfold Bk vheadB vokB; simp_all; done)
       ·
        refine Sat.skip (Aa (Sat.seq (Sat.region ?_)))
        refine Tr.a rfl rfl rfl ?_
        refine Tr.nil (Aa (Sat.ret (Ak ?_)))
        refine ⟨_, [], Ae rfl rfl, sP, sP, ?_, rfl⟩
        (unfold Bk vheadB vokB; simp_all; done)
      ·
       refine Sat.skip (Bu (Aa (Sat.seq (Sat.seq (Sat.region ?_)))))
       refine Tr.m rfl rfl rfl ?_
       refine Tr.not rfl rfl rfl ?_
       refine Tr.nil (Aa ?_)
       refine Sat.cond_t rfl rfl ?_
       refine Sat.seq (Sat.region ?_)
       refine Tr.a rfl rfl rfl ?_
       refine Tr.nil (Aa (Sat.ret (As (Ak ?_))))
       refine ⟨_, [], Ae rfl rfl, sP, sP, ?_, rfl⟩
       (unfold Bk vheadB vokB; simp_all; done)
     ·
      refine Sat.region ?_
      refine Tr.eqi rfl rfl rfl rfl rfl ?_
      refine Tr.a rfl rfl rfl ?_
      refine Tr.nil (Aa ?_)
      refine Sat.condP rfl (fun hc3 => ?_) (fun hc3 => ?_)
      ·
       refine Sat.region ?_
       refine Tr.fld rfl rfl rfl U29 rfl Bp dE _ rfl ?_
       refine Tr.load1 rfl rfl rfl U22 rfl Z0 (by exact Vote.get_fProof zA) ?_
       refine Tr.eqi rfl rfl rfl rfl rfl ?_
       refine Tr.a rfl rfl rfl ?_
       refine Tr.nil (Bu (Aa (Sat.seq (Sat.seq (Sat.region ?_)))))
       refine Tr.m rfl rfl rfl ?_
       refine Tr.not rfl rfl rfl ?_
       refine Tr.nil (Aa ?_)
       refine Sat.condNP rfl (fun hc4 => ?_) (fun hc4 => ?_)
       ·
        refine Sat.seq (Sat.region ?_)
        refine Tr.a rfl rfl rfl ?_
        refine Tr.nil (Aa (Sat.ret (As (Ak ?_))))
        refine ⟨_, [], Ae rfl rfl, sP, sP, ?_, rfl⟩
        (unfold Bk vheadB vokB; simp_all; done)
       ·
        refine Sat.skip (Aa (Sat.seq (Sat.region ?_)))
        refine Tr.a rfl rfl rfl ?_
        refine Tr.nil (Aa (Sat.ret (Ak ?_)))
        refine ⟨_, [], Ae rfl rfl, sP, sP, ?_, rfl⟩
        (unfold Bk vheadB vokB; simp_all; done)
      ·
       refine Sat.skip (Bu (Aa (Sat.seq (Sat.seq (Sat.region ?_)))))
       refine Tr.m rfl rfl rfl ?_
       refine Tr.not rfl rfl rfl ?_
       refine Tr.nil (Aa ?_)
       refine Sat.cond_t rfl rfl ?_
       refine Sat.seq (Sat.region ?_)
       refine Tr.a rfl rfl rfl ?_
       refine Tr.nil (Aa (Sat.ret (As (Ak ?_))))
       refine ⟨_, [], Ae rfl rfl, sP, sP, ?_, rfl⟩
       (unfold Bk vheadB vokB; simp_all; done)

end Go.Proofs.YtkfhpmidcbmofaaGreat
end

section
namespace Go.Proofs.YtkfhpmidcbmofaaGreat
open Go Hw

def lastH (ls : List (List UInt8)) (k : Nat) : List UInt8 := if k = 0 then List.replicate 32 0 else ls.getD (k - 1) []
theorem lastH_succ (ls : List (List UInt8)) (k : Nat) : lastH ls (k + 1) = ls.getD k [] := by simp [lastH]
def headBad (ls : List (List UInt8)) (k : Nat) : Bool := decide ((0 : Int) ≤ cmpB (lastH ls k) (ls.getD k []))
def headsBad (ls : List (List UInt8)) : Bool := (List.range ls.length).any (headBad ls)
theorem headsBad_at {ls : List (List UInt8)} {k : Nat} (hk : k < ls.length) (h : headBad ls k = true) : headsBad ls = true := by
  rw [headsBad, List.any_eq_true]; exact ⟨k, List.mem_range.2 hk, h⟩
theorem headsBad_not {ls : List (List UInt8)} (h : ∀ j, j < ls.length → headBad ls j = false) : headsBad ls = false := by
  rw [headsBad, List.any_eq_false]; intro x hx; rw [h x (List.mem_range.1 hx)]; simp
def cheadB (h : UInt64) (prev : List UInt8) (n : Nat) : Bool := decide ((h.toNat : Int) < 1) || (decide ((4294967295 : Int) < (h.toNat : Int)) || (!decide (decide (prev = List.replicate 32 0) = decide ((h.toNat : Int) = 1)) || (decide ((n : Int) < 1) || decide ((32 : Int) < (n : Int)))))
def DCut.check (D : DCut) : Int := if cheadB D.dHeight D.dPrev D.dHeads.length = true then 2 else if headsBad D.dHeads = true then 2 else 0
theorem cut_bad1 {D : DCut} (h : cheadB D.dHeight D.dPrev D.dHeads.length = true) : D.check = 2 := if_pos h
theorem cut_bad2 {D : DCut} (h : ¬ cheadB D.dHeight D.dPrev D.dHeads.length = true) (hb : headsBad D.dHeads = true) : D.check = 2 := by unfold DCut.check; rw [if_neg h, if_pos hb]
theorem cut_good {D : DCut} (h : ¬ cheadB D.dHeight D.dPrev D.dHeads.length = true) (hb : headsBad D.dHeads = false) : D.check = 0 := by unfold DCut.check; rw [if_neg h, if_neg (by rw [hb]; simp)]

theorem cut_check (C : Cut) (D : DCut) : Meets Tryz.prog 54 [agg C.cells] [] (fun W => CutIs W C D) (fun v out => v = i64 D.check ∧ out = []) := by
 intro W hW
 have hB := hW.ok
 have hcx : C.fHeads.n ≤ maxLen := hW.fHeads.max
 simp only [maxLen] at hcx
 have hcn := hW.fHeads.cap
 have hll := hW.fHeads.len
 have eH := hW.fHeight
 have eP := hW.fPrev
 have hlst : True := trivial
 refine Aj Tryz.func54 rfl 52 Tryz.ntmps54 rfl ?_
 refine Sat.seq (Sat.region ?_)
 refine Tr.boxA rfl rfl ?_
 intro n1 hn1 hf1
 refine Tr.a rfl rfl rfl ?_
 refine Tr.nil (Aa (Sat.seq (Sat.region ?_)))
 refine Tr.build (cs := Ab (List.replicate 32 0)) rfl rfl rfl (fun w => by kernel_rfl) ?_
 refine Tr.alloc (cs := (Ab (List.replicate 32 0))) rfl Zr24 rfl ?_
 intro n3 hn3 hf3
 first
  | refine Tr.sA rfl rfl rfl rfl cB A5 (by first | (simp [hB.l_fPrev, hlst]; done) | assumption | (rw [Ab, List.length_map]; assumption)) mM (by first | (simp [hB.l_fPrev, hlst]; done) | assumption | (rw [Ab, List.length_map]; assumption)) uU ?_
  | refine Tr.storeN _ rfl rfl rfl rfl rfl cB A5 (by first | (simp [hB.l_fPrev, hlst]; done) | assumption | (rw [Ab, List.length_map]; assumption)) mM (by first | (simp [hB.l_fPrev, hlst]; done) | assumption | (rw [Ab, List.length_map]; assumption)) (by exact rfl) uU ?_
 refine Tr.nil (Aa (Sat.seq (Sat.seq ?_)))
 refine Sat.draw [(0, 0), (1, 1), (0, 2), (0, 3), (0, 4), (1, 5), (0, 6), (0, 7), (0, 8), (0, 9), (1, 10), (1, 11), (0, 12), (0, 13), (1, 14), (0, 15), (0, 16), (0, 17), (0, 18), (0, 19), (1, 20), (0, 21), (0, 22), (0, 23), (0, 24), (0, 25), (1, 26), (0, 27), (0, 28), (0, 29)] Bt zK ?_
 refine Tr.fld rfl rfl rfl U39 rfl Bp dE _ rfl ?_
 refine Tr.load1 rfl rfl rfl U22 rfl mM (by first | exact Cut.get_fHeight (by first | (simp [hB.l_fPrev, hlst]; done) | exact oK  | exact hW.ok) | exact (by first | rfl | exact Ap (by first | omega | (simp [hB.l_fPrev, hlst]; done) | (simp [hB.l_fPrev, hlst]; omega)) | exact Ax (by first | omega | (simp [hB.l_fPrev, hlst]; done) | (simp [hB.l_fPrev, hlst]; omega)) | exact Bd (by first | omega | (simp [hB.l_fPrev, hlst]; done) | (simp [hB.l_fPrev, hlst]; omega)))) ?_
 refine two (fun r hr k => Tr.lss rfl rfl rfl rfl hr k) (fun hs2_20 => ?_) (fun hs2_20 => ?_)
 ·
  first | have hs2_2 := of_decide_eq_true hs2_20 | have hs2_2 := of_decide_eq_false hs2_20 | have hs2_2 := nd_t hs2_20 | have hs2_2 := nd_f hs2_20 | have hs2_2 := hs2_20
  refine Tr.m rfl rfl rfl ?_
  refine Tr.skp rfl rfl ?_
  refine Tr.skp rfl rfl ?_
  refine Tr.skp rfl rfl ?_
  refine Tr.pick rfl rfl rfl rfl rfl rfl ?_
  refine Tr.m rfl rfl rfl ?_
  refine Tr.skp rfl rfl ?_
  refine Tr.skp rfl rfl ?_
  refine Tr.skp rfl rfl ?_
  refine Tr.skp rfl rfl ?_
  refine Tr.skp rfl rfl ?_
  refine Tr.skp rfl rfl ?_
  refine Tr.skp rfl rfl ?_
  refine Tr.skp rfl rfl ?_
  refine Tr.pick rfl rfl rfl rfl rfl rfl ?_
  refine Tr.m rfl rfl rfl ?_
  refine Tr.skp rfl rfl ?_
  refine Tr.skp rfl rfl ?_
  refine Tr.skp rfl rfl ?_
  refine Tr.skp rfl rfl ?_
  refine Tr.pick rfl rfl rfl rfl rfl rfl ?_
  refine Tr.m rfl rfl rfl ?_
  refine Tr.skp rfl rfl ?_
  refine Tr.skp rfl rfl ?_
  refine Tr.skp rfl rfl ?_
  refine Tr.skp rfl rfl ?_
  refine Tr.pick rfl rfl rfl rfl rfl rfl ?_
  refine Tr.nil (Aa ?_)
  refine Sat.cond_t rfl rfl ?_
  refine Sat.seq (Sat.region ?_)
  refine Tr.a rfl rfl rfl ?_
  refine Tr.nil (Aa (Sat.ret (As (Ak ?_))))
  refine ⟨_, [], Ae rfl rfl, sP, sP, ?_, rfl⟩
  first
   | exact congrArg i64 (cut_good hnb (headsBad_not (by rw [hll]; exact hg))).symm
   | exact congrArg i64 (cut_bad2 hnb (headsBad_at (k := p.1) oM (by unfold headBad; rw [← hle]; exact decide_eq_true hc2))).symm
   | exact congrArg i64 (cut_bad1 (by unfold cheadB; simp_all)).symm
 ·
  first | have hs2_2 := of_decide_eq_true hs2_20 | have hs2_2 := of_decide_eq_false hs2_20 | have hs2_2 := nd_t hs2_20 | have hs2_2 := nd_f hs2_20 | have hs2_2 := hs2_20
  refine Tr.m rfl rfl rfl ?_
  refine Tr.fld rfl rfl rfl U39 rfl Bp dE _ rfl ?_
  refine Tr.load1 rfl rfl rfl U22 rfl mM (by first | exact Cut.get_fHeight (by first | (simp [hB.l_fPrev, hlst]; done) | exact oK  | exact hW.ok) | exact (by first | rfl | exact Ap (by first | omega | (simp [hB.l_fPrev, hlst]; done) | (simp [hB.l_fPrev, hlst]; omega)) | exact Ax (by first | omega | (simp [hB.l_fPrev, hlst]; done) | (simp [hB.l_fPrev, hlst]; omega)) | exact Bd (by first | omega | (simp [hB.l_fPrev, hlst]; done) | (simp [hB.l_fPrev, hlst]; omega)))) ?_
  refine two (fun r hr k => Tr.gtr rfl rfl rfl rfl hr k) (fun hs2_60 => ?_) (fun hs2_60 => ?_)
  ·
   first | have hs2_6 := of_decide_eq_true hs2_60 | have hs2_6 := of_decide_eq_false hs2_60 | have hs2_6 := nd_t hs2_60 | have hs2_6 := nd_f hs2_60 | have hs2_6 := hs2_60
   refine Tr.pick rfl rfl rfl rfl rfl rfl ?_
   refine Tr.m rfl rfl rfl ?_
   refine Tr.skp rfl rfl ?_
   refine Tr.skp rfl rfl ?_
   refine Tr.skp rfl rfl ?_
   refine Tr.skp rfl rfl ?_
   refine Tr.skp rfl rfl ?_
   refine Tr.skp rfl rfl ?_
   refine Tr.skp rfl rfl ?_
   refine Tr.skp rfl rfl ?_
   refine Tr.pick rfl rfl rfl rfl rfl rfl ?_
   refine Tr.m rfl rfl rfl ?_
   refine Tr.skp rfl rfl ?_
   refine Tr.skp rfl rfl ?_
   refine Tr.skp rfl rfl ?_
   refine Tr.skp rfl rfl ?_
   refine Tr.pick rfl rfl rfl rfl rfl rfl ?_
   refine Tr.m rfl rfl rfl ?_
   refine Tr.skp rfl rfl ?_
   refine Tr.skp rfl rfl ?_
   refine Tr.skp rfl rfl ?_
   refine Tr.skp rfl rfl ?_
   refine Tr.pick rfl rfl rfl rfl rfl rfl ?_
   refine Tr.nil (Aa ?_)
   refine Sat.cond_t rfl rfl ?_
   refine Sat.seq (Sat.region ?_)
   refine Tr.a rfl rfl rfl ?_
   refine Tr.nil (Aa (Sat.ret (As (Ak ?_))))
   refine ⟨_, [], Ae rfl rfl, sP, sP, ?_, rfl⟩
   first
    | exact congrArg i64 (cut_good hnb (headsBad_not (by rw [hll]; exact hg))).symm
    | exact congrArg i64 (cut_bad2 hnb (headsBad_at (k := p.1) oM (by unfold headBad; rw [← hle]; exact decide_eq_true hc2))).symm
    | exact congrArg i64 (cut_bad1 (by unfold cheadB; simp_all)).symm
  ·
   first | have hs2_6 := of_decide_eq_true hs2_60 | have hs2_6 := of_decide_eq_false hs2_60 | have hs2_6 := nd_t hs2_60 | have hs2_6 := nd_f hs2_60 | have hs2_6 := hs2_60
   refine Tr.pick rfl rfl rfl rfl rfl rfl ?_
   refine Tr.m rfl rfl rfl ?_
   refine Tr.fld rfl rfl rfl U39 rfl A5 dE _ rfl ?_
   first
    | refine Tr.lN (Ab _) rfl rfl rfl U24 rfl A5 mM (Cut.row_fPrev (by first | (simp [hB.l_fPrev, hlst]; done) | exact oK  | exact hW.ok)) (Cut.rl_fPrev (by first | (simp [hB.l_fPrev, hlst]; done) | exact oK  | exact hW.ok)) ?_
   first
    | refine Tr.lA rfl rfl rfl U24 rfl A5 mM (by first | (simp [hB.l_fPrev, hlst]; done) | assumption | (rw [Ab, List.length_map]; assumption)) ?_
    | refine Tr.lN _ rfl rfl rfl U24 rfl A5 mM (by exact rfl) (by first | (simp [hB.l_fPrev, hlst]; done) | assumption | (rw [Ab, List.length_map]; assumption)) ?_
   refine Tr.eql_bytes rfl rfl rfl rfl Tryz.eqGuardType24 U24 U5 Sz5 (by first | (simp [hB.l_fPrev, hlst]; done) | assumption | (rw [Ab, List.length_map]; assumption)) (by first | (simp [hB.l_fPrev, hlst]; done) | assumption | (rw [Ab, List.length_map]; assumption)) rfl ?_
   refine Tr.fld rfl rfl rfl U39 rfl Bp dE _ rfl ?_
   refine Tr.load1 rfl rfl rfl U22 rfl mM (by first | exact Cut.get_fHeight (by first | (simp [hB.l_fPrev, hlst]; done) | exact oK  | exact hW.ok) | exact (by first | rfl | exact Ap (by first | omega | (simp [hB.l_fPrev, hlst]; done) | (simp [hB.l_fPrev, hlst]; omega)) | exact Ax (by first | omega | (simp [hB.l_fPrev, hlst]; done) | (simp [hB.l_fPrev, hlst]; omega)) | exact Bd (by first | omega | (simp [hB.l_fPrev, hlst]; done) | (simp [hB.l_fPrev, hlst]; omega)))) ?_
   refine Tr.eqi rfl rfl rfl rfl rfl ?_
   refine two (fun r hr k => Tr.neb rfl rfl rfl rfl Tryz.underlying4 hr k) (fun hs2_160 => ?_) (fun hs2_160 => ?_)
   ·
    first | have hs2_16 := of_decide_eq_true hs2_160 | have hs2_16 := of_decide_eq_false hs2_160 | have hs2_16 := nd_t hs2_160 | have hs2_16 := nd_f hs2_160 | have hs2_16 := hs2_160
    refine Tr.pick rfl rfl rfl rfl rfl rfl ?_
    refine Tr.m rfl rfl rfl ?_
    refine Tr.skp rfl rfl ?_
    refine Tr.skp rfl rfl ?_
    refine Tr.skp rfl rfl ?_
    refine Tr.skp rfl rfl ?_
    refine Tr.pick rfl rfl rfl rfl rfl rfl ?_
    refine Tr.m rfl rfl rfl ?_
    refine Tr.skp rfl rfl ?_
    refine Tr.skp rfl rfl ?_
    refine Tr.skp rfl rfl ?_
    refine Tr.skp rfl rfl ?_
    refine Tr.pick rfl rfl rfl rfl rfl rfl ?_
    refine Tr.nil (Aa ?_)
    refine Sat.cond_t rfl rfl ?_
    refine Sat.seq (Sat.region ?_)
    refine Tr.a rfl rfl rfl ?_
    refine Tr.nil (Aa (Sat.ret (As (Ak ?_))))
    refine ⟨_, [], Ae rfl rfl, sP, sP, ?_, rfl⟩
    first
     | exact congrArg i64 (cut_good hnb (headsBad_not (by rw [hll]; exact hg))).symm
     | exact congrArg i64 (cut_bad2 hnb (headsBad_at (k := p.1) oM (by unfold headBad; rw [← hle]; exact decide_eq_true hc2))).symm
     | exact congrArg i64 (cut_bad1 (by unfold cheadB; simp_all)).symm
   ·
    first | have hs2_16 := of_decide_eq_true hs2_160 | have hs2_16 := of_decide_eq_false hs2_160 | have hs2_16 := nd_t hs2_160 | have hs2_16 := nd_f hs2_160 | have hs2_16 := hs2_160
    refine Tr.pick rfl rfl rfl rfl rfl rfl ?_
    refine Tr.m rfl rfl rfl ?_
    refine Tr.fld rfl rfl rfl U39 rfl Sz37 dE _ rfl ?_
    refine Tr.load1 rfl rfl rfl U37 rfl mM (by first | exact Cut.get_fHeads (by first | (simp [hB.l_fPrev, hlst]; done) | exact oK  | exact hW.ok) | exact (by first | rfl | exact Ap (by first | omega | (simp [hB.l_fPrev, hlst]; done) | (simp [hB.l_fPrev, hlst]; omega)) | exact Ax (by first | omega | (simp [hB.l_fPrev, hlst]; done) | (simp [hB.l_fPrev, hlst]; omega)) | exact Bd (by first | omega | (simp [hB.l_fPrev, hlst]; done) | (simp [hB.l_fPrev, hlst]; omega)))) ?_
    refine Tr.lenSl rfl rfl rfl U37 ?_
    refine two (fun r hr k => Tr.lss rfl rfl rfl rfl hr k) (fun hs2_220 => ?_) (fun hs2_220 => ?_)
    ·
     first | have hs2_22 := of_decide_eq_true hs2_220 | have hs2_22 := of_decide_eq_false hs2_220 | have hs2_22 := nd_t hs2_220 | have hs2_22 := nd_f hs2_220 | have hs2_22 := hs2_220
     refine Tr.pick rfl rfl rfl rfl rfl rfl ?_
     refine Tr.m rfl rfl rfl ?_
     refine Tr.skp rfl rfl ?_
     refine Tr.skp rfl rfl ?_
     refine Tr.skp rfl rfl ?_
     refine Tr.skp rfl rfl ?_
     refine Tr.pick rfl rfl rfl rfl rfl rfl ?_
     refine Tr.nil (Aa ?_)
     refine Sat.cond_t rfl rfl ?_
     refine Sat.seq (Sat.region ?_)
     refine Tr.a rfl rfl rfl ?_
     refine Tr.nil (Aa (Sat.ret (As (Ak ?_))))
     refine ⟨_, [], Ae rfl rfl, sP, sP, ?_, rfl⟩
     first
      | exact congrArg i64 (cut_good hnb (headsBad_not (by rw [hll]; exact hg))).symm
      | exact congrArg i64 (cut_bad2 hnb (headsBad_at (k := p.1) oM (by unfold headBad; rw [← hle]; exact decide_eq_true hc2))).symm
      | exact congrArg i64 (cut_bad1 (by unfold cheadB; simp_all)).symm
    ·
     first | have hs2_22 := of_decide_eq_true hs2_220 | have hs2_22 := of_decide_eq_false hs2_220 | have hs2_22 := nd_t hs2_220 | have hs2_22 := nd_f hs2_220 | have hs2_22 := hs2_220
     refine Tr.pick rfl rfl rfl rfl rfl rfl ?_
     refine Tr.m rfl rfl rfl ?_
     refine Tr.fld rfl rfl rfl U39 rfl Sz37 dE _ rfl ?_
     refine Tr.load1 rfl rfl rfl U37 rfl mM (by first | exact Cut.get_fHeads (by first | (simp [hB.l_fPrev, hlst]; done) | exact oK  | exact hW.ok) | exact (by first | rfl | exact Ap (by first | omega | (simp [hB.l_fPrev, hlst]; done) | (simp [hB.l_fPrev, hlst]; omega)) | exact Ax (by first | omega | (simp [hB.l_fPrev, hlst]; done) | (simp [hB.l_fPrev, hlst]; omega)) | exact Bd (by first | omega | (simp [hB.l_fPrev, hlst]; done) | (simp [hB.l_fPrev, hlst]; omega)))) ?_
     refine Tr.lenSl rfl rfl rfl U37 ?_
     refine Tr.gtr rfl rfl rfl rfl rfl ?_
     refine Tr.pick rfl rfl rfl rfl rfl rfl ?_
     refine Tr.nil (Aa ?_)
     first
      | refine Sat.condP rfl (fun hc0 => ?_) (fun hc0 => ?_)
      | refine Sat.condNP rfl (fun hc0 => ?_) (fun hc0 => ?_)
      | refine Sat.cond rfl (fun hc0 => ?_) (fun hc0 => ?_)
     ·
      refine Sat.seq (Sat.region ?_)
      refine Tr.a rfl rfl rfl ?_
      refine Tr.nil (Aa (Sat.ret (As (Ak ?_))))
      refine ⟨_, [], Ae rfl rfl, sP, sP, ?_, rfl⟩
      first
       | exact congrArg i64 (cut_good hnb (headsBad_not (by rw [hll]; exact hg))).symm
       | exact congrArg i64 (cut_bad2 hnb (headsBad_at (k := p.1) oM (by unfold headBad; rw [← hle]; exact decide_eq_true hc2))).symm
       | exact congrArg i64 (cut_bad1 (by unfold cheadB; simp_all)).symm
     ·
      have hnb : ¬ cheadB D.dHeight D.dPrev D.dHeads.length = true := by unfold cheadB; simp_all
      refine Sat.skip (Aa (Sat.seq (Sat.region ?_)))
      first
       | refine Tr.lA rfl rfl rfl U24 rfl A5 mM (by first | (simp [hB.l_fPrev, hlst]; done) | assumption | (rw [Ab, List.length_map]; assumption)) ?_
       | refine Tr.lN _ rfl rfl rfl U24 rfl A5 mM (by exact rfl) (by first | (simp [hB.l_fPrev, hlst]; done) | assumption | (rw [Ab, List.length_map]; assumption)) ?_
      refine Tr.alloc (cs := (Ab (List.replicate 32 0))) rfl Zr24 rfl ?_
      intro n4 hn4 hf4
      first
       | refine Tr.sA rfl rfl rfl rfl cB A5 (by first | (simp [hB.l_fPrev, hlst]; done) | assumption | (rw [Ab, List.length_map]; assumption)) mM (by first | (simp [hB.l_fPrev, hlst]; done) | assumption | (rw [Ab, List.length_map]; assumption)) uU ?_
       | refine Tr.storeN _ rfl rfl rfl rfl rfl cB A5 (by first | (simp [hB.l_fPrev, hlst]; done) | assumption | (rw [Ab, List.length_map]; assumption)) mM (by first | (simp [hB.l_fPrev, hlst]; done) | assumption | (rw [Ab, List.length_map]; assumption)) (by exact rfl) uU ?_
      refine Tr.nil (Aa (Sat.seq (Sat.seq (Sat.region ?_))))
      refine Tr.fld rfl rfl rfl U39 rfl Sz37 dE _ rfl ?_
      refine Tr.load1 rfl rfl rfl U37 rfl mM (by first | exact Cut.get_fHeads (by first | (simp [hB.l_fPrev, hlst]; done) | exact oK  | exact hW.ok) | exact (by first | rfl | exact Ap (by first | omega | (simp [hB.l_fPrev, hlst]; done) | (simp [hB.l_fPrev, hlst]; omega)) | exact Ax (by first | omega | (simp [hB.l_fPrev, hlst]; done) | (simp [hB.l_fPrev, hlst]; omega)) | exact Bd (by first | omega | (simp [hB.l_fPrev, hlst]; done) | (simp [hB.l_fPrev, hlst]; omega)))) ?_
      refine Tr.lenSl rfl rfl rfl U37 ?_
      refine Tr.m rfl rfl rfl ?_
      refine Tr.nil (Aa (Sat.block ?_))
      refine Sat.loop (ι := Nat × List UInt8) (fun p => ⟨[(1, ptr n1 0), (4, ptr n4 0), (40, C.fHeads.v), (41, i64 (C.fHeads.n : Int)), (42, i64 (p.1 : Int))], [⟨n4, Ab p.2, 24, 32⟩, ⟨n1, C.cells, 39, C.cells.length⟩]⟩) (fun p => p.1 ≤ C.fHeads.n ∧ (∀ j, j < p.1 → headBad D.dHeads j = false) ∧ p.2 = lastH D.dHeads p.1 ∧ p.2.length = 32) (fun p => C.fHeads.n - p.1) ((0, List.replicate 32 0)) ?_ ?_ ?_
      · exact ⟨Nat.zero_le _, fun j hj => absurd hj (Nat.not_lt_zero _), rfl, by simp⟩
      · exact Ao (wk1 rfl (wk1 rfl (wk1 rfl (wk1 rfl (wk1 rfl wk0))))) (wh1 mM (wh1 mM wh0)) nD
      ·
       rintro p ⟨hk, hg, hle, hlst⟩
       refine Sat.seq (Sat.region ?_)
       refine Tr.lss rfl rfl rfl rfl rfl ?_
       refine Tr.nil (Aa (Sat.seq ?_))
       first
        | refine Sat.condP rfl (fun hc1 => ?_) (fun hc1 => ?_)
        | refine Sat.condNP rfl (fun hc1 => ?_) (fun hc1 => ?_)
        | refine Sat.cond rfl (fun hc1 => ?_) (fun hc1 => ?_)
       ·
        have hk2 : p.1 < C.fHeads.n := by omega
        obtain ⟨b, o, hbp, hbs⟩ := hW.fHeads.see.at (by rw [flatB_length hW.fHeads.row]; omega)
        have hr0 : (D.dHeads.getD p.1 []).length = 32 := getD_len hW.fHeads.row oM
        refine Sat.skip (Aa (Sat.seq (Sat.block (Sat.seq (Sat.region ?_)))))
        refine Tr.idxSlP 32 rfl rfl rfl hbp rfl U37 A5 p.1 rfl oM ?_
        refine Tr.loadEN (Ab (D.dHeads.getD (p.1) [])) rfl rfl rfl U24 rfl A5 sP (by rw [Ab, List.length_map]; exact getD_len hW.fHeads.row (by rw [hW.fHeads.len]; omega)) (sees_row hW.fHeads.row hbs (by rw [hW.fHeads.len]; omega)) ?_
        refine Tr.alloc (cs := (Ab (List.replicate 32 0))) rfl Zr24 rfl ?_
        intro n6 hn6 hf6
        first
         | refine Tr.sA rfl rfl rfl rfl cB A5 (by first | (simp [hB.l_fPrev, hlst]; done) | assumption | (rw [Ab, List.length_map]; assumption)) mM (by first | (simp [hB.l_fPrev, hlst]; done) | assumption | (rw [Ab, List.length_map]; assumption)) uU ?_
         | refine Tr.storeN _ rfl rfl rfl rfl rfl cB A5 (by first | (simp [hB.l_fPrev, hlst]; done) | assumption | (rw [Ab, List.length_map]; assumption)) mM (by first | (simp [hB.l_fPrev, hlst]; done) | assumption | (rw [Ab, List.length_map]; assumption)) (by exact rfl) uU ?_
        refine Tr.nil (Aa (Sat.seq (Sat.seq (Sat.region ?_))))
        first
         | refine Tr.lA rfl rfl rfl U24 rfl A5 mM (by first | (simp [hB.l_fPrev, hlst]; done) | assumption | (rw [Ab, List.length_map]; assumption)) ?_
         | refine Tr.lN _ rfl rfl rfl U24 rfl A5 mM (by exact rfl) (by first | (simp [hB.l_fPrev, hlst]; done) | assumption | (rw [Ab, List.length_map]; assumption)) ?_
        first
         | refine Tr.lA rfl rfl rfl U24 rfl A5 mM (by first | (simp [hB.l_fPrev, hlst]; done) | assumption | (rw [Ab, List.length_map]; assumption)) ?_
         | refine Tr.lN _ rfl rfl rfl U24 rfl A5 mM (by exact rfl) (by first | (simp [hB.l_fPrev, hlst]; done) | assumption | (rw [Ab, List.length_map]; assumption)) ?_
        refine Tr.cV rfl rfl rfl rfl Body101 (block_cmp _ _ hlst hr0) tV ?_
        refine Tr.geq rfl rfl rfl rfl rfl ?_
        refine Tr.nil (Aa ?_)
        first
         | refine Sat.condP rfl (fun hc2 => ?_) (fun hc2 => ?_)
         | refine Sat.condNP rfl (fun hc2 => ?_) (fun hc2 => ?_)
         | refine Sat.cond rfl (fun hc2 => ?_) (fun hc2 => ?_)
        ·
         refine Sat.seq (Sat.region ?_)
         refine Tr.a rfl rfl rfl ?_
         refine Tr.nil (Aa (Sat.ret (As (bl_r (As (As (bl_r (As (Ak ?_)))))))))
         refine ⟨_, [], Ae rfl rfl, sP, sP, ?_, rfl⟩
         first
          | exact congrArg i64 (cut_good hnb (headsBad_not (by rw [hll]; exact hg))).symm
          | exact congrArg i64 (cut_bad2 hnb (headsBad_at (k := p.1) oM (by unfold headBad; rw [← hle]; exact decide_eq_true hc2))).symm
          | exact congrArg i64 (cut_bad1 (by unfold cheadB; simp_all)).symm
        ·
         have hgk : headBad D.dHeads p.1 = false := by unfold headBad; rw [← hle]; exact decide_eq_false hc2
         refine Sat.skip (Aa (Sat.region ?_))
         first
          | refine Tr.lA rfl rfl rfl U24 rfl A5 mM (by first | (simp [hB.l_fPrev, hlst]; done) | assumption | (rw [Ab, List.length_map]; assumption)) ?_
          | refine Tr.lN _ rfl rfl rfl U24 rfl A5 mM (by exact rfl) (by first | (simp [hB.l_fPrev, hlst]; done) | assumption | (rw [Ab, List.length_map]; assumption)) ?_
         first
          | refine Tr.sA rfl rfl rfl rfl cB A5 (by first | (simp [hB.l_fPrev, hlst]; done) | assumption | (rw [Ab, List.length_map]; assumption)) mM (by first | (simp [hB.l_fPrev, hlst]; done) | assumption | (rw [Ab, List.length_map]; assumption)) uU ?_
          | refine Tr.storeN _ rfl rfl rfl rfl rfl cB A5 (by first | (simp [hB.l_fPrev, hlst]; done) | assumption | (rw [Ab, List.length_map]; assumption)) mM (by first | (simp [hB.l_fPrev, hlst]; done) | assumption | (rw [Ab, List.length_map]; assumption)) (by exact rfl) uU ?_
         refine Tr.nil (Bu (Aa (Sat.region ?_)))
         refine Tr.aI rfl rfl rfl rfl oM ?_
         refine Tr.m rfl rfl rfl ?_
         refine Tr.nil (Aa ?_)
         exact ⟨(p.1 + 1, D.dHeads.getD p.1 []), ⟨by simp only []; omega, fun j hj => by rcases Nat.lt_succ_iff_lt_or_eq.1 hj with h | rfl; exact hg j h; exact hgk, (lastH_succ _ _).symm, hr0⟩, by simp only []; omega, Ao (wk1 rfl (wk1 rfl (wk1 rfl (wk1 rfl (wk1 rfl wk0))))) (wh1 mM (wh1 mM wh0)) nD⟩
       ·
        have hpe : p.1 = C.fHeads.n := by omega
        rw [hpe] at hg
        refine Sat.exit (A9 (A9 (bl_h (Aa (Sat.seq (Sat.region ?_))))))
        refine Tr.a rfl rfl rfl ?_
        refine Tr.nil (Aa (Sat.ret (Ak ?_)))
        refine ⟨_, [], Ae rfl rfl, sP, sP, ?_, rfl⟩
        first
         | exact congrArg i64 (cut_good hnb (headsBad_not (by rw [hll]; exact hg))).symm
         | exact congrArg i64 (cut_bad2 hnb (headsBad_at (k := p.1) oM (by unfold headBad; rw [← hle]; exact decide_eq_true hc2))).symm
         | exact congrArg i64 (cut_bad1 (by unfold cheadB; simp_all)).symm

end Go.Proofs.YtkfhpmidcbmofaaGreat
end

section
namespace Go.Proofs.YtkfhpmidcbmofaaGreat
open Go Hw

def fstBad {D : Type} (f : D → Bool) (ds : List D) : Int := if ds.any f = true then ((ds.findIdx f : Nat) : Int) else -1
theorem fstBad_none {D : Type} {f : D → Bool} {ds : List D} (h : ∀ j, j < ds.length → (ds.map f)[j]? = some false) : fstBad f ds = -1 := by
  refine if_neg fun e => ?_
  obtain ⟨x, hx, hf⟩ := List.any_eq_true.1 e
  obtain ⟨j, hj, rfl⟩ := List.getElem_of_mem hx
  have := h j hj
  rw [List.getElem?_map, List.getElem?_eq_getElem hj] at this
  simp [hf] at this
theorem fstBad_at {D : Type} {f : D → Bool} {ds : List D} {k : Nat} (h : ∀ j, j < k → (ds.map f)[j]? = some false) (hk : (ds.map f)[k]? = some true) : fstBad f ds = (k : Int) := by
  rw [List.getElem?_map] at hk
  obtain ⟨x, hx, hf⟩ := Option.map_eq_some_iff.1 hk
  obtain ⟨hlt, rfl⟩ := List.getElem?_eq_some_iff.1 hx
  unfold fstBad
  rw [if_pos (List.any_eq_true.2 ⟨_, List.getElem_mem hlt, hf⟩)]
  congr 1
  rw [List.findIdx_eq hlt]
  refine ⟨hf, fun j hj => ?_⟩
  have := h j hj
  rw [List.getElem?_map, List.getElem?_eq_getElem oM] at this
  simpa using this
theorem fstBad_ge {D : Type} (f : D → Bool) (ds : List D) : decide ((0 : Int) ≤ fstBad f ds) = ds.any f := by
  unfold fstBad
  split
  · rename_i h
    rw [h]; simp
  · rename_i h
    rw [Bool.not_eq_true] at h
    rw [h]; simp
theorem any_all {D : Type} (f : D → Bool) (ds : List D) : (!ds.any fun d => !f d) = ds.all f := by simp [List.any_eq_not_all_not]

end Go.Proofs.YtkfhpmidcbmofaaGreat
end

section
namespace Go.Proofs.YtkfhpmidcbmofaaGreat
open Go Hw

def DCut.body (D : DCut) (k : Nat) : List UInt8 := Be D.dHeight ++ D.dPrev ++ Be (UInt64.ofNat D.dHeads.length) ++ (D.dHeads.take k).flatten
def DCut.bytes (D : DCut) : List UInt8 := D.body D.dHeads.length
def cutR (D : DCut) : List UInt8 := if D.check = 0 then D.bytes else []
theorem DCut.small {D : DCut} (h : D.check = 0) : D.dHeads.length ≤ 32 := by
  unfold DCut.check at h
  by_cases h1 : cheadB D.dHeight D.dPrev D.dHeads.length = true
  · rw [if_pos h1] at h; cases h
  · unfold cheadB at h1
    simp at h1
    omega
theorem DCut.body_len {D : DCut} (hp : D.dPrev.length = 32) (hr : ∀ l ∈ D.dHeads, l.length = 32) {k : Nat} (hk : k ≤ D.dHeads.length) : (D.body k).length = szN D.dHeight.toNat + 32 + szN (UInt64.ofNat D.dHeads.length).toNat + k * 32 := by
  simp only [DCut.body, List.length_append, A3, hp, flatten_take_len hr hk]
theorem DCut.body_step {D : DCut} {k : Nat} (hk : k < D.dHeads.length) : D.body (k + 1) = D.body k ++ D.dHeads.getD k [] := by
  rw [DCut.body, flatten_take_step hk, ← List.append_assoc]; rfl
theorem cutb_start {C : Cut} {D : DCut} {W : World} {s : Sl} {bl : List Blk} {E : TypeId} (hW : CutIs W C D) (h : Acc s bl (Ab ([] ++ Be C.fHeight) ++ Ab C.fPrev ++ Ab ([] ++ Be (UInt64.ofNat C.fHeads.n))) E (0 + szN C.fHeight.toNat + 32 + (0 + szN (UInt64.ofNat C.fHeads.n).toNat)) 1) : Acc s bl (Ab (D.body 0)) E (szN D.dHeight.toNat + 32 + szN (UInt64.ofNat D.dHeads.length).toNat + 0 * 32) 1 := by
  have e : Ab (D.body 0) = Ab ([] ++ Be C.fHeight) ++ Ab C.fPrev ++ Ab ([] ++ Be (UInt64.ofNat C.fHeads.n)) := by simp [DCut.body, hW.fHeight, hW.fPrev, hW.fHeads.len, Ab]
  rw [e, ← hW.fHeight, hW.fHeads.len, show szN C.fHeight.toNat + 32 + szN (UInt64.ofNat C.fHeads.n).toNat + 0 * 32 = 0 + szN C.fHeight.toNat + 32 + (0 + szN (UInt64.ofNat C.fHeads.n).toNat) by omega]
  exact h
theorem DCut.bytes_small {D : DCut} (h : D.check = 0) (hp : D.dPrev.length = 32) (hr : ∀ l ∈ D.dHeads, l.length = 32) : D.bytes.length ≤ 2000 := by
  have := D.small h
  have hz1 := Bb D.dHeight.toNat
  have hz2 := Bb (UInt64.ofNat D.dHeads.length).toNat
  rw [DCut.bytes, DCut.body_len hp hr (Nat.le_refl _)]
  omega

theorem cut_bytes (C : Cut) (D : DCut) : Meets Tryz.prog 30 [agg C.cells] [] (fun W => CutIs W C D) (fun v out => ∃ s, v = .tuple #[s.v, i64 D.check] ∧ Acc s out (Ab (cutR D)) 5 (cutR D).length 1) := by
 intro W hW
 have hB := hW.ok
 have hll := hW.fHeads.len
 have hz1 := Bb C.fHeight.toNat
 have hz2 := Bb (UInt64.ofNat C.fHeads.n).toNat
 have hz3 := Bb D.dHeight.toNat
 have hz4 := Bb (UInt64.ofNat D.dHeads.length).toNat
 refine Aj Tryz.func30 rfl 39 Tryz.ntmps30 rfl ?_
 refine Sat.seq (Sat.region ?_)
 refine Tr.boxA rfl rfl ?_
 intro n1 hn1 hf1
 refine Tr.a rfl rfl rfl ?_
 refine Tr.a rfl rfl rfl ?_
 refine Tr.nil (Aa (Sat.seq (Sat.seq (Sat.region ?_))))
 refine Tr.lA rfl rfl rfl U39 rfl Sz39 mM (Cut.length (by first | (simp [hB.l_fPrev]; done) | exact oK  | exact hW.ok)) ?_
 refine Tr.cV rfl rfl rfl rfl Body54 (cut_check C D) (fun w h => hW.ext h rfl) ?_
 refine Tr.a rfl rfl rfl ?_
 refine Tr.nil (Aa (Sat.seq (Sat.region ?_)))
 refine Tr.m rfl rfl rfl ?_
 refine Tr.nei rfl rfl rfl rfl rfl ?_
 refine Tr.nil (Aa ?_)
 first
  | refine Sat.condP rfl (fun hc0 => ?_) (fun hc0 => ?_)
  | refine Sat.condNP rfl (fun hc0 => ?_) (fun hc0 => ?_)
  | refine Sat.cond rfl (fun hc0 => ?_) (fun hc0 => ?_)
 ·
  refine Sat.seq (Sat.region ?_)
  refine Tr.m rfl rfl rfl ?_
  refine Tr.a rfl rfl rfl ?_
  refine Tr.a rfl rfl rfl ?_
  refine Tr.nil (Aa (Sat.ret (As (Ak ?_))))
  refine Al (out := []) (res_tmp2 rfl rfl rfl) Ag ?_
  exact ⟨Sl.nil, rfl, by rw [show cutR D = [] from if_neg hc0]; exact Acc.none⟩
 ·
  have hc : D.check = 0 := by omega
  have hsm := D.small hc
  refine Sat.skip (Aa (Sat.seq (Sat.region ?_)))
  refine Tr.fld rfl rfl rfl U39 rfl Bp dE _ rfl ?_
  refine Tr.load1 rfl rfl rfl U22 rfl mM (by first | exact Cut.get_fHeight (by first | (simp [hB.l_fPrev]; done) | exact oK  | exact hW.ok) | exact (by first | rfl | exact Ap (by first | omega | (simp [hB.l_fPrev]; done) | (simp [hB.l_fPrev]; omega)) | exact Ax (by first | omega | (simp [hB.l_fPrev]; done) | (simp [hB.l_fPrev]; omega)) | exact Bd (by first | omega | (simp [hB.l_fPrev]; done) | (simp [hB.l_fPrev]; omega)))) ?_
  refine Tr.call4 rfl rfl rfl rfl rfl Body80 (oct_Number none 0 0 [] (C.fHeight) rfl (fun _ => rfl) oM) (fun _ _ => SeesP.nil) ?_
  rintro v15 out15 ⟨q15, c15, rfl, hc15, rfl⟩
  refine Tr.a rfl rfl rfl ?_
  refine Tr.nil (Aa (Sat.seq (Sat.region ?_)))
  refine Tr.m rfl rfl rfl ?_
  refine Tr.fld rfl rfl rfl U39 rfl A5 dE _ rfl ?_
  refine Tr.sliceArr rfl rfl rfl U24 Sz5 ?_
  refine Tr.appendAcc (z := u8 0) (by' := 1) (Ab C.fPrev) rfl rfl rfl rfl rfl U30 U30 Sz5 Zr5 (by unfold By; kernel_rfl) rfl (Acc.some (cells := Ab ([] ++ Be C.fHeight)) hc15 (by simp [A3])) sG (fun W2 W2h => SeesP.of (sees_part W2h mM (Cut.see_fPrev hB))) (fun e => by cases e) (A7 _) oM oM (by simp [hB.l_fPrev]) ?_
  intro s19 bl19 hac19
  refine Tr.a rfl rfl rfl ?_
  refine Tr.nil (Aa (Sat.seq (Sat.region ?_)))
  refine Tr.m rfl rfl rfl ?_
  refine Tr.fld rfl rfl rfl U39 rfl Sz37 dE _ rfl ?_
  refine Tr.load1 rfl rfl rfl U37 rfl mM (by first | exact Cut.get_fHeads (by first | (simp [hB.l_fPrev]; done) | exact oK  | exact hW.ok) | exact (by first | rfl | exact Ap (by first | omega | (simp [hB.l_fPrev]; done) | (simp [hB.l_fPrev]; omega)) | exact Ax (by first | omega | (simp [hB.l_fPrev]; done) | (simp [hB.l_fPrev]; omega)) | exact Bd (by first | omega | (simp [hB.l_fPrev]; done) | (simp [hB.l_fPrev]; omega)))) ?_
  refine Tr.lenSl rfl rfl rfl U37 ?_
  refine Tr.conv rfl rfl rfl U3 U22 (Bl _) ?_
  rw [word_nat (n := C.fHeads.n) oM]
  refine Tr.call4 rfl rfl rfl rfl rfl Body80 (oct_Number none 0 0 [] (UInt64.ofNat C.fHeads.n) rfl (fun _ => rfl) oM) (fun _ _ => SeesP.nil) ?_
  rintro v25 out25 ⟨q25, c25, rfl, hc25, rfl⟩
  refine Tr.appendAcc (z := u8 0) (by' := 1) (Ab ([] ++ Be (UInt64.ofNat C.fHeads.n))) rfl rfl rfl rfl rfl U30 U30 Sz5 Zr5 (by unfold By; kernel_rfl) rfl hac19 sG (fun w h => SeesP.of (Ay h mM)) (fun e => by cases e) (A7 _) oM oM (by simp [A3]) ?_
  intro s26 bl26 hac26
  refine Tr.a rfl rfl rfl ?_
  refine Tr.nil (Aa (Sat.seq (Sat.seq (Sat.region ?_))))
  refine Tr.fld rfl rfl rfl U39 rfl Sz37 dE _ rfl ?_
  refine Tr.load1 rfl rfl rfl U37 rfl mM (by first | exact Cut.get_fHeads (by first | (simp [hB.l_fPrev]; done) | exact oK  | exact hW.ok) | exact (by first | rfl | exact Ap (by first | omega | (simp [hB.l_fPrev]; done) | (simp [hB.l_fPrev]; omega)) | exact Ax (by first | omega | (simp [hB.l_fPrev]; done) | (simp [hB.l_fPrev]; omega)) | exact Bd (by first | omega | (simp [hB.l_fPrev]; done) | (simp [hB.l_fPrev]; omega)))) ?_
  refine Tr.lenSl rfl rfl rfl U37 ?_
  refine Tr.m rfl rfl rfl ?_
  refine Tr.nil (Aa (Sat.block ?_))
  refine Sat.loop (ι := Nat × Sl × List Blk) (fun p => ⟨[(1, ptr n1 0), (5, p.2.1.v), (28, C.fHeads.v), (29, i64 (C.fHeads.n : Int)), (30, i64 (p.1 : Int))], (p.2.2 ++ (⟨n1, C.cells, 39, C.cells.length⟩ :: []))⟩) (fun p => p.1 ≤ C.fHeads.n ∧ Acc p.2.1 p.2.2 (Ab (D.body p.1)) 5 (szN D.dHeight.toNat + 32 + szN (UInt64.ofNat D.dHeads.length).toNat + p.1 * 32) 1) (fun p => C.fHeads.n - p.1) ((0, s26, bl26)) ?_ ?_ ?_
  · exact ⟨Nat.zero_le _, cutb_start hW hac26⟩
  · exact Am (wk1 rfl (wk1 rfl (wk1 rfl (wk1 rfl (wk1 rfl wk0))))) (Ac sG (Ad rM Ag))
  ·
   rintro p ⟨hp1, hap⟩
   refine Sat.seq (Sat.region ?_)
   refine Tr.lss rfl rfl rfl rfl rfl ?_
   refine Tr.nil (Aa (Sat.seq ?_))
   first
    | refine Sat.condP rfl (fun hc1 => ?_) (fun hc1 => ?_)
    | refine Sat.condNP rfl (fun hc1 => ?_) (fun hc1 => ?_)
    | refine Sat.cond rfl (fun hc1 => ?_) (fun hc1 => ?_)
   ·
    have hk2 : p.1 < C.fHeads.n := by omega
    obtain ⟨b, o, hbp, hbs⟩ := hW.fHeads.see.at (by rw [flatB_length hW.fHeads.row]; omega)
    have hr0 : (D.dHeads.getD p.1 []).length = 32 := getD_len hW.fHeads.row oM
    refine Sat.skip (Aa (Sat.seq (Sat.block (Sat.seq (Sat.region ?_)))))
    refine Tr.idxSlP 32 rfl rfl rfl hbp rfl U37 A5 p.1 rfl oM ?_
    refine Tr.loadEN (Ab (D.dHeads.getD (p.1) [])) rfl rfl rfl U24 rfl A5 sP (by rw [Ab, List.length_map]; exact getD_len hW.fHeads.row (by rw [hW.fHeads.len]; omega)) (sees_row hW.fHeads.row hbs (by rw [hW.fHeads.len]; omega)) ?_
    refine Tr.alloc (cs := (Ab (List.replicate 32 0))) rfl Zr24 rfl ?_
    intro n7 hn7 hf7
    first
     | refine Tr.sA rfl rfl rfl rfl cB A5 (by first | (simp [hB.l_fPrev]; done) | assumption | (rw [Ab, List.length_map]; assumption)) mM (by first | (simp [hB.l_fPrev]; done) | assumption | (rw [Ab, List.length_map]; assumption)) uU ?_
     | refine Tr.storeN _ rfl rfl rfl rfl rfl cB A5 (by first | (simp [hB.l_fPrev]; done) | assumption | (rw [Ab, List.length_map]; assumption)) mM (by first | (simp [hB.l_fPrev]; done) | assumption | (rw [Ab, List.length_map]; assumption)) (by exact rfl) uU ?_
    refine Tr.nil (Aa (Sat.region ?_))
    refine Tr.m rfl rfl rfl ?_
    refine Tr.sliceArr rfl rfl rfl U24 Sz5 ?_
    refine Tr.appendAcc (z := u8 0) (by' := 1) (Ab (D.dHeads.getD p.1 [])) rfl rfl rfl rfl rfl U30 U30 Sz5 Zr5 (by unfold By; kernel_rfl) rfl hap sG (fun w h => SeesP.of (Ay h mM)) (fun e => by cases e) (A7 _) oM oM (by rw [Ab, List.length_map, hr0]) ?_
    intro s36 bl36 hac36
    refine Tr.a rfl rfl rfl ?_
    refine Tr.nil (Bu (Aa (Sat.region ?_)))
    refine Tr.aI rfl rfl rfl rfl oM ?_
    refine Tr.m rfl rfl rfl ?_
    refine Tr.nil (Aa ?_)
    refine ⟨(p.1 + 1, s36, bl36), ⟨by simp only []; omega, ?_⟩, by simp only []; omega, Am (wk1 rfl (wk1 rfl (wk1 rfl (wk1 rfl (wk1 rfl wk0))))) (Ac sG (Ad rM Ag))⟩
    rw [show (szN D.dHeight.toNat + 32 + szN (UInt64.ofNat D.dHeads.length).toNat + (p.1 + 1) * 32) = (szN D.dHeight.toNat + 32 + szN (UInt64.ofNat D.dHeads.length).toNat + p.1 * 32) + 32 by omega, DCut.body_step oM, bytesV_app]
    exact hac36
   ·
    have hpe : p.1 = C.fHeads.n := by omega
    refine Sat.exit (A9 (A9 (bl_h (Aa (Sat.seq (Sat.region ?_))))))
    refine Tr.m rfl rfl rfl ?_
    refine Tr.a rfl rfl rfl ?_
    refine Tr.a rfl rfl rfl ?_
    refine Tr.nil (Aa (Sat.ret (Ak ?_)))
    refine Al (out := (p.2.2 ++ [])) (res_tmp2 rfl rfl rfl) (Ac sG Ag) ?_
    refine ⟨p.2.1, by rw [hc], ?_⟩
    rw [show cutR D = D.bytes from if_pos hc]
    rw [hpe, ← hll] at hap
    rw [show D.bytes.length = szN D.dHeight.toNat + 32 + szN (UInt64.ofNat D.dHeads.length).toNat + D.dHeads.length * 32 from DCut.body_len (hW.fPrev ▸ hB.l_fPrev) hW.fHeads.row (Nat.le_refl _), List.append_nil]
    exact hap

def cnameD (D : DCut) : List UInt8 := if D.check = 0 then sha256 D.bytes else List.replicate 32 0
theorem Af (D : DCut) : (cnameD D).length = 32 := by
  unfold cnameD
  split
  · exact sha256_length _
  · rfl

theorem cut_name (C : Cut) (D : DCut) : Meets Tryz.prog 104 [agg C.cells] [] (fun W => CutIs W C D) (fun v out => v = agg (Ab (cnameD D)) ∧ out = []) := by
 intro W hW
 have hok := hW.ok
 obtain ⟨k, hk⟩ : ∃ k, Hid (kW = k) := ⟨_, ⟨rfl⟩⟩
 obtain ⟨s0, hs0⟩ : ∃ s0, Hid (xorUp 8 = s0) := ⟨_, ⟨rfl⟩⟩
 obtain ⟨G, hG⟩ : ∃ G, Hid (shaTag = G) := ⟨_, ⟨rfl⟩⟩
 obtain ⟨i0, hi0⟩ : ∃ i0, Hid (allW k s0 G = i0) := ⟨_, ⟨rfl⟩⟩
 have hk80 : k.length = 80 := by rw [← hk.out]; rfl
 have hs8 : s0.length = 8 := by rw [← hs0.out]; exact xorUp_length 8
 have hGl : G.length = 11 := by rw [← hG.out]; rfl
 have hi8 : i0.length = 8 := by rw [← hi0.out, allW_length]; exact hs8
 obtain ⟨r, hr⟩ : ∃ r, Hid (allW k i0 (D.bytes) = r) := ⟨_, ⟨rfl⟩⟩
 obtain ⟨s, hs⟩ : ∃ s, Hid (sumUp r 64 = s) := ⟨_, ⟨rfl⟩⟩
 have hsd : Hid (s.take 32 = sha256 (D.bytes)) := ⟨by rw [← hs.out, ← hr.out, ← hi0.out, ← hG.out, ← hs0.out, ← hk.out]; rfl⟩
 have hs64 : s.length = 64 := by rw [← hs.out]; exact sumUp_length r 64
 have hs32 : (s.take 32).length = 32 := by rw [List.length_take, hs64]; rfl
 refine Aj Tryz.func104 rfl 16 Tryz.ntmps104 rfl ?_
 refine Sat.seq (Sat.region ?_)
 refine Tr.boxA rfl rfl ?_
 intro n1 hn1 hf1
 refine Tr.alloc (cs := (Ab (List.replicate 32 0))) rfl Zr24 rfl ?_
 intro n2 hn2 hf2
 refine Tr.nil (Aa (Sat.seq (Sat.region ?_)))
 refine Tr.lA rfl rfl rfl U39 rfl Sz39 mM (Cut.length (by first | (simp [hs32, hs64]; done) | exact oK  | exact hW.ok)) ?_
 refine Tr.call4 rfl rfl rfl rfl rfl Body30 (cut_bytes C D) (fun w h => hW.ext h rfl) ?_
 rintro v7 out7 ⟨s7, rfl, hac7⟩
 refine Tr.m rfl rfl rfl ?_
 refine Tr.eX rfl rfl rfl rfl ?_
 refine Tr.eX rfl rfl rfl rfl ?_
 refine Tr.a rfl rfl rfl ?_
 refine Tr.a rfl rfl rfl ?_
 refine Tr.nil (Aa (Sat.seq (Sat.seq (Sat.region ?_))))
 refine Tr.m rfl rfl rfl ?_
 refine two (fun r hr k => Tr.nei rfl rfl rfl rfl hr k) (fun hs2_10 => ?_) (fun hs2_10 => ?_)
 ·
  first | have hs2_1 := of_decide_eq_true hs2_10 | have hs2_1 := of_decide_eq_false hs2_10 | have hs2_1 := nd_t hs2_10 | have hs2_1 := nd_f hs2_10 | have hs2_1 := hs2_10
  skip
  refine Tr.nil (Aa ?_)
  refine Sat.cond_t rfl rfl ?_
  refine Sat.seq (Sat.region ?_)
  refine Tr.build (cs := Ab (List.replicate 32 0)) rfl rfl rfl (fun w => by kernel_rfl) ?_
  first
   | refine Tr.sA rfl rfl rfl rfl cB A5 (by first | (simp [hs32, hs64]; done) | assumption | (rw [Ab, List.length_map]; assumption)) mM (by first | (simp [hs32, hs64]; done) | assumption | (rw [Ab, List.length_map]; assumption)) uU ?_
   | refine Tr.storeN _ rfl rfl rfl rfl rfl cB A5 (by first | (simp [hs32, hs64]; done) | assumption | (rw [Ab, List.length_map]; assumption)) mM (by first | (simp [hs32, hs64]; done) | assumption | (rw [Ab, List.length_map]; assumption)) (by exact rfl) uU ?_
  refine Tr.nil (Aa (Sat.ret (As (Ak ?_))))
  refine ⟨_, [], res_cell rfl rfl U24 rfl A5 mM (by simp [hs32, hs64]), sP, sP, ?_, rfl⟩
  first
   | (rw [cnameD, if_neg hs2_1]; done)
   | (rw [cnameD, if_pos h0, hsd.out]; done)
 ·
  first | have hs2_1 := of_decide_eq_true hs2_10 | have hs2_1 := of_decide_eq_false hs2_10 | have hs2_1 := nd_t hs2_10 | have hs2_1 := nd_f hs2_10 | have hs2_1 := hs2_10
  have h0 : D.check = 0 := by omega
  have hb7 : cutR D = D.bytes := if_pos h0
  refine Tr.nil (Aa ?_)
  refine Sat.cond_f rfl rfl ?_
  refine Sat.skip (Aa (Sat.seq (Sat.region ?_)))
  refine Tr.m rfl rfl rfl ?_
  refine Tr.mkRow (z := .slice none 0 0) [s7.v] [s7.v] rfl rfl rfl Tryz.underlying189 Sz30 Zr30 rfl rfl (by intro v hv; rw [List.mem_singleton.1 hv]; rfl) dE rfl ?_
  intro q14
  refine Tr.cV rfl rfl rfl rfl Body135 (sha_Sum k s0 i0 G hk hk80 hs0 hs8 hG hGl hi0 hi8 (some ⟨q14, 0, none⟩) 1 1 [s7] [D.bytes] rfl rfl (fun j hj => (by obtain rfl : j = 0 := oM; exact ⟨by simp [hac7.num, hb7], fun e => hac7.nil e⟩)) D.bytes sP (by have := D.bytes_small h0 (hW.fPrev ▸ hW.ok.l_fPrev) hW.fHeads.row; omega) dE r hr s hs) (fun w h => ⟨SeesP.of (Ay h mM), fun j hj => (by obtain rfl : j = 0 := oM; exact (by have := hac7.see (Lies.of h iN); rw [hb7] at this; exact this))⟩) ?_
  first
   | refine Tr.sA rfl rfl rfl rfl cB A5 (by first | (simp [hs32, hs64]; done) | assumption | (rw [Ab, List.length_map]; assumption)) mM (by first | (simp [hs32, hs64]; done) | assumption | (rw [Ab, List.length_map]; assumption)) uU ?_
   | refine Tr.storeN _ rfl rfl rfl rfl rfl cB A5 (by first | (simp [hs32, hs64]; done) | assumption | (rw [Ab, List.length_map]; assumption)) mM (by first | (simp [hs32, hs64]; done) | assumption | (rw [Ab, List.length_map]; assumption)) (by exact rfl) uU ?_
  refine Tr.nil (Aa (Sat.ret (Ak ?_)))
  refine ⟨_, [], res_cell rfl rfl U24 rfl A5 mM (by simp [hs32, hs64]), sP, sP, ?_, rfl⟩
  first
   | (rw [cnameD, if_neg hs2_1]; done)
   | (rw [cnameD, if_pos h0, hsd.out]; done)

end Go.Proofs.YtkfhpmidcbmofaaGreat
end

section
namespace Go.Proofs.YtkfhpmidcbmofaaGreat
open Go Hw

def DCert.vote (D : DCert) (k : Nat) : Vote := D.dVotes.getD k Vote.zero
def DCert.head (D : DCert) : Bool := (!decide (D.dCut.check = 0)) || (decide ((D.dVotes.length : Int) < 1) || decide ((16 : Int) < (D.dVotes.length : Int)))
def DCert.bad (D : DCert) (k : Nat) : Prop := ¬ Bk (D.vote k) = 0 ∨ ¬ (D.vote k).fPhase = 3 ∨ ¬ ((D.vote k).fHeight.toNat : Int) = (D.dCut.dHeight.toNat : Int) ∨ ¬ (D.vote k).fValue = cnameD D.dCut ∨ ¬ ((D.vote k).fRound.toNat : Int) = ((D.vote 0).fRound.toNat : Int) ∨ (0 < k ∧ (0 : Int) ≤ cmpB (D.vote (k - 1)).fVoter (D.vote k).fVoter)
open Classical in
noncomputable def DCert.check (D : DCert) : Int := if D.head = true ∨ ∃ k, k < D.dVotes.length ∧ D.bad k then 2 else 0
theorem cert_bad1 {D : DCert} (h : D.head = true) : D.check = 2 := if_pos (.inl h)
theorem cert_bad2 {D : DCert} {k : Nat} (h : k < D.dVotes.length) (hb : D.bad k) : D.check = 2 := if_pos (.inr ⟨k, h, hb⟩)
theorem cert_good {D : DCert} (h : ¬ D.head = true) (hb : ∀ j, j < D.dVotes.length → ¬ D.bad j) : D.check = 0 := if_neg fun e => e.elim h fun ⟨j, h1, h2⟩ => hb j h1 h2
theorem sees_sub {w : World} {b o off : Nat} {cs l : List Value} (hs : Sees w b o cs) (h : ∀ (j : Nat) (v : Value), l[j]? = some v → cs[off + j]? = some v) : Sees w b (o + off) l := fun j v hj => by
  have := hs _ v (h j v hj)
  rwa [← Nat.add_assoc] at this
theorem vote_is {D : DCert} {k : Nat} {V : Vote} (h : D.dVotes[k]? = some V) : D.vote k = V := by simp [DCert.vote, List.getD_eq_getElem?_getD, h]

theorem cert_check (C : Cert) (D : DCert) : Meets Tryz.prog 50 [agg C.cells] [] (fun W => CertIs W C D) (fun v out => v = i64 D.check ∧ out = []) := by
 intro W hW
 obtain ⟨rs, hV⟩ := hW.fVotes
 have hok := hW.ok
 have hmax := hV.max
 simp only [maxLen] at hmax
 have hcap := hV.cap
 have hnd := hV.nd
 have ehh := hW.fCut.fHeight
 refine Aj Tryz.func50 rfl 79 Tryz.ntmps50 rfl ?_
 refine Sat.seq (Sat.region ?_)
 refine Tr.boxA rfl rfl ?_
 intro n1 hn1 hf1
 refine Tr.a rfl rfl rfl ?_
 refine Tr.nil (Aa (Sat.seq (Sat.seq (Sat.region ?_))))
 refine Tr.fld rfl rfl rfl U80 rfl Sz39 dE _ rfl ?_
 refine Tr.lN (Cut.cells _) rfl rfl rfl U39 rfl Sz39 mM (Cert.row_fCut (by first | (simp [Af, hW.fCut.ok.l_fPrev]; done) | exact oK  | exact hok | exact hVk | exact hok.o_fCut)) (Cert.rl_fCut (by first | (simp [Af, hW.fCut.ok.l_fPrev]; done) | exact oK  | exact hok | exact hVk | exact hok.o_fCut)) ?_
 refine Tr.cV rfl rfl rfl rfl Body54 (cut_check C.fCut D.dCut) (fun w h => hW.fCut.ext h rfl) ?_
 refine two (fun r hr k => Tr.nei rfl rfl rfl rfl hr k) (fun hs1_30 => ?_) (fun hs1_30 => ?_)
 ·
  first | have hs1_3 := of_decide_eq_true hs1_30 | have hs1_3 := of_decide_eq_false hs1_30 | have hs1_3 := nd_t hs1_30 | have hs1_3 := nd_f hs1_30 | have hs1_3 := hs1_30
  refine Tr.m rfl rfl rfl ?_
  refine Tr.skp rfl rfl ?_
  refine Tr.skp rfl rfl ?_
  refine Tr.skp rfl rfl ?_
  refine Tr.skp rfl rfl ?_
  refine Tr.pick rfl rfl rfl rfl rfl rfl ?_
  refine Tr.m rfl rfl rfl ?_
  refine Tr.skp rfl rfl ?_
  refine Tr.skp rfl rfl ?_
  refine Tr.skp rfl rfl ?_
  refine Tr.skp rfl rfl ?_
  refine Tr.pick rfl rfl rfl rfl rfl rfl ?_
  refine Tr.nil (Aa ?_)
  refine Sat.cond_t rfl rfl ?_
  refine Sat.seq (Sat.region ?_)
  refine Tr.a rfl rfl rfl ?_
  refine Tr.nil (Aa (Sat.ret (As (Ak ?_))))
  refine ⟨_, [], Ae rfl rfl, sP, sP, ?_, rfl⟩
  first
   | exact congrArg i64 (cert_bad1 (by simp only [DCert.head, hnd, Bool.or_eq_true, Bool.not_eq_true', decide_eq_true_eq, decide_eq_false_iff_not]; omega)).symm
   | exact congrArg i64 (cert_bad2 (k := k) oM (by
     simp only [DCert.bad, hvk, hv0, ← ehh]
     first
      | exact .inl ‹_›
      | exact .inr (.inl ‹_›)
      | exact .inr (.inr (.inl ‹_›))
      | exact .inr (.inr (.inr (.inl ‹_›)))
      | exact .inr (.inr (.inr (.inr (.inl ‹_›))))
      | (rw [vote_is hdp]; exact .inr (.inr (.inr (.inr (.inr ⟨by omega, by omega⟩))))))).symm
   | exact congrArg i64 (cert_good hnb (by rw [hnd]; exact hg)).symm
 ·
  first | have hs1_3 := of_decide_eq_true hs1_30 | have hs1_3 := of_decide_eq_false hs1_30 | have hs1_3 := nd_t hs1_30 | have hs1_3 := nd_f hs1_30 | have hs1_3 := hs1_30
  refine Tr.m rfl rfl rfl ?_
  refine Tr.fld rfl rfl rfl U80 rfl Sz42 dE _ rfl ?_
  refine Tr.load1 rfl rfl rfl U42 rfl mM (by first | exact Cert.get_fVotes (by first | (simp [Af, hW.fCut.ok.l_fPrev]; done) | exact oK  | exact hok | exact hVk | exact hok.o_fCut) | exact (by first | rfl | exact Ap (by first | omega | (simp [Af, hW.fCut.ok.l_fPrev]; done) | (simp [Af, hW.fCut.ok.l_fPrev]; omega)) | exact Ax (by first | omega | (simp [Af, hW.fCut.ok.l_fPrev]; done) | (simp [Af, hW.fCut.ok.l_fPrev]; omega)) | exact Bd (by first | omega | (simp [Af, hW.fCut.ok.l_fPrev]; done) | (simp [Af, hW.fCut.ok.l_fPrev]; omega)))) ?_
  refine Tr.lenSl rfl rfl rfl U42 ?_
  refine two (fun r hr k => Tr.lss rfl rfl rfl rfl hr k) (fun hs1_80 => ?_) (fun hs1_80 => ?_)
  ·
   first | have hs1_8 := of_decide_eq_true hs1_80 | have hs1_8 := of_decide_eq_false hs1_80 | have hs1_8 := nd_t hs1_80 | have hs1_8 := nd_f hs1_80 | have hs1_8 := hs1_80
   refine Tr.pick rfl rfl rfl rfl rfl rfl ?_
   refine Tr.m rfl rfl rfl ?_
   refine Tr.skp rfl rfl ?_
   refine Tr.skp rfl rfl ?_
   refine Tr.skp rfl rfl ?_
   refine Tr.skp rfl rfl ?_
   refine Tr.pick rfl rfl rfl rfl rfl rfl ?_
   refine Tr.nil (Aa ?_)
   refine Sat.cond_t rfl rfl ?_
   refine Sat.seq (Sat.region ?_)
   refine Tr.a rfl rfl rfl ?_
   refine Tr.nil (Aa (Sat.ret (As (Ak ?_))))
   refine ⟨_, [], Ae rfl rfl, sP, sP, ?_, rfl⟩
   first
    | exact congrArg i64 (cert_bad1 (by simp only [DCert.head, hnd, Bool.or_eq_true, Bool.not_eq_true', decide_eq_true_eq, decide_eq_false_iff_not]; omega)).symm
    | exact congrArg i64 (cert_bad2 (k := k) oM (by
      simp only [DCert.bad, hvk, hv0, ← ehh]
      first
       | exact .inl ‹_›
       | exact .inr (.inl ‹_›)
       | exact .inr (.inr (.inl ‹_›))
       | exact .inr (.inr (.inr (.inl ‹_›)))
       | exact .inr (.inr (.inr (.inr (.inl ‹_›))))
       | (rw [vote_is hdp]; exact .inr (.inr (.inr (.inr (.inr ⟨by omega, by omega⟩))))))).symm
    | exact congrArg i64 (cert_good hnb (by rw [hnd]; exact hg)).symm
  ·
   first | have hs1_8 := of_decide_eq_true hs1_80 | have hs1_8 := of_decide_eq_false hs1_80 | have hs1_8 := nd_t hs1_80 | have hs1_8 := nd_f hs1_80 | have hs1_8 := hs1_80
   refine Tr.pick rfl rfl rfl rfl rfl rfl ?_
   refine Tr.m rfl rfl rfl ?_
   refine Tr.fld rfl rfl rfl U80 rfl Sz42 dE _ rfl ?_
   refine Tr.load1 rfl rfl rfl U42 rfl mM (by first | exact Cert.get_fVotes (by first | (simp [Af, hW.fCut.ok.l_fPrev]; done) | exact oK  | exact hok | exact hVk | exact hok.o_fCut) | exact (by first | rfl | exact Ap (by first | omega | (simp [Af, hW.fCut.ok.l_fPrev]; done) | (simp [Af, hW.fCut.ok.l_fPrev]; omega)) | exact Ax (by first | omega | (simp [Af, hW.fCut.ok.l_fPrev]; done) | (simp [Af, hW.fCut.ok.l_fPrev]; omega)) | exact Bd (by first | omega | (simp [Af, hW.fCut.ok.l_fPrev]; done) | (simp [Af, hW.fCut.ok.l_fPrev]; omega)))) ?_
   refine Tr.lenSl rfl rfl rfl U42 ?_
   refine Tr.gtr rfl rfl rfl rfl rfl ?_
   refine Tr.pick rfl rfl rfl rfl rfl rfl ?_
   refine Tr.nil (Aa ?_)
   first
    | refine Sat.condP rfl (fun hc0 => ?_) (fun hc0 => ?_)
    | refine Sat.condNP rfl (fun hc0 => ?_) (fun hc0 => ?_)
    | refine Sat.cond rfl (fun hc0 => ?_) (fun hc0 => ?_)
   ·
    refine Sat.seq (Sat.region ?_)
    refine Tr.a rfl rfl rfl ?_
    refine Tr.nil (Aa (Sat.ret (As (Ak ?_))))
    refine ⟨_, [], Ae rfl rfl, sP, sP, ?_, rfl⟩
    first
     | exact congrArg i64 (cert_bad1 (by simp only [DCert.head, hnd, Bool.or_eq_true, Bool.not_eq_true', decide_eq_true_eq, decide_eq_false_iff_not]; omega)).symm
     | exact congrArg i64 (cert_bad2 (k := k) oM (by
       simp only [DCert.bad, hvk, hv0, ← ehh]
       first
        | exact .inl ‹_›
        | exact .inr (.inl ‹_›)
        | exact .inr (.inr (.inl ‹_›))
        | exact .inr (.inr (.inr (.inl ‹_›)))
        | exact .inr (.inr (.inr (.inr (.inl ‹_›))))
        | (rw [vote_is hdp]; exact .inr (.inr (.inr (.inr (.inr ⟨by omega, by omega⟩))))))).symm
     | exact congrArg i64 (cert_good hnb (by rw [hnd]; exact hg)).symm
   ·
    have hnb : ¬ D.head = true := by simp only [DCert.head, hnd, Bool.or_eq_true, Bool.not_eq_true', decide_eq_true_eq, decide_eq_false_iff_not]; omega
    refine Sat.skip (Aa (Sat.seq (Sat.region ?_)))
    refine Tr.fld rfl rfl rfl U80 rfl Sz39 dE _ rfl ?_
    refine Tr.lN (Cut.cells _) rfl rfl rfl U39 rfl Sz39 mM (Cert.row_fCut (by first | (simp [Af, hW.fCut.ok.l_fPrev]; done) | exact oK  | exact hok | exact hVk | exact hok.o_fCut)) (Cert.rl_fCut (by first | (simp [Af, hW.fCut.ok.l_fPrev]; done) | exact oK  | exact hok | exact hVk | exact hok.o_fCut)) ?_
    refine Tr.cV rfl rfl rfl rfl Body104 (cut_name C.fCut D.dCut) (fun w h => hW.fCut.ext h rfl) ?_
    refine Tr.alloc (cs := (Ab (List.replicate 32 0))) rfl Zr24 rfl ?_
    intro n3 hn3 hf3
    first
     | refine Tr.sA rfl rfl rfl rfl cB A5 (by first | (simp [Af, hW.fCut.ok.l_fPrev]; done) | assumption | (rw [Ab, List.length_map]; assumption)) mM (by first | (simp [Af, hW.fCut.ok.l_fPrev]; done) | assumption | (rw [Ab, List.length_map]; assumption)) uU ?_
     | refine Tr.storeN _ rfl rfl rfl rfl rfl cB A5 (by first | (simp [Af, hW.fCut.ok.l_fPrev]; done) | assumption | (rw [Ab, List.length_map]; assumption)) mM (by first | (simp [Af, hW.fCut.ok.l_fPrev]; done) | assumption | (rw [Ab, List.length_map]; assumption)) (by exact rfl) uU ?_
    refine Tr.nil (Aa (Sat.seq (Sat.seq (Sat.region ?_))))
    refine Tr.fld rfl rfl rfl U80 rfl Sz42 dE _ rfl ?_
    refine Tr.load1 rfl rfl rfl U42 rfl mM (by first | exact Cert.get_fVotes (by first | (simp [Af, hW.fCut.ok.l_fPrev]; done) | exact oK  | exact hok | exact hVk | exact hok.o_fCut) | exact (by first | rfl | exact Ap (by first | omega | (simp [Af, hW.fCut.ok.l_fPrev]; done) | (simp [Af, hW.fCut.ok.l_fPrev]; omega)) | exact Ax (by first | omega | (simp [Af, hW.fCut.ok.l_fPrev]; done) | (simp [Af, hW.fCut.ok.l_fPrev]; omega)) | exact Bd (by first | omega | (simp [Af, hW.fCut.ok.l_fPrev]; done) | (simp [Af, hW.fCut.ok.l_fPrev]; omega)))) ?_
    refine Tr.lenSl rfl rfl rfl U42 ?_
    refine Tr.m rfl rfl rfl ?_
    refine Tr.nil (Aa (Sat.block ?_))
    refine Sat.loop (ι := Nat) (fun k => ⟨[(1, ptr n1 0), (3, ptr n3 0), (26, C.fVotes.v), (27, i64 (C.fVotes.n : Int)), (28, i64 (k : Int))], [⟨n3, Ab (cnameD D.dCut), 24, 32⟩, ⟨n1, C.cells, 80, C.cells.length⟩]⟩) (fun k => k ≤ C.fVotes.n ∧ ∀ j, j < k → ¬ D.bad j) (fun k => C.fVotes.n - k) (0) ?_ ?_ ?_
    · exact ⟨by omega, fun j hj => by omega⟩
    · exact Ao (wk1 rfl (wk1 rfl (wk1 rfl (wk1 rfl (wk1 rfl wk0))))) (wh1 mM (wh1 mM wh0)) nD
    ·
     rintro k ⟨hk, hg⟩
     refine Sat.seq (Sat.region ?_)
     refine Tr.lss rfl rfl rfl rfl rfl ?_
     refine Tr.nil (Aa (Sat.seq ?_))
     first
      | refine Sat.condP rfl (fun hc1 => ?_) (fun hc1 => ?_)
      | refine Sat.condNP rfl (fun hc1 => ?_) (fun hc1 => ?_)
      | refine Sat.cond rfl (fun hc1 => ?_) (fun hc1 => ?_)
     ·
      have hk2 : k < C.fVotes.n := by omega
      obtain ⟨b, o, Vk, d, hsp, hr, hd, his, hlen, hsee⟩ := hV.at dE hk2
      obtain rfl := his.eq
      have hVk := his.ok
      have hlv := hVk.l_fValue
      obtain ⟨b0, o0, V0, d0, hsp0, hr0, hd0, his0, hlen0, hsee0⟩ := hV.at dE (show 0 < C.fVotes.n by omega)
      obtain rfl := his0.eq
      have hV0 := his0.ok
      have hvk := vote_is hd
      have hv0 := vote_is hd0
      refine Sat.skip (Aa (Sat.seq (Sat.block (Sat.seq (Sat.region ?_)))))
      refine Tr.m rfl rfl rfl ?_
      refine Tr.idxSlP 132 rfl rfl rfl hsp rfl U42 Bf (k) oM oM ?_
      refine Tr.loadEN Vk.cells rfl rfl rfl U29 rfl Bf sP hlen hsee ?_
      refine Tr.alloc (cs := Vote.zero.cells) rfl Vote.zr rfl ?_
      intro n5 hn5 hf5
      refine Tr.a rfl rfl rfl ?_
      refine Tr.sA rfl rfl rfl rfl (Vote.isCell (by first | (simp [Af, hW.fCut.ok.l_fPrev]; done) | exact oK  | exact hok | exact hVk | exact hok.o_fCut)) Bf (Vote.length (by first | (simp [Af, hW.fCut.ok.l_fPrev]; done) | exact oK  | exact hok | exact hVk | exact hok.o_fCut)) mM (Vote.length (by first | (simp [Af, hW.fCut.ok.l_fPrev]; done) | exact oK  | exact hok | exact hVk | exact hok.o_fCut)) uU ?_
      refine Tr.nil (Aa (Sat.seq (Sat.seq (Sat.region ?_))))
      refine Tr.lA rfl rfl rfl U29 rfl Bf mM (Vote.length (by first | (simp [Af, hW.fCut.ok.l_fPrev]; done) | exact oK  | exact hok | exact hVk | exact hok.o_fCut)) ?_
      refine Tr.cV rfl rfl rfl rfl Body52 (vote_check Vk hVk) tV ?_
      refine two (fun r hr k => Tr.nei rfl rfl rfl rfl hr k) (fun hs7_20 => ?_) (fun hs7_20 => ?_)
      ·
       first | have hs7_2 := of_decide_eq_true hs7_20 | have hs7_2 := of_decide_eq_false hs7_20 | have hs7_2 := nd_t hs7_20 | have hs7_2 := nd_f hs7_20 | have hs7_2 := hs7_20
       refine Tr.m rfl rfl rfl ?_
       refine Tr.skp rfl rfl ?_
       refine Tr.skp rfl rfl ?_
       refine Tr.skp rfl rfl ?_
       refine Tr.pick rfl rfl rfl rfl rfl rfl ?_
       refine Tr.m rfl rfl rfl ?_
       refine Tr.skp rfl rfl ?_
       refine Tr.skp rfl rfl ?_
       refine Tr.skp rfl rfl ?_
       refine Tr.skp rfl rfl ?_
       refine Tr.skp rfl rfl ?_
       refine Tr.skp rfl rfl ?_
       refine Tr.pick rfl rfl rfl rfl rfl rfl ?_
       refine Tr.nil (Aa ?_)
       refine Sat.cond_t rfl rfl ?_
       refine Sat.seq (Sat.region ?_)
       refine Tr.a rfl rfl rfl ?_
       refine Tr.nil (Aa (Sat.ret (As (bl_r (As (As (bl_r (As (Ak ?_)))))))))
       refine ⟨_, [], Ae rfl rfl, sP, sP, ?_, rfl⟩
       first
        | exact congrArg i64 (cert_bad1 (by simp only [DCert.head, hnd, Bool.or_eq_true, Bool.not_eq_true', decide_eq_true_eq, decide_eq_false_iff_not]; omega)).symm
        | exact congrArg i64 (cert_bad2 (k := k) oM (by
          simp only [DCert.bad, hvk, hv0, ← ehh]
          first
           | exact .inl ‹_›
           | exact .inr (.inl ‹_›)
           | exact .inr (.inr (.inl ‹_›))
           | exact .inr (.inr (.inr (.inl ‹_›)))
           | exact .inr (.inr (.inr (.inr (.inl ‹_›))))
           | (rw [vote_is hdp]; exact .inr (.inr (.inr (.inr (.inr ⟨by omega, by omega⟩))))))).symm
        | exact congrArg i64 (cert_good hnb (by rw [hnd]; exact hg)).symm
      ·
       first | have hs7_2 := of_decide_eq_true hs7_20 | have hs7_2 := of_decide_eq_false hs7_20 | have hs7_2 := nd_t hs7_20 | have hs7_2 := nd_f hs7_20 | have hs7_2 := hs7_20
       refine Tr.m rfl rfl rfl ?_
       refine Tr.fld rfl rfl rfl U29 rfl Sz3 dE _ rfl ?_
       refine Tr.load1 rfl rfl rfl U3 rfl mM (by first | exact Vote.get_fPhase (by first | (simp [Af, hW.fCut.ok.l_fPrev]; done) | exact oK  | exact hok | exact hVk | exact hok.o_fCut) | exact (by first | rfl | exact Ap (by first | omega | (simp [Af, hW.fCut.ok.l_fPrev]; done) | (simp [Af, hW.fCut.ok.l_fPrev]; omega)) | exact Ax (by first | omega | (simp [Af, hW.fCut.ok.l_fPrev]; done) | (simp [Af, hW.fCut.ok.l_fPrev]; omega)) | exact Bd (by first | omega | (simp [Af, hW.fCut.ok.l_fPrev]; done) | (simp [Af, hW.fCut.ok.l_fPrev]; omega)))) ?_
       refine two (fun r hr k => Tr.nei rfl rfl rfl rfl hr k) (fun hs7_60 => ?_) (fun hs7_60 => ?_)
       ·
        first | have hs7_6 := of_decide_eq_true hs7_60 | have hs7_6 := of_decide_eq_false hs7_60 | have hs7_6 := nd_t hs7_60 | have hs7_6 := nd_f hs7_60 | have hs7_6 := hs7_60
        refine Tr.pick rfl rfl rfl rfl rfl rfl ?_
        refine Tr.m rfl rfl rfl ?_
        refine Tr.skp rfl rfl ?_
        refine Tr.skp rfl rfl ?_
        refine Tr.skp rfl rfl ?_
        refine Tr.skp rfl rfl ?_
        refine Tr.skp rfl rfl ?_
        refine Tr.skp rfl rfl ?_
        refine Tr.pick rfl rfl rfl rfl rfl rfl ?_
        refine Tr.nil (Aa ?_)
        refine Sat.cond_t rfl rfl ?_
        refine Sat.seq (Sat.region ?_)
        refine Tr.a rfl rfl rfl ?_
        refine Tr.nil (Aa (Sat.ret (As (bl_r (As (As (bl_r (As (Ak ?_)))))))))
        refine ⟨_, [], Ae rfl rfl, sP, sP, ?_, rfl⟩
        first
         | exact congrArg i64 (cert_bad1 (by simp only [DCert.head, hnd, Bool.or_eq_true, Bool.not_eq_true', decide_eq_true_eq, decide_eq_false_iff_not]; omega)).symm
         | exact congrArg i64 (cert_bad2 (k := k) oM (by
           simp only [DCert.bad, hvk, hv0, ← ehh]
           first
            | exact .inl ‹_›
            | exact .inr (.inl ‹_›)
            | exact .inr (.inr (.inl ‹_›))
            | exact .inr (.inr (.inr (.inl ‹_›)))
            | exact .inr (.inr (.inr (.inr (.inl ‹_›))))
            | (rw [vote_is hdp]; exact .inr (.inr (.inr (.inr (.inr ⟨by omega, by omega⟩))))))).symm
         | exact congrArg i64 (cert_good hnb (by rw [hnd]; exact hg)).symm
       ·
        first | have hs7_6 := of_decide_eq_true hs7_60 | have hs7_6 := of_decide_eq_false hs7_60 | have hs7_6 := nd_t hs7_60 | have hs7_6 := nd_f hs7_60 | have hs7_6 := hs7_60
        refine Tr.pick rfl rfl rfl rfl rfl rfl ?_
        refine Tr.m rfl rfl rfl ?_
        refine Tr.fld rfl rfl rfl U29 rfl Bp dE _ rfl ?_
        refine Tr.load1 rfl rfl rfl U22 rfl mM (by first | exact Vote.get_fHeight (by first | (simp [Af, hW.fCut.ok.l_fPrev]; done) | exact oK  | exact hok | exact hVk | exact hok.o_fCut) | exact (by first | rfl | exact Ap (by first | omega | (simp [Af, hW.fCut.ok.l_fPrev]; done) | (simp [Af, hW.fCut.ok.l_fPrev]; omega)) | exact Ax (by first | omega | (simp [Af, hW.fCut.ok.l_fPrev]; done) | (simp [Af, hW.fCut.ok.l_fPrev]; omega)) | exact Bd (by first | omega | (simp [Af, hW.fCut.ok.l_fPrev]; done) | (simp [Af, hW.fCut.ok.l_fPrev]; omega)))) ?_
        refine Tr.fld rfl rfl rfl U80 rfl Sz39 dE _ rfl ?_
        refine Tr.fld rfl rfl rfl U39 rfl Bp dE _ rfl ?_
        refine Tr.load1 rfl rfl rfl U22 rfl mM (Cert.see_fCut hok 0 _ (Cut.get_fHeight hok.o_fCut)) ?_
        refine Tr.nei rfl rfl rfl rfl rfl ?_
        refine Tr.pick rfl rfl rfl rfl rfl rfl ?_
        refine Tr.nil (Aa ?_)
        first
         | refine Sat.condP rfl (fun hc2 => ?_) (fun hc2 => ?_)
         | refine Sat.condNP rfl (fun hc2 => ?_) (fun hc2 => ?_)
         | refine Sat.cond rfl (fun hc2 => ?_) (fun hc2 => ?_)
        ·
         refine Sat.seq (Sat.region ?_)
         refine Tr.a rfl rfl rfl ?_
         refine Tr.nil (Aa (Sat.ret (As (bl_r (As (As (bl_r (As (Ak ?_)))))))))
         refine ⟨_, [], Ae rfl rfl, sP, sP, ?_, rfl⟩
         first
          | exact congrArg i64 (cert_bad1 (by simp only [DCert.head, hnd, Bool.or_eq_true, Bool.not_eq_true', decide_eq_true_eq, decide_eq_false_iff_not]; omega)).symm
          | exact congrArg i64 (cert_bad2 (k := k) oM (by
            simp only [DCert.bad, hvk, hv0, ← ehh]
            first
             | exact .inl ‹_›
             | exact .inr (.inl ‹_›)
             | exact .inr (.inr (.inl ‹_›))
             | exact .inr (.inr (.inr (.inl ‹_›)))
             | exact .inr (.inr (.inr (.inr (.inl ‹_›))))
             | (rw [vote_is hdp]; exact .inr (.inr (.inr (.inr (.inr ⟨by omega, by omega⟩))))))).symm
          | exact congrArg i64 (cert_good hnb (by rw [hnd]; exact hg)).symm
        ·
         refine Sat.skip (Aa (Sat.seq (Sat.seq ?_)))
         refine Sat.draw [(0, 0), (1, 1), (1, 2), (0, 3), (0, 4), (0, 5), (1, 6), (0, 7), (1, 8), (0, 9), (0, 10), (1, 11), (0, 12), (0, 13)] Bt zK ?_
         refine Tr.fld rfl rfl rfl U29 rfl A5 dE _ rfl ?_
         first
          | refine Tr.lN (Ab _) rfl rfl rfl U24 rfl A5 mM (Vote.row_fValue (by first | (simp [Af, hW.fCut.ok.l_fPrev]; done) | exact oK  | exact hok | exact hVk | exact hok.o_fCut)) (Vote.rl_fValue (by first | (simp [Af, hW.fCut.ok.l_fPrev]; done) | exact oK  | exact hok | exact hVk | exact hok.o_fCut)) ?_
         first
          | refine Tr.lA rfl rfl rfl U24 rfl A5 mM (by first | (simp [Af, hW.fCut.ok.l_fPrev]; done) | assumption | (rw [Ab, List.length_map]; assumption)) ?_
          | refine Tr.lN _ rfl rfl rfl U24 rfl A5 mM (by exact rfl) (by first | (simp [Af, hW.fCut.ok.l_fPrev]; done) | assumption | (rw [Ab, List.length_map]; assumption)) ?_
         refine two (fun r hr k => Tr.neq_bytes rfl rfl rfl rfl Tryz.eqGuardType24 U24 U5 Sz5 (by first | (simp [Af, hW.fCut.ok.l_fPrev]; done) | assumption | (rw [Ab, List.length_map]; assumption)) (by first | (simp [Af, hW.fCut.ok.l_fPrev]; done) | assumption | (rw [Ab, List.length_map]; assumption)) hr k) (fun hs9_30 => ?_) (fun hs9_30 => ?_)
         ·
          first | have hs9_3 := of_decide_eq_true hs9_30 | have hs9_3 := of_decide_eq_false hs9_30 | have hs9_3 := nd_t hs9_30 | have hs9_3 := nd_f hs9_30 | have hs9_3 := hs9_30
          refine Tr.m rfl rfl rfl ?_
          refine Tr.skp rfl rfl ?_
          refine Tr.skp rfl rfl ?_
          refine Tr.skp rfl rfl ?_
          refine Tr.skp rfl rfl ?_
          refine Tr.skp rfl rfl ?_
          refine Tr.skp rfl rfl ?_
          refine Tr.skp rfl rfl ?_
          refine Tr.skp rfl rfl ?_
          refine Tr.pick rfl rfl rfl rfl rfl rfl ?_
          refine Tr.nil (Aa ?_)
          refine Sat.cond_t rfl rfl ?_
          refine Sat.seq (Sat.region ?_)
          refine Tr.a rfl rfl rfl ?_
          refine Tr.nil (Aa (Sat.ret (As (bl_r (As (As (bl_r (As (Ak ?_)))))))))
          refine ⟨_, [], Ae rfl rfl, sP, sP, ?_, rfl⟩
          first
           | exact congrArg i64 (cert_bad1 (by simp only [DCert.head, hnd, Bool.or_eq_true, Bool.not_eq_true', decide_eq_true_eq, decide_eq_false_iff_not]; omega)).symm
           | exact congrArg i64 (cert_bad2 (k := k) oM (by
             simp only [DCert.bad, hvk, hv0, ← ehh]
             first
              | exact .inl ‹_›
              | exact .inr (.inl ‹_›)
              | exact .inr (.inr (.inl ‹_›))
              | exact .inr (.inr (.inr (.inl ‹_›)))
              | exact .inr (.inr (.inr (.inr (.inl ‹_›))))
              | (rw [vote_is hdp]; exact .inr (.inr (.inr (.inr (.inr ⟨by omega, by omega⟩))))))).symm
           | exact congrArg i64 (cert_good hnb (by rw [hnd]; exact hg)).symm
         ·
          first | have hs9_3 := of_decide_eq_true hs9_30 | have hs9_3 := of_decide_eq_false hs9_30 | have hs9_3 := nd_t hs9_30 | have hs9_3 := nd_f hs9_30 | have hs9_3 := hs9_30
          refine Tr.m rfl rfl rfl ?_
          refine Tr.fld rfl rfl rfl U29 rfl Bp dE _ rfl ?_
          refine Tr.load1 rfl rfl rfl U22 rfl mM (by first | exact Vote.get_fRound (by first | (simp [Af, hW.fCut.ok.l_fPrev]; done) | exact oK  | exact hok | exact hVk | exact hok.o_fCut) | exact (by first | rfl | exact Ap (by first | omega | (simp [Af, hW.fCut.ok.l_fPrev]; done) | (simp [Af, hW.fCut.ok.l_fPrev]; omega)) | exact Ax (by first | omega | (simp [Af, hW.fCut.ok.l_fPrev]; done) | (simp [Af, hW.fCut.ok.l_fPrev]; omega)) | exact Bd (by first | omega | (simp [Af, hW.fCut.ok.l_fPrev]; done) | (simp [Af, hW.fCut.ok.l_fPrev]; omega)))) ?_
          refine Tr.fld rfl rfl rfl U80 rfl Sz42 dE _ rfl ?_
          refine Tr.load1 rfl rfl rfl U42 rfl mM (by first | exact Cert.get_fVotes (by first | (simp [Af, hW.fCut.ok.l_fPrev]; done) | exact oK  | exact hok | exact hVk | exact hok.o_fCut) | exact (by first | rfl | exact Ap (by first | omega | (simp [Af, hW.fCut.ok.l_fPrev]; done) | (simp [Af, hW.fCut.ok.l_fPrev]; omega)) | exact Ax (by first | omega | (simp [Af, hW.fCut.ok.l_fPrev]; done) | (simp [Af, hW.fCut.ok.l_fPrev]; omega)) | exact Bd (by first | omega | (simp [Af, hW.fCut.ok.l_fPrev]; done) | (simp [Af, hW.fCut.ok.l_fPrev]; omega)))) ?_
          refine Tr.idxSlP 132 rfl rfl rfl hsp0 rfl U42 Bf (0) oM oM ?_
          refine Tr.fld rfl rfl rfl U29 rfl Bp dE _ rfl ?_
          refine Tr.loadE rfl rfl rfl U22 rfl (by first | (simp; done) | (simp; exact hW.2.2) | (simp [Cx.with]; done) | (simp [Cx.with]; omega)) (hsee0 1 _ (Vote.get_fRound hV0)) ?_
          refine Tr.nei rfl rfl rfl rfl rfl ?_
          refine Tr.pick rfl rfl rfl rfl rfl rfl ?_
          refine Tr.nil (Aa ?_)
          first
           | refine Sat.condP rfl (fun hc3 => ?_) (fun hc3 => ?_)
           | refine Sat.condNP rfl (fun hc3 => ?_) (fun hc3 => ?_)
           | refine Sat.cond rfl (fun hc3 => ?_) (fun hc3 => ?_)
          ·
           refine Sat.seq (Sat.region ?_)
           refine Tr.a rfl rfl rfl ?_
           refine Tr.nil (Aa (Sat.ret (As (bl_r (As (As (bl_r (As (Ak ?_)))))))))
           refine ⟨_, [], Ae rfl rfl, sP, sP, ?_, rfl⟩
           first
            | exact congrArg i64 (cert_bad1 (by simp only [DCert.head, hnd, Bool.or_eq_true, Bool.not_eq_true', decide_eq_true_eq, decide_eq_false_iff_not]; omega)).symm
            | exact congrArg i64 (cert_bad2 (k := k) oM (by
              simp only [DCert.bad, hvk, hv0, ← ehh]
              first
               | exact .inl ‹_›
               | exact .inr (.inl ‹_›)
               | exact .inr (.inr (.inl ‹_›))
               | exact .inr (.inr (.inr (.inl ‹_›)))
               | exact .inr (.inr (.inr (.inr (.inl ‹_›))))
               | (rw [vote_is hdp]; exact .inr (.inr (.inr (.inr (.inr ⟨by omega, by omega⟩))))))).symm
            | exact congrArg i64 (cert_good hnb (by rw [hnd]; exact hg)).symm
          ·
           refine Sat.skip (Aa (Sat.seq ?_))
           refine Sat.draw [(0, 0), (0, 1), (0, 2), (0, 3), (1, 4), (0, 5), (0, 6), (0, 7), (0, 8), (0, 9), (0, 10), (0, 11), (3, 12), (0, 13), (0, 14)] Bt zK ?_
           refine Tr.m rfl rfl rfl ?_
           refine two (fun r hr k => Tr.gtr rfl rfl rfl rfl hr k) (fun hs11_10 => ?_) (fun hs11_10 => ?_)
           ·
            first | have hs11_1 := of_decide_eq_true hs11_10 | have hs11_1 := of_decide_eq_false hs11_10 | have hs11_1 := nd_t hs11_10 | have hs11_1 := nd_f hs11_10 | have hs11_1 := hs11_10
            obtain ⟨bp, op, Vp, dp, hspp, hrp, hdp, hisp, hlenp, hseep⟩ := hV.at dE (show k - 1 < C.fVotes.n by omega)
            obtain rfl := hisp.eq
            have hVp := hisp.ok
            refine Tr.m rfl rfl rfl ?_
            refine Tr.fld rfl rfl rfl U80 rfl Sz42 dE _ rfl ?_
            refine Tr.load1 rfl rfl rfl U42 rfl mM (by first | exact Cert.get_fVotes (by first | (simp [Af, hW.fCut.ok.l_fPrev]; done) | exact oK  | exact hok | exact hVk | exact hok.o_fCut) | exact (by first | rfl | exact Ap (by first | omega | (simp [Af, hW.fCut.ok.l_fPrev]; done) | (simp [Af, hW.fCut.ok.l_fPrev]; omega)) | exact Ax (by first | omega | (simp [Af, hW.fCut.ok.l_fPrev]; done) | (simp [Af, hW.fCut.ok.l_fPrev]; omega)) | exact Bd (by first | omega | (simp [Af, hW.fCut.ok.l_fPrev]; done) | (simp [Af, hW.fCut.ok.l_fPrev]; omega)))) ?_
            refine Tr.m rfl rfl rfl ?_
            refine Tr.sub_i64 rfl rfl rfl rfl oM ?_
            refine Tr.idxSlP 132 rfl rfl rfl hspp rfl U42 Bf (k - 1) oM oM ?_
            refine Tr.fld rfl rfl rfl U29 rfl Sz25 dE _ rfl ?_
            refine Tr.sliceArr rfl rfl rfl U25 Sz5 ?_
            refine Tr.fld rfl rfl rfl U29 rfl Sz25 dE _ rfl ?_
            refine Tr.sliceArr rfl rfl rfl U25 Sz5 ?_
            refine Tr.cV rfl rfl rfl rfl Body105 (bytes_cmp _ _ _ _ _ _ Vp.fVoter Vk.fVoter hVp.l_fVoter hVk.l_fVoter) (fun W2 W2h => ⟨SeesP.of (sees_ext W2h sP (sees_sub hseep (Vote.see_fVoter hVp))), SeesP.of (sees_part W2h mM (Vote.see_fVoter hVk))⟩) ?_
            refine Tr.geq rfl rfl rfl rfl rfl ?_
            refine Tr.pick rfl rfl rfl rfl rfl rfl ?_
            refine Tr.nil (Aa ?_)
            first
             | refine Sat.condP rfl (fun hc4 => ?_) (fun hc4 => ?_)
             | refine Sat.condNP rfl (fun hc4 => ?_) (fun hc4 => ?_)
             | refine Sat.cond rfl (fun hc4 => ?_) (fun hc4 => ?_)
            ·
             refine Sat.seq (Sat.region ?_)
             refine Tr.a rfl rfl rfl ?_
             refine Tr.nil (Aa (Sat.ret (bl_r (As (As (bl_r (As (Ak ?_))))))))
             refine ⟨_, [], Ae rfl rfl, sP, sP, ?_, rfl⟩
             first
              | exact congrArg i64 (cert_bad1 (by simp only [DCert.head, hnd, Bool.or_eq_true, Bool.not_eq_true', decide_eq_true_eq, decide_eq_false_iff_not]; omega)).symm
              | exact congrArg i64 (cert_bad2 (k := k) oM (by
                simp only [DCert.bad, hvk, hv0, ← ehh]
                first
                 | exact .inl ‹_›
                 | exact .inr (.inl ‹_›)
                 | exact .inr (.inr (.inl ‹_›))
                 | exact .inr (.inr (.inr (.inl ‹_›)))
                 | exact .inr (.inr (.inr (.inr (.inl ‹_›))))
                 | (rw [vote_is hdp]; exact .inr (.inr (.inr (.inr (.inr ⟨by omega, by omega⟩))))))).symm
              | exact congrArg i64 (cert_good hnb (by rw [hnd]; exact hg)).symm
            ·
             refine Sat.skip (Bu (Aa (Sat.region ?_)))
             refine Tr.aI rfl rfl rfl rfl oM ?_
             refine Tr.m rfl rfl rfl ?_
             refine Tr.nil (Aa ?_)
             exact ⟨k + 1, ⟨by omega, fun j hj => by rcases Nat.lt_succ_iff_lt_or_eq.1 hj with h | rfl; exact hg j h; exact (by
              simp only [DCert.bad, hvk, hv0, ← ehh]
              rintro (h | h | h | h | h | ⟨h1, h2⟩) <;> first | exact h ‹_› | omega | (rw [vote_is hdp] at h2; omega))⟩, by omega, Ao (wk1 rfl (wk1 rfl (wk1 rfl (wk1 rfl (wk1 rfl wk0))))) (wh1 mM (wh1 mM wh0)) nD⟩
           ·
            first | have hs11_1 := of_decide_eq_true hs11_10 | have hs11_1 := of_decide_eq_false hs11_10 | have hs11_1 := nd_t hs11_10 | have hs11_1 := nd_f hs11_10 | have hs11_1 := hs11_10
            skip
            refine Tr.m rfl rfl rfl ?_
            refine Tr.skp rfl rfl ?_
            refine Tr.skp rfl rfl ?_
            refine Tr.skp rfl rfl ?_
            refine Tr.skp rfl rfl ?_
            refine Tr.skp rfl rfl ?_
            refine Tr.skp rfl rfl ?_
            refine Tr.skp rfl rfl ?_
            refine Tr.skp rfl rfl ?_
            refine Tr.skp rfl rfl ?_
            refine Tr.skp rfl rfl ?_
            refine Tr.skp rfl rfl ?_
            refine Tr.pick rfl rfl rfl rfl rfl rfl ?_
            refine Tr.nil (Aa ?_)
            refine Sat.cond_f rfl rfl ?_
            refine Sat.skip (Bu (Aa (Sat.region ?_)))
            refine Tr.aI rfl rfl rfl rfl oM ?_
            refine Tr.m rfl rfl rfl ?_
            refine Tr.nil (Aa ?_)
            exact ⟨k + 1, ⟨by omega, fun j hj => by rcases Nat.lt_succ_iff_lt_or_eq.1 hj with h | rfl; exact hg j h; exact (by
             simp only [DCert.bad, hvk, hv0, ← ehh]
             rintro (h | h | h | h | h | ⟨h1, h2⟩) <;> first | exact h ‹_› | omega | (rw [vote_is hdp] at h2; omega))⟩, by omega, Ao (wk1 rfl (wk1 rfl (wk1 rfl (wk1 rfl (wk1 rfl wk0))))) (wh1 mM (wh1 mM wh0)) nD⟩
     ·
      obtain rfl : k = C.fVotes.n := by omega
      refine Sat.exit (A9 (A9 (bl_h (Aa (Sat.seq (Sat.region ?_))))))
      refine Tr.a rfl rfl rfl ?_
      refine Tr.nil (Aa (Sat.ret (Ak ?_)))
      refine ⟨_, [], Ae rfl rfl, sP, sP, ?_, rfl⟩
      first
       | exact congrArg i64 (cert_bad1 (by simp only [DCert.head, hnd, Bool.or_eq_true, Bool.not_eq_true', decide_eq_true_eq, decide_eq_false_iff_not]; omega)).symm
       | exact congrArg i64 (cert_bad2 (k := k) oM (by
         simp only [DCert.bad, hvk, hv0, ← ehh]
         first
          | exact .inl ‹_›
          | exact .inr (.inl ‹_›)
          | exact .inr (.inr (.inl ‹_›))
          | exact .inr (.inr (.inr (.inl ‹_›)))
          | exact .inr (.inr (.inr (.inr (.inl ‹_›))))
          | (rw [vote_is hdp]; exact .inr (.inr (.inr (.inr (.inr ⟨by omega, by omega⟩))))))).symm
       | exact congrArg i64 (cert_good hnb (by rw [hnd]; exact hg)).symm

end Go.Proofs.YtkfhpmidcbmofaaGreat
end

section
namespace Go.Proofs.YtkfhpmidcbmofaaGreat
open Go Hw

theorem take_snoc {D : Type} {ds : List D} {k : Nat} {d : D} (h : ds[k]? = some d) : ds.take (k + 1) = ds.take k ++ [d] := by
  obtain ⟨hk, rfl⟩ := List.getElem?_eq_some_iff.1 h
  rw [List.take_succ_eq_append_getElem hk]
end Go.Proofs.YtkfhpmidcbmofaaGreat
end

section
namespace Go.Proofs.YtkfhpmidcbmofaaGreat
open Go Hw

theorem rows_none {W : World} {m : Nat} : RowsAt W Sl.nil m [] := ⟨rfl, fun l h => (by cases h), Nat.le_refl _, SeesP.nil, by decide, fun _ => rfl⟩

end Go.Proofs.YtkfhpmidcbmofaaGreat
end

section
namespace Hw
open Go Go.RowKit

def MeetsD (P : Program) (f : FuncId) (args : List Value) (lent : List Nat) (Pre : World → Prop) (R : Value → List Blk → Prop) : Prop :=
  ∀ W, Pre W → ∀ u, CallsD P f args.toArray u W fun e u' W' => u' = u ∧ ∃ v out, e = .returned v ∧ R v out ∧ Ret lent out W W'

theorem callsD_of {P : Program} {f : FuncId} {fn : Func} {code : Code} {args : List Value} {W : World} {u : FrameMode} {lent : List Nat} {hp0 : List Blk} {R : Value → List Blk → Prop}
    (hf : P.funcs[f]? = some fn) (hb : fn.body = some code) (N : Nat) (hN : fn.ntmps = N) (hlen : Nat.ble args.length N = true)
    (hh : HRep ⟨P, W, N, lent, [], []⟩ hp0 W)
    (h : Sat ⟨P, W, N, lent, [], []⟩ code ⟨argSlots 0 args, hp0⟩ (endQ ⟨P, W, N, lent, [], []⟩ fn R)) :
    CallsD P f args.toArray u W fun e u' W' => u' = u ∧ ∃ v out, e = .returned v ∧ R v out ∧ Ret lent out W W' := by
  have hlen := Nat.le_of_ble_eq_true hlen
  subst hN
  refine callsD_of_wp hf hb (wp_mono (h _ _ ⟨⟨?_, rfl, fun t v ht => ?_⟩, hh⟩) fun e a' w' ⟨s', r', q⟩ => ?_)
  · simp; omega
  · have := argSlots_look args 0 t v ht
    rw [Array.getElem?_append]
    have hlt : t < args.length := by
      rcases Nat.lt_or_ge t args.length with h1 | h1
      · exact h1
      · rw [List.getElem?_eq_none oM] at this; cases this.2
    simp only [List.size_toArray]
    rw [if_pos hlt]
    simpa using this.2
  · have fin : (∃ v out, Res ⟨P, W, fn.ntmps, lent, [], []⟩ fn s' v ∧ (∀ b ∈ out, b ∈ s'.hp) ∧ ((s'.hp.map (·.n)).Nodup → (out.map (·.n)).Nodup) ∧ R v out) →
        a'.defers = [] ∧ ∃ v, (results fn a'.tmps).run P w' = .ok v w' ∧ ∃ v' out, Ending.returned v = .returned v' ∧ R v' out ∧ Ret lent out W w' := by
      rintro ⟨v, out, hr, hsub, hnd, hR⟩
      exact ⟨r'.rs.defers, v, hr a' w' r', v, out, rfl, hR, r'.rh.keeps, fun b hb => r'.rh.cells b (hsub b hb), hnd r'.rh.nodup, fun b hb => r'.rh.own b (hsub b hb)⟩
    cases e with
    | normal => exact fin q
    | ret => exact fin q
    | _ => exact q.elim

theorem res_cell_cell {C : Cx} {fn : Func} {s : St} {t t2 : Tmp} {T T2 : TypeId} {td td2 : TypeDesc} {n b b2 : Nat} {cs cs2 : List Value} {BT BT2 : TypeId} {m m2 : Nat} {v2 : Value} (hr : fn.results = #[.cell t T, .cell t2 T2]) (hv : look s.sl t = some (ptr b 0)) (hv2 : look s.sl t2 = some (ptr b2 0)) (hu : C.P.underlying T = some td) (hp' : Bi td = false) (hs : Sz C.P T n) (hb : (⟨b, cs, BT, m⟩ : Blk) ∈ s.hp) (hn : cs.length = n)
    (hu2 : C.P.underlying T2 = some td2) (hp2 : Bi td2 = true) (hb2 : (⟨b2, v2 :: cs2, BT2, m2⟩ : Blk) ∈ s.hp) : Res C fn s (.tuple #[agg cs, v2]) := by
  intro a w r
  have h1 := r.rs.slots t _ hv
  have h2 := r.rs.slots t2 _ hv2
  have h3 : w.cell? ⟨b2, 0, none⟩ = some v2 := (r.rh.cells _ hb2).cell (o := 0) rfl
  have k1 := run_cellAll r.rh hu hp' hs hb hn
  have k2 : (loadVar T2 ⟨b2, 0, none⟩).run C.P w = .ok v2 w := by simp [loadVar, run_isAgg_plain hu2 hp2, load, Sem.run, h3]
  simp [results, hr, h1, h2, asAddr, k1, k2]

abbrev dfr (g : Nat) (cap : Array Value) : Deferred := { target := .fn (.func g) cap, args := #[] }

def endAtD (C : Cx) (g : Nat) (cap : Array Value) (fn : Func) (R : Value → List Blk → Prop) (s : St) : Prop :=
  ∃ (lent : List Nat) (L keep : List Blk) (Pre : World → Prop) (R' : Value → List Blk → Prop), s.hp.Perm (L ++ keep) ∧ (∀ n ∈ lent, ∃ b ∈ L, b.n = n) ∧ MeetsD C.P g cap.toList lent Pre R' ∧ (∀ w, HRep C s.hp w → Pre w) ∧ ∀ v' out', R' v' out' → endAt C fn R ⟨s.sl, out' ++ keep⟩
def endQD (C : Cx) (g : Nat) (cap : Array Value) (fn : Func) (R : Value → List Blk → Prop) : Exit → St → Prop
  | .normal, s | .ret, s => endAtD C g cap fn R s
  | _, _ => False
theorem enD_r {C : Cx} {g : Nat} {cap : Array Value} {fn : Func} {R : Value → List Blk → Prop} {s : St} (h : endAtD C g cap fn R s) : endQD C g cap fn R .ret s := h

theorem run_defer {P : Program} {ρ : Operand → Value} {w : World} {x : Operand} {g : Nat} {cap : Array Value} {ty : TypeId} {pos : String} {af : Array Edge} (hx : ρ x = .func (.func g) #[] cap) :
    (execOp ρ ⟨none, .defer ⟨.value x, #[], #[]⟩, ty, pos, af, none⟩).run P w = .ok (.defer (dfr g cap)) w := by
  simp [execOp, resolve, hx, Deferred.ofValue]

theorem calls_defer {P : Program} {f : FuncId} {fn : Func} {r0 rest : Code} {id : Nat} {o0 : Oper} {x : Operand} {ty : TypeId} {pos : String} {af : Array Edge} {args : List Value} {W : World} {R : Value → List Blk → Prop}
    (hf : P.funcs[f]? = some fn) (hb : fn.body = some (.seq r0 (.seq (.region id [o0, ⟨none, .defer ⟨.value x, #[], #[]⟩, ty, pos, af, none⟩].toArray false) rest))) (N : Nat) (hN : fn.ntmps = N) (hlen : Nat.ble args.length N = true)
    (h : Sat ⟨P, W, N, [], [], []⟩ r0 ⟨argSlots 0 args, []⟩ (thenQ (fun s => Tr ⟨P, W, N, [], [], []⟩ [o0, ⟨none, .defer ⟨.value x, #[], #[]⟩, ty, pos, af, none⟩].toArray [(4, o0)] s (fun s' => ∃ g cap, Ai s'.sl x = some (.func (.func g) #[] cap) ∧ Aw P g ∧
      Sat ⟨P, W, N, [], [], [dfr g cap]⟩ rest s' (endQD ⟨P, W, N, [], [], [dfr g cap]⟩ g cap fn R))) (fun _ _ => False))) :
    Calls P f args.toArray W fun e W' => ∃ v out, e = .returned v ∧ R v out ∧ Ret [] out W W' := by
  have hlen := Nat.le_of_ble_eq_true hlen
  subst hN
  refine calls_of_wp_defers hf hb ?_
  have rep0 : Rep ⟨P, W, fn.ntmps, [], [], []⟩ ⟨argSlots 0 args, []⟩ { tmps := args.toArray ++ Array.replicate (fn.ntmps - args.toArray.size) undef, defers := [] } W := by
    refine ⟨⟨?_, rfl, fun t v ht => ?_⟩, HRep.nil _⟩
    · simp; omega
    · have := argSlots_look args 0 t v ht
      rw [Array.getElem?_append]
      have hlt : t < args.length := by
        rcases Nat.lt_or_ge t args.length with h1 | h1
        · exact h1
        · rw [List.getElem?_eq_none oM] at this; cases this.2
      simp only [List.size_toArray]
      rw [if_pos hlt]
      simpa using this.2
  refine wp_seq (wp_mono (h _ _ rep0) fun e a w ⟨s, r, q⟩ => ?_)
  cases e with
  | normal =>
    refine wp_seq (wp_region ?_)
    simp only [List.toArray, Array.size]
    show wpOps P _ _ [0, 1] a w
    rw [wpOps_cons]
    refine Tr.step (C := ⟨P, W, fn.ntmps, [], [], []⟩) (c := 4) (o := o0) (by rfl) q a w r _ (fun s1 a1 w1 r1 k1 => ?_) _
    rw [wpOps_cons]
    cases k1 with
    | dup h => exact absurd r1.rh.nodup h
    | nil h =>
      obtain ⟨g, cap, hx, hbody, hrest⟩ := h
      have hex := run_defer (P := P) (ρ := a1.eval) (w := w1) (ty := ty) (pos := pos) (af := af) (r1.rs.eval hx)
      have hw : wantS [o0, ⟨none, .defer ⟨.value x, #[], #[]⟩, ty, pos, af, none⟩].toArray s1.sl ⟨none, .defer ⟨.value x, #[], #[]⟩, ty, pos, af, none⟩ = some true := rfl
      unfold wpOp
      have hi : [o0, (⟨none, .defer ⟨.value x, #[], #[]⟩, ty, pos, af, none⟩ : Oper)].toArray[1]? = some ⟨none, .defer ⟨.value x, #[], #[]⟩, ty, pos, af, none⟩ := rfl
      simp only [hi, wantS_ok r1.rs hw, if_true]
      refine .inl ?_
      unfold Oper.wp
      rw [hex, Oper.upon_defer]
      have r2 : Rep ⟨P, W, fn.ntmps, [], [], [dfr g cap]⟩ s1 ({ a1 with defers := dfr g cap :: a1.defers }.put none undef) w1 := by
        refine ⟨⟨r1.rs.size, ?_, r1.rs.slots⟩, r1.rh.cells, r1.rh.nodup, r1.rh.own, r1.rh.keeps, r1.rh.kok, r1.rh.kd⟩
        show dfr g cap :: a1.defers = _
        rw [r1.rs.defers]
      show wpOps P _ _ [] _ _
      refine wp_mono (hrest _ _ r2) fun e a3 w3 ⟨s3, r3, q3⟩ => ?_
      have fin : endAtD ⟨P, W, fn.ntmps, [], [], [dfr g cap]⟩ g cap fn R s3 → Leaves P fn a3.tmps (fun e W' => ∃ v out, e = .returned v ∧ R v out ∧ Ret [] out W W') a3.defers .returning w3 := by
        rintro ⟨lent, L, keep, Pre, R', hsp, hl, hc, hpre, hk⟩
        rw [show a3.defers = [dfr g cap] from r3.rs.defers]
        refine leaves_cons (f := g) (args := cap.toList.toArray) (fun h => by cases h) ?_ ?_
        · have := hbody (#[] ++ cap) w3
          simpa [invoke] using this
        · refine (hc w3 (hpre w3 r3.rh) .returning).mono fun e u' w4 ⟨hu, v', out', he, hR', hret⟩ => ?_
          subst hu; subst he
          have r4 : Rep ⟨P, W, fn.ntmps, [], [], [dfr g cap]⟩ ⟨s3.sl, out' ++ keep⟩ a3 w4 := ⟨r3.rs, r3.rh.lentRet hsp hl hret⟩
          obtain ⟨v, out, hr, hsub, hnd, hR⟩ := hk v' out' hR'
          exact ⟨v, hr a3 w4 r4, v, out, rfl, hR, r4.rh.keeps, fun b hb => r4.rh.cells b (hsub b hb), hnd r4.rh.nodup, fun b hb => r4.rh.own b (hsub b hb)⟩
      cases e with
      | normal => exact fin q3
      | ret => exact fin q3
      | _ => exact q3.elim
  | _ => exact q.elim
end Hw
end

section
namespace Go.Proofs.YtkfhpmidcbmofaaGreat
open Go Hw

def DCut.zero : DCut := ⟨0, List.replicate 32 0, []⟩
def cutP (xs : List UInt8) : DCut × Nat × Int :=
  let r1 := Bc xs 0 0
  let r2 := digR xs r1.2.1 r1.2.2
  let r3 := Bc xs r2.2.1 r2.2.2
  let r4 := Bj xs (min r3.1.toNat 33) r3.2.1 r3.2.2
  (⟨r1.1, r2.1, r4.1⟩, r4.2)
def cutRd (xs : List UInt8) : DCut × Int :=
  if endR xs.length (cutP xs).2.1 (cutP xs).2.2 = 0 ∧ (cutP xs).1.check = 0 then ((cutP xs).1, 0) else (DCut.zero, 4)
theorem cutz_is (W : World) : CutIs W Cut.zero DCut.zero := ⟨Cut.zero_ok, rfl, rfl, rows_none⟩
def CutRead (xs : List UInt8) (v : Value) (out : List Blk) : Prop := ∃ C : Cut, C.ok ∧ v = .tuple #[agg C.cells, i64 (cutRd xs).2] ∧ ∀ W2, Lies out W2 → CutIs W2 C (cutRd xs).1
theorem cut_bad {xs : List UInt8} {out : List Blk} (h : ¬ (endR xs.length (cutP xs).2.1 (cutP xs).2.2 = 0 ∧ (cutP xs).1.check = 0)) : CutRead xs (.tuple #[agg Cut.zero.cells, i64 4]) out := by
  refine ⟨Cut.zero, Cut.zero_ok, ?_, fun W2 _ => ?_⟩ <;> rw [show cutRd xs = (DCut.zero, 4) from if_neg h]
  exact cutz_is W2
theorem cut_ok {xs : List UInt8} {out : List Blk} {C : Cut} (h : endR xs.length (cutP xs).2.1 (cutP xs).2.2 = 0 ∧ (cutP xs).1.check = 0) (hok : C.ok) (hC : ∀ W2, Lies out W2 → CutIs W2 C (cutP xs).1) : CutRead xs (.tuple #[agg C.cells, i64 0]) out := by
  refine ⟨C, hok, ?_, fun W2 h2 => ?_⟩ <;> rw [show cutRd xs = ((cutP xs).1, 0) from if_pos h]
  exact hC W2 h2

theorem cut_r1_ok (b c : Nat) (X : Cut) (hX : X.ok) (hbc : b ≠ c) : MeetsD Tryz.prog 93 [ptr b 0, ptr c 0] [b, c] (fun W => BlkOk W ⟨b, [i64 0], 33, 1⟩ ∧ BlkOk W ⟨c, (X).cells, 39, 34⟩) (fun v out => v = .tuple #[] ∧ out = [⟨b, [i64 0], 33, 1⟩, ⟨c, (X).cells, 39, 34⟩]) := by
 intro W hW
 intro u
 refine callsD_of (hp0 := [⟨b, [i64 0], 33, 1⟩, ⟨c, (X).cells, 39, 34⟩]) Tryz.func93 rfl 5 Tryz.ntmps93 rfl (HRep.two hW.1 hW.2 hbc) ?_
 refine Sat.seq (Sat.region ?_)
 refine Tr.load1 rfl rfl rfl U33 rfl mM (by first | rfl | exact Ap (by first | omega | (simp [hX.l_fPrev]; done) | (simp [hX.l_fPrev]; omega)) | exact Ax (by first | omega | (simp [hX.l_fPrev]; done) | (simp [hX.l_fPrev]; omega)) | exact Bd (by first | omega | (simp [hX.l_fPrev]; done) | (simp [hX.l_fPrev]; omega))) ?_
 refine Tr.nei rfl rfl rfl rfl (show (!decide _) = false from congrArg not (decide_eq_true dE)) ?_
 refine Tr.nil (Aa ?_)
 refine Sat.cond_f rfl (rfl) ?_
 refine Sat.skip (en_n ?_)
 refine Al (out := (⟨b, [i64 0], 33, 1⟩ :: (⟨c, (X).cells, 39, 34⟩ :: []))) (res_none rfl) (Ad rM (Ad rM Ag)) ?_
 exact ⟨rfl, rfl⟩

theorem cut_r1_bad (b c : Nat) (X : Cut) (hX : X.ok) (hbc : b ≠ c) : MeetsD Tryz.prog 93 [ptr b 0, ptr c 0] [b, c] (fun W => BlkOk W ⟨b, [i64 4], 33, 1⟩ ∧ BlkOk W ⟨c, (X).cells, 39, 34⟩) (fun v out => v = .tuple #[] ∧ out = [⟨b, [i64 4], 33, 1⟩, ⟨c, (Cut.zero).cells, 39, 34⟩]) := by
 intro W hW
 intro u
 refine callsD_of (hp0 := [⟨b, [i64 4], 33, 1⟩, ⟨c, (X).cells, 39, 34⟩]) Tryz.func93 rfl 5 Tryz.ntmps93 rfl (HRep.two hW.1 hW.2 hbc) ?_
 refine Sat.seq (Sat.region ?_)
 refine Tr.load1 rfl rfl rfl U33 rfl mM (by first | rfl | exact Ap (by first | omega | (simp [hX.l_fPrev]; done) | (simp [hX.l_fPrev]; omega)) | exact Ax (by first | omega | (simp [hX.l_fPrev]; done) | (simp [hX.l_fPrev]; omega)) | exact Bd (by first | omega | (simp [hX.l_fPrev]; done) | (simp [hX.l_fPrev]; omega))) ?_
 refine Tr.nei rfl rfl rfl rfl (show (!decide _) = true from congrArg not (decide_eq_false dE)) ?_
 refine Tr.nil (Aa ?_)
 refine Sat.cond_t rfl (rfl) ?_
 refine Sat.region ?_
 refine Tr.build (cs := Cut.zero.cells) rfl rfl rfl (fun w => by kernel_rfl) ?_
 refine Tr.sA rfl rfl rfl rfl (Cut.isCell (by first | (simp [hX.l_fPrev]; done) | exact oK  | exact hX)) Sz39 (Cut.length (by first | (simp [hX.l_fPrev]; done) | exact oK  | exact hX)) mM (Cut.length (by first | (simp [hX.l_fPrev]; done) | exact oK  | exact hX)) uU ?_
 refine Tr.nil (en_n ?_)
 refine Al (out := (⟨b, [i64 4], 33, 1⟩ :: (⟨c, (Cut.zero).cells, 39, 34⟩ :: []))) (res_none rfl) (Ad rM (Ad rM Ag)) ?_
 exact ⟨rfl, rfl⟩

theorem cut_read (a : Option Addr) (n c : Nat) (xs : List UInt8) (hl : xs.length = n) (hp : a = none → n = 0) (hn : n ≤ 90000) : Meets Tryz.prog 38 [.slice a n c] [] (fun W => SeesP W a (Ab xs)) (CutRead xs) := by
 intro W hW
 obtain ⟨x1, r1, h1⟩ : ∃ l r, Bc xs 0 0 = (l, r) := ⟨_, _, rfl⟩
 obtain ⟨a1, e1⟩ := r1
 obtain ⟨l2, r2, h2⟩ : ∃ l r, digR xs a1 e1 = (l, r) := ⟨_, _, rfl⟩
 obtain ⟨a2, e2⟩ := r2
 obtain ⟨x3, r3, h3⟩ : ∃ l r, Bc xs a2 e2 = (l, r) := ⟨_, _, rfl⟩
 obtain ⟨a3, e3⟩ := r3
 obtain ⟨ls, r4, h4⟩ : ∃ l r, Bj xs (min x3.toNat 33) a3 e3 = (l, r) := ⟨_, _, rfl⟩
 obtain ⟨a4, e4⟩ := r4
 have hcp : cutP xs = (⟨x1, l2, ls⟩, a4, e4) := by simp only [cutP, h1, h2, h3, h4]
 have hd1 := numE_le h1 hl (Nat.zero_le _)
 have hd2 := digE_le h2 hl hd1
 have hd3 := numE_le h3 hl hd2.1
 have hd4 := digsR_at (e := e3) hl hd3 (min x3.toNat 33)
 rw [h4] at hd4
 have ok1 : ({ Cut.zero with fHeight := x1 } : Cut).ok := ⟨rfl⟩
 have ok2 : ({ Cut.zero with fHeight := x1, fPrev := l2 } : Cut).ok := ⟨hd2.2⟩
 have okX : ∀ s, ({ Cut.zero with fHeight := x1, fPrev := l2, fHeads := s } : Cut).ok := fun s => ⟨hd2.2⟩
 refine calls_defer Tryz.func38 rfl 37 Tryz.ntmps38 rfl ?_
 refine Sat.region ?_
 refine Tr.alloc (cs := Cut.zero.cells) rfl Cut.zr rfl ?_
 intro n2 hn2 hf2
 refine Tr.alloc (cs := [i64 0]) rfl Zr33 rfl ?_
 intro n3 hn3 hf3
 refine Tr.nil (Aa ?_)
 refine Tr.makeFunc rfl rfl rfl rfl ?_
 refine Tr.nil ?_
 refine ⟨_, _, rfl, Body93, ?_⟩
 refine Sat.seq (Sat.region ?_)
 refine Tr.m rfl rfl rfl ?_
 refine Tr.call4 rfl rfl rfl rfl rfl Body81 (oct_Read a n c xs hl hp hn) (fun w h => Az h rfl hW) ?_
 rintro v7 out7 ⟨n7, q7, cp7, rfl, hcp7, rfl⟩
 refine Tr.nd (fun hnd => ?_)
 have hne : q7 ≠ n7 := by intro e; simp [RB, e] at hnd
 have hn32 : n3 ≠ n2 := by intro e; simp [RB, e] at hnd
 clear hnd
 refine Tr.a rfl rfl rfl ?_
 refine Tr.nil (Aa (Sat.seq (Sat.region ?_)))
 refine Tr.m rfl rfl rfl ?_
 refine Tr.callL (L := [RB n7 q7 n cp7 0 0]) rfl rfl rfl rfl rfl Body90 (rd_NumberE n7 q7 n cp7 0 0 xs hl (Nat.zero_le _) hcp7 oM x1 a1 e1 h1) (Ad rM Ag) (A4 rfl) (fun w h => ⟨An h mM, Ay h mM, hne⟩) ?_
 rintro v9 out9 ⟨rfl, rfl⟩
 refine Tr.m rfl rfl rfl ?_
 refine Tr.callL (L := [RB n7 q7 n cp7 a1 e1]) rfl rfl rfl rfl rfl Body91 (rd_DigestE n7 q7 n cp7 a1 e1 xs hl hd1 hcp7 oM l2 a2 e2 h2) (Ad rM Ag) (A4 rfl) (fun w h => ⟨An h mM, Ay h mM, hne⟩) ?_
 rintro v9 out9 ⟨rfl, rfl⟩
 refine Tr.fld rfl rfl rfl U39 rfl Bp dE _ rfl ?_
 refine Tr.s1 rfl rfl rfl rfl rfl Bp mM (by rw [Cut.length (by first | (simp [hd2.2]; done) | exact oK  | exact okX _ | exact ok1 | exact ok2)]; decide) (Cut.set_fHeight (by first | (simp [hd2.2]; done) | exact oK  | exact okX _ | exact ok1 | exact ok2) _) uU ?_
 refine Tr.fld rfl rfl rfl U39 rfl A5 dE _ rfl ?_
 refine Tr.storeN (Ab _) rfl rfl rfl rfl rfl cB A5 (by simp [hd2.2]) mM (by rw [Cut.length (by first | (simp [hd2.2]; done) | exact oK  | exact okX _ | exact ok1 | exact ok2)]; simp [hd2.2]) (Cut.upd_fPrev (by first | (simp [hd2.2]; done) | exact oK  | exact okX _ | exact ok1 | exact ok2) _ (by simp [hd2.2])) uU ?_
 refine Tr.nil (Aa (Sat.seq (Sat.seq (Sat.region ?_))))
 refine Tr.m rfl rfl rfl ?_
 refine Tr.callL (L := [RB n7 q7 n cp7 a2 e2]) rfl rfl rfl rfl rfl Body90 (rd_NumberE n7 q7 n cp7 a2 e2 xs hl hd2.1 hcp7 oM x3 a3 e3 h3) (Ad rM Ag) (A4 rfl) (fun w h => ⟨An h mM, Ay h mM, hne⟩) ?_
 rintro v9 out9 ⟨rfl, rfl⟩
 refine Tr.min2 rfl rfl rfl rfl (show Value.int .u64 (if (33 : Int) < (x3.toNat : Int) then 33 else (x3.toNat : Int)) = .int .u64 ((min x3.toNat 33 : Nat) : Int) from by congr 1; split <;> omega) ?_
 refine Tr.m rfl rfl rfl ?_
 refine Tr.nil (Aa (Sat.block ?_))
 refine Sat.loop (ι := Nat × Sl × List Blk) (fun p => ⟨[(2, ptr n2 0), (3, ptr n3 0), (4, ptr n7 0), (16, .int .u64 ((min x3.toNat 33 : Nat) : Int)), (17, u64 (UInt64.ofNat p.1))], (RB n7 q7 n cp7 (Bj xs p.1 a3 e3).2.1 (Bj xs p.1 a3 e3).2.2 :: (⟨q7, Ab xs, 5, cp7 * 1⟩ :: (⟨n3, [i64 0], 33, 1⟩ :: (⟨n2, (({ Cut.zero with fHeight := x1, fPrev := l2, fHeads := p.2.1 } : Cut)).cells, 39, 34⟩ :: (p.2.2 ++ [])))))⟩) (fun p => p.1 ≤ min x3.toNat 33 ∧ Acc p.2.1 p.2.2 (flatB (Bj xs p.1 a3 e3).1) 24 p.1 32) (fun p => min x3.toNat 33 - p.1) ((0, Sl.nil, [])) ?_ ?_ ?_
 · exact ⟨Nat.zero_le _, Acc.none⟩
 · exact Am (wk1 rfl (wk1 rfl (wk1 rfl (wk1 rfl (wk1 rfl wk0))))) (Ad rM (Ad rM (Ad rM (Ad rM (pm_none Ag)))))
 ·
  rintro p ⟨hp1, hac⟩
  have hD := digsR_at (e := e3) hl hd3 p.1
  obtain ⟨l5, r5, hd5⟩ : ∃ l r, digR xs (Bj xs p.1 a3 e3).2.1 (Bj xs p.1 a3 e3).2.2 = (l, r) := ⟨_, _, rfl⟩
  obtain ⟨a5, e5⟩ := r5
  have hdl := digE_le hd5 hl hD.1
  have hs := digsR_succ hd5
  have hj64 : (UInt64.ofNat p.1).toNat = p.1 := Bq oM
  refine Sat.seq (Sat.region ?_)
  refine Tr.lss rfl rfl rfl rfl rfl ?_
  refine Tr.nil (Aa (Sat.seq ?_))
  first
   | refine Sat.condP rfl (fun hc0 => ?_) (fun hc0 => ?_)
   | refine Sat.condNP rfl (fun hc0 => ?_) (fun hc0 => ?_)
   | refine Sat.cond rfl (fun hc0 => ?_) (fun hc0 => ?_)
  ·
   have hp3 : p.1 < min x3.toNat 33 := by omega
   refine Sat.skip (Aa (Sat.seq (Sat.block ?_)))
   refine Sat.drawK (sp_v (sp_v (sp_v (sp_k (sp_x sp_n))))) rfl [(0, 0), (0, 1), (0, 2), (4, 3), (2, 4), (4, 5), (0, 6)] [(4, 7)] Bt zK zK ?_
   refine Tr.fld rfl rfl rfl U39 rfl Sz37 dE _ rfl ?_
   refine Tr.kload1 rfl rfl rfl U37 rfl mM (by first | exact Cut.get_fHeads (by first | (simp [hd2.2]; done) | exact oK  | exact okX _ | exact ok1 | exact ok2) | exact (by first | rfl | exact Ap (by first | omega | (simp [hd2.2]; done) | (simp [hd2.2]; omega)) | exact Ax (by first | omega | (simp [hd2.2]; done) | (simp [hd2.2]; omega)) | exact Bd (by first | omega | (simp [hd2.2]; done) | (simp [hd2.2]; omega)))) ?_
   refine Tr.m rfl rfl rfl ?_
   refine Tr.callL (L := [RB n7 q7 n cp7 (Bj xs p.1 a3 e3).2.1 (Bj xs p.1 a3 e3).2.2]) rfl rfl rfl rfl rfl Body91 (rd_DigestE n7 q7 n cp7 (Bj xs p.1 a3 e3).2.1 (Bj xs p.1 a3 e3).2.2 xs hl hD.1 hcp7 oM l5 a5 e5 hd5) (Ad rM Ag) (A4 rfl) (fun w h => ⟨An h mM, Ay h mM, hne⟩) ?_
   rintro v9 out9 ⟨rfl, rfl⟩
   refine Tr.mkRow2 (z := agg (Ab (List.replicate 32 0))) [agg (Ab l5)] (Ab l5) rfl rfl U37 A5 Zr24 rfl rfl (by intro v hv; rw [List.mem_singleton.1 hv]; simp [Value.cells, hdl.2]) dE (by simp [Value.cells]) ?_
   intro q23
   refine Tr.appendAcc (z := agg (Ab (List.replicate 32 0))) (by' := 32) (Ab l5) rfl rfl rfl rfl rfl U37 U37 A5 Zr24 (by unfold By; kernel_rfl) rfl hac sG (fun w h => SeesP.of (Ay h mM)) (fun e => by cases e) (A7 _) oM oM (by simp [Ab, hdl.2]) ?_
   intro s24 bl24 hac24
   refine Tr.fld rfl rfl rfl U39 rfl Sz37 dE _ rfl ?_
   refine Tr.nil ?_
   refine Tr.s1 rfl rfl rfl rfl rfl Sz37 mM (by rw [Cut.length (by first | (simp [hd2.2]; done) | exact oK  | exact okX _ | exact ok1 | exact ok2)]; decide) (by first | exact Cut.set_fHeads (by first | (simp [hd2.2]; done) | exact oK  | exact okX _ | exact ok1 | exact ok2) _ | exact Cut.setS_fHeads (by first | (simp [hd2.2]; done) | exact oK  | exact okX _ | exact ok1 | exact ok2) _ _ _) uU ?_
   refine Tr.nil (Bu (Aa (Sat.region ?_)))
   refine Tr.add_u64 rfl rfl rfl (show Ai _ _ = some (u64 1) from rfl) ?_
   refine Tr.m rfl rfl rfl ?_
   refine Tr.nil (Aa ?_)
   refine ⟨(p.1 + 1, s24, bl24), ⟨by simp only []; omega, ?_⟩, by simp only []; omega, Am (wk1 rfl (wk1 rfl (wk1 rfl (wk1 rfl (wk1 (congrArg (fun z => some (u64 z)) (ofNat_step _)) wk0))))) (pm_consE rM (by simp only [hs]) rfl (Ad rM (Ad rM (Ad rM (Ac sG Ag)))))⟩
   simp only [hs]
   rw [flatB_append]
   simpa [flatB] using hac24
  ·
   have hp3 : p.1 = min x3.toNat 33 := by omega
   rw [hp3, h4] at hac
   rw [hp3, h4]
   refine Sat.exit (A9 (A9 (bl_h (Aa (Sat.seq (Sat.seq (Sat.region ?_)))))))
   refine Tr.m rfl rfl rfl ?_
   refine Tr.cV rfl rfl rfl rfl Body86 (rd_End n7 q7 n cp7 a4 e4 hd4.1 oM) (fun w h => An h mM) ?_
   refine two (fun r hr k => Tr.nei rfl rfl rfl rfl hr k) (fun hs8_20 => ?_) (fun hs8_20 => ?_)
   ·
    first | have hs8_2 := of_decide_eq_true hs8_20 | have hs8_2 := of_decide_eq_false hs8_20 | have hs8_2 := nd_t hs8_20 | have hs8_2 := nd_f hs8_20 | have hs8_2 := hs8_20
    refine Tr.m rfl rfl rfl ?_
    refine Tr.skp rfl rfl ?_
    refine Tr.skp rfl rfl ?_
    refine Tr.skp rfl rfl ?_
    refine Tr.pick rfl rfl rfl rfl rfl rfl ?_
    refine Tr.nil (Aa ?_)
    refine Sat.cond_t rfl rfl ?_
    refine Sat.seq (Sat.region ?_)
    refine Tr.lA rfl rfl rfl U39 rfl Sz39 mM (Cut.length (by first | (simp [hd2.2]; done) | exact oK  | exact okX _ | exact ok1 | exact ok2)) ?_
    refine Tr.sA rfl rfl rfl rfl (Cut.isCell (by first | (simp [hd2.2]; done) | exact oK  | exact okX _ | exact ok1 | exact ok2)) Sz39 (Cut.length (by first | (simp [hd2.2]; done) | exact oK  | exact okX _ | exact ok1 | exact ok2)) mM (Cut.length (by first | (simp [hd2.2]; done) | exact oK  | exact okX _ | exact ok1 | exact ok2)) uU ?_
    refine Tr.s1 rfl rfl rfl rfl rfl Sz33 mM (by first | (simp [hd2.2]; done) | (simp [hd2.2]; omega)) sT uU ?_
    refine Tr.nil (Aa (Sat.ret (As ?_)))
    refine enD_r ?_
    refine ⟨[n3, n2], [⟨n3, [i64 4], 33, 1⟩, ⟨n2, (({ Cut.zero with fHeight := x1, fPrev := l2, fHeads := p.2.1 } : Cut)).cells, 39, 34⟩], _, _, _, (Ad rM (Ad rM Ag)), A4 rfl, cut_r1_bad n3 n2 (({ Cut.zero with fHeight := x1, fPrev := l2, fHeads := p.2.1 } : Cut)) (okX _) hn32, (fun w h => ⟨An h mM, An h mM⟩), fun v2 out2 h => ?_⟩
    obtain ⟨rfl, rfl⟩ := h
    refine Al (out := []) (res_cell_cell rfl rfl rfl U39 rfl Sz39 mM (Cut.length (by first | exact okX _ | exact Cut.zero_ok)) U33 rfl mM) Ag ?_
    exact cut_bad (by rw [hcp, hl]; exact fun h => hs8_2 h.1)
   ·
    first | have hs8_2 := of_decide_eq_true hs8_20 | have hs8_2 := of_decide_eq_false hs8_20 | have hs8_2 := nd_t hs8_20 | have hs8_2 := nd_f hs8_20 | have hs8_2 := hs8_20
    refine Tr.m rfl rfl rfl ?_
    refine Tr.lA rfl rfl rfl U39 rfl Sz39 mM (Cut.length (by first | (simp [hd2.2]; done) | exact oK  | exact okX _ | exact ok1 | exact ok2)) ?_
    refine Tr.cV rfl rfl rfl rfl Body54 (cut_check ({ Cut.zero with fHeight := x1, fPrev := l2, fHeads := p.2.1 } : Cut) ⟨x1, l2, ls⟩) (fun w h => ⟨okX _, rfl, rfl, acc_rows hac (Lies.of h iN) hd4.2.1 (by rw [hd4.2.2]) oM⟩) ?_
    refine Tr.nei rfl rfl rfl rfl rfl ?_
    refine Tr.pick rfl rfl rfl rfl rfl rfl ?_
    refine Tr.nil (Aa ?_)
    first
     | refine Sat.condP rfl (fun hc1 => ?_) (fun hc1 => ?_)
     | refine Sat.condNP rfl (fun hc1 => ?_) (fun hc1 => ?_)
     | refine Sat.cond rfl (fun hc1 => ?_) (fun hc1 => ?_)
    ·
     refine Sat.seq (Sat.region ?_)
     refine Tr.lA rfl rfl rfl U39 rfl Sz39 mM (Cut.length (by first | (simp [hd2.2]; done) | exact oK  | exact okX _ | exact ok1 | exact ok2)) ?_
     refine Tr.sA rfl rfl rfl rfl (Cut.isCell (by first | (simp [hd2.2]; done) | exact oK  | exact okX _ | exact ok1 | exact ok2)) Sz39 (Cut.length (by first | (simp [hd2.2]; done) | exact oK  | exact okX _ | exact ok1 | exact ok2)) mM (Cut.length (by first | (simp [hd2.2]; done) | exact oK  | exact okX _ | exact ok1 | exact ok2)) uU ?_
     refine Tr.s1 rfl rfl rfl rfl rfl Sz33 mM (by first | (simp [hd2.2]; done) | (simp [hd2.2]; omega)) sT uU ?_
     refine Tr.nil (Aa (Sat.ret (As ?_)))
     refine enD_r ?_
     refine ⟨[n3, n2], [⟨n3, [i64 4], 33, 1⟩, ⟨n2, (({ Cut.zero with fHeight := x1, fPrev := l2, fHeads := p.2.1 } : Cut)).cells, 39, 34⟩], _, _, _, (Ad rM (Ad rM Ag)), A4 rfl, cut_r1_bad n3 n2 (({ Cut.zero with fHeight := x1, fPrev := l2, fHeads := p.2.1 } : Cut)) (okX _) hn32, (fun w h => ⟨An h mM, An h mM⟩), fun v2 out2 h => ?_⟩
     obtain ⟨rfl, rfl⟩ := h
     refine Al (out := []) (res_cell_cell rfl rfl rfl U39 rfl Sz39 mM (Cut.length (by first | exact okX _ | exact Cut.zero_ok)) U33 rfl mM) Ag ?_
     exact cut_bad (by rw [hcp, hl]; exact fun h => hc1 h.2)
    ·
     refine Sat.skip (Aa (Sat.seq (Sat.region ?_)))
     refine Tr.lA rfl rfl rfl U39 rfl Sz39 mM (Cut.length (by first | (simp [hd2.2]; done) | exact oK  | exact okX _ | exact ok1 | exact ok2)) ?_
     refine Tr.sA rfl rfl rfl rfl (Cut.isCell (by first | (simp [hd2.2]; done) | exact oK  | exact okX _ | exact ok1 | exact ok2)) Sz39 (Cut.length (by first | (simp [hd2.2]; done) | exact oK  | exact okX _ | exact ok1 | exact ok2)) mM (Cut.length (by first | (simp [hd2.2]; done) | exact oK  | exact okX _ | exact ok1 | exact ok2)) uU ?_
     refine Tr.s1 rfl rfl rfl rfl rfl Sz33 mM (by first | (simp [hd2.2]; done) | (simp [hd2.2]; omega)) sT uU ?_
     refine Tr.nil (Aa (Sat.ret ?_))
     refine enD_r ?_
     refine ⟨[n3, n2], [⟨n3, [i64 0], 33, 1⟩, ⟨n2, (({ Cut.zero with fHeight := x1, fPrev := l2, fHeads := p.2.1 } : Cut)).cells, 39, 34⟩], _, _, _, (Ad rM (Ad rM Ag)), A4 rfl, cut_r1_ok n3 n2 (({ Cut.zero with fHeight := x1, fPrev := l2, fHeads := p.2.1 } : Cut)) (okX _) hn32, (fun w h => ⟨An h mM, An h mM⟩), fun v2 out2 h => ?_⟩
     obtain ⟨rfl, rfl⟩ := h
     refine Al (out := (p.2.2 ++ [])) (res_cell_cell rfl rfl rfl U39 rfl Sz39 mM (Cut.length (by first | exact okX _ | exact Cut.zero_ok)) U33 rfl mM) (Ac sG Ag) ?_
     exact cut_ok (by rw [hcp, hl]; exact ⟨hs8_2, hc1⟩) (okX _) (fun W2 h2 => by
      rw [hcp]
      exact ⟨okX _, rfl, rfl, acc_rows hac (h2.sub in_here) hd4.2.1 (by rw [hd4.2.2]) oM⟩)

end Go.Proofs.YtkfhpmidcbmofaaGreat
end

section
namespace Go.Proofs.YtkfhpmidcbmofaaGreat
open Go Hw

theorem Acc.hrep {P : Program} {W : World} {N : Nat} {s : Sl} {bl : List Blk} {cells : List Value} {E : TypeId} {n size : Nat} (h : Hw.Acc s bl cells E n size) (hl : Lies bl W) : HRep ⟨P, W, N, bl.map (·.n), [], []⟩ bl W :=
  ⟨hl, by rcases h with ⟨_, rfl, _⟩ | ⟨q, c, _, _, _, rfl⟩ <;> simp, fun b hb => .inr (List.mem_map.2 ⟨b, hb, rfl⟩), Keeps.refl _ _, fun _ h => (by cases h), fun _ _ _ h => (by cases h)⟩
theorem sees_kok {w : World} {b o : Nat} {cs l : List Value} {T : TypeId} {m : Nat} (hb : BlkOk w ⟨b, cs, T, m⟩) (hs : ∀ (j : Nat) (v : Value), l[j]? = some v → cs[o + j]? = some v) : Sees w b o l := fun j v hj => hb.cell (o := o + j) (hs j v hj)
theorem sp_e {X A K : List Blk} (h : ([] : List Blk).Perm (A ++ K)) : X.Perm ((X ++ A) ++ K) := by rw [List.append_assoc]; exact (List.Perm.append_left X h).symm.symm.trans (.refl _) |> fun k => (by rw [List.append_nil] at k; exact k)
theorem seesP_na {C : Cx} {hp : List Blk} {w : World} {p : Option Addr} {cs : List Value} (h : HRep C hp w) (hs : SeesP C.W0 p cs) (hna : ∀ a, p = some a → a.block ∉ C.lent) : SeesP w p cs := fun j v hj => by
  obtain ⟨b, o, e, hc⟩ := hs j v hj
  exact ⟨b, o, e, h.keeps.cell (show b ∉ C.lent from hna ⟨b, o, none⟩ e) hc⟩
theorem na_kb {C : Cx} {hp bl : List Blk} {w : World} {k : Blk} {o : Nat} (h : HRep C hp w) (hk : k ∈ C.kb) (hb : ∀ b ∈ bl, b ∈ hp) : ∀ a, (some ⟨k.n, o, none⟩ : Option Addr) = some a → a.block ∉ bl.map (·.n) := fun a e hm => by
  cases e
  obtain ⟨b, hb2, e2⟩ := List.mem_map.1 hm
  exact h.kd b (hb b hb2) k hk e2
def voteT (V : Vote) : List UInt8 := Be V.fHeight ++ Be V.fRound ++ Be (Hw.byteOf V.fPhase).toUInt64 ++ V.fValue ++ Be V.fProof ++ V.fVoter
def Ba (V : Vote) : List UInt8 := if Bk V = 0 then voteT V ++ V.fSig else []
def voteN (V : Vote) : Nat := szN V.fHeight.toNat + szN V.fRound.toNat + szN (Hw.byteOf V.fPhase).toUInt64.toNat + 32 + szN V.fProof.toNat + 32
theorem voteT_length {V : Vote} (h : V.ok) : (voteT V).length = voteN V := by simp only [voteT, voteN, List.length_append, A3, h.l_fValue, h.l_fVoter]
theorem voteN_le (V : Vote) : voteN V ≤ 100 := by
  have h1 := Bb V.fHeight.toNat
  have h2 := Bb V.fRound.toNat
  have h3 := Bb (Hw.byteOf V.fPhase).toUInt64.toNat
  have h4 := Bb V.fProof.toNat
  unfold voteN
  omega

theorem text_number (s : Sl) (bl : List Blk) (l : List UInt8) (n : Nat) (hac : Hw.Acc s bl (Ab l) 5 n 1) (hn : n ≤ 1000) (x : UInt64) : Meets Tryz.prog 116 [s.v, u64 x] (bl.map (·.n)) (fun W => Lies bl W ∧ True) (fun v out => ∃ s', v = s'.v ∧ Hw.Acc s' out (Ab (l ++ Be x)) 5 (n + szN x.toNat) 1) := by
 intro W hW
 have hz := Bb x.toNat
 refine A6 (hp0 := bl) Tryz.func116 rfl 9 Tryz.ntmps116 rfl (Acc.hrep hac hW.1) ?_
 refine Sat.seq (Sat.region ?_)
 refine Tr.a rfl rfl rfl ?_
 refine Tr.nil (Aa (Sat.seq (Sat.region ?_)))
 refine Tr.m rfl rfl rfl ?_
 refine Tr.m rfl rfl rfl ?_
 refine Tr.call4 rfl rfl rfl rfl rfl Body80 (oct_Number none 0 0 [] x rfl (fun _ => rfl) oM) (fun _ _ => SeesP.nil) ?_
 rintro v7 out7 ⟨q7, c7, rfl, hc7, rfl⟩
 simp only [Nat.zero_add, List.nil_append, List.cons_append]
 refine Tr.appendAcc (z := u8 0) (by' := 1) (Ab (Be x)) rfl rfl rfl rfl rfl Tryz.underlying126 U30 Sz5 Zr5 (by unfold By; kernel_rfl) rfl hac (by repeat (first | exact sg_end | apply sg_there)) (fun w h => SeesP.of (Ay h Z0)) (fun e => by cases e) (A7 _) oM oM (by simp [A3]) ?_
 intro s8 bl8 hac8
 refine Tr.a rfl rfl rfl ?_
 refine Tr.nil (Aa (Sat.ret (Ak ?_)))
 refine Al (out := (bl8 ++ [])) (Ae rfl rfl) (Ac sG Ag) ?_
 exact ⟨s8, rfl, by rw [bytesV_app, List.append_nil]; exact hac8⟩

theorem text_raw (s : Sl) (bl : List Blk) (l : List UInt8) (n : Nat) (hac : Hw.Acc s bl (Ab l) 5 n 1) (hn : n ≤ 1000) (p : Option Addr) (m c : Nat) (ys : List UInt8) (hy : ys.length = m) (hm : m ≤ 1000) (hpn : p = none → m = 0) : Meets Tryz.prog 79 [s.v, .slice p m c] (bl.map (·.n)) (fun W => Lies bl W ∧ SeesP W p (Ab ys) ∧ ∀ a, p = some a → a.block ∉ bl.map (·.n)) (fun v out => ∃ s', v = s'.v ∧ Hw.Acc s' out (Ab (l ++ ys)) 5 (n + m) 1) := by
 intro W hW
 refine A6 (hp0 := bl) Tryz.func79 rfl 8 Tryz.ntmps79 rfl (Acc.hrep hac hW.1) ?_
 refine Sat.seq (Sat.region ?_)
 refine Tr.a rfl rfl rfl ?_
 refine Tr.nil (Aa (Sat.seq (Sat.region ?_)))
 refine Tr.m rfl rfl rfl ?_
 refine Tr.m rfl rfl rfl ?_
 refine Tr.appendAcc (z := u8 0) (by' := 1) (Ab ys) rfl rfl rfl rfl rfl Tryz.underlying126 U30 Sz5 Zr5 (by unfold By; kernel_rfl) rfl hac (by repeat (exact sg_end)) (fun w h => seesP_na h hW.2.1 hW.2.2) hpn (A7 _) oM oM (by rw [Ab, List.length_map, hy, Nat.mul_one]) ?_
 intro s7 bl7 hac7
 refine Tr.a rfl rfl rfl ?_
 refine Tr.nil (Aa (Sat.ret (Ak ?_)))
 refine Al (out := (bl7 ++ [])) (Ae rfl rfl) (Ac sG Ag) ?_
 exact ⟨s7, rfl, by rw [bytesV_app, List.append_nil]; exact hac7⟩

theorem text_vote (s : Sl) (bl : List Blk) (l : List UInt8) (n : Nat) (hac : Hw.Acc s bl (Ab l) 5 n 1) (hn : n ≤ 100) (V : Vote) (hV : V.ok) : Meets Tryz.prog 78 [s.v, agg V.cells] (bl.map (·.n)) (fun W => Lies bl W) (fun v out => ∃ s', v = s'.v ∧ Hw.Acc s' out (Ab (l ++ voteT V)) 5 (n + voteN V) 1) := by
 intro W hW
 have z1 := Bb V.fHeight.toNat
 have z2 := Bb V.fRound.toNat
 have z3 := Bb (Hw.byteOf V.fPhase).toUInt64.toNat
 have z4 := Bb V.fProof.toNat
 refine A6 (hp0 := bl) Tryz.func78 rfl 27 Tryz.ntmps78 rfl (Acc.hrep hac hW) ?_
 refine Sat.seq (Sat.region ?_)
 refine Tr.boxA rfl rfl ?_
 intro n3 hn3 hf3
 refine Tr.a rfl rfl rfl ?_
 refine Tr.nil (Aa ?_)
 refine Sat.join (ι := Sl × List Blk) (fun p => ⟨[(0, p.1.v), (3, ptr n3 0)], (p.2 ++ (⟨n3, V.cells, 29, V.cells.length⟩ :: []))⟩) (fun p => Hw.Acc p.1 p.2 (Ab (l ++ Be V.fHeight ++ Be V.fRound ++ Be (Hw.byteOf V.fPhase).toUInt64)) 5 (n + szN V.fHeight.toNat + szN V.fRound.toNat + szN (Hw.byteOf V.fPhase).toUInt64.toNat) 1) ?_ ?_
 ·
  refine Sat.withK (sp_k (sp_e sp_n)) rfl ?_
  refine Sat.draw [(0, 0), (0, 1), (0, 2), (0, 4), (0, 5), (0, 7), (0, 8), (0, 9), (0, 10), (4, 3), (4, 6), (4, 11), (0, 12)] Bt zK ?_
  refine Tr.m rfl rfl rfl ?_
  refine Tr.fld rfl rfl rfl U29 rfl Bp dE _ rfl ?_
  refine Tr.kload1 rfl rfl rfl U22 rfl Z0 (by exact Vote.get_fHeight zA) ?_
  refine Tr.fld rfl rfl rfl U29 rfl Bp dE _ rfl ?_
  refine Tr.kload1 rfl rfl rfl U22 rfl Z0 (by exact Vote.get_fRound zA) ?_
  refine Tr.fld rfl rfl rfl U29 rfl Sz3 dE _ rfl ?_
  refine Tr.kload1 rfl rfl rfl U3 rfl Z0 (by exact Vote.get_fPhase zA) ?_
  refine Tr.conv rfl rfl rfl U3 U5 (cv_i64_u8 _) ?_
  refine Tr.conv rfl rfl rfl U5 U22 (cv_u8_u64 _) ?_
  refine Tr.callL (L := bl) rfl rfl rfl rfl rfl Body116 (text_number s bl (l) (n) hac oM (V.fHeight)) sG (A4 rfl) (fun w h => ⟨Lies.of h (by repeat (exact in_here)), trivial⟩) ?_
  rintro v8 out8 ⟨s8, rfl, hac8⟩
  refine Tr.callL (L := out8) rfl rfl rfl rfl rfl Body116 (text_number s8 out8 (l ++ Be V.fHeight) (n + szN V.fHeight.toNat) hac8 oM (V.fRound)) sG (A4 rfl) (fun w h => ⟨Lies.of h (by repeat (exact in_here)), trivial⟩) ?_
  rintro v11 out11 ⟨s11, rfl, hac11⟩
  refine Tr.callL (L := out11) rfl rfl rfl rfl rfl Body116 (text_number s11 out11 (l ++ Be V.fHeight ++ Be V.fRound) (n + szN V.fHeight.toNat + szN V.fRound.toNat) hac11 oM ((Hw.byteOf V.fPhase).toUInt64)) sG (A4 rfl) (fun w h => ⟨Lies.of h (by repeat (exact in_here)), trivial⟩) ?_
  rintro v16 out16 ⟨s16, rfl, hac16⟩
  refine Tr.a rfl rfl rfl ?_
  refine Tr.nil (Aa ?_)
  simp only [List.cons_append, List.nil_append, List.append_nil]
  exact ⟨(s16, out16), hac16, Am (wk1 rfl (wk1 rfl wk0)) (Ac sG (Ad rM Ag))⟩
 ·
  intro p hj
  have hap := hj
  refine Sat.seq ?_
  refine Sat.withK (sp_x (sp_k sp_n)) rfl ?_
  refine Sat.draw [(0, 0), (0, 1), (0, 2), (0, 4), (0, 5), (0, 7), (0, 8), (4, 3), (4, 6), (4, 9), (0, 10)] Bt zK ?_
  refine Tr.m rfl rfl rfl ?_
  refine Tr.fld rfl rfl rfl U29 rfl A5 dE _ rfl ?_
  refine Tr.sliceArr rfl rfl rfl U24 Sz5 ?_
  refine Tr.fld rfl rfl rfl U29 rfl Bp dE _ rfl ?_
  refine Tr.kload1 rfl rfl rfl U22 rfl Z0 (by exact Vote.get_fProof zA) ?_
  refine Tr.fld rfl rfl rfl U29 rfl Sz25 dE _ rfl ?_
  refine Tr.sliceArr rfl rfl rfl U25 Sz5 ?_
  refine Tr.callL (L := p.2) rfl rfl rfl rfl rfl Body79 (text_raw p.1 p.2 (l ++ Be V.fHeight ++ Be V.fRound ++ Be (Hw.byteOf V.fPhase).toUInt64) (n + szN V.fHeight.toNat + szN V.fRound.toNat + szN (Hw.byteOf V.fPhase).toUInt64.toNat) hap oM (some ⟨n3, 0 + 3, none⟩) 32 32 V.fValue hV.l_fValue dE (fun e => by cases e)) sG (A4 rfl) (fun w h => ⟨Lies.of h (by repeat (exact in_here)), SeesP.of (sees_kok (h.kok _ List.mem_cons_self) (Vote.see_fValue hV)), na_kb h List.mem_cons_self (by repeat (exact in_here))⟩) ?_
  rintro v20 out20 ⟨s20, rfl, hac20⟩
  refine Tr.callL (L := out20) rfl rfl rfl rfl rfl Body116 (text_number s20 out20 (l ++ Be V.fHeight ++ Be V.fRound ++ Be (Hw.byteOf V.fPhase).toUInt64 ++ V.fValue) (n + szN V.fHeight.toNat + szN V.fRound.toNat + szN (Hw.byteOf V.fPhase).toUInt64.toNat + 32) hac20 oM (V.fProof)) sG (A4 rfl) (fun w h => ⟨Lies.of h (by repeat (exact in_here)), trivial⟩) ?_
  rintro v23 out23 ⟨s23, rfl, hac23⟩
  refine Tr.callL (L := out23) rfl rfl rfl rfl rfl Body79 (text_raw s23 out23 (l ++ Be V.fHeight ++ Be V.fRound ++ Be (Hw.byteOf V.fPhase).toUInt64 ++ V.fValue ++ Be V.fProof) (n + szN V.fHeight.toNat + szN V.fRound.toNat + szN (Hw.byteOf V.fPhase).toUInt64.toNat + 32 + szN V.fProof.toNat) hac23 oM (some ⟨n3, 0 + 36, none⟩) 32 32 V.fVoter hV.l_fVoter dE (fun e => by cases e)) sG (A4 rfl) (fun w h => ⟨Lies.of h (by repeat (exact in_here)), SeesP.of (sees_kok (h.kok _ List.mem_cons_self) (Vote.see_fVoter hV)), na_kb h List.mem_cons_self (by repeat (exact in_here))⟩) ?_
  rintro v26 out26 ⟨s26, rfl, hac26⟩
  refine Tr.a rfl rfl rfl ?_
  refine Tr.nil (Aa (Sat.ret (Ak ?_)))
  simp only [List.cons_append, List.nil_append, List.append_nil]
  refine Al (out := (out26 ++ [])) (Ae rfl rfl) (Ac sG Ag) ?_
  refine ⟨s26, rfl, ?_⟩
  rw [List.append_nil, show l ++ voteT V = l ++ Be V.fHeight ++ Be V.fRound ++ Be (Hw.byteOf V.fPhase).toUInt64 ++ V.fValue ++ Be V.fProof ++ V.fVoter by simp only [voteT, List.append_assoc], show n + voteN V = n + szN V.fHeight.toNat + szN V.fRound.toNat + szN (Hw.byteOf V.fPhase).toUInt64.toNat + 32 + szN V.fProof.toNat + 32 by unfold voteN; omega]
  exact hac26

theorem vote_bytes (V : Vote) (hV : V.ok) : Meets Tryz.prog 28 [agg V.cells] [] (fun _ => True) (fun v out => ∃ s, v = .tuple #[s.v, i64 (Bk V)] ∧ Hw.Acc s out (Ab (Ba V)) 5 (Ba V).length 1) := by
 intro W hW
 have hvl := voteT_length hV
 have hvn := voteN_le V
 have hsl := hV.l_fSig
 refine Aj Tryz.func28 rfl 15 Tryz.ntmps28 rfl ?_
 refine Sat.seq (Sat.region ?_)
 refine Tr.boxA rfl rfl ?_
 intro n1 hn1 hf1
 refine Tr.a rfl rfl rfl ?_
 refine Tr.a rfl rfl rfl ?_
 refine Tr.nil (Aa (Sat.seq (Sat.seq (Sat.region ?_))))
 refine Tr.lA rfl rfl rfl U29 rfl Bf Z0 (Vote.length zA) ?_
 refine Tr.cV rfl rfl rfl rfl Body52 (vote_check V hV) tV ?_
 refine Tr.a rfl rfl rfl ?_
 refine Tr.nil (Aa (Sat.seq (Sat.region ?_)))
 refine Tr.m rfl rfl rfl ?_
 refine Tr.nei rfl rfl rfl rfl rfl ?_
 refine Tr.nil (Aa ?_)
 refine Sat.condNP rfl (fun hc0 => ?_) (fun hc0 => ?_)
 ·
  refine Sat.seq (Sat.region ?_)
  refine Tr.m rfl rfl rfl ?_
  refine Tr.a rfl rfl rfl ?_
  refine Tr.a rfl rfl rfl ?_
  refine Tr.nil (Aa (Sat.ret (As (Ak ?_))))
  refine Al (out := []) (res_tmp2 rfl rfl rfl) Ag ?_
  exact ⟨Sl.nil, rfl, by rw [show Ba V = [] from if_neg hc0]; exact Acc.none⟩
 ·
  refine Sat.skip (Aa (Sat.seq ?_))
  refine Sat.withK (sp_k sp_n) rfl ?_
  refine Sat.draw [(0, 0), (0, 2), (0, 3), (4, 1), (4, 4), (0, 5), (0, 6)] Bt zK ?_
  refine Tr.kloadAll rfl rfl rfl U29 rfl Bf Z0 (Vote.length zA) ?_
  refine Tr.fld rfl rfl rfl U29 rfl Sz27 dE _ rfl ?_
  refine Tr.sliceArr rfl rfl rfl U27 Sz5 ?_
  refine Tr.callL (L := []) rfl rfl rfl rfl rfl Body78 (text_vote Sl.nil [] [] 0 Acc.none dE V hV) (.refl _) (A4 rfl) (fun w h => fun b hb => (by cases hb)) ?_
  rintro v11 out11 ⟨s11, rfl, hac11⟩
  simp only [List.nil_append, Nat.zero_add] at hac11
  refine Tr.callL (L := out11) rfl rfl rfl rfl rfl Body79 (text_raw s11 out11 (voteT V) (voteN V) hac11 oM (some ⟨n1, 0 + 68, none⟩) 64 64 V.fSig hV.l_fSig dE (fun e => by cases e)) sG (A4 rfl) (fun w h => ⟨Lies.of h (by repeat (exact in_here)), SeesP.of (sees_kok (h.kok _ List.mem_cons_self) (Vote.see_fSig hV)), na_kb h List.mem_cons_self (by repeat (exact in_here))⟩) ?_
  rintro v14 out14 ⟨s14, rfl, hac14⟩
  refine Tr.a rfl rfl rfl ?_
  refine Tr.a rfl rfl rfl ?_
  refine Tr.nil (Aa (Sat.ret (Ak ?_)))
  simp only [List.cons_append, List.nil_append, List.append_nil]
  refine Al (out := (out14 ++ [])) (res_tmp2 rfl rfl rfl) (Ac sG Ag) ?_
  refine ⟨s14, by rw [show Bk V = 0 by omega], ?_⟩
  rw [show Ba V = voteT V ++ V.fSig from if_pos oM, List.append_nil, show (voteT V ++ V.fSig).length = voteN V + 64 by rw [List.length_append, hvl, hsl]]
  exact hac14

theorem upd_vsig {X : Vote} (h : X.ok) {l : List UInt8} (hl : l = [] ∨ l.length = 64) : upd X.cells 68 (Ab l) = ({ X with fSig := l ++ X.fSig.drop l.length } : Vote).cells := by
  rcases hl with rfl | hl
  · exact upd_nil _ _
  · rw [Vote.upd_fSig h l hl, hl, List.drop_of_length_le (by rw [h.l_fSig]; exact Nat.le_refl _), List.append_nil]
def voteP (xs : List UInt8) : Vote × Nat × Int :=
  let r1 := Bc xs 0 0
  let r2 := Bc xs r1.2.1 r1.2.2
  let r3 := Bc xs r2.2.1 r2.2.2
  let r4 := digR xs r3.2.1 r3.2.2
  let r5 := Bc xs r4.2.1 r4.2.2
  let r6 := digR xs r5.2.1 r5.2.2
  let r7 := takR xs 64 r6.2.1 r6.2.2
  (⟨r1.1, r2.1, ((min r3.1.toNat 4 : Nat) : Int), r4.1, r5.1, r6.1, r7.1 ++ (List.replicate 64 0).drop r7.1.length⟩, r7.2)
def A1 (xs : List UInt8) : Vote × Int :=
  if endR xs.length (voteP xs).2.1 (voteP xs).2.2 = 0 ∧ Bk (voteP xs).1 = 0 then ((voteP xs).1, 0) else (Vote.zero, 4)
theorem voteRd_bad {xs : List UInt8} (h : ¬ (endR xs.length (voteP xs).2.1 (voteP xs).2.2 = 0 ∧ Bk (voteP xs).1 = 0)) : A1 xs = (Vote.zero, 4) := if_neg h
theorem voteRd_ok {xs : List UInt8} (h : endR xs.length (voteP xs).2.1 (voteP xs).2.2 = 0 ∧ Bk (voteP xs).1 = 0) : A1 xs = ((voteP xs).1, 0) := if_pos h

theorem vote_read (a : Option Addr) (n c : Nat) (xs : List UInt8) (hl : xs.length = n) (hp : a = none → n = 0) (hn : n ≤ 90000) : Meets Tryz.prog 36 [.slice a n c] [] (fun W => SeesP W a (Ab xs)) (fun v out => v = .tuple #[agg (A1 xs).1.cells, i64 (A1 xs).2] ∧ out = []) := by
 intro W hW
 obtain ⟨x1, r1, h1⟩ : ∃ l r, Bc xs 0 0 = (l, r) := ⟨_, _, rfl⟩
 obtain ⟨a1, e1⟩ := r1
 obtain ⟨x2, r2, h2⟩ : ∃ l r, Bc xs a1 e1 = (l, r) := ⟨_, _, rfl⟩
 obtain ⟨a2, e2⟩ := r2
 obtain ⟨x3, r3, h3⟩ : ∃ l r, Bc xs a2 e2 = (l, r) := ⟨_, _, rfl⟩
 obtain ⟨a3, e3⟩ := r3
 obtain ⟨l4, r4, h4⟩ : ∃ l r, digR xs a3 e3 = (l, r) := ⟨_, _, rfl⟩
 obtain ⟨a4, e4⟩ := r4
 obtain ⟨x5, r5, h5⟩ : ∃ l r, Bc xs a4 e4 = (l, r) := ⟨_, _, rfl⟩
 obtain ⟨a5, e5⟩ := r5
 obtain ⟨l6, r6, h6⟩ : ∃ l r, digR xs a5 e5 = (l, r) := ⟨_, _, rfl⟩
 obtain ⟨a6, e6⟩ := r6
 obtain ⟨l7, r7, h7⟩ : ∃ l r, takR xs 64 a6 e6 = (l, r) := ⟨_, _, rfl⟩
 obtain ⟨a7, e7⟩ := r7
 have hvp : voteP xs = (({ Vote.zero with fHeight := x1, fRound := x2, fPhase := ((min x3.toNat 4 : Nat) : Int), fValue := l4, fProof := x5, fVoter := l6, fSig := l7 ++ Vote.zero.fSig.drop l7.length } : Vote), a7, e7) := by simp only [voteP, h1, h2, h3, h4, h5, h6, h7]; rfl
 have hd1 := numE_le h1 hl (Nat.zero_le _)
 have hd2 := numE_le h2 hl hd1
 have hd3 := numE_le h3 hl hd2
 have hd4 := digE_le h4 hl hd3
 have hd5 := numE_le h5 hl hd4.1
 have hd6 := digE_le h6 hl hd5
 have hd7 := takE_le h7 hl hd6.1
 have hlen7 : l7.length ≤ 64 := by rcases hd7.2 with h | h <;> simp [h]
 have hs64 : (l7 ++ Vote.zero.fSig.drop l7.length).length = 64 := by rcases hd7.2 with h | h <;> simp [h, Vote.zero]
 have ok2 : ({ Vote.zero with fHeight := x1, fRound := x2 } : Vote).ok := ⟨rfl, rfl, rfl⟩
 have ok3 : ({ Vote.zero with fHeight := x1, fRound := x2, fPhase := ((min x3.toNat 4 : Nat) : Int) } : Vote).ok := ⟨rfl, rfl, rfl⟩
 have ok4 : ({ Vote.zero with fHeight := x1, fRound := x2, fPhase := ((min x3.toNat 4 : Nat) : Int), fValue := l4 } : Vote).ok := ⟨hd4.2, rfl, rfl⟩
 have ok5 : ({ Vote.zero with fHeight := x1, fRound := x2, fPhase := ((min x3.toNat 4 : Nat) : Int), fValue := l4, fProof := x5 } : Vote).ok := ⟨hd4.2, rfl, rfl⟩
 have ok6 : ({ Vote.zero with fHeight := x1, fRound := x2, fPhase := ((min x3.toNat 4 : Nat) : Int), fValue := l4, fProof := x5, fVoter := l6 } : Vote).ok := ⟨hd4.2, hd6.2, rfl⟩
 have okX : ({ Vote.zero with fHeight := x1, fRound := x2, fPhase := ((min x3.toNat 4 : Nat) : Int), fValue := l4, fProof := x5, fVoter := l6, fSig := l7 ++ Vote.zero.fSig.drop l7.length } : Vote).ok := ⟨hd4.2, hd6.2, hs64⟩
 refine Aj Tryz.func36 rfl 42 Tryz.ntmps36 rfl ?_
 refine Sat.seq (Sat.region ?_)
 refine Tr.alloc (cs := Vote.zero.cells) rfl Vote.zr rfl ?_
 intro n2 hn2 hf2
 refine Tr.a rfl rfl rfl ?_
 refine Tr.nil (Aa (Sat.seq (Sat.region ?_)))
 refine Tr.m rfl rfl rfl ?_
 refine Tr.call4 rfl rfl rfl rfl rfl Body81 (oct_Read a n c xs hl hp hn) (fun w h => Az h rfl hW) ?_
 rintro v7 out7 ⟨n7, q7, cp7, rfl, hcp7, rfl⟩
 refine Tr.nd (fun hnd => ?_)
 have hne : q7 ≠ n7 := by intro e; simp [RB, e] at hnd
 clear hnd
 refine Tr.a rfl rfl rfl ?_
 refine Tr.nil (Aa (Sat.seq (Sat.region ?_)))
 refine Tr.m rfl rfl rfl ?_
 refine Tr.callL (L := [RB n7 q7 n cp7 0 0]) rfl rfl rfl rfl rfl Body90 (rd_NumberE n7 q7 n cp7 0 0 xs hl (Nat.zero_le _) hcp7 oM x1 a1 e1 h1) (Ad rM Ag) (A4 rfl) (fun w h => ⟨An h Z0, Ay h Z1, hne⟩) ?_
 rintro v9 out9 ⟨rfl, rfl⟩
 refine Tr.m rfl rfl rfl ?_
 refine Tr.callL (L := [RB n7 q7 n cp7 a1 e1]) rfl rfl rfl rfl rfl Body90 (rd_NumberE n7 q7 n cp7 a1 e1 xs hl hd1 hcp7 oM x2 a2 e2 h2) (Ad rM Ag) (A4 rfl) (fun w h => ⟨An h Z0, Ay h Z1, hne⟩) ?_
 rintro v9 out9 ⟨rfl, rfl⟩
 refine Tr.build (cs := ({ Vote.zero with fHeight := x1, fRound := x2 } : Vote).cells) rfl rfl rfl (fun w => by kernel_rfl) ?_
 refine Tr.alloc (cs := Vote.zero.cells) rfl Vote.zr rfl ?_
 intro n5 hn5 hf5
 refine Tr.sA rfl rfl rfl rfl (Vote.isCell zA) Bf (Vote.length zA) Z0 (Vote.length zT) zU ?_
 refine Tr.nil (Aa (Sat.seq (Sat.region ?_)))
 refine Tr.m rfl rfl rfl ?_
 refine Tr.callL (L := [RB n7 q7 n cp7 a2 e2]) rfl rfl rfl rfl rfl Body90 (rd_NumberE n7 q7 n cp7 a2 e2 xs hl hd2 hcp7 oM x3 a3 e3 h3) (Ad rM Ag) (A4 rfl) (fun w h => ⟨An h Z1, Ay h Z2, hne⟩) ?_
 rintro v9 out9 ⟨rfl, rfl⟩
 refine Tr.min2 rfl rfl rfl rfl (show Value.int .u64 (if (4 : Int) < (x3.toNat : Int) then 4 else (x3.toNat : Int)) = .int .u64 ((min x3.toNat 4 : Nat) : Int) from by congr 1; split <;> omega) ?_
 refine Tr.conv rfl rfl rfl U22 U3 (show Value.int .i64 (IntKind.i64.wrap ((min x3.toNat 4 : Nat) : Int)) = i64 ((min x3.toNat 4 : Nat) : Int) by rw [i64_wrap oM]) ?_
 refine Tr.fld rfl rfl rfl U29 rfl Sz3 dE _ rfl ?_
 refine Tr.s1 rfl rfl rfl rfl rfl Sz3 Z1 (by rw [Vote.length zA]; decide) (Vote.set_fPhase zA _) zV ?_
 refine Tr.nil (Aa (Sat.seq (Sat.region ?_)))
 refine Tr.m rfl rfl rfl ?_
 refine Tr.callL (L := [RB n7 q7 n cp7 a3 e3]) rfl rfl rfl rfl rfl Body91 (rd_DigestE n7 q7 n cp7 a3 e3 xs hl hd3 hcp7 oM l4 a4 e4 h4) (Ad rM Ag) (A4 rfl) (fun w h => ⟨An h Z0, Ay h Z2, hne⟩) ?_
 rintro v9 out9 ⟨rfl, rfl⟩
 refine Tr.fld rfl rfl rfl U29 rfl A5 dE _ rfl ?_
 refine Tr.storeN (Ab _) rfl rfl rfl rfl rfl zE A5 (by simp [hd4.2]) Z1 (by rw [Vote.length zA]; simp [hd4.2]) (Vote.upd_fValue zA _ (by simp [hd4.2])) zV ?_
 refine Tr.nil (Aa (Sat.seq (Sat.region ?_)))
 refine Tr.m rfl rfl rfl ?_
 refine Tr.callL (L := [RB n7 q7 n cp7 a4 e4]) rfl rfl rfl rfl rfl Body90 (rd_NumberE n7 q7 n cp7 a4 e4 xs hl hd4.1 hcp7 oM x5 a5 e5 h5) (Ad rM Ag) (A4 rfl) (fun w h => ⟨An h Z0, Ay h Z2, hne⟩) ?_
 rintro v9 out9 ⟨rfl, rfl⟩
 refine Tr.fld rfl rfl rfl U29 rfl Bp dE _ rfl ?_
 refine Tr.s1 rfl rfl rfl rfl rfl Bp Z1 (by rw [Vote.length zA]; decide) (Vote.set_fProof zA _) zV ?_
 refine Tr.nil (Aa (Sat.seq (Sat.region ?_)))
 refine Tr.m rfl rfl rfl ?_
 refine Tr.callL (L := [RB n7 q7 n cp7 a5 e5]) rfl rfl rfl rfl rfl Body91 (rd_DigestE n7 q7 n cp7 a5 e5 xs hl hd5 hcp7 oM l6 a6 e6 h6) (Ad rM Ag) (A4 rfl) (fun w h => ⟨An h Z0, Ay h Z2, hne⟩) ?_
 rintro v9 out9 ⟨rfl, rfl⟩
 refine Tr.fld rfl rfl rfl U29 rfl Sz25 dE _ rfl ?_
 refine Tr.storeN (Ab _) rfl rfl rfl rfl rfl zE Sz25 (by simp [hd6.2]) Z1 (by rw [Vote.length zA]; simp [hd6.2]) (Vote.upd_fVoter zA _ (by simp [hd6.2])) zV ?_
 refine Tr.nil (Aa (Sat.seq ?_))
 refine Sat.draw [(0, 0), (0, 1), (0, 2), (4, 3), (4, 4)] Bt zK ?_
 refine Tr.fld rfl rfl rfl U29 rfl Sz27 dE _ rfl ?_
 refine Tr.sliceArr rfl rfl rfl U27 Sz5 ?_
 refine Tr.m rfl rfl rfl ?_
 refine Tr.callL (L := [RB n7 q7 n cp7 a6 e6]) rfl rfl rfl rfl rfl Body92 (rd_TakeE n7 q7 n cp7 a6 e6 64 dE dE xs hl hd6.1 hcp7 oM l7 a7 e7 h7) (Ad rM Ag) (A4 rfl) (fun w h => ⟨An h Z0, Ay h Z2, hne⟩) ?_
 rintro v30 out30 ⟨s30, bl30, rfl, hac30, rfl⟩
 simp only [List.append_assoc, List.cons_append, List.nil_append]
 refine Tr.copyP (Ab l7) l7.length rfl rfl rfl rfl rfl U30 Sz5 (fun w h => hac30.see (Lies.of h (by repeat (exact in_here)))) (fun e => hac30.nil e) (by simp [Ab, hac30.num]) (by rw [hac30.num]; omega) (List.take_of_length_le (by simp [Ab])) (A7 _) mR (by rw [Vote.length ok6]; show 68 + l7.length ≤ 132; omega) (upd_vsig ok6 hd7.2) uU ?_
 refine Tr.nil (Aa (Sat.seq (Sat.seq (Sat.region ?_))))
 refine Tr.m rfl rfl rfl ?_
 refine Tr.cV rfl rfl rfl rfl Body86 (rd_End n7 q7 n cp7 a7 e7 hd7.1 oM) (fun w h => An h mR) ?_
 refine two (fun r hr k => Tr.nei rfl rfl rfl rfl hr k) (fun hs8_20 => ?_) (fun hs8_20 => ?_)
 ·
  have hs8_2 := nd_t hs8_20
  refine Tr.m rfl rfl rfl ?_
  refine Tr.skp rfl rfl ?_
  refine Tr.skp rfl rfl ?_
  refine Tr.skp rfl rfl ?_
  refine Tr.pick rfl rfl rfl rfl rfl rfl ?_
  refine Tr.nil (Aa ?_)
  refine Sat.cond_t rfl rfl ?_
  refine Sat.seq (Sat.region ?_)
  refine Tr.build (cs := Vote.zero.cells) rfl rfl rfl (fun w => by kernel_rfl) ?_
  refine Tr.sA rfl rfl rfl rfl (Vote.isCell zT) Bf (Vote.length zT) mR (Vote.length zT) uU ?_
  refine Tr.a rfl rfl rfl ?_
  refine Tr.nil (Aa (Sat.ret (As (Ak ?_))))
  refine Al (out := []) (Aq rfl rfl rfl U29 rfl Bf mR (by exact Vote.length zT)) Ag ?_
  exact ⟨by rw [voteRd_bad (by rw [hvp, hl]; exact fun h => hs8_2 h.1)], rfl⟩
 ·
  have hs8_2 := nd_f hs8_20
  refine Tr.m rfl rfl rfl ?_
  refine Tr.lA rfl rfl rfl U29 rfl Bf mR (Vote.length zA) ?_
  refine Tr.cV rfl rfl rfl rfl Body52 (vote_check ({ Vote.zero with fHeight := x1, fRound := x2, fPhase := ((min x3.toNat 4 : Nat) : Int), fValue := l4, fProof := x5, fVoter := l6, fSig := l7 ++ Vote.zero.fSig.drop l7.length } : Vote) okX) tV ?_
  refine Tr.nei rfl rfl rfl rfl rfl ?_
  refine Tr.pick rfl rfl rfl rfl rfl rfl ?_
  refine Tr.nil (Aa ?_)
  refine Sat.condNP rfl (fun hc0 => ?_) (fun hc0 => ?_)
  ·
   refine Sat.seq (Sat.region ?_)
   refine Tr.build (cs := Vote.zero.cells) rfl rfl rfl (fun w => by kernel_rfl) ?_
   refine Tr.sA rfl rfl rfl rfl (Vote.isCell zT) Bf (Vote.length zT) mR (Vote.length zT) uU ?_
   refine Tr.a rfl rfl rfl ?_
   refine Tr.nil (Aa (Sat.ret (As (Ak ?_))))
   refine Al (out := []) (Aq rfl rfl rfl U29 rfl Bf mR (by exact Vote.length zT)) Ag ?_
   exact ⟨by rw [voteRd_bad (by rw [hvp, hl]; exact fun h => hc0 h.2)], rfl⟩
  ·
   refine Sat.skip (Aa (Sat.seq (Sat.region ?_)))
   refine Tr.lA rfl rfl rfl U29 rfl Bf mR (Vote.length zA) ?_
   refine Tr.sA rfl rfl rfl rfl (Vote.isCell zA) Bf (Vote.length zA) mR (Vote.length zT) uU ?_
   refine Tr.a rfl rfl rfl ?_
   refine Tr.nil (Aa (Sat.ret (Ak ?_)))
   refine Al (out := []) (Aq rfl rfl rfl U29 rfl Bf mR (by exact Vote.length zA)) Ag ?_
   exact ⟨by rw [voteRd_ok (by rw [hvp, hl]; exact ⟨hs8_2, hc0⟩), hvp], rfl⟩

end Go.Proofs.YtkfhpmidcbmofaaGreat
end

section
namespace Go.Proofs.YtkfhpmidcbmofaaGreat
open Go Hw

def blkB (ys : List UInt8) : List UInt8 := Be (UInt64.ofNat ys.length) ++ ys
def listB {D : Type} (f : D → List UInt8) (ds : List D) : List UInt8 := (ds.map fun d => blkB (f d)).flatten
theorem blkB_length {ys : List UInt8} (h : ys.length ≤ 1000000) : (blkB ys).length = szN ys.length + ys.length := by rw [blkB, List.length_append, A3, Bq h]
theorem listB_step {D : Type} (f : D → List UInt8) {ds : List D} {k : Nat} {d : D} (h : ds[k]? = some d) : listB f (ds.take (k + 1)) = listB f (ds.take k) ++ blkB (f d) := by
  rw [take_snoc h, listB, List.map_append, List.flatten_append]; simp [listB]
theorem listB_le {D : Type} (f : D → List UInt8) (M : Nat) (hM : M ≤ 100000) : ∀ ds : List D, (∀ d ∈ ds, (f d).length ≤ M) → (listB f ds).length ≤ ds.length * (M + 9)
  | [], _ => by simp [listB]
  | d :: ds, h => by
    have ih := listB_le f M hM ds (fun x hx => h x (List.mem_cons_of_mem _ hx))
    have h1 := h d List.mem_cons_self
    have h2 := Bb (f d).length
    have e : listB f (d :: ds) = blkB (f d) ++ listB f ds := rfl
    rw [e, List.length_append, blkB_length oM, List.length_cons, Nat.add_mul]
    omega
theorem listB_take_le {D : Type} (f : D → List UInt8) (M : Nat) (hM : M ≤ 100000) (ds : List D) (h : ∀ d ∈ ds, (f d).length ≤ M) (k : Nat) : (listB f (ds.take k)).length ≤ ds.length * (M + 9) := by
  have h1 := listB_le f M hM (ds.take k) (fun d hd => h d (List.mem_of_mem_take hd))
  have h2 : (ds.take k).length ≤ ds.length := by rw [List.length_take]; omega
  exact Nat.le_trans h1 (Nat.mul_le_mul_right _ h2)

theorem blk_vote_1 (a : Option Addr) (n c : Nat) (l : List UInt8) (hl : l.length = n) (hp : a = none → n = 0) (hn : n ≤ 40000) (X : Vote) (D : Vote) (q : Nat) (hsz : (Ba D).length ≤ 40000) : Meets Tryz.prog 141 [.slice a n c, agg X.cells, ptr q 0] [] (fun W => SeesP W a (Ab l) ∧ VoteIs W X D ∧ W.cell? ⟨q, 0, none⟩ = some (.func (.func 28) #[] #[])) (fun v out => FreshRow v out (Ab (l ++ blkB (Ba D))) 5 (l ++ blkB (Ba D)).length 1) := by
 intro W hW
 obtain rfl : D = X := hW.2.1.eq.symm
 refine Aj Tryz.func141 rfl 17 Tryz.ntmps141 rfl ?_
 refine Sat.seq (Sat.region ?_)
 refine Tr.boxA rfl rfl ?_
 intro n4 hn4 hf4
 refine Tr.a rfl rfl rfl ?_
 refine Tr.nil (Aa (Sat.seq (Sat.region ?_)))
 refine Tr.loadE rfl rfl rfl Tryz.underlying72 rfl (by first | (simp; done) | (simp; exact hW.2.2) | (simp [Cx.with]; done) | (simp [Cx.with]; omega)) (hW.2.2) ?_
 refine Tr.lA rfl rfl rfl U29 rfl Bf mM (Vote.length (by first | exact oK  | exact hW.2.1.ok)) ?_
 refine Tr.call4 rfl rfl rfl rfl rfl Body28 (vote_bytes D hW.2.1.ok) (fun w h => trivial) ?_
 rintro v11 out11 ⟨s11, rfl, hac11⟩
 have hnm := hac11.num
 refine Tr.m rfl rfl rfl ?_
 refine Tr.eX rfl rfl rfl rfl ?_
 refine Tr.eX rfl rfl rfl rfl ?_
 refine Tr.a rfl rfl rfl ?_
 refine Tr.a rfl rfl rfl ?_
 refine Tr.nil (Aa (Sat.seq (Sat.region ?_)))
 refine Tr.m rfl rfl rfl ?_
 refine Tr.m rfl rfl rfl ?_
 refine Tr.call4 rfl rfl rfl rfl rfl Body130 (oct_Block a s11.p n c s11.n s11.c l (Ba D) hl hnm.symm hp (fun e => hac11.nil e) hn oM) (fun w h => ⟨Az h rfl hW.1, hac11.see (Lies.of h iN)⟩) ?_
 rintro v16 out16 ⟨q16, c16, rfl, hc16, rfl⟩
 have hq16 : n + szN s11.n + s11.n = (l ++ blkB (Ba D)).length := by rw [List.length_append, blkB_length oM, hl, hnm]; omega
 refine Tr.a rfl rfl rfl ?_
 refine Tr.nil (Aa (Sat.ret (Ak ?_)))
 refine Al (out := (⟨q16, Ab (l ++ blkB (Ba D)), 5, c16 * 1⟩ :: [])) (Ae rfl rfl) (pm_consE rM (by rw [blkB, hnm, List.append_assoc]) rfl Ag) ?_
 exact ⟨q16, c16, by rw [hq16], by rw [← hq16]; exact hc16, rfl⟩

theorem mk_blk_vote  : Meets Tryz.prog 132 [.func (.func 28) #[] #[]] [] (fun _ => True) (fun v out => ∃ c, v = .func (.func 141) #[] #[ptr c 0] ∧ out = [⟨c, [.func (.func 28) #[] #[]], 72, 1⟩]) := by
 intro W hW
 refine Aj Tryz.func132 rfl 4 Tryz.ntmps132 rfl ?_
 refine Sat.seq (Sat.region ?_)
 refine Tr.box1 rfl rfl rfl ?_
 intro n1 hn1 hf1
 refine Tr.a rfl rfl rfl ?_
 refine Tr.nil (Aa (Sat.seq (Sat.region ?_)))
 refine Tr.makeFunc rfl rfl rfl rfl ?_
 refine Tr.a rfl rfl rfl ?_
 refine Tr.nil (Aa (Sat.ret (Ak ?_)))
 refine Al (out := (⟨n1, [.func (.func 28) #[] #[]], 72, 1⟩ :: [])) (Ae rfl rfl) (Ad rM Ag) ?_
 exact ⟨n1, rfl, by simp⟩

theorem put_votes (a : Option Addr) (n c : Nat) (l : List UInt8) (s : Sl) (ds : List Vote) (q M : Nat) (hl : l.length = n) (hp : a = none → n = 0) (hM : M ≤ 40000) (hsz : ∀ d ∈ ds, (Ba d).length ≤ M) (hs : s.n ≤ 1000) (hN : n + 9 + s.n * (M + 9) ≤ 40000) : Meets Tryz.prog 131 [.slice a n c, s.v, .func (.func 141) #[] #[ptr q 0]] [] (fun W => SeesP W a (Ab l) ∧ VotesAt W s ds ∧ W.cell? ⟨q, 0, none⟩ = some (.func (.func 28) #[] #[])) (fun v out => FreshRow v out (Ab (l ++ Be (UInt64.ofNat s.n) ++ listB Ba ds)) 5 (l ++ Be (UInt64.ofNat s.n) ++ listB Ba ds).length 1) := by
 intro W hW
 obtain ⟨rs, hs1⟩ := hW.2.1
 have hnd := hs1.nd
 have hz := Bb s.n
 have hon := Bq (n := s.n) oM
 have hmul : ds.length * (M + 9) = s.n * (M + 9) := by rw [hnd]
 have hle : ∀ k, (l ++ Be (UInt64.ofNat s.n) ++ listB Ba (ds.take k)).length ≤ 40000 := fun k => by
  have := listB_take_le Ba M oM ds hsz k
  simp only [List.length_append, A3, hon, hl]
  omega
 refine Aj Tryz.func131 rfl 26 Tryz.ntmps131 rfl ?_
 refine Sat.seq (Sat.region ?_)
 refine Tr.a rfl rfl rfl ?_
 refine Tr.nil (Aa (Sat.seq (Sat.region ?_)))
 refine Tr.m rfl rfl rfl ?_
 refine Tr.m rfl rfl rfl ?_
 refine Tr.lenSl rfl rfl rfl U42 ?_
 refine Tr.conv rfl rfl rfl U3 U22 (Bl _) ?_
 rw [word_nat (n := s.n) oM]
 refine Tr.call4 rfl rfl rfl rfl rfl Body80 (oct_Number a n c l (UInt64.ofNat s.n) hl hp oM) (fun w h => Az h rfl hW.1) ?_
 rintro v13 out13 ⟨q1, c1, rfl, hc1, rfl⟩
 have e13 : n + szN (UInt64.ofNat s.n).toNat = (l ++ Be (UInt64.ofNat s.n) ++ listB Ba (ds.take 0)).length := by simp [listB, A3, hl]
 rw [e13] at hc1 ⊢
 refine Tr.a rfl rfl rfl ?_
 refine Tr.nil (Aa (Sat.seq (Sat.seq (Sat.region ?_))))
 refine Tr.m rfl rfl rfl ?_
 refine Tr.lenSl rfl rfl rfl U42 ?_
 refine Tr.m rfl rfl rfl ?_
 refine Tr.nil (Aa (Sat.block ?_))
 refine Sat.loop (ι := Nat × Nat × Nat) (fun p => ⟨[(0, .slice (some ⟨p.2.1, 0, none⟩) (l ++ Be (UInt64.ofNat s.n) ++ listB Ba (ds.take p.1)).length p.2.2), (2, .func (.func 141) #[] #[ptr q 0]), (14, s.v), (15, i64 (s.n : Int)), (16, i64 (p.1 : Int))], [⟨p.2.1, Ab (l ++ Be (UInt64.ofNat s.n) ++ listB Ba (ds.take p.1)), 5, p.2.2 * 1⟩]⟩) (fun p => p.1 ≤ s.n ∧ (l ++ Be (UInt64.ofNat s.n) ++ listB Ba (ds.take p.1)).length ≤ p.2.2) (fun p => s.n - p.1) ((0, q1, c1)) ?_ ?_ ?_
 · exact ⟨Nat.zero_le _, hc1⟩
 · exact Ao (wk1 rfl (wk1 rfl (wk1 rfl (wk1 rfl (wk1 rfl wk0))))) (wh1 (by simp only [List.take_zero, listB, List.map_nil, List.flatten_nil, List.append_nil]; exact mem0) wh0) nD
 ·
  rintro p ⟨hp1, hp2⟩
  refine Sat.seq (Sat.region ?_)
  refine Tr.lss rfl rfl rfl rfl rfl ?_
  refine Tr.nil (Aa (Sat.seq ?_))
  first
   | refine Sat.condP rfl (fun hc0 => ?_) (fun hc0 => ?_)
   | refine Sat.condNP rfl (fun hc0 => ?_) (fun hc0 => ?_)
   | refine Sat.cond rfl (fun hc0 => ?_) (fun hc0 => ?_)
  ·
   have hk2 : p.1 < s.n := by omega
   obtain ⟨b, o, r, d, hsp, hr, hd, his, hlen, hsee⟩ := hs1.at dE hk2
   refine Sat.skip (Aa (Sat.seq (Sat.block (Sat.seq (Sat.region ?_)))))
   refine Tr.idxSlP 132 rfl rfl rfl hsp rfl U42 Bf p.1 rfl oM ?_
   refine Tr.loadEN r.cells rfl rfl rfl U29 rfl Bf sP hlen hsee ?_
   refine Tr.alloc (cs := Vote.zero.cells) rfl Vote.zr rfl ?_
   intro n8 hn8 hf8
   refine Tr.sA rfl rfl rfl rfl (Vote.isCell (by first | exact oK  | exact his.ok)) Bf (Vote.length (by first | exact oK  | exact his.ok)) mM (Vote.length (by first | exact oK  | exact his.ok)) uU ?_
   refine Tr.nil (Aa (Sat.region ?_))
   refine Tr.m rfl rfl rfl ?_
   refine Tr.m rfl rfl rfl ?_
   refine Tr.lA rfl rfl rfl U29 rfl Bf mM (Vote.length (by first | exact oK  | exact his.ok)) ?_
   refine Tr.call4C rfl rfl rfl rfl rfl rfl Body141 (blk_vote_1 (some ⟨p.2.1, 0, none⟩) (l ++ Be (UInt64.ofNat s.n) ++ listB Ba (ds.take p.1)).length p.2.2 (l ++ Be (UInt64.ofNat s.n) ++ listB Ba (ds.take p.1)) rfl (fun e => by cases e) (hle _) r d q (Nat.le_trans (hsz d (List.mem_of_getElem? hd)) hM)) (fun w h => ⟨SeesP.of (Ay h mM), his.ext h rfl, h.keeps.cell sP hW.2.2⟩) ?_
   rintro v23 out23 ⟨q2, c2, rfl, hq2, rfl⟩
   rw [show l ++ Be (UInt64.ofNat s.n) ++ listB Ba (ds.take p.1) ++ blkB (Ba d) = l ++ Be (UInt64.ofNat s.n) ++ listB Ba (ds.take (p.1 + 1)) by rw [listB_step Ba hd, ← List.append_assoc]] at hq2 ⊢
   refine Tr.a rfl rfl rfl ?_
   refine Tr.nil (Bu (Aa (Sat.region ?_)))
   refine Tr.aI rfl rfl rfl rfl oM ?_
   refine Tr.m rfl rfl rfl ?_
   refine Tr.nil (Aa ?_)
   exact ⟨(p.1 + 1, q2, c2), ⟨by simp only []; omega, hq2⟩, by simp only []; omega, Ao (wk1 rfl (wk1 rfl (wk1 rfl (wk1 rfl (wk1 rfl wk0))))) (wh1 mM wh0) nD⟩
  ·
   have hpe : p.1 = s.n := by omega
   have hds : ds = ds.take p.1 := by rw [List.take_of_length_le oM]
   refine Sat.exit (A9 (A9 (bl_h (Aa (Sat.seq (Sat.region ?_))))))
   refine Tr.m rfl rfl rfl ?_
   refine Tr.a rfl rfl rfl ?_
   refine Tr.nil (Aa (Sat.ret (Ak ?_)))
   refine ⟨_, [⟨p.2.1, Ab (l ++ Be (UInt64.ofNat s.n) ++ listB Ba ds), 5, p.2.2 * 1⟩], Ae rfl rfl, (by intro b hb; rw [List.mem_singleton.1 hb, hds]; simp only [List.take_take, Nat.min_self]; exact mem0), nodup1, ⟨p.2.1, p.2.2, by rw [← hds], by rw [← hds] at hp2; exact hp2, rfl⟩⟩

end Go.Proofs.YtkfhpmidcbmofaaGreat
end

section
namespace Go.Proofs.YtkfhpmidcbmofaaGreat
open Go Hw

def DCert.bytes (D : DCert) : List UInt8 := blkB (cutR D.dCut) ++ Be (UInt64.ofNat D.dVotes.length) ++ listB Ba D.dVotes
noncomputable def certBy (D : DCert) : List UInt8 := if D.check = 0 then D.bytes else []
theorem seqv_ok {W : World} {s : Sl} {rs ds : List Vote} (h : SeqIs Vote.cells 132 VoteIs W s rs ds) : ∀ d ∈ ds, d.ok := by
  intro d hd
  obtain ⟨j, hj, rfl⟩ := List.getElem_of_mem hd
  have hj2 : j < rs.length := by rw [h.nr, ← h.nd]; exact hj
  have := h.is j _ _ (List.getElem?_eq_getElem hj2) (List.getElem?_eq_getElem hj)
  rw [← this.eq]; exact this.ok
theorem voteBy_le {V : Vote} (h : V.ok) : (Ba V).length ≤ 164 := by
  unfold Ba
  split
  · have := voteN_le V
    rw [List.length_append, voteT_length h, h.l_fSig]; omega
  · simp
theorem DCert.facts {D : DCert} (h : D.check = 0) : D.dCut.check = 0 ∧ 1 ≤ D.dVotes.length ∧ D.dVotes.length ≤ 16 := by
  have h1 : ¬ D.head = true := fun e => by rw [cert_bad1 e] at h; cases h
  simp only [DCert.head, Bool.or_eq_true, Bool.not_eq_true', decide_eq_true_eq, decide_eq_false_iff_not] at h1
  omega
theorem cutR_le {C : Cut} {D : DCut} {W : World} (h : CutIs W C D) : (cutR D).length ≤ 2000 := by
  unfold cutR
  split
  · rename_i h1
    exact D.bytes_small h1 (h.fPrev ▸ h.ok.l_fPrev) h.fHeads.row
  · simp

theorem cert_bytes (C : Cert) (D : DCert) : Meets Tryz.prog 98 [agg C.cells] [] (fun W => CertIs W C D) (fun v out => ∃ s, v = .tuple #[s.v, i64 D.check] ∧ Hw.Acc s out (Ab (certBy D)) 5 (certBy D).length 1) := by
 intro W hW
 obtain ⟨rs, hvs⟩ := hW.fVotes
 have hcl := cutR_le hW.fCut
 have hvok := seqv_ok hvs
 have hvn := hvs.nd
 have hz := Bb (cutR D.dCut).length
 refine Aj Tryz.func98 rfl 24 Tryz.ntmps98 rfl ?_
 refine Sat.seq (Sat.region ?_)
 refine Tr.boxA rfl rfl ?_
 intro n1 hn1 hf1
 refine Tr.a rfl rfl rfl ?_
 refine Tr.a rfl rfl rfl ?_
 refine Tr.nil (Aa (Sat.seq (Sat.seq (Sat.region ?_))))
 refine Tr.lA rfl rfl rfl U80 rfl Sz80 mM (Cert.length (by first | exact oK  | exact hW.ok | exact hW.ok.o_fCut)) ?_
 refine Tr.cV rfl rfl rfl rfl Body50 (cert_check C D) (fun w h => hW.ext h rfl) ?_
 refine Tr.a rfl rfl rfl ?_
 refine Tr.nil (Aa (Sat.seq (Sat.region ?_)))
 refine Tr.m rfl rfl rfl ?_
 refine Tr.nei rfl rfl rfl rfl rfl ?_
 refine Tr.nil (Aa ?_)
 first
  | refine Sat.condP rfl (fun hc0 => ?_) (fun hc0 => ?_)
  | refine Sat.condNP rfl (fun hc0 => ?_) (fun hc0 => ?_)
  | refine Sat.cond rfl (fun hc0 => ?_) (fun hc0 => ?_)
 ·
  refine Sat.seq (Sat.region ?_)
  refine Tr.m rfl rfl rfl ?_
  refine Tr.a rfl rfl rfl ?_
  refine Tr.a rfl rfl rfl ?_
  refine Tr.nil (Aa (Sat.ret (As (Ak ?_))))
  refine Al (out := []) (res_tmp2 rfl rfl rfl) Ag ?_
  exact ⟨Sl.nil, rfl, by rw [show certBy D = [] from if_neg hc0]; exact Acc.none⟩
 ·
  have hck : D.check = 0 := by omega
  obtain ⟨hk1, hk2, hk3⟩ := DCert.facts hck
  refine Sat.skip (Aa (Sat.seq (Sat.region ?_)))
  refine Tr.fld rfl rfl rfl U80 rfl Sz39 dE _ rfl ?_
  refine Tr.lN (Cut.cells _) rfl rfl rfl U39 rfl Sz39 mM (Cert.row_fCut (by first | exact oK  | exact hW.ok | exact hW.ok.o_fCut)) (Cert.rl_fCut (by first | exact oK  | exact hW.ok | exact hW.ok.o_fCut)) ?_
  refine Tr.call4 rfl rfl rfl rfl rfl Body30 (cut_bytes C.fCut D.dCut) (fun w h => hW.fCut.ext h rfl) ?_
  rintro v15 out15 ⟨s15, rfl, hac15⟩
  have hn15 := hac15.num
  refine Tr.m rfl rfl rfl ?_
  refine Tr.eX rfl rfl rfl rfl ?_
  refine Tr.eX rfl rfl rfl rfl ?_
  refine Tr.a rfl rfl rfl ?_
  refine Tr.a rfl rfl rfl ?_
  refine Tr.nil (Aa (Sat.seq ?_))
  refine Sat.withK (sp_x (sp_k sp_n)) rfl ?_
  refine Sat.draw [(0, 0), (0, 2), (0, 3), (4, 1), (4, 4), (4, 5), (0, 6), (0, 7)] Bt zK ?_
  refine Tr.m rfl rfl rfl ?_
  refine Tr.fld rfl rfl rfl U80 rfl Sz42 dE _ rfl ?_
  refine Tr.kload1 rfl rfl rfl U42 rfl mM (by first | exact Cert.get_fVotes (by first | exact oK  | exact hW.ok | exact hW.ok.o_fCut) | exact vL) ?_
  refine Tr.call4 rfl rfl rfl rfl rfl Body130 (oct_Block none s15.p 0 0 s15.n s15.c [] (cutR D.dCut) rfl hn15.symm (fun _ => rfl) (fun e => hac15.nil e) dE oM) (fun w h => ⟨SeesP.nil, hac15.see (Lies.of h iN)⟩) ?_
  rintro v19 out19 ⟨q19, c19, rfl, hc19, rfl⟩
  have hb19 : [] ++ Be (UInt64.ofNat s15.n) ++ cutR D.dCut = blkB (cutR D.dCut) := by rw [blkB, hn15]; rfl
  rw [hb19]
  refine Tr.call4 rfl rfl rfl rfl rfl Body132 (mk_blk_vote) tV ?_
  rintro v22 out22 ⟨c22, rfl, rfl⟩
  refine Tr.call4 rfl rfl rfl rfl rfl Body131 (put_votes (some ⟨q19, 0, none⟩) (0 + szN s15.n + s15.n) c19 (blkB (cutR D.dCut)) C.fVotes D.dVotes c22 164 (by rw [blkB_length oM, hn15]; omega) (fun e => by cases e) dE (fun d hd => voteBy_le (hvok d hd)) oM (by rw [hn15]; have : C.fVotes.n * (164 + 9) ≤ 16 * 173 := Nat.mul_le_mul oM (Nat.le_refl _); omega)) (fun w h => ⟨SeesP.of (Ay (cs := Ab (blkB (cutR D.dCut))) h mM), Votes_ext h rfl ⟨rs, hvs⟩, (An (B := ⟨c22, _, _, _⟩) h mM).cell (o := 0) rfl⟩) ?_
  rintro v23 out23 ⟨q23, c23, rfl, hc23, rfl⟩
  refine Tr.a rfl rfl rfl ?_
  refine Tr.a rfl rfl rfl ?_
  refine Tr.nil (Aa (Sat.ret (Ak ?_)))
  simp only [List.cons_append, List.nil_append, List.append_nil]
  refine Al (out := (⟨q23, Ab (blkB (cutR D.dCut) ++ Be (UInt64.ofNat C.fVotes.n) ++ listB Ba D.dVotes), 5, c23 * 1⟩ :: [])) (res_tmp2 rfl rfl rfl) (Ad rM Ag) ?_
  refine ⟨⟨some ⟨q23, 0, none⟩, (blkB (cutR D.dCut) ++ Be (UInt64.ofNat C.fVotes.n) ++ listB Ba D.dVotes).length, c23⟩, (by rw [hck]; try rfl), ?_⟩
  rw [show certBy D = D.bytes from if_pos hck, DCert.bytes, hvn]
  exact Acc.some hc23 (by rw [Ab, List.length_map, Nat.mul_one])

end Go.Proofs.YtkfhpmidcbmofaaGreat
end

section
namespace Hw
open Go Go.RowKit
section
variable {C : Cx} {fn : Func} {s : St}
end

def AccO (s : Sl) (bl : List Blk) (cells : List Value) (E : TypeId) (n : Nat) : Prop :=
  (s = Sl.nil ∧ bl = [] ∧ cells = [] ∧ n = 0) ∨ ∃ q o c m pre post, s = ⟨some ⟨q, o, none⟩, n, c⟩ ∧ n ≤ c ∧ cells.length = n ∧ pre.length = o ∧ (post = [] ∨ n = c) ∧ o + c ≤ m ∧ bl = [⟨q, pre ++ cells ++ post, E, m⟩]
section
variable {s : Sl} {bl : List Blk} {cells : List Value} {E : TypeId} {n : Nat}
theorem AccO.none : AccO Sl.nil [] [] E 0 := .inl ⟨rfl, rfl, rfl, rfl⟩
theorem AccO.num (h : AccO s bl cells E n) : s.n = n := by rcases h with ⟨rfl, _, _, rfl⟩ | ⟨q, o, c, m, pre, post, rfl, _⟩ <;> rfl
theorem AccO.len (h : AccO s bl cells E n) : cells.length = n := by rcases h with ⟨_, _, rfl, rfl⟩ | ⟨q, o, c, m, pre, post, _, _, h, _⟩; rfl; exact h
theorem AccO.cap (h : AccO s bl cells E n) : s.n ≤ s.c := by rcases h with ⟨rfl, _⟩ | ⟨q, o, c, m, pre, post, rfl, h, _⟩; exact Nat.le_refl _; exact h
theorem AccO.nilc (h : AccO s bl cells E n) (hp : s.p = .none) : s.c = 0 := by rcases h with ⟨rfl, _⟩ | ⟨q, o, c, m, pre, post, rfl, _⟩; rfl; cases hp
theorem AccO.see (h : AccO s bl cells E n) {w : World} (hw : Lies bl w) : SeesP w s.p cells := by
  rcases h with ⟨_, _, rfl, _⟩ | ⟨q, o, c, m, pre, post, rfl, _, h3, h4, _, _, rfl⟩
  · exact SeesP.nil
  · refine SeesP.of fun j v hj => ?_
    refine (hw _ (List.mem_singleton.2 rfl)).cell (o := o + j) (v := v) ?_
    show (pre ++ cells ++ post)[o + j]? = some v
    have hlt := (List.getElem?_eq_some_iff.1 hj).1
    rw [List.append_assoc, List.getElem?_append_right oM, h4, Nat.add_sub_cancel_left, List.getElem?_append_left hlt]
    exact hj
theorem AccO.pos (h : AccO s bl cells E n) (hn : 0 < n) : ∃ q o c m pre post, s = ⟨some ⟨q, o, .none⟩, n, c⟩ ∧ n ≤ c ∧ cells.length = n ∧ pre.length = o ∧ (post = [] ∨ n = c) ∧ o + c ≤ m ∧ bl = [⟨q, pre ++ cells ++ post, E, m⟩] := by
  rcases h with ⟨_, _, _, rfl⟩ | h
  · exact absurd hn dE
  · exact h
theorem AccO.cut {q o c m : Nat} {pre post : List Value} {x : Value} {l : List Value} (hc : n + 1 ≤ c) (hl : l.length = n) (hp : pre.length = o) (hpo : post = [] ∨ n + 1 = c) (hm : o + c ≤ m) : AccO ⟨some ⟨q, if c = 1 then o else o + 1 * 1, .none⟩, n + 1 - 1, c - 1⟩ [⟨q, pre ++ (x :: l) ++ post, E, m⟩] l E n := by
  by_cases e : c = 1
  · obtain rfl : n = 0 := by omega
    obtain rfl : l = [] := List.eq_nil_of_length_eq_zero hl
    subst e
    rw [if_pos rfl]
    exact .inr ⟨q, o, 0, m, pre, x :: post, rfl, Nat.le_refl _, rfl, hp, .inr rfl, by omega, by simp⟩
  · rw [if_neg e]
    exact .inr ⟨q, o + 1, c - 1, m, pre ++ [x], post, by simp, by omega, hl, by simp [hp], hpo.imp_right (fun h => by omega), by omega, by simp⟩
theorem Acc.off {c : Nat} (h : Acc s bl cells E n 1) : AccO s bl cells E n := by
  rcases h with ⟨rfl, rfl, rfl, rfl⟩ | ⟨q, c, rfl, h1, h2, rfl⟩
  · exact .inl ⟨rfl, rfl, rfl, rfl⟩
  · exact .inr ⟨q, 0, c, c * 1, [], [], rfl, h1, by omega, rfl, .inl rfl, by omega, by simp⟩
end
section
variable {C : Cx} {ops : Array Oper} {rest : List (Nat × Oper)} {sl : List (Nat × Value)} {hp hp' : List Blk} {Q : St → Prop} {c d : Nat} {ty : TypeId} {pos : String} {af : Array Edge} {g : Option (Nat × Bool)}
theorem Tr.mkRoomN {T E : TypeId} {x y : Operand} {kx ky : IntKind} {z : Value} {by' size : Nat} {mi : Int} (m : Nat) (hg : Ah ops sl g = true) (hk : okG c d C.N = true) (hx : Ai sl x = some (.int kx 0)) (hy : Ai sl y = some (.int ky mi)) (hmi : mi = m)
    (hu : C.P.underlying T = some (.slice E)) (hs : Sz C.P E size) (hz : Zr C.P E z) (hb : By C.P E by') (hn : m ≤ 1000000) (hfit : m * by' ≤ 140737488355328)
    (k : ∀ q, Tr C ops rest ⟨(d, .slice (some ⟨q, 0, none⟩) 0 m) :: sl, ⟨q, [], E, m * size⟩ :: hp⟩ Q) : Tr C ops ((c, ⟨some d, .makeSlice T x y, ty, pos, af, g⟩) :: rest) ⟨sl, hp⟩ Q := by
  subst hmi
  simp only [okG, Bool.and_eq_true, Bool.or_eq_true] at hk
  refine Tr.grow (ρ := Nat) (fun _ => True) (fun q => .slice (some ⟨q, 0, none⟩) 0 m) (fun q => [⟨q, [], E, m * size⟩]) (hk.1.imp nbeq' nbeq') (Av hg) (Bo (nblt hk.2)) ⟨known2 hx hy, fun l hl => ?_, fun a w hf hh => ?_⟩ (fun q _ => k q)
  · obtain ⟨q, _, hq⟩ := fresh_is 0 l
    refine ⟨q, trivial, ?_⟩
    simp only [List.singleton_append, List.map_cons, List.nodup_cons]
    exact ⟨fun h => by obtain ⟨b, hb, e⟩ := List.mem_map.1 h; exact hq b hb e, hl⟩
  · have h1 := hf x (by simp [Op.operands]); rw [hx] at h1
    have h2 := hf y (by simp [Op.operands]); rw [hy] at h2
    simp only [Option.some.injEq] at h1 h2
    have rs := run_sz hs
    unfold Sz at hs; unfold Zr at hz; unfold By at hb
    cases hi : C.P.info? E with
    | none => rw [hi] at hs; simp at hs
    | some i =>
      rw [hi] at hs hz hb
      simp only [Option.map_some, Option.some.injEq, Option.bind_some] at hs hz hb
      have wn : IntKind.i64.wrap (m : Int) = m := i64_wrap oM
      have w0 : IntKind.i64.wrap 0 = 0 := by decide
      have hm2 : ((by' : Int) * m) = ((m * by' : Nat) : Int) := by rw [Int.mul_comm]; simp
      have n1 : ¬ ((m : Int) < 0) := by omega
      have n2 : ¬ (281474976710656 < (i.bytes : Int) * m) := by rw [hb, hm2]; omega
      have n5 : ¬ (140737488355328 < m * i.bytes) := by rw [hb]; omega
      have hrun : ∃ arr : Array Value, arr.size = m * size ∧ (execOp a.eval ⟨some d, .makeSlice T x y, ty, pos, af, g⟩).run C.P w = .ok (.value (.slice (some ⟨w.heap.size, 0, none⟩) 0 m)) { w with heap := w.heap.push (.cells arr E) } := by
        by_cases h0 : m * size = 0
        · refine ⟨(Array.range (m * size)).map fun x => (#[] : Array Value)[x % 0]!, by simp, ?_⟩
          simp [execOp, Instr.makeSlice, run_underlying hu, asInt, asIntOf, typeInfo, hi, rs, zeroValue, hz, ← h1, ← h2, wn, w0, n1, n2, n5, h0, newRow, newObj, askRoom, roomBytes]
          simp [Sem.run]
        · refine ⟨(Array.range (m * size)).map fun x => z.cells[x % z.cells.size]!, by simp, ?_⟩
          simp [execOp, Instr.makeSlice, run_underlying hu, asInt, asIntOf, typeInfo, hi, rs, zeroValue, hz, ← h1, ← h2, wn, w0, n1, n2, n5, h0, newRow, newObj, askRoom, roomBytes]
          simp [Sem.run]
      obtain ⟨arr, ha, hrun⟩ := hrun
      unfold Oper.wp
      rw [hrun]
      refine ⟨w.heap.size, trivial, rfl, ⟨⟨rfl, rfl, rfl, by simp, fun k hk _ => ?_⟩, fun b hb => ?_, by simp, fun b hb => ?_⟩⟩
      · simp only [Array.getElem?_push]
        rw [if_neg oM]
      · obtain rfl := List.mem_singleton.1 hb
        exact ⟨arr, (0, 0), by simp, ha, by simp, free0⟩
      · obtain rfl := List.mem_singleton.1 hb
        exact .inl (Nat.le_refl _)
theorem Tr.extractB {x : Operand} {vs : Array Value} {i : Nat} {b : Bool} (hg : Ah ops sl g = true) (hk : okD c d C.N = true) (hx : Ai sl x = some (.tuple vs)) (hv : vs[i]? = some (.bool b))
    (kt : b = true → Tr C ops rest ⟨(d, .bool true) :: sl, hp⟩ Q) (kf : b = false → Tr C ops rest ⟨(d, .bool false) :: sl, hp⟩ Q) : Tr C ops ((c, ⟨some d, .extract x i, ty, pos, af, g⟩) :: rest) ⟨sl, hp⟩ Q := by
  cases b
  · exact Tr.eX hg hk hx hv (kf rfl)
  · exact Tr.eX hg hk hx hv (kt rfl)
end
end Hw
end

section
namespace Go.Proofs.YtkfhpmidcbmofaaGreat
open Go Hw

theorem rdblk_loose (n q N cp a1 : Nat) (e1 : Int) (ys : List UInt8) : LooseL [n] (fun v out => ∃ s bl, v = Sl.v s ∧ Hw.Acc s bl (Ab ys) 5 ys.length 1 ∧ out = bl ++ [RB n q N cp a1 e1]) := fun l h1 h2 => by
  obtain ⟨n0, _, hn0⟩ := fresh_is (n + 1) l
  refine ⟨_, _, ⟨⟨some ⟨n0, 0, none⟩, ys.length, ys.length⟩, [⟨n0, Ab ys, 5, ys.length * 1⟩], rfl, Acc.some (Nat.le_refl _) (by simp [Ab]), rfl⟩, ?_⟩
  simp only [List.cons_append, List.nil_append, List.map_cons, List.nodup_cons, List.mem_cons, RB]
  refine ⟨?_, ?_, h1⟩
  · rintro (h | h)
    · omega
    · obtain ⟨b, hb, e⟩ := List.mem_map.1 h
      exact hn0 b hb e
  · intro h
    obtain ⟨b, hb, e⟩ := List.mem_map.1 h
    exact h2 b hb (by rw [e]; exact List.mem_cons_self)

theorem item_vote (n q N cp at' : Nat) (e : Int) (c : Nat) (xs : List UInt8) (hx : xs.length = N) (hat : at' ≤ N) (hN : N ≤ cp) (hbig : N ≤ 90000) (hcn : c ≠ n) (o : Option (List UInt8)) (a1 : Nat) (e1 : Int) (h1 : blkR xs at' e = (o, a1, e1)) (hvk : (A1 (o.getD [])).1.ok) : Meets Tryz.prog 128 [ptr n 0, ptr c 0] [n] (fun W => BlkOk W (RB n q N cp at' e) ∧ Sees W q 0 (Ab xs) ∧ q ≠ n ∧ W.cell? ⟨c, 0, none⟩ = some (.func (.func 36) #[] #[])) (fun v out => v = .tuple #[agg (A1 (o.getD [])).1.cells, .bool (decide ((A1 (o.getD [])).2 = 0))] ∧ out = [RB n q N cp a1 e1]) := by
 intro W hW
 have hb1 := blkE_le h1 hx hat
 refine A6 (hp0 := [RB n q N cp at' e]) Tryz.func128 rfl 17 Tryz.ntmps128 rfl (HRep.one hW.1) ?_
 refine Sat.seq (Sat.region ?_)
 refine Tr.alloc (cs := Vote.zero.cells) rfl Vote.zr rfl ?_
 intro n3 hn3 hf3
 refine Tr.a rfl rfl rfl ?_
 refine Tr.nil (Aa (Sat.seq ?_))
 refine Sat.withK (sp_v (sp_v sp_n)) rfl ?_
 refine Sat.draw [(0, 0), (0, 1), (5, 2), (3, 3), (0, 4), (0, 5), (0, 6), (2, 7), (4, 8), (0, 9)] Bt zK ?_
 refine Tr.kloadE rfl rfl rfl Tryz.underlying85 rfl (by first | (simp; done) | (simp; exact hW.2.2) | (simp [Cx.with]; done) | (simp [Cx.with]; omega)) (hW.2.2.2) ?_
 refine Tr.m rfl rfl rfl ?_
 refine Tr.callL5 (L := [RB n q N cp at' e]) rfl rfl rfl rfl rfl Body87 (rd_BlockE n q N cp at' e xs hx hat hN hbig o a1 e1 h1) (rdblk_loose n q N cp a1 e1 (o.getD [])) (Ad rM Ag) (A4 rfl) (fun w h => ⟨An h mM, sees_ext h (by simp [Cx.with]; exact hW.2.2.1) hW.2.1, hW.2.2.1⟩) ?_
 rintro v10 out10 ⟨s10, bl10, rfl, hac10, rfl⟩
 simp only [List.append_assoc, List.cons_append, List.nil_append]
 refine Tr.cV rfl rfl rfl rfl Body36 (vote_read s10.p s10.n s10.c (o.getD []) hac10.num.symm (fun e => hac10.nil e) (by rw [hac10.num]; omega)) (fun w h => hac10.see (Lies.of h iN)) ?_
 refine Tr.m rfl rfl rfl ?_
 refine Tr.eX rfl rfl rfl rfl ?_
 refine Tr.eX rfl rfl rfl rfl ?_
 refine Tr.alloc (cs := Vote.zero.cells) rfl Vote.zr rfl ?_
 intro n5 hn5 hf5
 refine Tr.sA rfl rfl rfl rfl (Vote.isCell (by first | exact oK  | exact hvk)) Bf (Vote.length (by first | exact oK  | exact hvk)) mM (Vote.length (by first | exact oK  | exact hvk)) uU ?_
 refine Tr.a rfl rfl rfl ?_
 refine Tr.nil (Aa (Sat.seq (Sat.region ?_)))
 simp only [List.cons_append, List.nil_append, List.append_nil, List.append_assoc]
 refine Tr.lA rfl rfl rfl U29 rfl Bf mM (Vote.length (by first | exact oK  | exact hvk)) ?_
 refine Tr.m rfl rfl rfl ?_
 refine Tr.eqi rfl rfl rfl rfl rfl ?_
 refine Tr.sA rfl rfl rfl rfl (Vote.isCell (by first | exact oK  | exact hvk)) Bf (Vote.length (by first | exact oK  | exact hvk)) mM (Vote.length (by first | exact oK  | exact hvk)) uU ?_
 refine Tr.a rfl rfl rfl ?_
 refine Tr.nil (Aa (Sat.ret (Ak ?_)))
 refine Al (out := (RB n q N cp a1 e1 :: [])) (Aq rfl rfl rfl U29 rfl Bf mM (by first | (simp; done) | exact Vote.length (by first | exact oK  | exact hvk))) (Ad rM Ag) ?_
 exact ⟨rfl, rfl⟩

theorem pm_one {hp l R : List Blk} {x : Blk} (h : hp.Perm ((x :: l) ++ R)) : hp.Perm (([x] ++ l) ++ R) := h
def votesR (xs : List UInt8) : Nat → Nat → Int → Option (List Vote × Nat × Int)
  | 0, a, e => some ([], a, e)
  | k + 1, a, e => (votesR xs k a e).bind fun r => if (A1 ((blkR xs r.2.1 r.2.2).1.getD [])).2 = 0 ∧ (blkR xs r.2.1 r.2.2).2.2 = 0 then some (r.1 ++ [(A1 ((blkR xs r.2.1 r.2.2).1.getD [])).1], (blkR xs r.2.1 r.2.2).2) else none
def readVL (xs : List UInt8) (M a : Nat) (e : Int) : Option (List Vote × Nat × Int) :=
  if (Bc xs a e).2.2 = 0 ∧ (Bc xs a e).1.toNat ≤ M then votesR xs (Bc xs a e).1.toNat (Bc xs a e).2.1 (Bc xs a e).2.2 else none
theorem votesR_step {xs : List UInt8} {k a : Nat} {e : Int} {vs : List Vote} {a2 a3 : Nat} {e2 e3 : Int} {o : Option (List UInt8)} (h : votesR xs k a e = some (vs, a2, e2)) (hb : blkR xs a2 e2 = (o, a3, e3)) (h1 : (A1 (o.getD [])).2 = 0) (h2 : e3 = 0) : votesR xs (k + 1) a e = some (vs ++ [(A1 (o.getD [])).1], a3, e3) := by
  rw [votesR, h, Option.bind_some]
  simp only [hb]
  rw [if_pos ⟨h1, h2⟩]
theorem votesR_stop {xs : List UInt8} {k a : Nat} {e : Int} {vs : List Vote} {a2 a3 : Nat} {e2 e3 : Int} {o : Option (List UInt8)} (h : votesR xs k a e = some (vs, a2, e2)) (hb : blkR xs a2 e2 = (o, a3, e3)) (h1 : ¬ ((A1 (o.getD [])).2 = 0 ∧ e3 = 0)) : ∀ m, k < m → votesR xs m a e = none
  | 0, hm => absurd hm oM
  | m + 1, hm => by
    rcases Nat.lt_succ_iff_lt_or_eq.1 hm with h3 | rfl
    · rw [votesR, votesR_stop h hb h1 m h3]; rfl
    · rw [votesR, h, Option.bind_some]
      simp only [hb]
      rw [if_neg h1]
theorem A8 (xs : List UInt8) : (A1 xs).1.ok := by
  unfold A1
  split
  · obtain ⟨x1, r1, h1⟩ : ∃ l r, Bc xs 0 0 = (l, r) := ⟨_, _, rfl⟩
    obtain ⟨a1, e1⟩ := r1
    obtain ⟨x2, r2, h2⟩ : ∃ l r, Bc xs a1 e1 = (l, r) := ⟨_, _, rfl⟩
    obtain ⟨a2, e2⟩ := r2
    obtain ⟨x3, r3, h3⟩ : ∃ l r, Bc xs a2 e2 = (l, r) := ⟨_, _, rfl⟩
    obtain ⟨a3, e3⟩ := r3
    obtain ⟨l4, r4, h4⟩ : ∃ l r, digR xs a3 e3 = (l, r) := ⟨_, _, rfl⟩
    obtain ⟨a4, e4⟩ := r4
    obtain ⟨x5, r5, h5⟩ : ∃ l r, Bc xs a4 e4 = (l, r) := ⟨_, _, rfl⟩
    obtain ⟨a5, e5⟩ := r5
    obtain ⟨l6, r6, h6⟩ : ∃ l r, digR xs a5 e5 = (l, r) := ⟨_, _, rfl⟩
    obtain ⟨a6, e6⟩ := r6
    obtain ⟨l7, r7, h7⟩ : ∃ l r, takR xs 64 a6 e6 = (l, r) := ⟨_, _, rfl⟩
    obtain ⟨a7, e7⟩ := r7
    have hd1 := numE_le h1 rfl (Nat.zero_le _)
    have hd2 := numE_le h2 rfl hd1
    have hd3 := numE_le h3 rfl hd2
    have hd4 := digE_le h4 rfl hd3
    have hd5 := numE_le h5 rfl hd4.1
    have hd6 := digE_le h6 rfl hd5
    have hd7 := takE_le h7 rfl hd6.1
    have hvp : (voteP xs).1 = (⟨x1, x2, ((min x3.toNat 4 : Nat) : Int), l4, x5, l6, l7 ++ (List.replicate 64 0).drop l7.length⟩ : Vote) := by simp only [voteP, h1, h2, h3, h4, h5, h6, h7]
    show (voteP xs).1.ok
    rw [hvp]
    exact ⟨hd4.2, hd6.2, by rcases hd7.2 with h | h <;> simp [h]⟩
  · exact Vote.zero_ok
theorem wf_small {x : Int} (h0 : 0 ≤ x) (h4 : x ≤ 4) : (Lit.int .i64 x).wf = true := by
  have e1 : IntKind.i64.min = -9223372036854775808 := rfl
  have e2 : IntKind.i64.max = 9223372036854775807 := rfl
  simp [Lit.wf]
  omega
structure Vgood (V : Vote) : Prop where
  ok : V.ok
  wf : (Lit.int .i64 V.fPhase).wf = true
theorem voteRd_good (xs : List UInt8) : Vgood (A1 xs).1 := ⟨A8 xs, by
  unfold A1
  split
  · refine wf_small ?_ ?_ <;> simp only [voteP] <;> omega
  · exact wf_small dE dE⟩
def VotesRead (xs : List UInt8) (M a : Nat) (e : Int) (n q N cp : Nat) (v : Value) (out : List Blk) : Prop :=
  ∃ s bl a1 e1, a1 ≤ N ∧ out = bl ++ [RB n q N cp a1 e1] ∧ v = .tuple #[Sl.v s, .bool (readVL xs M a e).isSome] ∧ (∀ vs a2 e2, readVL xs M a e = some (vs, a2, e2) → a1 = a2 ∧ e1 = e2 ∧ vs.length ≤ M ∧ (∀ V ∈ vs, Vgood V) ∧ Hw.Acc s bl (vs.map Vote.cells).flatten 29 vs.length 132)
theorem votes_none {xs : List UInt8} {M a : Nat} {e : Int} {n q N cp a1 : Nat} {e1 : Int} (h : readVL xs M a e = none) (ha : a1 ≤ N) : VotesRead xs M a e n q N cp (.tuple #[.slice none 0 0, .bool false]) (RB n q N cp a1 e1 :: []) :=
  ⟨Sl.nil, [], a1, e1, ha, rfl, by rw [h]; rfl, fun vs a2 e2 h2 => by rw [h] at h2; cases h2⟩
structure VSt where
  k : Nat
  s : Sl
  bl : List Blk
  vs : List Vote
  a : Nat
  e : Int

theorem read_votes (n q N cp at' : Nat) (e : Int) (c M : Nat) (xs : List UInt8) (hx : xs.length = N) (hat : at' ≤ N) (hN : N ≤ cp) (hbig : N ≤ 90000) (hcn : c ≠ n) (hM : M ≤ 1000) : Meets Tryz.prog 88 [ptr n 0, i64 (M : Int), .func (.func 128) #[] #[ptr c 0]] [n] (fun W => BlkOk W (RB n q N cp at' e) ∧ Sees W q 0 (Ab xs) ∧ q ≠ n ∧ W.cell? ⟨c, 0, none⟩ = some (.func (.func 36) #[] #[])) (VotesRead xs M at' e n q N cp) := by
 intro W hW
 obtain ⟨x1, r1, h1⟩ : ∃ l r, Bc xs at' e = (l, r) := ⟨_, _, rfl⟩
 obtain ⟨a1, e1⟩ := r1
 have hd1 := numE_le h1 hx hat
 have hMw : (UInt64.ofNat M).toNat = M := Bq oM
 have hrv : readVL xs M at' e = if e1 = 0 ∧ x1.toNat ≤ M then votesR xs x1.toNat a1 e1 else none := by simp only [readVL, h1]
 refine A6 (hp0 := [RB n q N cp at' e]) Tryz.func88 rfl 47 Tryz.ntmps88 rfl (HRep.one hW.1) ?_
 refine Sat.seq (Sat.region ?_)
 refine Tr.a rfl rfl rfl ?_
 refine Tr.a rfl rfl rfl ?_
 refine Tr.nil (Aa (Sat.seq (Sat.region ?_)))
 refine Tr.m rfl rfl rfl ?_
 refine Tr.callL (L := [RB n q N cp at' e]) rfl rfl rfl rfl rfl Body90 (rd_NumberE n q N cp at' e xs hx hat hN oM x1 a1 e1 h1) (Ad rM Ag) (A4 rfl) (fun w h => ⟨An h mM, sees_ext h (by simp; exact hW.2.2.1) hW.2.1, hW.2.2.1⟩) ?_
 rintro v13 out13 ⟨rfl, rfl⟩
 refine Tr.a rfl rfl rfl ?_
 refine Tr.nil (Aa (Sat.seq (Sat.seq (Sat.region ?_))))
 refine Tr.m rfl rfl rfl ?_
 refine Tr.cV rfl rfl rfl rfl Body123 (rd_Err n q N cp a1 e1) (fun w h => An h mM) ?_
 refine two (fun r hr k => Tr.nei rfl rfl rfl rfl hr k) (fun hs2_20 => ?_) (fun hs2_20 => ?_)
 ·
  first | have hs2_2 := of_decide_eq_true hs2_20 | have hs2_2 := of_decide_eq_false hs2_20 | have hs2_2 := nd_t hs2_20 | have hs2_2 := nd_f hs2_20 | have hs2_2 := hs2_20
  refine Tr.m rfl rfl rfl ?_
  refine Tr.skp rfl rfl ?_
  refine Tr.skp rfl rfl ?_
  refine Tr.skp rfl rfl ?_
  refine Tr.skp rfl rfl ?_
  refine Tr.pick rfl rfl rfl rfl rfl rfl ?_
  refine Tr.nil (Aa ?_)
  refine Sat.cond_t rfl rfl ?_
  refine Sat.seq (Sat.region ?_)
  refine Tr.a rfl rfl rfl ?_
  refine Tr.a rfl rfl rfl ?_
  refine Tr.nil (Aa (Sat.ret (As (Ak ?_))))
  refine Al (out := (RB n q N cp a1 e1 :: [])) (res_tmp2 rfl rfl rfl) (Ad rM Ag) ?_
  exact votes_none (by rw [hrv]; exact if_neg (fun h => by omega)) oM
 ·
  first | have hs2_2 := of_decide_eq_true hs2_20 | have hs2_2 := of_decide_eq_false hs2_20 | have hs2_2 := nd_t hs2_20 | have hs2_2 := nd_f hs2_20 | have hs2_2 := hs2_20
  refine Tr.m rfl rfl rfl ?_
  refine Tr.m rfl rfl rfl ?_
  refine Tr.m rfl rfl rfl ?_
  refine Tr.conv rfl rfl rfl U3 U22 (Bl _) ?_
  rw [word_nat (n := M) oM]
  refine Tr.gtr rfl rfl rfl rfl rfl ?_
  refine Tr.pick rfl rfl rfl rfl rfl rfl ?_
  refine Tr.nil (Aa ?_)
  first
   | refine Sat.condP rfl (fun hc0 => ?_) (fun hc0 => ?_)
   | refine Sat.condNP rfl (fun hc0 => ?_) (fun hc0 => ?_)
   | refine Sat.cond rfl (fun hc0 => ?_) (fun hc0 => ?_)
  ·
   have hno : ¬ (e1 = 0 ∧ x1.toNat ≤ M) := by omega
   refine Sat.seq (Sat.region ?_)
   refine Tr.a rfl rfl rfl ?_
   refine Tr.a rfl rfl rfl ?_
   refine Tr.nil (Aa (Sat.ret (As (Ak ?_))))
   refine Al (out := (RB n q N cp a1 e1 :: [])) (res_tmp2 rfl rfl rfl) (Ad rM Ag) ?_
   exact votes_none (by rw [hrv]; exact if_neg (fun h => by omega)) oM
  ·
   have hyes : e1 = 0 ∧ x1.toNat ≤ M := by omega
   have hx64 : x1 = UInt64.ofNat x1.toNat := by simp
   refine Sat.skip (Aa (Sat.seq (Sat.region ?_)))
   refine Tr.m rfl rfl rfl ?_
   refine Tr.mkRoomN (z := agg Vote.zero.cells) (by' := 160) x1.toNat rfl rfl rfl rfl rfl U42 Bf Vote.zr (by unfold By; kernel_rfl) oM oM ?_
   intro q9
   refine Tr.a rfl rfl rfl ?_
   refine Tr.nil (Aa (Sat.seq (Sat.seq (Sat.region ?_))))
   refine Tr.m rfl rfl rfl ?_
   refine Tr.m rfl rfl rfl ?_
   refine Tr.nil (Aa (Sat.block ?_))
   refine Sat.loop (ι := VSt) (fun p => ⟨[(0, ptr n 0), (2, .func (.func 128) #[] #[ptr c 0]), (9, p.s.v), (25, u64 x1), (26, u64 (UInt64.ofNat p.k))], (RB n q N cp p.a p.e :: (p.bl ++ []))⟩) (fun p => p.k ≤ x1.toNat ∧ votesR xs p.k a1 e1 = some (p.vs, p.a, p.e) ∧ p.a ≤ N ∧ Hw.Acc p.s p.bl (p.vs.map Vote.cells).flatten 29 p.k 132 ∧ p.vs.length = p.k ∧ ∀ V ∈ p.vs, Vgood V) (fun p => x1.toNat - p.k) (⟨0, ⟨some ⟨q9, 0, none⟩, 0, x1.toNat⟩, [⟨q9, [], 29, x1.toNat * 132⟩], [], a1, e1⟩) ?_ ?_ ?_
   · exact ⟨Nat.zero_le _, rfl, hd1, Acc.some (Nat.zero_le _) sP, rfl, fun V h => (by cases h)⟩
   · exact Am (wk1 rfl (wk1 rfl (wk1 rfl (wk1 rfl (wk1 rfl wk0))))) (Ad rM (pm_one (Ad rM Ag)))
   ·
    rintro p hp
    obtain ⟨k, s, bl, vs, a2, e2⟩ := p
    obtain ⟨hk, hvr, ha2, hac, hvl, hvo⟩ := hp
    dsimp only at hk hvr ha2 hac hvl hvo ⊢
    obtain ⟨o, r3, hb3⟩ : ∃ l r, blkR xs a2 e2 = (l, r) := ⟨_, _, rfl⟩
    obtain ⟨a3, e3⟩ := r3
    have hd3 := blkE_le hb3 hx ha2
    refine Sat.seq (Sat.region ?_)
    refine Tr.lss rfl rfl rfl rfl rfl ?_
    refine Tr.nil (Aa (Sat.seq ?_))
    first
     | refine Sat.condP rfl (fun hc1 => ?_) (fun hc1 => ?_)
     | refine Sat.condNP rfl (fun hc1 => ?_) (fun hc1 => ?_)
     | refine Sat.cond rfl (fun hc1 => ?_) (fun hc1 => ?_)
    ·
     have hk64 : (UInt64.ofNat k).toNat = k := Bq oM
     have hk2 : k < x1.toNat := by omega
     refine Sat.skip (Aa (Sat.seq (Sat.block (Sat.seq (Sat.region ?_)))))
     refine Tr.m rfl rfl rfl ?_
     refine Tr.m rfl rfl rfl ?_
     refine Tr.callCL (L := [RB n q N cp a2 e2]) rfl rfl rfl rfl rfl rfl Body128 (item_vote n q N cp a2 e2 c xs hx ha2 hN hbig hcn o a3 e3 hb3 (A8 _)) (Ad rM Ag) (A4 rfl) (fun w h => ⟨An h mM, sees_ext h (by simp; exact hW.2.2.1) hW.2.1, hW.2.2.1, h.keeps.cell (by simp; exact hcn) hW.2.2.2⟩) ?_
     rintro v31 out31 ⟨rfl, rfl⟩
     refine Tr.m rfl rfl rfl ?_
     refine Tr.eX rfl rfl rfl rfl ?_
     refine Tr.extractB rfl rfl rfl rfl (fun hs7_50 => ?_) (fun hs7_50 => ?_)
     ·
      first | have hs7_5 := of_decide_eq_true hs7_50 | have hs7_5 := of_decide_eq_false hs7_50 | have hs7_5 := nd_t hs7_50 | have hs7_5 := nd_f hs7_50 | have hs7_5 := hs7_50
      refine Tr.alloc (cs := Vote.zero.cells) rfl Vote.zr rfl ?_
      intro n10 hn10 hf10
      refine Tr.sA rfl rfl rfl rfl (Vote.isCell (by first | exact oK  | exact A8 _)) Bf (Vote.length (by first | exact oK  | exact A8 _)) mM (Vote.length (by first | exact oK  | exact A8 _)) uU ?_
      refine Tr.a rfl rfl rfl ?_
      refine Tr.nil (Aa (Sat.seq (Sat.seq (Sat.region ?_))))
      refine Tr.m rfl rfl rfl ?_
      refine Tr.not rfl rfl rfl ?_
      refine Tr.m rfl rfl rfl ?_
      refine Tr.m rfl rfl rfl ?_
      refine Tr.cV rfl rfl rfl rfl Body123 (rd_Err n q N cp a3 e3) (fun w h => An h mM) ?_
      refine Tr.nei rfl rfl rfl rfl rfl ?_
      refine Tr.pick rfl rfl rfl rfl rfl rfl ?_
      refine Tr.nil (Aa ?_)
      first
       | refine Sat.condP rfl (fun hc2 => ?_) (fun hc2 => ?_)
       | refine Sat.condNP rfl (fun hc2 => ?_) (fun hc2 => ?_)
       | refine Sat.cond rfl (fun hc2 => ?_) (fun hc2 => ?_)
      ·
       refine Sat.seq (Sat.region ?_)
       refine Tr.a rfl rfl rfl ?_
       refine Tr.a rfl rfl rfl ?_
       refine Tr.nil (Aa (Sat.ret (As (bl_r (As (As (bl_r (As (Ak ?_)))))))))
       refine Al (out := (RB n q N cp a3 e3 :: [])) (res_tmp2 rfl rfl rfl) (Ad rM Ag) ?_
       exact votes_none (by rw [hrv, if_pos hyes]; exact votesR_stop hvr hb3 oM _ hk2) hd3.1
      ·
       refine Sat.skip (Aa (Sat.region ?_))
       refine Tr.m rfl rfl rfl ?_
       refine Tr.lA rfl rfl rfl U29 rfl Bf mM (Vote.length (by first | exact oK  | exact A8 _)) ?_
       refine Tr.mkRow (z := agg Vote.zero.cells) [agg (A1 (o.getD [])).1.cells] (A1 (o.getD [])).1.cells rfl rfl rfl U42 Bf Vote.zr rfl rfl (by intro v hv; rw [List.mem_singleton.1 hv]; exact Vote.length (A8 _)) dE (by simp [Value.cells]) ?_
       intro q43
       refine Tr.appendAcc (z := agg Vote.zero.cells) (by' := 160) ((A1 (o.getD [])).1.cells) rfl rfl rfl rfl rfl U42 U42 Bf Zr29 (by unfold By; kernel_rfl) rfl hac sG (fun w h => SeesP.of (Ay h mM)) (fun e => by cases e) (Vote.isCell (A8 _)) oM oM (by rw [Vote.length (A8 _)]) ?_
       intro s44 bl44 hac44
       refine Tr.a rfl rfl rfl ?_
       refine Tr.nil (Bu (Aa (Sat.region ?_)))
       refine Tr.add_u64 rfl rfl rfl (show Ai _ _ = some (u64 1) from rfl) ?_
       refine Tr.m rfl rfl rfl ?_
       refine Tr.nil (Aa ?_)
       refine ⟨⟨k + 1, s44, bl44, vs ++ [(A1 (o.getD [])).1], a3, e3⟩, ⟨by simp only []; omega, votesR_step hvr hb3 hs7_5 oM, hd3.1, by simpa using hac44, by simp [hvl], fun V hV => ?_⟩, by simp only []; omega, Am (wk1 rfl (wk1 rfl (wk1 rfl (wk1 rfl (wk1 (congrArg (fun z => some (u64 z)) (ofNat_step _)) wk0))))) (Ad rM (Ac sG Ag))⟩
       rcases List.mem_append.1 hV with h | h
       · exact hvo V h
       · rw [List.mem_singleton.1 h]; exact voteRd_good _
     ·
      first | have hs7_5 := of_decide_eq_true hs7_50 | have hs7_5 := of_decide_eq_false hs7_50 | have hs7_5 := nd_t hs7_50 | have hs7_5 := nd_f hs7_50 | have hs7_5 := hs7_50
      refine Tr.alloc (cs := Vote.zero.cells) rfl Vote.zr rfl ?_
      intro n10 hn10 hf10
      refine Tr.sA rfl rfl rfl rfl (Vote.isCell (by first | exact oK  | exact A8 _)) Bf (Vote.length (by first | exact oK  | exact A8 _)) mM (Vote.length (by first | exact oK  | exact A8 _)) uU ?_
      refine Tr.a rfl rfl rfl ?_
      refine Tr.nil (Aa (Sat.seq (Sat.seq (Sat.region ?_))))
      refine Tr.m rfl rfl rfl ?_
      refine Tr.not rfl rfl rfl ?_
      refine Tr.m rfl rfl rfl ?_
      refine Tr.skp rfl rfl ?_
      refine Tr.skp rfl rfl ?_
      refine Tr.skp rfl rfl ?_
      refine Tr.pick rfl rfl rfl rfl rfl rfl ?_
      refine Tr.nil (Aa ?_)
      refine Sat.cond_t rfl rfl ?_
      refine Sat.seq (Sat.region ?_)
      refine Tr.a rfl rfl rfl ?_
      refine Tr.a rfl rfl rfl ?_
      refine Tr.nil (Aa (Sat.ret (As (bl_r (As (As (bl_r (As (Ak ?_)))))))))
      refine Al (out := (RB n q N cp a3 e3 :: [])) (res_tmp2 rfl rfl rfl) (Ad rM Ag) ?_
      exact votes_none (by rw [hrv, if_pos hyes]; exact votesR_stop hvr hb3 oM _ hk2) hd3.1
    ·
     have hk64 : (UInt64.ofNat k).toNat = k := Bq oM
     have hke : k = x1.toNat := by omega
     refine Sat.exit (A9 (A9 (bl_h (Aa (Sat.seq (Sat.region ?_))))))
     refine Tr.m rfl rfl rfl ?_
     refine Tr.a rfl rfl rfl ?_
     refine Tr.a rfl rfl rfl ?_
     refine Tr.nil (Aa (Sat.ret (Ak ?_)))
     refine Al (out := (bl ++ (RB n q N cp a2 e2 :: []))) (res_tmp2 rfl rfl rfl) (Ac sG (Ad rM Ag)) ?_
     have hfin : readVL xs M at' e = some (vs, a2, e2) := by rw [hrv, if_pos hyes, ← hke]; exact hvr
     exact ⟨s, bl, a2, e2, ha2, by simp, by rw [hfin]; rfl, fun vs2 a4 e4 h4 => by rw [hfin] at h4; cases h4; exact ⟨rfl, rfl, by omega, hvo, by rw [hvl]; exact hac⟩⟩

end Go.Proofs.YtkfhpmidcbmofaaGreat
end

section
namespace Go.Proofs.YtkfhpmidcbmofaaGreat
open Go Hw

def dcertz : DCert := ⟨DCut.zero, []⟩
noncomputable def certRd (xs : List UInt8) : DCert × Int :=
  if (cutRd ((blkR xs 0 0).1.getD [])).2 = 0 then
    match readVL xs 16 (blkR xs 0 0).2.1 (blkR xs 0 0).2.2 with
    | some (vs, a, e) => if endR xs.length a e = 0 ∧ (⟨(cutRd ((blkR xs 0 0).1.getD [])).1, vs⟩ : DCert).check = 0 then (⟨(cutRd ((blkR xs 0 0).1.getD [])).1, vs⟩, 0) else (dcertz, 4)
    | none => (dcertz, 4)
  else (dcertz, 4)
theorem certz_is (W : World) : CertIs W Cert.zero dcertz := ⟨Cert.zero_ok, cutz_is W, ⟨[], SeqIs.none⟩⟩
def CertRead (xs : List UInt8) (v : Value) (out : List Blk) : Prop := ∃ C : Cert, C.ok ∧ v = .tuple #[agg C.cells, i64 (certRd xs).2] ∧ ∀ W2, Lies out W2 → CertIs W2 C (certRd xs).1
theorem cert_bad {xs : List UInt8} {out : List Blk} (h : certRd xs = (dcertz, 4)) : CertRead xs (.tuple #[agg Cert.zero.cells, i64 4]) out := by
  refine ⟨Cert.zero, Cert.zero_ok, ?_, fun W2 _ => ?_⟩ <;> rw [h]
  exact certz_is W2
theorem cert_okR {xs : List UInt8} {out : List Blk} {C : Cert} {D : DCert} (h : certRd xs = (D, 0)) (hok : C.ok) (hC : ∀ W2, Lies out W2 → CertIs W2 C D) : CertRead xs (.tuple #[agg C.cells, i64 0]) out := by
  refine ⟨C, hok, ?_, fun W2 h2 => ?_⟩ <;> rw [h]
  exact hC W2 h2
theorem upd_cut {C : Cert} (h : C.ok) {X : Cut} (hx : X.ok) : upd C.cells (0 + 0) X.cells = ({ C with fCut := X } : Cert).cells := by
  have h1 := Cut.length h.o_fCut
  have h2 := Cut.length hx
  simp only [upd, Cert.cells, Nat.zero_add, List.take_zero, List.nil_append, h2]
  congr 1
  rw [← h1, List.drop_left]

theorem owned_vs {s : Sl} {bl : List Blk} {vs : List Vote} (hv : ∀ V ∈ vs, Vgood V) (h : Hw.Acc s bl (vs.map Vote.cells).flatten 29 vs.length 132) (hm : vs.length ≤ 1000000) : ∀ W2, Lies bl W2 → VotesAt W2 s vs := fun W2 hl => ⟨vs, acc_seq h hl rfl rfl (fun r hr => Vote.length (hv r hr).ok) hm fun i r d hr hd => (by
  rw [hr] at hd
  obtain rfl := Option.some.inj hd
  exact ⟨(hv r (List.mem_of_getElem? hr)).ok, rfl, (hv r (List.mem_of_getElem? hr)).wf⟩)⟩

theorem mk_item_vote  : Meets Tryz.prog 89 [.func (.func 36) #[] #[]] [] (fun _ => True) (fun v out => ∃ c, v = .func (.func 128) #[] #[ptr c 0] ∧ out = [⟨c, [.func (.func 36) #[] #[]], 85, 1⟩]) := by
 intro W hW
 refine Aj Tryz.func89 rfl 4 Tryz.ntmps89 rfl ?_
 refine Sat.seq (Sat.region ?_)
 refine Tr.box1 rfl rfl rfl ?_
 intro n1 hn1 hf1
 refine Tr.a rfl rfl rfl ?_
 refine Tr.nil (Aa (Sat.seq (Sat.region ?_)))
 refine Tr.makeFunc rfl rfl rfl rfl ?_
 refine Tr.a rfl rfl rfl ?_
 refine Tr.nil (Aa (Sat.ret (Ak ?_)))
 refine Al (out := (⟨n1, [.func (.func 36) #[] #[]], 85, 1⟩ :: [])) (Ae rfl rfl) (Ad rM Ag) ?_
 exact ⟨n1, rfl, by simp⟩

theorem cert_read (a : Option Addr) (n c : Nat) (xs : List UInt8) (hl : xs.length = n) (hp : a = none → n = 0) (hn : n ≤ 90000) : Meets Tryz.prog 34 [.slice a n c] [] (fun W => SeesP W a (Ab xs)) (CertRead xs) := by
 intro W hW
 obtain ⟨o, r1, h1⟩ : ∃ l r, blkR xs 0 0 = (l, r) := ⟨_, _, rfl⟩
 obtain ⟨a1, e1⟩ := r1
 have hd1 := blkE_le h1 hl (Nat.zero_le _)
 have hcr : certRd xs = if (cutRd (o.getD [])).2 = 0 then (match readVL xs 16 a1 e1 with | some (vs, a, e) => if endR xs.length a e = 0 ∧ (⟨(cutRd (o.getD [])).1, vs⟩ : DCert).check = 0 then ((⟨(cutRd (o.getD [])).1, vs⟩ : DCert), (0 : Int)) else (dcertz, (4 : Int)) | none => (dcertz, (4 : Int))) else (dcertz, (4 : Int)) := by simp only [certRd, h1]
 refine Aj Tryz.func34 rfl 40 Tryz.ntmps34 rfl ?_
 refine Sat.seq (Sat.region ?_)
 refine Tr.alloc (cs := Cert.zero.cells) rfl Cert.zr rfl ?_
 intro n2 hn2 hf2
 refine Tr.a rfl rfl rfl ?_
 refine Tr.nil (Aa (Sat.seq (Sat.region ?_)))
 refine Tr.m rfl rfl rfl ?_
 refine Tr.call4 rfl rfl rfl rfl rfl Body81 (oct_Read a n c xs hl hp hn) (fun w h => Az h rfl hW) ?_
 rintro v7 out7 ⟨n7, q7, cp7, rfl, hcp7, rfl⟩
 refine Tr.nd (fun hnd => ?_)
 have hne : q7 ≠ n7 := by intro e; simp [RB, e] at hnd
 clear hnd
 refine Tr.a rfl rfl rfl ?_
 refine Tr.nil (Aa (Sat.seq (Sat.region ?_)))
 refine Tr.alloc (cs := Cert.zero.cells) rfl Cert.zr rfl ?_
 intro n5 hn5 hf5
 refine Tr.nil (Aa (Sat.seq (Sat.region ?_)))
 refine Tr.a rfl rfl rfl ?_
 refine Tr.nil (Aa (Sat.seq (Sat.seq (Sat.region ?_))))
 refine Tr.m rfl rfl rfl ?_
 refine Tr.callL (L := [RB n7 q7 n cp7 0 0]) rfl rfl rfl rfl rfl Body87 (rd_BlockE n7 q7 n cp7 0 0 xs hl (Nat.zero_le _) hcp7 hn o a1 e1 h1) (Ad rM Ag) (A4 rfl) (fun w h => ⟨An h mM, Ay h mM, hne⟩) ?_
 rintro v12 out12 ⟨s12, bl12, rfl, hac12, rfl⟩
 simp only [List.append_assoc, List.cons_append, List.nil_append]
 refine Tr.call4 rfl rfl rfl rfl rfl Body38 (cut_read s12.p s12.n s12.c (o.getD []) hac12.num.symm (fun e => hac12.nil e) (by rw [hac12.num]; omega)) (fun w h => hac12.see (Lies.of h iN)) ?_
 rintro v13 out13 ⟨C13, okC, rfl, hC13⟩
 refine Tr.m rfl rfl rfl ?_
 refine Tr.eX rfl rfl rfl rfl ?_
 refine Tr.eX rfl rfl rfl rfl ?_
 refine Tr.fld rfl rfl rfl U80 rfl Sz39 dE _ rfl ?_
 refine Tr.storeN C13.cells rfl rfl rfl rfl rfl (Cut.isCell okC) Sz39 (Cut.length okC) mM (by rw [Cert.length Cert.zero_ok, Cut.length okC]; decide) (upd_cut Cert.zero_ok okC) uU ?_
 refine Tr.a rfl rfl rfl ?_
 refine Tr.nil (Aa (Sat.seq (Sat.region ?_)))
 refine Tr.m rfl rfl rfl ?_
 refine Tr.nei rfl rfl rfl rfl rfl ?_
 refine Tr.nil (Aa ?_)
 first
  | refine Sat.condP rfl (fun hc0 => ?_) (fun hc0 => ?_)
  | refine Sat.condNP rfl (fun hc0 => ?_) (fun hc0 => ?_)
  | refine Sat.cond rfl (fun hc0 => ?_) (fun hc0 => ?_)
 ·
  refine Sat.seq (Sat.region ?_)
  refine Tr.build (cs := Cert.zero.cells) rfl rfl rfl (fun w => by kernel_rfl) ?_
  refine Tr.sA rfl rfl rfl rfl (Cert.isCell (by first | exact oK | exact ⟨okC⟩ | exact okC)) Sz80 (Cert.length (by first | exact oK | exact ⟨okC⟩ | exact okC)) mM (Cert.length (by first | exact oK | exact ⟨okC⟩ | exact okC)) uU ?_
  refine Tr.a rfl rfl rfl ?_
  refine Tr.nil (Aa (Sat.ret (As (Ak ?_))))
  refine Al (out := []) (Aq rfl rfl rfl U80 rfl Sz80 mM (by first | (simp; done) | exact Cert.length (by first | exact oK | exact ⟨okC⟩ | exact okC))) Ag ?_
  exact cert_bad (by rw [hcr]; exact if_neg oM)
 ·
  have hc13 : (cutRd (o.getD [])).2 = 0 := by omega
  refine Sat.skip (Aa (Sat.seq (Sat.region ?_)))
  refine Tr.a rfl rfl rfl ?_
  refine Tr.nil (Aa (Sat.seq (Sat.seq (Sat.region ?_))))
  refine Tr.m rfl rfl rfl ?_
  refine Tr.call4 rfl rfl rfl rfl rfl Body89 (mk_item_vote) tV ?_
  rintro v22 out22 ⟨c22, rfl, rfl⟩
  refine Tr.nd (fun hnd => ?_)
  have hcn : c22 ≠ n7 := by intro e; simp [RB, e] at hnd
  clear hnd
  simp only [List.append_assoc, List.cons_append, List.nil_append]
  refine Tr.callL (L := [RB n7 q7 n cp7 a1 e1]) rfl rfl rfl rfl rfl Body88 (read_votes n7 q7 n cp7 a1 e1 c22 16 xs hl hd1.1 hcp7 hn hcn dE) (Ad rM Ag) (A4 rfl) (fun w h => ⟨An h mM, Ay h mM, hne, (An (B := ⟨c22, _, _, _⟩) h mM).cell (o := 0) rfl⟩) ?_
  rintro v23 out23 ⟨s23, bl23, a2, e2, ha2, rfl, rfl, hv23⟩
  simp only [List.append_assoc, List.cons_append, List.nil_append]
  refine Tr.m rfl rfl rfl ?_
  refine Tr.eX rfl rfl rfl rfl ?_
  refine Tr.extractB rfl rfl rfl rfl (fun hs8_50 => ?_) (fun hs8_50 => ?_)
  ·
   first | have hs8_5 := of_decide_eq_true hs8_50 | have hs8_5 := of_decide_eq_false hs8_50 | have hs8_5 := nd_t hs8_50 | have hs8_5 := nd_f hs8_50 | have hs8_5 := hs8_50
   obtain ⟨r23, hr23⟩ := Option.isSome_iff_exists.1 hs8_5
   obtain ⟨vs, a4, e4⟩ := r23
   obtain ⟨rfl, rfl, hvn, hvo, hvac⟩ := hv23 vs a4 e4 hr23
   refine Tr.fld rfl rfl rfl U80 rfl Sz42 dE _ rfl ?_
   refine Tr.s1 rfl rfl rfl rfl rfl Sz42 mM (by rw [Cert.length (by first | exact oK | exact ⟨okC⟩ | exact okC)]; decide) (by first | exact Cert.set_fVotes (by first | exact oK | exact ⟨okC⟩ | exact okC) _ | exact Cert.setS_fVotes (by first | exact oK | exact ⟨okC⟩ | exact okC) _ _ _) uU ?_
   refine Tr.a rfl rfl rfl ?_
   refine Tr.nil (Aa (Sat.seq (Sat.region ?_)))
   refine Tr.m rfl rfl rfl ?_
   refine Tr.not rfl rfl rfl ?_
   refine Tr.nil (Aa ?_)
   refine Sat.cond_f rfl rfl ?_
   refine Sat.skip (Aa (Sat.seq (Sat.seq (Sat.region ?_))))
   refine Tr.m rfl rfl rfl ?_
   refine Tr.cV rfl rfl rfl rfl Body86 (rd_End n7 q7 n cp7 a2 e2 ha2 oM) (fun w h => An h mM) ?_
   refine two (fun r hr k => Tr.nei rfl rfl rfl rfl hr k) (fun hs11_20 => ?_) (fun hs11_20 => ?_)
   ·
    first | have hs11_2 := of_decide_eq_true hs11_20 | have hs11_2 := of_decide_eq_false hs11_20 | have hs11_2 := nd_t hs11_20 | have hs11_2 := nd_f hs11_20 | have hs11_2 := hs11_20
    refine Tr.m rfl rfl rfl ?_
    refine Tr.skp rfl rfl ?_
    refine Tr.skp rfl rfl ?_
    refine Tr.skp rfl rfl ?_
    refine Tr.pick rfl rfl rfl rfl rfl rfl ?_
    refine Tr.nil (Aa ?_)
    refine Sat.cond_t rfl rfl ?_
    refine Sat.seq (Sat.region ?_)
    refine Tr.build (cs := Cert.zero.cells) rfl rfl rfl (fun w => by kernel_rfl) ?_
    refine Tr.sA rfl rfl rfl rfl (Cert.isCell (by first | exact oK | exact ⟨okC⟩ | exact okC)) Sz80 (Cert.length (by first | exact oK | exact ⟨okC⟩ | exact okC)) mM (Cert.length (by first | exact oK | exact ⟨okC⟩ | exact okC)) uU ?_
    refine Tr.a rfl rfl rfl ?_
    refine Tr.nil (Aa (Sat.ret (As (Ak ?_))))
    refine Al (out := []) (Aq rfl rfl rfl U80 rfl Sz80 mM (by first | (simp; done) | exact Cert.length (by first | exact oK | exact ⟨okC⟩ | exact okC))) Ag ?_
    exact cert_bad (by rw [hcr, if_pos hc13, hr23]; dsimp only; rw [hl]; exact if_neg (fun h => by have := h.1; omega))
   ·
    first | have hs11_2 := of_decide_eq_true hs11_20 | have hs11_2 := of_decide_eq_false hs11_20 | have hs11_2 := nd_t hs11_20 | have hs11_2 := nd_f hs11_20 | have hs11_2 := hs11_20
    refine Tr.m rfl rfl rfl ?_
    refine Tr.lA rfl rfl rfl U80 rfl Sz80 mM (Cert.length (by first | exact oK | exact ⟨okC⟩ | exact okC)) ?_
    refine Tr.cV rfl rfl rfl rfl Body50 (cert_check ({ Cert.zero with fCut := C13, fVotes := s23 } : Cert) ⟨(cutRd (o.getD [])).1, vs⟩) (fun w h => ⟨⟨okC⟩, hC13 w (Lies.of h iN), owned_vs hvo hvac oM w (Lies.of h iN)⟩) ?_
    refine Tr.nei rfl rfl rfl rfl rfl ?_
    refine Tr.pick rfl rfl rfl rfl rfl rfl ?_
    refine Tr.nil (Aa ?_)
    first
     | refine Sat.condP rfl (fun hc2 => ?_) (fun hc2 => ?_)
     | refine Sat.condNP rfl (fun hc2 => ?_) (fun hc2 => ?_)
     | refine Sat.cond rfl (fun hc2 => ?_) (fun hc2 => ?_)
    ·
     refine Sat.seq (Sat.region ?_)
     refine Tr.build (cs := Cert.zero.cells) rfl rfl rfl (fun w => by kernel_rfl) ?_
     refine Tr.sA rfl rfl rfl rfl (Cert.isCell (by first | exact oK | exact ⟨okC⟩ | exact okC)) Sz80 (Cert.length (by first | exact oK | exact ⟨okC⟩ | exact okC)) mM (Cert.length (by first | exact oK | exact ⟨okC⟩ | exact okC)) uU ?_
     refine Tr.a rfl rfl rfl ?_
     refine Tr.nil (Aa (Sat.ret (As (Ak ?_))))
     refine Al (out := []) (Aq rfl rfl rfl U80 rfl Sz80 mM (by first | (simp; done) | exact Cert.length (by first | exact oK | exact ⟨okC⟩ | exact okC))) Ag ?_
     exact cert_bad (by rw [hcr, if_pos hc13, hr23]; dsimp only; rw [hl]; exact if_neg (fun h => by have := h.2; omega))
    ·
     refine Sat.skip (Aa (Sat.seq (Sat.region ?_)))
     refine Tr.lA rfl rfl rfl U80 rfl Sz80 mM (Cert.length (by first | exact oK | exact ⟨okC⟩ | exact okC)) ?_
     refine Tr.sA rfl rfl rfl rfl (Cert.isCell (by first | exact oK | exact ⟨okC⟩ | exact okC)) Sz80 (Cert.length (by first | exact oK | exact ⟨okC⟩ | exact okC)) mM (Cert.length (by first | exact oK | exact ⟨okC⟩ | exact okC)) uU ?_
     refine Tr.a rfl rfl rfl ?_
     refine Tr.nil (Aa (Sat.ret (Ak ?_)))
     refine Al (out := (out13 ++ (bl23 ++ []))) (Aq rfl rfl rfl U80 rfl Sz80 mM (by first | (simp; done) | exact Cert.length (by first | exact oK | exact ⟨okC⟩ | exact okC))) (Ac sG (Ac sG Ag)) ?_
     exact cert_okR (D := ⟨(cutRd (o.getD [])).1, vs⟩) (by rw [hcr, if_pos hc13, hr23]; dsimp only; rw [hl]; exact if_pos ⟨by omega, by omega⟩) ⟨okC⟩ (fun W2 h2 => ⟨⟨okC⟩, hC13 W2 (h2.sub iN), owned_vs hvo hvac oM W2 (h2.sub iN)⟩)
  ·
   first | have hs8_5 := of_decide_eq_true hs8_50 | have hs8_5 := of_decide_eq_false hs8_50 | have hs8_5 := nd_t hs8_50 | have hs8_5 := nd_f hs8_50 | have hs8_5 := hs8_50
   have hr23 : readVL xs 16 a1 e1 = none := by simpa using hs8_5
   refine Tr.fld rfl rfl rfl U80 rfl Sz42 dE _ rfl ?_
   refine Tr.s1 rfl rfl rfl rfl rfl Sz42 mM (by rw [Cert.length (by first | exact oK | exact ⟨okC⟩ | exact okC)]; decide) (by first | exact Cert.set_fVotes (by first | exact oK | exact ⟨okC⟩ | exact okC) _ | exact Cert.setS_fVotes (by first | exact oK | exact ⟨okC⟩ | exact okC) _ _ _) uU ?_
   refine Tr.a rfl rfl rfl ?_
   refine Tr.nil (Aa (Sat.seq (Sat.region ?_)))
   refine Tr.m rfl rfl rfl ?_
   refine Tr.not rfl rfl rfl ?_
   refine Tr.nil (Aa ?_)
   refine Sat.cond_t rfl rfl ?_
   refine Sat.seq (Sat.region ?_)
   refine Tr.build (cs := Cert.zero.cells) rfl rfl rfl (fun w => by kernel_rfl) ?_
   refine Tr.sA rfl rfl rfl rfl (Cert.isCell (by first | exact oK | exact ⟨okC⟩ | exact okC)) Sz80 (Cert.length (by first | exact oK | exact ⟨okC⟩ | exact okC)) mM (Cert.length (by first | exact oK | exact ⟨okC⟩ | exact okC)) uU ?_
   refine Tr.a rfl rfl rfl ?_
   refine Tr.nil (Aa (Sat.ret (As (Ak ?_))))
   refine Al (out := []) (Aq rfl rfl rfl U80 rfl Sz80 mM (by first | (simp; done) | exact Cert.length (by first | exact oK | exact ⟨okC⟩ | exact okC))) Ag ?_
   exact cert_bad (by rw [hcr, if_pos hc13, hr23])

end Go.Proofs.YtkfhpmidcbmofaaGreat
end

section
namespace Hw
open Go

def headOf (s h : Nat) : UInt8 := shl8 255 (9 - s) ||| UInt8.ofNat h
theorem head_facts : ∀ s, s < 10 → 1 ≤ s → ∀ h, h < 2 ^ (8 - s) → (s = 9 → h = 0) → cntB (headOf s h) = s ∧ (headV (headOf s h)).toNat = h := by
  decide +kernel
def beN : List UInt8 → Nat
  | [] => 0
  | b :: l => b.toNat * 256 ^ l.length + beN l
theorem beN_tail (x : UInt64) : ∀ k, k ≤ 8 → beN (tailB x k) = x.toNat % 256 ^ k
  | 0, _ => by simp [tailB, beN, Nat.mod_one]
  | k + 1, hk => by
    have hp : 0 < 256 ^ k := Nat.pow_pos dE
    have e : (2 : Nat) ^ (8 * k) = 256 ^ k := by rw [Nat.pow_mul]
    rw [tailB, beN, tailB_length, beN_tail x k oM, UInt64.toNat_toUInt8]
    have e1 : (shr64 x (8 * k)).toNat = x.toNat / 256 ^ k := by
      have h : x.toNat / 2 ^ (8 * k) ≤ x.toNat := Nat.div_le_self _ _
      have := x.toNat_lt
      rw [shr64, UInt64.toNat_ofNat', Nat.mod_eq_of_lt oM, e]
    rw [e1]
    have h3 := Nat.mod_mul (a := 256 ^ k) (b := 256) (x := x.toNat)
    have e2 : (256 : Nat) ^ (k + 1) = 256 ^ k * 256 := Nat.pow_succ ..
    have e3 : (2 : Nat) ^ 8 = 256 := by decide
    rw [e2, h3, e3, Nat.mul_comm (256 ^ k)]
    omega
theorem foldB_nat : ∀ (l : List UInt8) (a : UInt64), a.toNat * 256 ^ l.length + beN l < 2 ^ 64 → (foldB a l).toNat = a.toNat * 256 ^ l.length + beN l
  | [], a, _ => by simp [foldB, beN]
  | b :: l, a, h => by
    rw [beN, List.length_cons, Nat.pow_succ] at h
    have hb := b.toNat_lt
    have hp : 0 < 256 ^ l.length := Nat.pow_pos dE
    have e : a.toNat * (256 ^ l.length * 256) + (b.toNat * 256 ^ l.length + beN l) = (a.toNat * 256 + b.toNat) * 256 ^ l.length + beN l := by
      rw [Nat.add_mul, Nat.mul_assoc, Nat.mul_comm 256, Nat.add_assoc]
    rw [e] at h
    have h1 : a.toNat * 256 + b.toNat < 18446744073709551616 := by
      rw [show (2 : Nat) ^ 64 = 18446744073709551616 by decide] at h
      have : (a.toNat * 256 + b.toNat) * 1 ≤ (a.toNat * 256 + b.toNat) * 256 ^ l.length := Nat.mul_le_mul_left _ hp
      omega
    have hs : (shl64 a 8).toNat = a.toNat * 256 := by
      have e0 : a.toNat * 2 ^ 8 = a.toNat * 256 := rfl
      rw [shl64, UInt64.toNat_ofNat', e0, Nat.mod_eq_of_lt (Nat.lt_of_le_of_lt (Nat.le_add_right _ b.toNat) h1)]
    have ho : (shl64 a 8 ||| b.toUInt64).toNat = a.toNat * 256 + b.toNat := by
      rw [UInt64.toNat_or, hs, show b.toUInt64.toNat = b.toNat from by simp]
      rw [show a.toNat * 256 = 2 ^ 8 * a.toNat by omega, Nat.two_pow_add_eq_or_of_lt oM]
    rw [foldB, foldB_nat l _ (by rw [ho]; exact h), ho, beN, List.length_cons, Nat.pow_succ, e]

theorem or_one (x : Nat) : x ||| 1 = if x % 2 = 0 then x + 1 else x := by
  have h := Nat.or_mod_two_pow (a := x) (b := 1) (n := 1)
  have h2 := Nat.or_div_two_pow (a := x) (b := 1) (n := 1)
  simp only [Nat.pow_one] at h h2
  have e : x % 2 = 0 ∨ x % 2 = 1 := by omega
  have hm : (x ||| 1) % 2 = 1 := by
    rw [h]
    rcases e with e | e <;> rw [e] <;> rfl
  have hd : (x ||| 1) / 2 = x / 2 := by rw [h2]; simp
  split <;> omega
theorem or_one_lt {x k : Nat} (hk : 1 ≤ k) : (x ||| 1) < 2 ^ k ↔ x < 2 ^ k := by
  rw [or_one]
  have : 2 ^ k = 2 * 2 ^ (k - 1) := by rw [← Nat.pow_succ']; congr 1; omega
  split <;> omega
theorem szN_le {x s : Nat} (hs : 1 ≤ s) (h8 : s ≤ 8) : szN x ≤ s ↔ x < 2 ^ (7 * s) := by
  rw [← or_one_lt oM, ← bLen_le]
  unfold szN
  omega
theorem szN_hi {x : Nat} (hs : szN x ≤ 8) : x < 2 ^ (7 * szN x) := (szN_le (Bb x).1 hs).1 (Nat.le_refl _)

theorem headB_of (x : UInt64) : ∃ h, headB x = headOf (szN x.toNat) h ∧ h < 2 ^ (8 - szN x.toNat) ∧ (szN x.toNat = 9 → h = 0) ∧ x.toNat = h * 256 ^ (szN x.toNat - 1) + x.toNat % 256 ^ (szN x.toNat - 1) := by
  have hp := Bb x.toNat
  have hx := x.toNat_lt
  have e : (2 : Nat) ^ (8 * (szN x.toNat - 1)) = 256 ^ (szN x.toNat - 1) := by rw [Nat.pow_mul]
  have e1 : (shr64 x (8 * (szN x.toNat - 1))).toNat = x.toNat / 256 ^ (szN x.toNat - 1) := by
    have h : x.toNat / 2 ^ (8 * (szN x.toNat - 1)) ≤ x.toNat := Nat.div_le_self _ _
    rw [shr64, UInt64.toNat_ofNat', Nat.mod_eq_of_lt oM, e]
  have hlt : x.toNat / 256 ^ (szN x.toNat - 1) < 2 ^ (8 - szN x.toNat) ∧ (szN x.toNat = 9 → x.toNat / 256 ^ (szN x.toNat - 1) = 0) := by
    by_cases h9 : szN x.toNat = 9
    · rw [h9]
      have : x.toNat / 256 ^ (9 - 1) = 0 := Nat.div_eq_of_lt (by rw [show (256 : Nat) ^ (9 - 1) = 2 ^ 64 by decide]; exact hx)
      rw [this]
      exact ⟨by decide, fun _ => rfl⟩
    · refine ⟨?_, fun h => absurd h h9⟩
      rw [Nat.div_lt_iff_lt_mul (Nat.pow_pos dE), ← e, ← Nat.pow_add]
      have := szN_hi (x := x.toNat) oM
      rwa [show 8 - szN x.toNat + 8 * (szN x.toNat - 1) = 7 * szN x.toNat by omega]
  refine ⟨x.toNat / 256 ^ (szN x.toNat - 1), ?_, hlt.1, hlt.2, (Nat.div_add_mod' _ _).symm⟩
  unfold headB headOf
  congr 1
  apply UInt8.toNat_inj.1
  rw [UInt64.toNat_toUInt8, e1, UInt8.toNat_ofNat']

theorem num_back (x : UInt64) : cntB (headB x) = szN x.toNat ∧ foldB (headV (headB x)) (tailB x (szN x.toNat - 1)) = x := by
  obtain ⟨h, h1, h2, h3, h4⟩ := headB_of x
  have hp := Bb x.toNat
  have hf := head_facts (szN x.toNat) oM hp.1 h h2 h3
  rw [h1]
  refine ⟨hf.1, UInt64.toNat_inj.1 ?_⟩
  have hb := beN_tail x (szN x.toNat - 1) oM
  rw [foldB_nat _ _ (by rw [tailB_length, hf.2, hb, ← h4]; exact x.toNat_lt), tailB_length, hf.2, hb, ← h4]

end Hw
end

section
namespace Go.Proofs.YtkfhpmidcbmofaaGreat
open Go Hw

theorem drop_cons {xs l : List UInt8} {a : Nat} {f : UInt8} (h : xs.drop a = f :: l) : a < xs.length ∧ xs.getD a 0 = f ∧ xs.drop (a + 1) = l := by
  have hlt : a < xs.length := by
    rcases Nat.lt_or_ge a xs.length with h1 | h1
    · exact h1
    · rw [List.drop_eq_nil_of_le h1] at h; cases h
  rw [List.drop_eq_getElem_cons hlt] at h
  injection h with h1 h2
  exact ⟨hlt, by rw [List.getD_eq_getElem?_getD, List.getElem?_eq_getElem hlt]; exact h1, h2⟩
theorem drop_split {xs p t : List UInt8} {a : Nat} (h : xs.drop a = p ++ t) (hp : 0 < p.length) : a + p.length ≤ xs.length ∧ (xs.drop a).take p.length = p ∧ xs.drop (a + p.length) = t := by
  have h1 := congrArg List.length h
  rw [List.length_drop, List.length_append] at h1
  refine ⟨by omega, by rw [h]; simp, ?_⟩
  rw [← List.drop_drop, h]; simp
theorem dig_fwd {xs d t : List UInt8} {a : Nat} (h : xs.drop a = d ++ t) (hd : d.length = 32) : digR xs a 0 = (d, a + 32, 0) ∧ xs.drop (a + 32) = t := by
  obtain ⟨h1, h2, h3⟩ := drop_split h oM
  rw [hd] at h1 h2 h3
  unfold digR
  rw [if_neg sP, if_neg oM, h2]
  exact ⟨rfl, h3⟩
theorem num_fwd {xs t : List UInt8} {a : Nat} {x : UInt64} (h : xs.drop a = Be x ++ t) : Bc xs a 0 = (x, a + szN x.toNat, 0) ∧ xs.drop (a + szN x.toNat) = t := by
  have hp := Bb x.toNat
  have hl := A3 x
  obtain ⟨h1, h2, h3⟩ := drop_split h oM
  rw [hl] at h1 h2 h3
  rw [Be, List.cons_append] at h
  obtain ⟨g1, g2, g3⟩ := drop_cons h
  obtain ⟨n1, n2⟩ := num_back x
  have hv : numV xs a = x := by
    rw [numV, g2, g3, n1, List.take_left' (tailB_length x _)]
    exact n2
  unfold Bc
  rw [if_neg sP, if_neg oM, hv, g2, n1, if_neg oM, if_pos rfl]
  exact ⟨rfl, h3⟩
theorem blk_fwd {xs ds t : List UInt8} {a : Nat} (hn : ds.length ≤ 1000000) (h : xs.drop a = Be (UInt64.ofNat ds.length) ++ ds ++ t) : blkR xs a 0 = (some ds, a + szN ds.length + ds.length, 0) ∧ xs.drop (a + szN ds.length + ds.length) = t := by
  rw [List.append_assoc] at h
  have hx : (UInt64.ofNat ds.length).toNat = ds.length := Bq hn
  obtain ⟨h1, h2⟩ := num_fwd h
  rw [hx] at h1 h2
  unfold blkR
  rw [h1]
  simp only [hx]
  rw [if_neg sP]
  have hl := congrArg List.length h2
  rw [List.length_drop, List.length_append] at hl
  have hz := Bb ds.length
  have hle : a + szN ds.length ≤ xs.length := by
    have := congrArg List.length h
    rw [List.length_drop, List.length_append, A3, hx] at this
    omega
  rw [if_neg oM, h2]
  refine ⟨by simp, ?_⟩
  rw [← List.drop_drop, h2]; simp
theorem tak_fwd {xs d t : List UInt8} {a m : Nat} (h : xs.drop a = d ++ t) (hd : d.length = m) (hm : 0 < m) : takR xs m a 0 = (d, a + m, 0) ∧ xs.drop (a + m) = t := by
  obtain ⟨h1, h2, h3⟩ := drop_split h oM
  rw [hd] at h1 h2 h3
  unfold takR
  rw [if_neg sP, if_neg oM, h2]
  exact ⟨rfl, h3⟩
theorem digs_fwd {xs t : List UInt8} {ls : List (List UInt8)} {a : Nat} (hls : ∀ l ∈ ls, l.length = 32) (h : xs.drop a = ls.flatten ++ t) : ∀ j, j ≤ ls.length → Bj xs j a 0 = (ls.take j, a + 32 * j, 0) ∧ xs.drop (a + 32 * j) = (ls.drop j).flatten ++ t
  | 0, _ => ⟨rfl, by simpa using h⟩
  | j + 1, hj => by
    obtain ⟨h1, h2⟩ := digs_fwd hls h j oM
    rw [List.drop_eq_getElem_cons (l := ls) (i := j) oM, List.flatten_cons, List.append_assoc] at h2
    obtain ⟨h3, h4⟩ := dig_fwd h2 (hls _ (List.getElem_mem oM))
    refine ⟨?_, by rw [show a + 32 * (j + 1) = a + 32 * j + 32 by omega]; exact h4⟩
    rw [Bj, h1]
    simp only [h3]
    rw [List.take_succ_eq_append_getElem oM]
    rfl
theorem readP_bytes {D : DB} (h : D.ok) (hc : D.check = 0) (t : List UInt8) : readP (D.bytes ++ t) = (D, D.bytes.length, 0) := by
  have hs := D.head_small hc
  have hl1 : (UInt64.ofNat D.ls.length).toNat = D.ls.length := Bq oM
  obtain ⟨xs, hxs⟩ : ∃ xs, D.bytes ++ t = xs := ⟨_, rfl⟩
  rw [hxs]
  have h0 : xs.drop 0 = D.w ++ (Be D.seq ++ (D.prev ++ (Be (UInt64.ofNat D.ls.length) ++ (D.ls.flatten ++ (Be (UInt64.ofNat D.ds.length) ++ D.ds ++ (D.sg ++ t)))))) := by
    rw [List.drop_zero, ← hxs]
    simp only [DB.bytes, DB.body, List.append_assoc]
  obtain ⟨r1, h1⟩ := dig_fwd h0 h.w
  obtain ⟨r2, h2⟩ := num_fwd h1
  obtain ⟨r3, h3⟩ := dig_fwd h2 h.prev
  obtain ⟨r4, h4⟩ := num_fwd h3
  rw [hl1] at r4 h4
  obtain ⟨r5, h5⟩ := digs_fwd h.ls h4 D.ls.length (Nat.le_refl _)
  rw [List.take_length] at r5
  rw [List.drop_length, List.flatten_nil, List.nil_append] at h5
  obtain ⟨r6, h6⟩ := blk_fwd oM h5
  obtain ⟨r7, h7⟩ := tak_fwd h6 h.sg dE
  have hk : min (UInt64.ofNat D.ls.length).toNat 17 = D.ls.length := by omega
  have hlen : D.bytes.length = 0 + 32 + szN D.seq.toNat + 32 + szN D.ls.length + 32 * D.ls.length + szN D.ds.length + D.ds.length + 64 := by
    have hfl := flatten_take_len h.ls (Nat.le_refl D.ls.length)
    rw [List.take_length] at hfl
    simp only [DB.bytes, DB.body, List.length_append, A3, h.w, h.prev, h.sg, hfl, hl1, Bq (n := D.ds.length) oM]
    omega
  simp only [readP, r1, r2, r3, r4, hk, r5, r6, r7, Option.getD_some]
  rw [h.sg, hlen, List.drop_of_length_le sP, List.append_nil]
theorem readD_bytes {D : DB} (h : D.ok) (hc : D.check = 0) : readD D.bytes = (D, 0) := by
  have hr := readP_bytes h hc []
  rw [List.append_nil] at hr
  rw [readD_ok (by rw [hr]; exact ⟨by simp [endR], hc⟩), hr]
theorem bytes_inj {D E : DB} (hD : D.ok) (hE : E.ok) (cD : D.check = 0) (cE : E.check = 0) : D.bytes = E.bytes ↔ D = E := by
  constructor
  · intro h
    have h1 := readD_bytes hD cD
    rw [h, readD_bytes hE cE] at h1
    exact (congrArg Prod.fst h1).symm
  · intro h; rw [h]
end Go.Proofs.YtkfhpmidcbmofaaGreat
end

section
namespace Go.Proofs.YtkfhpmidcbmofaaGreat
open Go Hw

theorem cutP_bytes {D : DCut} (hp : D.dPrev.length = 32) (hr : ∀ l ∈ D.dHeads, l.length = 32) (hn : D.dHeads.length ≤ 32) : cutP D.bytes = (D, D.bytes.length, 0) := by
  have h0 : D.bytes.drop 0 = Be D.dHeight ++ (D.dPrev ++ (Be (UInt64.ofNat D.dHeads.length) ++ (D.dHeads.flatten ++ []))) := by
    simp [DCut.bytes, DCut.body, List.append_assoc]
  obtain ⟨g1, h1⟩ := num_fwd h0
  obtain ⟨g2, h2⟩ := dig_fwd h1 hp
  obtain ⟨g3, h3⟩ := num_fwd h2
  have hx : (UInt64.ofNat D.dHeads.length).toNat = D.dHeads.length := Bq oM
  obtain ⟨g4, h4⟩ := digs_fwd hr h3 D.dHeads.length (Nat.le_refl _)
  have hm : min D.dHeads.length 33 = D.dHeads.length := by omega
  simp only [cutP, g1, g2, g3, hx, hm]
  rw [hx] at g4
  simp only [g4, List.take_length]
  rw [show D.bytes.length = szN D.dHeight.toNat + 32 + szN (UInt64.ofNat D.dHeads.length).toNat + D.dHeads.length * 32 from DCut.body_len hp hr (Nat.le_refl _), hx]
  have : 0 + szN D.dHeight.toNat + 32 + szN D.dHeads.length + 32 * D.dHeads.length = szN D.dHeight.toNat + 32 + szN D.dHeads.length + D.dHeads.length * 32 := by omega
  rw [this]
theorem cutRd_bytes {D : DCut} (hp : D.dPrev.length = 32) (hr : ∀ l ∈ D.dHeads, l.length = 32) (hc : D.check = 0) : cutRd D.bytes = (D, 0) := by
  have h := cutP_bytes hp hr (D.small hc)
  unfold cutRd
  rw [h]
  exact if_pos ⟨by simp [endR], hc⟩
theorem byteOf_small {x : Int} (h0 : 0 ≤ x) (h4 : x < 256) : (Hw.byteOf x).toUInt64.toNat = x.toNat := by
  simp only [Hw.byteOf]
  rw [UInt8.toNat_toUInt64, UInt8.toNat_ofNat']
  omega
theorem vcheck_phase {V : Vote} (h : Bk V = 0) : 1 ≤ V.fPhase ∧ V.fPhase ≤ 3 := by
  have h2 : vokB V = true := by
    cases e : vokB V
    · unfold Bk at h
      rw [e] at h
      split at h <;> cases h
    · rfl
  unfold vokB at h2
  by_cases h3 : V.fPhase = 1
  · omega
  · rw [if_neg h3] at h2
    by_cases h4 : V.fPhase = 2 ∨ V.fPhase = 3
    · omega
    · rw [if_neg h4] at h2; cases h2
theorem voteP_bytes {V : Vote} (hV : V.ok) (hc : Bk V = 0) : voteP (voteT V ++ V.fSig) = (V, (voteT V ++ V.fSig).length, 0) := by
  have hph := vcheck_phase hc
  have hb := byteOf_small (x := V.fPhase) oM oM
  have h0 : (voteT V ++ V.fSig).drop 0 = Be V.fHeight ++ (Be V.fRound ++ (Be (Hw.byteOf V.fPhase).toUInt64 ++ (V.fValue ++ (Be V.fProof ++ (V.fVoter ++ (V.fSig ++ [])))))) := by
    simp [voteT, List.append_assoc]
  obtain ⟨g1, h1⟩ := num_fwd h0
  obtain ⟨g2, h2⟩ := num_fwd h1
  obtain ⟨g3, h3⟩ := num_fwd h2
  obtain ⟨g4, h4⟩ := dig_fwd h3 hV.l_fValue
  obtain ⟨g5, h5⟩ := num_fwd h4
  obtain ⟨g6, h6⟩ := dig_fwd h5 hV.l_fVoter
  obtain ⟨g7, h7⟩ := tak_fwd h6 hV.l_fSig dE
  have hm : ((min V.fPhase.toNat 4 : Nat) : Int) = V.fPhase := by omega
  have hl : (voteT V ++ V.fSig).length = voteN V + 64 := by rw [List.length_append, voteT_length hV, hV.l_fSig]
  simp only [voteP, g1, g2, g3, g4, g5, g6, g7]
  simp only [hb, hm, hl, hV.l_fSig]
  have e : V.fSig ++ (List.replicate 64 (0 : UInt8)).drop 64 = V.fSig := by simp
  rw [e]
  congr 2
  unfold voteN
  rw [hb]
  omega
theorem voteRd_bytes {V : Vote} (hV : V.ok) (hc : Bk V = 0) : A1 (Ba V) = (V, 0) := by
  have h := voteP_bytes hV hc
  rw [show Ba V = voteT V ++ V.fSig from if_pos hc]
  rw [voteRd_ok (by rw [h]; exact ⟨by simp [endR], hc⟩), h]

end Go.Proofs.YtkfhpmidcbmofaaGreat
end

section
namespace Go.Proofs.YtkfhpmidcbmofaaGreat
open Go Hw

def DRecord.check (D : DRecord) : Int := if D.dKind = 0 ∨ (8192 : Int) < (D.dData.length : Int) then 2 else 0

theorem record_check (X : Record) (D : DRecord) : Meets Tryz.prog 77 [agg X.cells] [] (fun W => RecordIs W X D) (fun v out => v = i64 D.check ∧ out = []) := by
 intro W hW
 have hok := hW.ok
 have hk := hW.fKind
 have hl := hW.fData.len
 refine Aj Tryz.func77 rfl 12 Tryz.ntmps77 rfl ?_
 refine Sat.seq (Sat.region ?_)
 refine Tr.boxA rfl rfl ?_
 intro n1 hn1 hf1
 refine Tr.a rfl rfl rfl ?_
 refine Tr.nil (Aa (Sat.seq (Sat.seq (Sat.region ?_))))
 refine Tr.fld rfl rfl rfl U32 rfl Sz5 dE _ rfl ?_
 refine Tr.load1 rfl rfl rfl U5 rfl mM (by first | exact Record.get_fKind (by first | exact oK  | exact hok) | exact vL) ?_
 refine two (fun r hr k => Tr.eqi rfl rfl rfl rfl hr k) (fun hs1_20 => ?_) (fun hs1_20 => ?_)
 ·
  first | have hs1_2 := of_decide_eq_true hs1_20 | have hs1_2 := of_decide_eq_false hs1_20 | have hs1_2 := nd_t hs1_20 | have hs1_2 := nd_f hs1_20 | have hs1_2 := hs1_20
  refine Tr.m rfl rfl rfl ?_
  refine Tr.skp rfl rfl ?_
  refine Tr.skp rfl rfl ?_
  refine Tr.skp rfl rfl ?_
  refine Tr.skp rfl rfl ?_
  refine Tr.pick rfl rfl rfl rfl rfl rfl ?_
  refine Tr.nil (Aa ?_)
  refine Sat.cond_t rfl rfl ?_
  refine Sat.seq (Sat.region ?_)
  refine Tr.a rfl rfl rfl ?_
  refine Tr.nil (Aa (Sat.ret (As (Ak ?_))))
  refine ⟨_, [], Ae rfl rfl, sP, sP, ?_, rfl⟩
  unfold DRecord.check
  first
   | (refine congrArg i64 (if_pos (Or.inl (UInt8.toNat_inj.1 ?_))).symm; simp_all; done)
   | (refine congrArg i64 (if_pos (Or.inr ?_)).symm; omega)
   | (refine congrArg i64 (if_neg ?_).symm; have h0 : D.dKind = 0 → X.fKind.toNat = 0 := (fun e => by rw [hk, e]; rfl); rintro (h | h); (have := h0 h; omega); omega)
 ·
  first | have hs1_2 := of_decide_eq_true hs1_20 | have hs1_2 := of_decide_eq_false hs1_20 | have hs1_2 := nd_t hs1_20 | have hs1_2 := nd_f hs1_20 | have hs1_2 := hs1_20
  refine Tr.m rfl rfl rfl ?_
  refine Tr.fld rfl rfl rfl U32 rfl Sz30 dE _ rfl ?_
  refine Tr.load1 rfl rfl rfl U30 rfl mM (by first | exact Record.get_fData (by first | exact oK  | exact hok) | exact vL) ?_
  refine Tr.lenSl rfl rfl rfl U30 ?_
  refine Tr.gtr rfl rfl rfl rfl rfl ?_
  refine Tr.pick rfl rfl rfl rfl rfl rfl ?_
  refine Tr.nil (Aa ?_)
  first
   | refine Sat.condP rfl (fun hc0 => ?_) (fun hc0 => ?_)
   | refine Sat.condNP rfl (fun hc0 => ?_) (fun hc0 => ?_)
   | refine Sat.cond rfl (fun hc0 => ?_) (fun hc0 => ?_)
  ·
   refine Sat.seq (Sat.region ?_)
   refine Tr.a rfl rfl rfl ?_
   refine Tr.nil (Aa (Sat.ret (As (Ak ?_))))
   refine ⟨_, [], Ae rfl rfl, sP, sP, ?_, rfl⟩
   unfold DRecord.check
   first
    | (refine congrArg i64 (if_pos (Or.inl (UInt8.toNat_inj.1 ?_))).symm; simp_all; done)
    | (refine congrArg i64 (if_pos (Or.inr ?_)).symm; omega)
    | (refine congrArg i64 (if_neg ?_).symm; have h0 : D.dKind = 0 → X.fKind.toNat = 0 := (fun e => by rw [hk, e]; rfl); rintro (h | h); (have := h0 h; omega); omega)
  ·
   refine Sat.skip (Aa (Sat.seq (Sat.region ?_)))
   refine Tr.a rfl rfl rfl ?_
   refine Tr.nil (Aa (Sat.ret (Ak ?_)))
   refine ⟨_, [], Ae rfl rfl, sP, sP, ?_, rfl⟩
   unfold DRecord.check
   first
    | (refine congrArg i64 (if_pos (Or.inl (UInt8.toNat_inj.1 ?_))).symm; simp_all; done)
    | (refine congrArg i64 (if_pos (Or.inr ?_)).symm; omega)
    | (refine congrArg i64 (if_neg ?_).symm; have h0 : D.dKind = 0 → X.fKind.toNat = 0 := (fun e => by rw [hk, e]; rfl); rintro (h | h); (have := h0 h; omega); omega)

def inOrd (ds : List DCert) : Bool := (List.range ds.length).all fun k => decide ((ds.getD k dcertz).dCut.dHeight.toNat = k + 1)
theorem inOrd_yes {ds : List DCert} {n : Nat} (hn : ds.length = n) (h : ∀ j, j < n → (ds.getD j dcertz).dCut.dHeight.toNat = j + 1) : inOrd ds = true := by
  unfold inOrd
  rw [List.all_eq_true]
  intro k hk
  rw [List.mem_range, hn] at hk
  exact decide_eq_true (h k hk)
theorem inOrd_not {ds : List DCert} {k : Nat} (hk : k < ds.length) (h : ¬ (ds.getD k dcertz).dCut.dHeight.toNat = k + 1) : inOrd ds = false := by
  unfold inOrd
  rw [List.all_eq_false]
  exact ⟨k, List.mem_range.2 hk, by rw [decide_eq_false h]; simp⟩
theorem word_next {k : Nat} (h : k < 9223372036854775807) : (A2 (k : Int) + 1).toNat = k + 1 := by
  have e : (A2 (k : Int)).toNat = k := by
    have h0 : ((k : Int) % 18446744073709551616).toNat = k := by omega
    rw [A2, h0, UInt64.toNat_ofNat']
    exact Nat.mod_eq_of_lt oM
  rw [UInt64.toNat_add, e, show (1 : UInt64).toNat = 1 from rfl]
  exact Nat.mod_eq_of_lt oM
theorem cert_is {ds : List DCert} {k : Nat} {d : DCert} (h : ds[k]? = some d) : ds.getD k dcertz = d := by simp [List.getD_eq_getElem?_getD, h]

theorem in_order (s : Sl) (ds : List DCert) : Meets Tryz.prog 39 [s.v] [] (fun W => CertsAt W s ds) (fun v out => v = .bool (inOrd ds) ∧ out = []) := by
 intro W hW
 obtain ⟨rs, hs⟩ := hW
 have hnd := hs.nd
 have hmax := hs.max
 simp only [maxLen] at hmax
 refine Aj Tryz.func39 rfl 20 Tryz.ntmps39 rfl ?_
 refine Sat.seq (Sat.region ?_)
 refine Tr.a rfl rfl rfl ?_
 refine Tr.nil (Aa (Sat.seq (Sat.seq (Sat.region ?_))))
 refine Tr.m rfl rfl rfl ?_
 refine Tr.lenSl rfl rfl rfl U41 ?_
 refine Tr.m rfl rfl rfl ?_
 refine Tr.nil (Aa (Sat.block ?_))
 refine Sat.loop (ι := Nat) (fun k => ⟨[(5, s.v), (6, i64 (s.n : Int)), (7, i64 (k : Int))], []⟩) (fun k => k ≤ s.n ∧ ∀ j, j < k → (ds.getD j dcertz).dCut.dHeight.toNat = j + 1) (fun k => s.n - k) (0) ?_ ?_ ?_
 · exact ⟨by omega, fun j hj => by omega⟩
 · exact Ao (wk1 rfl (wk1 rfl (wk1 rfl wk0))) wh0 nD
 ·
  rintro k ⟨hk, hg⟩
  refine Sat.seq (Sat.region ?_)
  refine Tr.lss rfl rfl rfl rfl rfl ?_
  refine Tr.nil (Aa (Sat.seq ?_))
  first
   | refine Sat.condP rfl (fun hc0 => ?_) (fun hc0 => ?_)
   | refine Sat.condNP rfl (fun hc0 => ?_) (fun hc0 => ?_)
   | refine Sat.cond rfl (fun hc0 => ?_) (fun hc0 => ?_)
  ·
   have hk2 : k < s.n := by omega
   obtain ⟨b, o, r, d, hsp, hr, hd, his, hlen, hsee⟩ := hs.at dE hk2
   have ehh : r.fCut.fHeight.toNat = d.dCut.dHeight.toNat := by rw [his.fCut.fHeight]
   have hw1 : (A2 (k : Int) + 1).toNat = k + 1 := word_next oM
   refine Sat.skip (Aa (Sat.seq (Sat.block (Sat.seq (Sat.region ?_)))))
   refine Tr.m rfl rfl rfl ?_
   refine Tr.idxSlP 35 rfl rfl rfl hsp rfl U41 Sz80 k rfl oM ?_
   refine Tr.loadEN r.cells rfl rfl rfl U80 rfl Sz80 sP hlen hsee ?_
   refine Tr.alloc (cs := Cert.zero.cells) rfl Cert.zr rfl ?_
   intro n4 hn4 hf4
   refine Tr.a rfl rfl rfl ?_
   refine Tr.sA rfl rfl rfl rfl (Cert.isCell (by first | exact oK  | exact his.ok)) Sz80 (Cert.length (by first | exact oK  | exact his.ok)) mM (Cert.length (by first | exact oK  | exact his.ok)) uU ?_
   refine Tr.nil (Aa (Sat.seq (Sat.region ?_)))
   refine Tr.fld rfl rfl rfl U80 rfl Sz39 dE _ rfl ?_
   refine Tr.fld rfl rfl rfl U39 rfl Bp dE _ rfl ?_
   refine Tr.load1 rfl rfl rfl U22 rfl mM (Cert.see_fCut his.ok 0 _ (Cut.get_fHeight his.ok.o_fCut)) ?_
   refine Tr.m rfl rfl rfl ?_
   refine Tr.conv rfl rfl rfl U3 U22 (Bl _) ?_
   refine Tr.add_u64 rfl rfl rfl (show Ai _ _ = some (u64 1) from rfl) ?_
   refine Tr.nei rfl rfl rfl rfl rfl ?_
   refine Tr.nil (Aa ?_)
   first
    | refine Sat.condP rfl (fun hc1 => ?_) (fun hc1 => ?_)
    | refine Sat.condNP rfl (fun hc1 => ?_) (fun hc1 => ?_)
    | refine Sat.cond rfl (fun hc1 => ?_) (fun hc1 => ?_)
   ·
    refine Sat.seq (Sat.region ?_)
    refine Tr.a rfl rfl rfl ?_
    refine Tr.nil (Aa (Sat.ret (bl_r (As (As (bl_r (As (Ak ?_))))))))
    refine ⟨_, [], Ae rfl rfl, sP, sP, ?_, rfl⟩
    first
     | exact congrArg Value.bool (inOrd_yes hnd hg).symm
     | (refine congrArg Value.bool (inOrd_not (k := k) oM ?_).symm; rw [cert_is hd]; omega)
   ·
    refine Sat.skip (Bu (Aa (Sat.region ?_)))
    refine Tr.aI rfl rfl rfl rfl oM ?_
    refine Tr.m rfl rfl rfl ?_
    refine Tr.nil (Aa ?_)
    exact ⟨k + 1, ⟨by omega, fun j hj => by rcases Nat.lt_succ_iff_lt_or_eq.1 hj with h | rfl; exact hg j h; exact (by rw [cert_is hd]; omega)⟩, by omega, Ao (wk1 rfl (wk1 rfl (wk1 rfl wk0))) wh0 nD⟩
  ·
   obtain rfl : k = s.n := by omega
   refine Sat.exit (A9 (A9 (bl_h (Aa (Sat.seq (Sat.region ?_))))))
   refine Tr.a rfl rfl rfl ?_
   refine Tr.nil (Aa (Sat.ret (Ak ?_)))
   refine ⟨_, [], Ae rfl rfl, sP, sP, ?_, rfl⟩
   first
    | exact congrArg Value.bool (inOrd_yes hnd hg).symm
    | (refine congrArg Value.bool (inOrd_not (k := k) oM ?_).symm; rw [cert_is hd]; omega)

end Go.Proofs.YtkfhpmidcbmofaaGreat
end
