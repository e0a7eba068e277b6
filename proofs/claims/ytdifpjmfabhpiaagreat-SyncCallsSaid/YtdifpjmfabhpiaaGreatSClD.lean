/- headwaterlaw25.SyncCalls returns true at every input, and all that it reads reads behind the call as before. Conditions: none beyond the given statement's own. -/
import Derived.WalkKit
import Derived.Orders
import Derived.Deep.LoopGhost
import Derived.IntWalk
import Derived.Laws.StructEq
import Derived.ArgAppend
import Derived.Deep.AppendSrc
import Derived.Lib.Bytealg
import Derived.Lib.BytesEntry
import Derived.Laws.IdiomStrings
import Derived.WideKeyArr2
import Derived.ProofKit
import Derived.OpenShut
import Derived.Deep.Slices
import Derived.Laws.Pointers
import Derived.Laws.Cover3
import Derived.LaidEqlPtr
import Derived.LoopN
import Derived.RangeFuncLeaves
import Derived.RangeFuncSeq
import Derived.OrdersIn
import Derived.Test.YtdifpjmfabhpiaaGreatRows
import Derived.KernelRfl
import Derived.Laws.Externs
import Derived.Defers
import Derived.Laws.MathBits
import Derived.ChangeOld
import Derived.Below
import Derived.Test.YtdifpjmfabhpiaaGreatSClD5
set_option maxRecDepth 100000
set_option maxHeartbeats 8000000
set_option linter.unusedVariables false
set_option linter.unusedSimpArgs false
section
namespace Go.Proofs.YtdifpjmfabhpiaaGreat
open Go Hw

theorem r25_many (n q o N cp a : Nat) (e : Int) (M : Nat) (hM : M ≤ 1000) (xs : List UInt8) (hx : xs.length = N) (hat : a ≤ N) (hN : N ≤ cp) (hbig : N ≤ 90000) (ho : At1 cp a o) (x : UInt64) (a1 : Nat) (e1 : Int) (h : A0 xs a e = (x, a1, e1)) : Meets Tryz.prog 152 [ptr n 0, i64 (M : Int)] [n] (fun W => BlkOk W (R1B n q o N cp a e) ∧ Bs W q 0 (Aa xs) ∧ q ≠ n) (fun v out => ∃ o1, At1 cp a1 o1 ∧ v = i64 ((min x.toNat (M + 1) : Nat) : Int) ∧ out = [R1B n q o1 N cp a1 e1]) := by
 intro W hW
 have hxl := x.toNat_lt
 have hm1 : (UInt64.ofNat M + 1).toNat = M + 1 := by rw [UInt64.toNat_add, A6 oM]; show (M + 1) % 2 ^ 64 = M + 1; omega
 have hmm : (UInt64.ofNat (min x.toNat (M + 1))).toNat = min x.toNat (M + 1) := A6 oM
 refine A3 (hp0 := [R1B n q o N cp a e]) Tryz.func152 J 14 Tryz.ntmps152 J (HRep.one hW.1) (G8 ?_)
 refine .callL (L := [R1B n q o N cp a e]) J J J J J Body138 (B4 n q o N cp a e xs hx hat hN oM ho x a1 e1 h) (Ab rM Ad) (Au J) (fun w h => ⟨Af h Z0, Ba h (by simp; exact hW.2.2) hW.2.1, hW.2.2⟩) ?_
 rintro v7 out7 ⟨o7, ho7, rfl, rfl⟩
 refine G8 ?_
 rw [Cf (n := M) oM]
 refine .add_u64 J J J (show Al _ _ = some (u64 1) from rfl) ?_
 refine .min2 J J J J (show Value.int .u64 (if (((UInt64.ofNat M + 1).toNat : Nat) : Int) < ((x.toNat : Nat) : Int) then (((UInt64.ofNat M + 1).toNat : Nat) : Int) else ((x.toNat : Nat) : Int)) = u64 (UInt64.ofNat (min x.toNat (M + 1))) by
   show _ = Value.int .u64 (((UInt64.ofNat (min x.toNat (M + 1))).toNat : Nat) : Int)
   rw [hmm, hm1]
   congr 1
   split <;> omega) ?_
 refine .conv J J J Y48.h Y3.h (cv_u64_i64 (by rw [hmm]; omega)) ?_
 rw [hmm]
 refine G5 ?_
 refine Ai (out := (R1B n q o7 N cp a1 e1 :: [])) (Ac J J) (Ab rM Ad) ?_
 exact ⟨o7, ho7, rfl, rfl⟩

theorem r25_list (n q o N cp a : Nat) (e : Int) (M : Nat) (hM : M ≤ 1000) (xs : List UInt8) (hx : xs.length = N) (hat : a ≤ N) (hN : N ≤ cp) (hbig : N ≤ 90000) (ho : At1 cp a o) (x : UInt64) (a1 : Nat) (e1 : Int) (h : A0 xs a e = (x, a1, e1)) : Meets Tryz.prog 151 [ptr n 0, i64 (M : Int)] [n] (fun W => BlkOk W (R1B n q o N cp a e) ∧ Bs W q 0 (Aa xs) ∧ q ≠ n) (fun v out => ∃ k s bl o1, k ≤ min x.toNat (M + 1) ∧ (k = min x.toNat (M + 1) ∨ ¬ (As xs k a1 e1).2.2 = 0) ∧ At1 cp (As xs k a1 e1).2.1 o1 ∧ v = s.v ∧ Hw.Acc s bl (Bt (As xs k a1 e1).1) 50 k 32 ∧ out = bl ++ [R1B n q o1 N cp (As xs k a1 e1).2.1 (As xs k a1 e1).2.2]) := by
 intro W hW
 have hd1 := Bc h hx hat
 refine A3 (hp0 := [R1B n q o N cp a e]) Tryz.func151 J 29 Tryz.ntmps151 J (HRep.one hW.1) (G14 ?_)
 refine .callL (L := [R1B n q o N cp a e]) J J J J J Body152 (r25_many n q o N cp a e M hM xs hx hat hN hbig ho x a1 e1 h) (Ab rM Ad) (Au J) (fun w h => ⟨Af h Z0, Ba h (by simp; exact hW.2.2) hW.2.1, hW.2.2⟩) ?_
 rintro v10 out10 ⟨o10, ho10, rfl, rfl⟩
 refine G10 ?_
 refine .loop (ι := Nat × Nat × Sl × List Blk) (fun p => ⟨[(0, ptr n 0), (5, p.2.2.1.v), (6, i64 ((min x.toNat (M + 1) : Nat) : Int)), (7, i64 (p.1 : Int))], (R1B n q p.2.1 N cp (As xs p.1 a1 e1).2.1 (As xs p.1 a1 e1).2.2 :: (p.2.2.2 ++ []))⟩) (fun p => p.1 ≤ min x.toNat (M + 1) ∧ At1 cp (As xs p.1 a1 e1).2.1 p.2.1 ∧ Hw.Acc p.2.2.1 p.2.2.2 (Bt (As xs p.1 a1 e1).1) 50 p.1 32) (fun p => min x.toNat (M + 1) - p.1) ((0, o10, Sl.nil, [])) ?_ ?_ ?_
 · exact ⟨Nat.zero_le _, ho10, Acc.none⟩
 · exact Ae (wk1 rfl (wk1 rfl (wk1 rfl (wk1 rfl wk0)))) (Ab rM (Cd Ad))
 rintro p ⟨hp1, hop, hac⟩
 have hD := digsR_at (e := e1) hx hd1 p.1
 obtain ⟨l8, r8, hd8⟩ : ∃ l r, Cl xs (As xs p.1 a1 e1).2.1 (As xs p.1 a1 e1).2.2 = (l, r) := ⟨_, _, rfl⟩
 obtain ⟨a8, e8⟩ := r8
 have hdl := Ci hd8 hx hD.1
 have hs8 := digsR_succ hd8
 refine G5 ?_
 refine two (fun r hr k => Tr.lss J J J J hr k) (fun hs4_20 => ?_) (fun hs4_20 => ?_)
 ·
  have hs4_2 := of_decide_eq_true hs4_20
  refine G5 ?_
  refine two (fun r hr k => Tr.eqi J J J J hr k) (fun hs4_80 => ?_) (fun hs4_80 => ?_)
  ·
   have hs4_8 := of_decide_eq_true hs4_80
   refine G3 ?_
   refine .cond_t J J (G7 ?_)
   refine .callL (L := [R1B n q p.2.1 N cp (As xs p.1 a1 e1).2.1 (As xs p.1 a1 e1).2.2]) J J J J J Body215 (r1_DigestE n q p.2.1 N cp (As xs p.1 a1 e1).2.1 (As xs p.1 a1 e1).2.2 xs hx hD.1 hN hbig hop l8 a8 e8 hd8) (Ab rM Ad) (Au J) (fun w h => ⟨Af h Z0, Ba h (by simp; exact hW.2.2) hW.2.1, hW.2.2⟩) ?_
   rintro v25 out25 ⟨o25, ho25, rfl, rfl⟩
   refine .mkRow2 (z := agg (Aa (List.replicate 32 0))) [agg (Aa l8)] (Aa l8) J J Y51.h Sz50 Zr50 J J (by intro v hv; rw [List.mem_singleton.1 hv]; simp [Value.cells, hdl.2]) dE (by simp [Value.cells]) ?_
   intro q26
   refine .appendAcc (z := agg (Aa (List.replicate 32 0))) (by' := 32) (Aa l8) J J J J J Y51.h Y51.h Sz50 Zr50 (by unfold By; kernel_rfl) J hac sG (fun w h => SeesP.of (Ah h Z0)) (fun e => by cases e) (Ay _) oM oM (by simp [Aa, hdl.2]) ?_
   intro s27 bl27 hac27
   refine G10 ?_
   refine ⟨(p.1 + 1, o25, s27, bl27), ⟨by simp only []; omega, by simp only [hs8]; exact ho25, ?_⟩, by simp only []; omega, Ae (wk1 J (wk1 J (wk1 J (wk1 J wk0)))) (Cg rM (by simp only [hs8]) J (Aj sG Ad))⟩
   simp only [hs8]
   rw [flatB_append]
   simpa [Bt] using hac27
  have hs4_8 := of_decide_eq_false hs4_80
  refine G3 ?_
  refine .cond_f J J (G13 ?_)
  refine Ai (out := (p.2.2.2 ++ (R1B n q p.2.1 N cp (As xs p.1 a1 e1).2.1 (As xs p.1 a1 e1).2.2 :: []))) (Ac J J) (Aj sG (Ab rM Ad)) ?_
  exact ⟨p.1, p.2.2.1, p.2.2.2, p.2.1, hp1, (by (right; assumption)), hop, rfl, hac, by simp⟩
 have hs4_2 := of_decide_eq_false hs4_20
 refine G9 ?_
 refine .cond_f J J (G13 ?_)
 refine Ai (out := (p.2.2.2 ++ (R1B n q p.2.1 N cp (As xs p.1 a1 e1).2.1 (As xs p.1 a1 e1).2.2 :: []))) (Ac J J) (Aj sG (Ab rM Ad)) ?_
 exact ⟨p.1, p.2.2.1, p.2.2.2, p.2.1, hp1, (by (left; omega)), hop, rfl, hac, by simp⟩

def Fin (xs : List UInt8) (D : DMsg) (a : Nat) (e ev : Int) : Prop :=
  (endR xs.length a e = 0 ∧ ev = 0 ∧ D.check = 0 → msgRd xs = (D, 0)) ∧ (¬ (endR xs.length a e = 0 ∧ ev = 0 ∧ D.check = 0) → msgRd xs = (dmz, 4))
theorem fin_of {xs : List UInt8} {D : DMsg} {a : Nat} {e ev : Int} (h1 : e = 0 → ev = 0 → D.check = 0 → rS7 xs = some (D, a, e)) (h2 : ∀ r, rS7 xs = some r → r = (D, a, e) ∧ ev = 0) : Fin xs D a e ev := by
  refine ⟨fun ⟨g1, g2, g3⟩ => msgRd_ok (h1 (endR_zero g1) g2 g3) ⟨g1, g3⟩, fun g => ?_⟩
  cases hr : rS7 xs with
  | none => exact msgRd_none hr
  | some r =>
    obtain ⟨h3, h4⟩ := h2 r hr
    subst h3
    exact msgRd_bad hr fun h5 => g ⟨h5.1, h4, h5.2⟩
theorem stage_skip {r : RS} {b : Int} {F : DMsg → Nat → Int → RS} (h : ∀ p, r = some p → andI (Bb p.1.dKind) b = 0) : stageO r b F = r := by
  cases r with
  | none => exact stageO_none rfl
  | some p => exact Bl (D := p.1) (a := p.2.1) (e := p.2.2) rfl (h p rfl)
section
variable {D : Type} {f : List UInt8 → D × Int} {xs : List UInt8}
theorem lst_one {M a a3 k a' : Nat} {e e3 ev0 e' ev' : Int} {x : UInt64} {vs : List D} (h3 : A0 xs a e = (x, a3, e3)) (hi : ItInv f xs a3 e3 ev0 k vs a' e' ev') (hx : k = min x.toNat (M + 1) ∨ ¬ e' = 0 ∨ ¬ ev' = 0) (he : e' = 0) (hv : ev' = 0) (hm : vs.length ≤ M) : ev0 = 0 ∧ e = 0 ∧ Cs f xs M a e = some (vs, a', e') := by
  have h0 : ev0 = 0 ∧ itR f xs k a3 e3 = some (vs, a', e') := by
    rcases hi.2 with ⟨h4, h5⟩ | ⟨h4, _⟩
    · exact ⟨h4 ▸ hv, h5⟩
    · rcases h4 with h4 | h4
      · exact absurd hv h4
      · exact absurd he h4
  have he3 : e3 = 0 := by have := h0.2; rw [he] at this; exact itR_err this
  have hk : k = x.toNat := by
    have := hi.1
    rcases hx with hx | hx | hx
    · omega
    · exact absurd he hx
    · exact absurd hv hx
  have hn := hi.1
  refine ⟨h0.1, num_err (xs := xs) (a := a) (by rw [h3]; exact he3), ?_⟩
  rw [Cs, h3]
  simp only
  rw [if_pos ⟨he3, by omega⟩, ← hk]
  exact h0.2
theorem lst_two {M a a3 k a' : Nat} {e e3 ev0 e' ev' : Int} {x : UInt64} {vs : List D} (h3 : A0 xs a e = (x, a3, e3)) (hi : ItInv f xs a3 e3 ev0 k vs a' e' ev') (hx : k = min x.toNat (M + 1) ∨ ¬ e' = 0 ∨ ¬ ev' = 0) (hk : k ≤ min x.toNat (M + 1)) (h0 : ev0 = 0) {r : List D × Nat × Int} (hr : Cs f xs M a e = some r) : r = (vs, a', e') ∧ ev' = 0 := by
  rw [Cs, h3] at hr
  simp only at hr
  split at hr
  · rename_i g
    obtain ⟨_, h5, h6⟩ := inv_some (N := x.toNat) hi (by
      rcases hx with hx | hx
      · left; omega
      · exact .inr hx) oM h0 hr (.inr g.1)
    exact ⟨h6, h5⟩
  · cases hr
end
theorem dgR_digs {xs : List UInt8} {a : Nat} {e : Int} : ∀ k, (As xs k a e).2.2 = 0 → dgR xs k a e = some (As xs k a e)
  | 0, _ => rfl
  | k + 1, h => by
    have h1 : (As xs k a e).2.2 = 0 := by
      rw [As] at h
      exact dig_err h
    rw [dgR, dgR_digs k h1, Option.bind_some]
    rw [As] at h ⊢
    exact if_pos h
theorem dgs_of {xs : List UInt8} {a : Nat} {e : Int} : ∀ (k : Nat) {r : List (List UInt8) × Nat × Int}, dgR xs k a e = some r → r = As xs k a e ∧ (k = 0 ∨ r.2.2 = 0)
  | 0, r, h => ⟨by rw [dgR] at h; exact (Option.some.inj h).symm, .inl rfl⟩
  | k + 1, r, h => by
    rw [dgR] at h
    obtain ⟨r1, h1, h2⟩ := Option.bind_eq_some_iff.1 h
    obtain ⟨h3, _⟩ := dgs_of k h1
    subst h3
    split at h2
    · rename_i g
      have := (Option.some.inj h2).symm
      subst this
      exact ⟨rfl, .inr g⟩
    · cases h2
theorem digs_err {xs : List UInt8} {a : Nat} {e : Int} : ∀ k, (As xs k a e).2.2 = 0 → e = 0
  | 0, h => h
  | k + 1, h => by
    rw [As] at h
    exact digs_err k (dig_err h)
theorem dls_one {xs : List UInt8} {M a a3 k : Nat} {e e3 : Int} {x : UInt64} (h3 : A0 xs a e = (x, a3, e3)) (hx : k = min x.toNat (M + 1) ∨ ¬ (As xs k a3 e3).2.2 = 0) (he : (As xs k a3 e3).2.2 = 0) (hm : k ≤ M) : e = 0 ∧ B9 xs M a e = some (As xs k a3 e3) := by
  have hk : k = x.toNat := by
    rcases hx with hx | hx
    · omega
    · exact absurd he hx
  have he3 : e3 = 0 := digs_err k he
  refine ⟨num_err (xs := xs) (a := a) (by rw [h3]; exact he3), ?_⟩
  rw [B9, h3]
  simp only
  rw [if_pos ⟨he3, by omega⟩, ← hk]
  exact dgR_digs k he
theorem dls_two {xs : List UInt8} {M a a3 k : Nat} {e e3 : Int} {x : UInt64} (h3 : A0 xs a e = (x, a3, e3)) (hx : k = min x.toNat (M + 1) ∨ ¬ (As xs k a3 e3).2.2 = 0) (hk : k ≤ min x.toNat (M + 1)) {r : List (List UInt8) × Nat × Int} (hr : B9 xs M a e = some r) : r = As xs k a3 e3 := by
  rw [B9, h3] at hr
  simp only at hr
  split at hr
  · rename_i g
    obtain ⟨h4, h5⟩ := dgs_of _ hr
    have h6 : k = x.toNat := by
      rcases hx with hx | hx
      · omega
      · exfalso
        have h7 : (As xs x.toNat a3 e3).2.2 = 0 := by
          rcases h5 with h5 | h5
          · rw [h5]; exact g.1
          · rw [← h4]; exact h5
        have h8 := digs_more (xs := xs) (a := a3) (e := e3) k (x.toNat - k) hx
        rw [show k + (x.toNat - k) = x.toNat by omega] at h8
        exact h8 h7
    rw [h6]; exact h4
  · cases hr

end Go.Proofs.YtdifpjmfabhpiaaGreat
end

section
namespace Go.Proofs.YtdifpjmfabhpiaaGreat
open Go Hw

theorem rs_1 {xs : List UInt8} {x0 : UInt64} {a0 : Nat} {e0 : Int} (h0 : wordR xs 0 0 = (x0, a0, e0)) (hk : (x0.toNat : Int) = 1) : rS7 xs = (B9 xs 32 (A0 xs a0 e0).2.1 (A0 xs a0 e0).2.2).map fun r => ({ dz 1 0 with dHeight := (A0 xs a0 e0).1, dHeads := r.1 }, r.2) := by
  have s0 : rS0 xs = some (dz 1 0, a0, e0) := by
    unfold rS0
    rw [h0]
    dsimp only
    rw [hk]
    exact if_neg dE
  have s1 : rS1 xs = some ({ dz 1 0 with dHeight := (A0 xs a0 e0).1 }, (A0 xs a0 e0).2) := Bq s0 (show ¬ andI (Bb (1 : Int)) 1 = 0 by decide)
  have s2 : rS2 xs = (B9 xs 32 (A0 xs a0 e0).2.1 (A0 xs a0 e0).2.2).map fun r => ({ dz 1 0 with dHeight := (A0 xs a0 e0).1, dHeads := r.1 }, r.2) := Bq s1 (show ¬ andI (Bb (1 : Int)) 2 = 0 by decide)
  have kd : ∀ p, rS2 xs = some p → p.1.dKind = 1 := by
    intro p hp
    rw [s2] at hp
    obtain ⟨r, _, rfl⟩ := Option.map_eq_some_iff.1 hp
    rfl
  have g3 : rS3 xs = rS2 xs := stage_skip fun p hp => by rw [kd p hp]; decide
  have s3 : rS3 xs = (B9 xs 32 (A0 xs a0 e0).2.1 (A0 xs a0 e0).2.2).map fun r => ({ dz 1 0 with dHeight := (A0 xs a0 e0).1, dHeads := r.1 }, r.2) := g3.trans s2
  replace kd : ∀ p, rS3 xs = some p → p.1.dKind = 1 := fun p hp => kd p (g3 ▸ hp)
  have g4 : rS4 xs = rS3 xs := stage_skip fun p hp => by rw [kd p hp]; decide
  have s4 : rS4 xs = (B9 xs 32 (A0 xs a0 e0).2.1 (A0 xs a0 e0).2.2).map fun r => ({ dz 1 0 with dHeight := (A0 xs a0 e0).1, dHeads := r.1 }, r.2) := g4.trans s3
  replace kd : ∀ p, rS4 xs = some p → p.1.dKind = 1 := fun p hp => kd p (g4 ▸ hp)
  have g5 : rS5 xs = rS4 xs := stage_skip fun p hp => by rw [kd p hp]; decide
  have s5 : rS5 xs = (B9 xs 32 (A0 xs a0 e0).2.1 (A0 xs a0 e0).2.2).map fun r => ({ dz 1 0 with dHeight := (A0 xs a0 e0).1, dHeads := r.1 }, r.2) := g5.trans s4
  replace kd : ∀ p, rS5 xs = some p → p.1.dKind = 1 := fun p hp => kd p (g5 ▸ hp)
  have g6 : rS6 xs = rS5 xs := stage_skip fun p hp => by rw [kd p hp]; decide
  have s6 : rS6 xs = (B9 xs 32 (A0 xs a0 e0).2.1 (A0 xs a0 e0).2.2).map fun r => ({ dz 1 0 with dHeight := (A0 xs a0 e0).1, dHeads := r.1 }, r.2) := g6.trans s5
  replace kd : ∀ p, rS6 xs = some p → p.1.dKind = 1 := fun p hp => kd p (g6 ▸ hp)
  have g7 : rS7 xs = rS6 xs := stage_skip fun p hp => by rw [kd p hp]; decide
  have s7 : rS7 xs = (B9 xs 32 (A0 xs a0 e0).2.1 (A0 xs a0 e0).2.2).map fun r => ({ dz 1 0 with dHeight := (A0 xs a0 e0).1, dHeads := r.1 }, r.2) := g7.trans s6
  replace kd : ∀ p, rS7 xs = some p → p.1.dKind = 1 := fun p hp => kd p (g7 ▸ hp)
  exact s7
theorem rs_2 {xs : List UInt8} {x0 : UInt64} {a0 : Nat} {e0 : Int} (h0 : wordR xs 0 0 = (x0, a0, e0)) (hk : (x0.toNat : Int) = 2) : rS7 xs = (B9 xs 32 a0 e0).bind fun r => (B9 xs 32 r.2.1 r.2.2).map fun s => ({ dz 2 0 with dHeads := r.1, dWant := s.1 }, s.2) := by
  have s0 : rS0 xs = some (dz 2 0, a0, e0) := by
    unfold rS0
    rw [h0]
    dsimp only
    rw [hk]
    exact if_neg dE
  have s1 : rS1 xs = some (dz 2 0, a0, e0) := Bl s0 (show andI (Bb (2 : Int)) 1 = 0 by decide)
  have s2 : rS2 xs = (B9 xs 32 a0 e0).map fun r => ({ dz 2 0 with dHeads := r.1 }, r.2) := Bq s1 (show ¬ andI (Bb (2 : Int)) 2 = 0 by decide)
  have kd : ∀ p, rS2 xs = some p → p.1.dKind = 2 := by
    intro p hp
    rw [s2] at hp
    obtain ⟨r, _, rfl⟩ := Option.map_eq_some_iff.1 hp
    rfl
  have s3 : rS3 xs = (B9 xs 32 a0 e0).bind fun r => (B9 xs 32 r.2.1 r.2.2).map fun s => ({ dz 2 0 with dHeads := r.1, dWant := s.1 }, s.2) := by
    show stageO (rS2 xs) 4 _ = _
    rw [s2]
    cases B9 xs 32 a0 e0 with
    | none => rfl
    | some r => exact Bq rfl (show ¬ andI (Bb (2 : Int)) 4 = 0 by decide)
  have kd : ∀ p, rS3 xs = some p → p.1.dKind = 2 := by
    intro p hp
    rw [s3] at hp
    obtain ⟨r, _, hp2⟩ := Option.bind_eq_some_iff.1 hp
    obtain ⟨r2, _, rfl⟩ := Option.map_eq_some_iff.1 hp2
    rfl
  have g4 : rS4 xs = rS3 xs := stage_skip fun p hp => by rw [kd p hp]; decide
  have s4 : rS4 xs = (B9 xs 32 a0 e0).bind fun r => (B9 xs 32 r.2.1 r.2.2).map fun s => ({ dz 2 0 with dHeads := r.1, dWant := s.1 }, s.2) := g4.trans s3
  replace kd : ∀ p, rS4 xs = some p → p.1.dKind = 2 := fun p hp => kd p (g4 ▸ hp)
  have g5 : rS5 xs = rS4 xs := stage_skip fun p hp => by rw [kd p hp]; decide
  have s5 : rS5 xs = (B9 xs 32 a0 e0).bind fun r => (B9 xs 32 r.2.1 r.2.2).map fun s => ({ dz 2 0 with dHeads := r.1, dWant := s.1 }, s.2) := g5.trans s4
  replace kd : ∀ p, rS5 xs = some p → p.1.dKind = 2 := fun p hp => kd p (g5 ▸ hp)
  have g6 : rS6 xs = rS5 xs := stage_skip fun p hp => by rw [kd p hp]; decide
  have s6 : rS6 xs = (B9 xs 32 a0 e0).bind fun r => (B9 xs 32 r.2.1 r.2.2).map fun s => ({ dz 2 0 with dHeads := r.1, dWant := s.1 }, s.2) := g6.trans s5
  replace kd : ∀ p, rS6 xs = some p → p.1.dKind = 2 := fun p hp => kd p (g6 ▸ hp)
  have g7 : rS7 xs = rS6 xs := stage_skip fun p hp => by rw [kd p hp]; decide
  have s7 : rS7 xs = (B9 xs 32 a0 e0).bind fun r => (B9 xs 32 r.2.1 r.2.2).map fun s => ({ dz 2 0 with dHeads := r.1, dWant := s.1 }, s.2) := g7.trans s6
  replace kd : ∀ p, rS7 xs = some p → p.1.dKind = 2 := fun p hp => kd p (g7 ▸ hp)
  exact s7
theorem rs_3 {xs : List UInt8} {x0 : UInt64} {a0 : Nat} {e0 : Int} (h0 : wordR xs 0 0 = (x0, a0, e0)) (hk : (x0.toNat : Int) = 3) : rS7 xs = (Cs readD xs 8 a0 e0).map fun r => ({ dz 3 0 with dBlocks := r.1 }, r.2) := by
  have s0 : rS0 xs = some (dz 3 0, a0, e0) := by
    unfold rS0
    rw [h0]
    dsimp only
    rw [hk]
    exact if_neg dE
  have s1 : rS1 xs = some (dz 3 0, a0, e0) := Bl s0 (show andI (Bb (3 : Int)) 1 = 0 by decide)
  have s2 : rS2 xs = some (dz 3 0, a0, e0) := Bl s1 (show andI (Bb (3 : Int)) 2 = 0 by decide)
  have s3 : rS3 xs = some (dz 3 0, a0, e0) := Bl s2 (show andI (Bb (3 : Int)) 4 = 0 by decide)
  have s4 : rS4 xs = (Cs readD xs 8 a0 e0).map fun r => ({ dz 3 0 with dBlocks := r.1 }, r.2) := Bq s3 (show ¬ andI (Bb (3 : Int)) 8 = 0 by decide)
  have kd : ∀ p, rS4 xs = some p → p.1.dKind = 3 := by
    intro p hp
    rw [s4] at hp
    obtain ⟨r, _, rfl⟩ := Option.map_eq_some_iff.1 hp
    rfl
  have g5 : rS5 xs = rS4 xs := stage_skip fun p hp => by rw [kd p hp]; decide
  have s5 : rS5 xs = (Cs readD xs 8 a0 e0).map fun r => ({ dz 3 0 with dBlocks := r.1 }, r.2) := g5.trans s4
  replace kd : ∀ p, rS5 xs = some p → p.1.dKind = 3 := fun p hp => kd p (g5 ▸ hp)
  have g6 : rS6 xs = rS5 xs := stage_skip fun p hp => by rw [kd p hp]; decide
  have s6 : rS6 xs = (Cs readD xs 8 a0 e0).map fun r => ({ dz 3 0 with dBlocks := r.1 }, r.2) := g6.trans s5
  replace kd : ∀ p, rS6 xs = some p → p.1.dKind = 3 := fun p hp => kd p (g6 ▸ hp)
  have g7 : rS7 xs = rS6 xs := stage_skip fun p hp => by rw [kd p hp]; decide
  have s7 : rS7 xs = (Cs readD xs 8 a0 e0).map fun r => ({ dz 3 0 with dBlocks := r.1 }, r.2) := g7.trans s6
  replace kd : ∀ p, rS7 xs = some p → p.1.dKind = 3 := fun p hp => kd p (g7 ▸ hp)
  exact s7
theorem rs_4 {xs : List UInt8} {x0 : UInt64} {a0 : Nat} {e0 : Int} (h0 : wordR xs 0 0 = (x0, a0, e0)) (hk : (x0.toNat : Int) = 4) : rS7 xs = (Cs Bi xs 20 a0 e0).bind fun r => (Cs B8 xs 4 r.2.1 r.2.2).map fun s => ({ dz 4 0 with dVotes := r.1, dCuts := s.1 }, s.2) := by
  have s0 : rS0 xs = some (dz 4 0, a0, e0) := by
    unfold rS0
    rw [h0]
    dsimp only
    rw [hk]
    exact if_neg dE
  have s1 : rS1 xs = some (dz 4 0, a0, e0) := Bl s0 (show andI (Bb (4 : Int)) 1 = 0 by decide)
  have s2 : rS2 xs = some (dz 4 0, a0, e0) := Bl s1 (show andI (Bb (4 : Int)) 2 = 0 by decide)
  have s3 : rS3 xs = some (dz 4 0, a0, e0) := Bl s2 (show andI (Bb (4 : Int)) 4 = 0 by decide)
  have s4 : rS4 xs = some (dz 4 0, a0, e0) := Bl s3 (show andI (Bb (4 : Int)) 8 = 0 by decide)
  have s5 : rS5 xs = (Cs Bi xs 20 a0 e0).map fun r => ({ dz 4 0 with dVotes := r.1 }, r.2) := by
    rw [← readVL_is]
    exact Bq s4 dE
  have kd : ∀ p, rS5 xs = some p → p.1.dKind = 4 := by
    intro p hp
    rw [s5] at hp
    obtain ⟨r, _, rfl⟩ := Option.map_eq_some_iff.1 hp
    rfl
  have s6 : rS6 xs = (Cs Bi xs 20 a0 e0).bind fun r => (Cs B8 xs 4 r.2.1 r.2.2).map fun s => ({ dz 4 0 with dVotes := r.1, dCuts := s.1 }, s.2) := by
    show stageO (rS5 xs) 32 _ = _
    rw [s5]
    cases Cs Bi xs 20 a0 e0 with
    | none => rfl
    | some r => exact Bq rfl (show ¬ andI (Bb (4 : Int)) 32 = 0 by decide)
  have kd : ∀ p, rS6 xs = some p → p.1.dKind = 4 := by
    intro p hp
    rw [s6] at hp
    obtain ⟨r, _, hp2⟩ := Option.bind_eq_some_iff.1 hp
    obtain ⟨r2, _, rfl⟩ := Option.map_eq_some_iff.1 hp2
    rfl
  have g7 : rS7 xs = rS6 xs := stage_skip fun p hp => by rw [kd p hp]; decide
  have s7 : rS7 xs = (Cs Bi xs 20 a0 e0).bind fun r => (Cs B8 xs 4 r.2.1 r.2.2).map fun s => ({ dz 4 0 with dVotes := r.1, dCuts := s.1 }, s.2) := g7.trans s6
  replace kd : ∀ p, rS7 xs = some p → p.1.dKind = 4 := fun p hp => kd p (g7 ▸ hp)
  exact s7
theorem rs_5 {xs : List UInt8} {x0 : UInt64} {a0 : Nat} {e0 : Int} (h0 : wordR xs 0 0 = (x0, a0, e0)) (hk : (x0.toNat : Int) = 5) : rS7 xs = (Cs Bv xs 2 a0 e0).map fun r => ({ dz 5 0 with dCerts := r.1 }, r.2) := by
  have s0 : rS0 xs = some (dz 5 0, a0, e0) := by
    unfold rS0
    rw [h0]
    dsimp only
    rw [hk]
    exact if_neg dE
  have s1 : rS1 xs = some (dz 5 0, a0, e0) := Bl s0 (show andI (Bb (5 : Int)) 1 = 0 by decide)
  have s2 : rS2 xs = some (dz 5 0, a0, e0) := Bl s1 (show andI (Bb (5 : Int)) 2 = 0 by decide)
  have s3 : rS3 xs = some (dz 5 0, a0, e0) := Bl s2 (show andI (Bb (5 : Int)) 4 = 0 by decide)
  have s4 : rS4 xs = some (dz 5 0, a0, e0) := Bl s3 (show andI (Bb (5 : Int)) 8 = 0 by decide)
  have s5 : rS5 xs = some (dz 5 0, a0, e0) := Bl s4 (show andI (Bb (5 : Int)) 16 = 0 by decide)
  have s6 : rS6 xs = some (dz 5 0, a0, e0) := Bl s5 (show andI (Bb (5 : Int)) 32 = 0 by decide)
  have s7 : rS7 xs = (Cs Bv xs 2 a0 e0).map fun r => ({ dz 5 0 with dCerts := r.1 }, r.2) := Bq s6 (show ¬ andI (Bb (5 : Int)) 64 = 0 by decide)
  have kd : ∀ p, rS7 xs = some p → p.1.dKind = 5 := by
    intro p hp
    rw [s7] at hp
    obtain ⟨r, _, rfl⟩ := Option.map_eq_some_iff.1 hp
    rfl
  exact s7
theorem rs_6 {xs : List UInt8} {x0 : UInt64} {a0 : Nat} {e0 : Int} (h0 : wordR xs 0 0 = (x0, a0, e0)) (hk : (x0.toNat : Int) = 6) : rS7 xs = some ({ dz 6 0 with dHeight := (A0 xs a0 e0).1 }, (A0 xs a0 e0).2) := by
  have s0 : rS0 xs = some (dz 6 0, a0, e0) := by
    unfold rS0
    rw [h0]
    dsimp only
    rw [hk]
    exact if_neg dE
  have s1 : rS1 xs = some ({ dz 6 0 with dHeight := (A0 xs a0 e0).1 }, (A0 xs a0 e0).2) := Bq s0 (show ¬ andI (Bb (6 : Int)) 1 = 0 by decide)
  have s2 : rS2 xs = some ({ dz 6 0 with dHeight := (A0 xs a0 e0).1 }, (A0 xs a0 e0).2) := Bl s1 (show andI (Bb (6 : Int)) 2 = 0 by decide)
  have s3 : rS3 xs = some ({ dz 6 0 with dHeight := (A0 xs a0 e0).1 }, (A0 xs a0 e0).2) := Bl s2 (show andI (Bb (6 : Int)) 4 = 0 by decide)
  have s4 : rS4 xs = some ({ dz 6 0 with dHeight := (A0 xs a0 e0).1 }, (A0 xs a0 e0).2) := Bl s3 (show andI (Bb (6 : Int)) 8 = 0 by decide)
  have s5 : rS5 xs = some ({ dz 6 0 with dHeight := (A0 xs a0 e0).1 }, (A0 xs a0 e0).2) := Bl s4 (show andI (Bb (6 : Int)) 16 = 0 by decide)
  have s6 : rS6 xs = some ({ dz 6 0 with dHeight := (A0 xs a0 e0).1 }, (A0 xs a0 e0).2) := Bl s5 (show andI (Bb (6 : Int)) 32 = 0 by decide)
  have s7 : rS7 xs = some ({ dz 6 0 with dHeight := (A0 xs a0 e0).1 }, (A0 xs a0 e0).2) := Bl s6 (show andI (Bb (6 : Int)) 64 = 0 by decide)
  exact s7
theorem rs_out {xs : List UInt8} {x0 : UInt64} {a0 : Nat} {e0 : Int} (h0 : wordR xs 0 0 = (x0, a0, e0)) (hk : ¬ (1 ≤ (x0.toNat : Int) ∧ (x0.toNat : Int) ≤ 6)) : rS7 xs = none := by
  refine bad0 ?_
  unfold rS0
  rw [h0]
  dsimp only
  exact if_pos ((parts_zero _).2 hk)

theorem fin_1 {xs : List UInt8} {x0 : UInt64} {a0 : Nat} {e0 : Int} (h0 : wordR xs 0 0 = (x0, a0, e0)) (hk : (x0.toNat : Int) = 1) {x1 x2 : UInt64} {a1 a2 k : Nat} {e1 e2 : Int} (h1 : A0 xs a0 e0 = (x1, a1, e1)) (h2 : A0 xs a1 e1 = (x2, a2, e2)) (hx : k = min x2.toNat (32 + 1) ∨ ¬ (As xs k a2 e2).2.2 = 0) (hm : k ≤ min x2.toNat (32 + 1)) :
    Fin xs { dz 1 0 with dHeight := x1, dHeads := (As xs k a2 e2).1 } (As xs k a2 e2).2.1 (As xs k a2 e2).2.2 0 := by
  have hr7 := rs_1 h0 hk
  rw [h1] at hr7
  dsimp only at hr7
  refine fin_of (fun he _ hc => ?_) (fun r hr => ?_)
  · have hs : (As xs k a2 e2).1.length ≤ 32 := (msg_sizes hc).h
    rw [digs_len] at hs
    rw [hr7, (dls_one h2 hx he hs).2]; rfl
  · rw [hr7] at hr
    obtain ⟨r1, h4, h5⟩ := Option.map_eq_some_iff.1 hr
    have := dls_two h2 hx hm h4
    subst this
    exact ⟨h5.symm, rfl⟩
theorem fin_2 {xs : List UInt8} {x0 : UInt64} {a0 : Nat} {e0 : Int} (h0 : wordR xs 0 0 = (x0, a0, e0)) (hk : (x0.toNat : Int) = 2) {x1 x2 : UInt64} {a1 a2 a3 k j : Nat} {e1 e2 e3 : Int} {ls : List (List UInt8)} (h1 : A0 xs a0 e0 = (x1, a1, e1)) (hx : k = min x1.toNat (32 + 1) ∨ ¬ (As xs k a1 e1).2.2 = 0) (hm : k ≤ min x1.toNat (32 + 1)) (hd : As xs k a1 e1 = (ls, a2, e2))
    (h2 : A0 xs a2 e2 = (x2, a3, e3)) (hx2 : j = min x2.toNat (32 + 1) ∨ ¬ (As xs j a3 e3).2.2 = 0) (hm2 : j ≤ min x2.toNat (32 + 1)) :
    Fin xs { dz 2 0 with dHeads := ls, dWant := (As xs j a3 e3).1 } (As xs j a3 e3).2.1 (As xs j a3 e3).2.2 0 := by
  have hr7 := rs_2 h0 hk
  have hlk : ls.length = k := by have := digs_len xs k a1 e1; rw [hd] at this; exact this
  refine fin_of (fun he _ hc => ?_) (fun r hr => ?_)
  · have hs : (As xs j a3 e3).1.length ≤ 32 := (msg_sizes hc).w
    have hs2 : ls.length ≤ 32 := (msg_sizes hc).h
    rw [digs_len] at hs
    obtain ⟨g1, g2⟩ := dls_one h2 hx2 he hs
    have g3 := dls_one h1 hx (by rw [hd]; exact g1) oM
    rw [hr7, g3.2, hd]
    show (B9 xs 32 a2 e2).map _ = _
    rw [g2]; rfl
  · rw [hr7] at hr
    obtain ⟨r1, h4, h5⟩ := Option.bind_eq_some_iff.1 hr
    have g1 := dls_two h1 hx hm h4
    rw [hd] at g1
    subst g1
    obtain ⟨r2, h6, h7⟩ := Option.map_eq_some_iff.1 h5
    have := dls_two h2 hx2 hm2 h6
    subst this
    exact ⟨h7.symm, rfl⟩
theorem fin_6 {xs : List UInt8} {x0 : UInt64} {a0 : Nat} {e0 : Int} (h0 : wordR xs 0 0 = (x0, a0, e0)) (hk : (x0.toNat : Int) = 6) {x1 : UInt64} {a1 : Nat} {e1 : Int} (h1 : A0 xs a0 e0 = (x1, a1, e1)) : Fin xs { dz 6 0 with dHeight := x1 } a1 e1 0 := by
  have hr7 := rs_6 h0 hk
  rw [h1] at hr7
  exact fin_of (fun _ _ _ => hr7) fun r hr => ⟨by rw [hr7] at hr; exact (Option.some.inj hr).symm, rfl⟩
theorem fin_out {xs : List UInt8} {x0 : UInt64} {a0 : Nat} {e0 : Int} (h0 : wordR xs 0 0 = (x0, a0, e0)) {kk : Int} (hkk : (x0.toNat : Int) = kk) (hk : ¬ (1 ≤ kk ∧ kk ≤ 6)) : Fin xs (dz kk 0) a0 e0 0 := by
  subst hkk
  have hr7 := rs_out h0 hk
  exact fin_of (fun _ _ hc => absurd ((valid_iff _).1 hc).1 (hd_out hk)) fun r hr => by rw [hr7] at hr; cases hr
theorem fin_3 {xs : List UInt8} {x0 : UInt64} {a0 : Nat} {e0 : Int} (h0 : wordR xs 0 0 = (x0, a0, e0)) (hk : (x0.toNat : Int) = 3) {x1 : UInt64} {a1 k a : Nat} {e1 e ev : Int} {vs : List DB} (h1 : A0 xs a0 e0 = (x1, a1, e1)) (hi : ItInv readD xs a1 e1 0 k vs a e ev) (hx : k = min x1.toNat (8 + 1) ∨ ¬ e = 0 ∨ ¬ ev = 0) (hm : k ≤ min x1.toNat (8 + 1)) : Fin xs { dz 3 0 with dBlocks := vs } a e ev := by
  have hr7 := rs_3 h0 hk
  refine fin_of (fun he hv hc => ?_) (fun r hr => ?_)
  · rw [hr7, (lst_one h1 hi hx he hv (msg_sizes hc).b).2.2]; rfl
  · rw [hr7] at hr
    obtain ⟨r1, h4, h5⟩ := Option.map_eq_some_iff.1 hr
    obtain ⟨g1, g2⟩ := lst_two h1 hi hx hm rfl h4
    subst g1
    exact ⟨h5.symm, g2⟩
theorem fin_5 {xs : List UInt8} {x0 : UInt64} {a0 : Nat} {e0 : Int} (h0 : wordR xs 0 0 = (x0, a0, e0)) (hk : (x0.toNat : Int) = 5) {x1 : UInt64} {a1 k a : Nat} {e1 e ev : Int} {vs : List DCert} (h1 : A0 xs a0 e0 = (x1, a1, e1)) (hi : ItInv Bv xs a1 e1 0 k vs a e ev) (hx : k = min x1.toNat (2 + 1) ∨ ¬ e = 0 ∨ ¬ ev = 0) (hm : k ≤ min x1.toNat (2 + 1)) : Fin xs { dz 5 0 with dCerts := vs } a e ev := by
  have hr7 := rs_5 h0 hk
  refine fin_of (fun he hv hc => ?_) (fun r hr => ?_)
  · rw [hr7, (lst_one h1 hi hx he hv (msg_sizes hc).e).2.2]; rfl
  · rw [hr7] at hr
    obtain ⟨r1, h4, h5⟩ := Option.map_eq_some_iff.1 hr
    obtain ⟨g1, g2⟩ := lst_two h1 hi hx hm rfl h4
    subst g1
    exact ⟨h5.symm, g2⟩
theorem fin_4 {xs : List UInt8} {x0 : UInt64} {a0 : Nat} {e0 : Int} (h0 : wordR xs 0 0 = (x0, a0, e0)) (hk : (x0.toNat : Int) = 4) {x1 x2 : UInt64} {a1 k a2 a3 j a : Nat} {e1 e2 e3 ev e ev2 : Int} {vs : List Vote} {cs : List DCut} (h1 : A0 xs a0 e0 = (x1, a1, e1)) (hi : ItInv Bi xs a1 e1 0 k vs a2 e2 ev) (hx : k = min x1.toNat (20 + 1) ∨ ¬ e2 = 0 ∨ ¬ ev = 0) (hm : k ≤ min x1.toNat (20 + 1))
    (h2 : A0 xs a2 e2 = (x2, a3, e3)) (hi2 : ItInv B8 xs a3 e3 ev j cs a e ev2) (hx2 : j = min x2.toNat (4 + 1) ∨ ¬ e = 0 ∨ ¬ ev2 = 0) (hm2 : j ≤ min x2.toNat (4 + 1)) : Fin xs { dz 4 0 with dVotes := vs, dCuts := cs } a e ev2 := by
  have hr7 := rs_4 h0 hk
  refine fin_of (fun he hv hc => ?_) (fun r hr => ?_)
  · obtain ⟨g1, g2, g3⟩ := lst_one h2 hi2 hx2 he hv (msg_sizes hc).c
    rw [hr7, (lst_one h1 hi hx g2 g1 (msg_sizes hc).v).2.2]
    show (Cs B8 xs 4 a2 e2).map _ = _
    rw [g3]; rfl
  · rw [hr7] at hr
    obtain ⟨r1, h4, h5⟩ := Option.bind_eq_some_iff.1 hr
    obtain ⟨g1, g2⟩ := lst_two h1 hi hx hm rfl h4
    subst g1
    obtain ⟨r2, h6, h7⟩ := Option.map_eq_some_iff.1 h5
    obtain ⟨g3, g4⟩ := lst_two h2 hi2 hx2 hm2 g2 h6
    subst g3
    exact ⟨h7.symm, g4⟩


structure LS9 (R D : Type) where
  k : Nat
  s : Sl
  bl : List Blk
  o : List Blk
  rs : List R
  vs : List D
  a : Nat
  e : Int
  ev : Int
  ro : Nat
structure RJ9 where
  m : Msg
  D : DMsg
  a : Nat
  e : Int
  ev : Int
  ro : Nat
  bl : List Blk
theorem few_dz (k : Int) (x : UInt64) : ({ dz k 0 with dHeight := x } : DMsg).Few := ⟨Nat.zero_le _, Nat.zero_le _, Nat.zero_le _, Nat.zero_le _, Nat.zero_le _, Nat.zero_le _⟩
theorem vote_isR (ys : List UInt8) : ∀ W2, Lies [] W2 → VoteIs W2 (Bi ys).1 (Bi ys).1 := fun _ _ => ⟨(voteRd_good ys).ok, rfl, (voteRd_good ys).wf⟩

theorem r25_Read (pa : Option Addr) (n c : Nat) (xs : List UInt8) (hl : xs.length = n) (hp : pa = none → n = 0) (hn : n ≤ 90000) : Meets Tryz.prog 45 [.slice pa n c] [] (fun W => SeesP W pa (Aa xs)) (MsgRead xs) := by
  intro W hW
  obtain ⟨x0, r0, h0⟩ : ∃ l r, wordR xs 0 0 = (l, r) := ⟨_, _, rfl⟩
  obtain ⟨a0, e0⟩ := r0
  have hw := wordE_le h0 hl (Nat.zero_le _)
  have ha0 := hw.1
  have hw2 := hw.2
  obtain ⟨kk, hkk⟩ : ∃ k : Int, (x0.toNat : Int) = k := ⟨_, rfl⟩
  have hwf : (Lit.int .i64 kk).wf = true := by rw [← hkk]; exact wf_byte hw.2
  have hmk : (mz kk 0).fKind = kk := rfl
  refine Ak Tryz.func45 J 187 Tryz.ntmps45 J (G2 ?_)
  refine .alloc (cs := Msg.zero.cells) J Msg.zr J ?_
  intro n2 hn2 hf2
  refine G6 ?_
  refine .call4 J J J J J Body135 (r1_Read pa n c xs hl hp hn) (fun w h => Ao h J hW) ?_
  rintro v19 out19 ⟨n19, q19, cp19, rfl, hcp19, rfl⟩
  refine .nd (fun hnd => ?_)
  have hne : q19 ≠ n19 := by intro e; simp [R1B, e] at hnd
  clear hnd
  refine G6 ?_
  refine .callL (L := [R1B n19 q19 (0) n cp19 (0) (0)]) J J J J J Body150 (r1_Word1 n19 q19 0 n cp19 0 0 xs hl (Nat.zero_le _) hcp19 hn (fun _ => rfl) x0 a0 e0 h0) (Ab rM Ad) (Au J) (fun w h => ⟨Af h Z0, Ah h Z1, hne⟩) ?_
  rintro v21 out21 ⟨o21, ho21, rfl, rfl⟩
  refine .conv J J J Y48.h Y3.h (cv_u64_i64 oM) ?_
  rw [hkk]
  refine .build (cs := (mz kk 0).cells) J J J (fun w => by kernel_rfl) ?_
  refine .alloc (cs := Msg.zero.cells) J Msg.zr J ?_
  intro n5 hn5 hf5
  refine .sA J J J J (Msg.isCell (by exact ⟨trivial⟩)) Sz57 (Msg.length (by exact ⟨trivial⟩)) Z0 (Msg.length (by exact Msg.zero_ok)) zU ?_
  refine G7 ?_
  refine .join (ι := RJ9) (fun j => ⟨[(2, ptr n2 0), (3, i64 0), (4, ptr n19 0), (5, ptr n5 0), (6, i64 j.ev)], (R1B n19 q19 j.ro n cp19 j.a j.e :: (⟨q19, Aa xs, 5, cp19 * 1⟩ :: (⟨n2, Msg.zero.cells, 57, 8⟩ :: (⟨n5, j.m.cells, 57, 8⟩ :: (j.bl ++ [])))))⟩) (fun j => j.a ≤ n ∧ At1 cp19 j.a j.ro ∧ (∀ W2, Lies j.bl W2 → MsgIs W2 j.m j.D) ∧ j.D.Few ∧ Fin xs j.D j.a j.e j.ev) ?_ ?_
  ·
    refine G3 ?_
    refine .load1 J J J Y3.h J Z0 (by exact Msg.get_fKind (by exact ⟨trivial⟩)) ?_
    refine G9 ?_
    refine .condP J (fun hc0 => ?_) (fun hc0 => ?_)
    ·
      obtain rfl := hc0
      obtain ⟨x1, r1, h1⟩ : ∃ l r, A0 xs a0 e0 = (l, r) := ⟨_, _, rfl⟩
      obtain ⟨a1, e1⟩ := r1
      have hd1 := Bc h1 hl ha0
      obtain ⟨x2, r2, h2⟩ : ∃ l r, A0 xs a1 e1 = (l, r) := ⟨_, _, rfl⟩
      obtain ⟨a2, e2⟩ := r2
      have hd2 := Bc h2 hl hd1
      refine G3 ?_
      refine .callL (L := [R1B n19 q19 (o21) n cp19 (a0) (e0)]) J J J J J Body138 (B4 n19 q19 o21 n cp19 a0 e0 xs hl ha0 hcp19 oM ho21 x1 a1 e1 h1) (Ab rM Ad) (Au J) (fun w h => ⟨Af h Z1, Ah h Z2, hne⟩) ?_
      rintro v29 out29 ⟨o29, ho29, rfl, rfl⟩
      refine G1 ?_
      refine .s1 J J J J J Sz48 Z1 (by rw [Msg.length (by exact ⟨trivial⟩)]; decide) (Msg.set_fHeight (by exact ⟨trivial⟩) _) zV ?_
      refine G4 ?_
      refine .callL (L := [R1B n19 q19 (o29) n cp19 (a1) (e1)]) J J J J J Body151 (r25_list n19 q19 o29 n cp19 a1 e1 32 dE xs hl hd1 hcp19 hn ho29 x2 a2 e2 h2) (Ab rM Ad) (Au J) (fun w h => ⟨Af h Z0, Ah h Z2, hne⟩) ?_
      rintro v32 out32 ⟨k32, s32, bl32, o32, hk32, hx32, ho32, rfl, hac32, rfl⟩
      try simp only [List.append_assoc, List.cons_append, List.nil_append]
      refine G1 ?_
      refine .s1 J J J J J Sz51 mR (by rw [Msg.length (by exact ⟨trivial⟩)]; decide) (by exact Msg.set_fHeads (by exact ⟨trivial⟩) _) uU ?_
      refine G3 ?_
      first
        | (have hat := digsR_at (e := e2) hl hd2 k32
           exact ⟨⟨{ mz 1 0 with fHeight := x1, fHeads := s32 }, { dz 1 0 with dHeight := x1, dHeads := (As xs k32 a2 e2).1 }, (As xs k32 a2 e2).2.1, (As xs k32 a2 e2).2.2, 0, o32, bl32⟩, ⟨hat.1, ho32, (fun W2 hl => ((mz_is 1 0 rfl).putHeight x1).putHeads (Ch hac32 hl hat.2.1 hat.2.2 oM)), ⟨by show (As xs k32 a2 e2).1.length ≤ 100000; rw [digs_len]; omega, Nat.zero_le _, Nat.zero_le _, Nat.zero_le _, Nat.zero_le _, Nat.zero_le _⟩, fin_1 h0 hkk h1 h2 hx32 hk32⟩, Ae (wk1 rfl (wk1 rfl (wk1 rfl (wk1 rfl (wk1 rfl wk0))))) (Ab (by repeat (first | exact Aq | apply Bm)) (Ab rM (Ab rM (Ab (by repeat (first | exact Aq | apply Bm)) (Aj sG Ad)))))⟩)
    refine G6 ?_
    refine .condP J (fun hc1 => ?_) (fun hc1 => ?_)
    ·
      obtain rfl := hc1
      obtain ⟨x1, r1, h1⟩ : ∃ l r, A0 xs a0 e0 = (l, r) := ⟨_, _, rfl⟩
      obtain ⟨a1, e1⟩ := r1
      have hd1 := Bc h1 hl ha0
      refine G3 ?_
      refine .callL (L := [R1B n19 q19 (o21) n cp19 (a0) (e0)]) J J J J J Body151 (r25_list n19 q19 o21 n cp19 a0 e0 32 dE xs hl ha0 hcp19 hn ho21 x1 a1 e1 h1) (Ab rM Ad) (Au J) (fun w h => ⟨Af h Z1, Ah h Z2, hne⟩) ?_
      rintro v37 out37 ⟨k37, s37, bl37, o37, hk37, hx37, ho37, rfl, hac37, rfl⟩
      try simp only [List.append_assoc, List.cons_append, List.nil_append]
      refine G1 ?_
      refine .s1 J J J J J Sz51 mR (by rw [Msg.length (by exact ⟨trivial⟩)]; decide) (by exact Msg.set_fHeads (by exact ⟨trivial⟩) _) uU ?_
      refine G3 ?_
      obtain ⟨ls2, r2, hdg2⟩ : ∃ l r, As xs k37 a1 e1 = (l, r) := ⟨_, _, rfl⟩
      obtain ⟨b2, f2⟩ := r2
      have hat2 := digsR_at (e := e1) hl hd1 k37
      rw [hdg2] at hac37 ho37 hat2 ⊢
      have hle2 := hat2.1
      have hln2 : ls2.length = k37 := by have := digs_len xs k37 a1 e1; rw [hdg2] at this; exact this
      dsimp only at hac37 ho37 hat2 hle2 ⊢
      obtain ⟨x3, r3, h3⟩ : ∃ l r, A0 xs b2 f2 = (l, r) := ⟨_, _, rfl⟩
      obtain ⟨a3, e3⟩ := r3
      have hd3 := Bc h3 hl hle2
      refine G1 ?_
      refine .callL (L := [R1B n19 q19 (o37) n cp19 (b2) (f2)]) J J J J J Body151 (r25_list n19 q19 o37 n cp19 b2 f2 32 dE xs hl hle2 hcp19 hn ho37 x3 a3 e3 h3) (Ab (by repeat (first | exact Aq | apply Bm)) Ad) (Au J) (fun w h => ⟨Af h mR, Ah h mR, hne⟩) ?_
      rintro v40 out40 ⟨k40, s40, bl40, o40, hk40, hx40, ho40, rfl, hac40, rfl⟩
      try simp only [List.append_assoc, List.cons_append, List.nil_append]
      refine G1 ?_
      refine .s1 J J J J J Sz51 mR (by rw [Msg.length (by exact ⟨trivial⟩)]; decide) (by exact Msg.set_fWant (by exact ⟨trivial⟩) _) uU ?_
      refine G3 ?_
      first
        | (have hat := digsR_at (e := e3) hl hd3 k40
           exact ⟨⟨{ mz 2 0 with fHeads := s37, fWant := s40 }, { dz 2 0 with dHeads := ls2, dWant := (As xs k40 a3 e3).1 }, (As xs k40 a3 e3).2.1, (As xs k40 a3 e3).2.2, 0, o40, bl40 ++ bl37⟩, ⟨hat.1, ho40, (fun W2 hl => ((mz_is 2 0 rfl).putHeads (Ch hac37 (hl.sub (by repeat (first | exact in_all | refine Bn ?_))) hat2.2.1 hat2.2.2 oM)).putWant (Ch hac40 (hl.sub (by repeat (exact Ar))) hat.2.1 hat.2.2 oM)), ⟨by show ls2.length ≤ 100000; omega, by show (As xs k40 a3 e3).1.length ≤ 100000; rw [digs_len]; omega, Nat.zero_le _, Nat.zero_le _, Nat.zero_le _, Nat.zero_le _⟩, fin_2 h0 hkk h1 hx37 hk37 hdg2 h3 hx40 hk40⟩, Ae (wk1 rfl (wk1 rfl (wk1 rfl (wk1 rfl (wk1 rfl wk0))))) (Ab (by repeat (first | exact Aq | apply Bm)) (Ab rM (Ab rM (Ab (by repeat (first | exact Aq | apply Bm)) (Cp (Aj sG (Aj sG Ad)))))))⟩)
    refine G6 ?_
    refine .condP J (fun hc2 => ?_) (fun hc2 => ?_)
    ·
      obtain rfl := hc2
      obtain ⟨x1, r1, h1⟩ : ∃ l r, A0 xs a0 e0 = (l, r) := ⟨_, _, rfl⟩
      obtain ⟨a1, e1⟩ := r1
      have hd1 := Bc h1 hl ha0
      refine G3 ?_
      refine .callL (L := [R1B n19 q19 (o21) n cp19 (a0) (e0)]) J J J J J Body152 (r25_many n19 q19 o21 n cp19 a0 e0 8 dE xs hl ha0 hcp19 hn ho21 x1 a1 e1 h1) (Ab rM Ad) (Au J) (fun w h => ⟨Af h Z1, Ah h Z2, hne⟩) ?_
      rintro v45 out45 ⟨o45, ho45, rfl, rfl⟩
      refine G9 ?_
      refine .loop (ι := LS9 Block DB) (fun p => ⟨[(2, ptr n2 0), (3, i64 0), (4, ptr n19 0), (5, ptr n5 0), (6, i64 p.ev), (7, i64 (((min x1.toNat (8 + 1)) : Nat) : Int)), (8, i64 (p.k : Int))], (R1B n19 q19 p.ro n cp19 p.a p.e :: (⟨q19, Aa xs, 5, cp19 * 1⟩ :: (⟨n2, Msg.zero.cells, 57, 8⟩ :: (⟨n5, ({ (mz 3 0) with fBlocks := p.s } : Msg).cells, 57, 8⟩ :: (p.bl ++ (p.o ++ []))))))⟩) (fun p => p.k ≤ (min x1.toNat (8 + 1)) ∧ p.a ≤ n ∧ At1 cp19 p.a p.ro ∧ OwnSeq Block.cells 131 BlockIs 79 p.s p.bl p.o p.rs p.vs p.k ∧ ItInv readD xs a1 e1 0 p.k p.vs p.a p.e p.ev) (fun p => (min x1.toNat (8 + 1)) - p.k) (⟨0, Sl.nil, [], [], [], [], a1, e1, 0, o45⟩) ?_ ?_ ?_
      · exact ⟨Nat.zero_le _, hd1, ho45, ⟨Acc.none, rfl, rfl, fun r h => (by cases h), fun W2 _ i r d h => (by simp at h)⟩, inv_zero _ _ _⟩
      · exact Ae (wk1 rfl (wk1 rfl (wk1 rfl (wk1 rfl (wk1 rfl (wk1 rfl (wk1 rfl wk0))))))) (Ab rM (Ab rM (Ab rM (Ab rM (Cd (Cd Ad))))))
      rintro p ⟨hp1, hpa, hop, hos, hin⟩
      obtain ⟨o8, r8, h8⟩ : ∃ l r, blkR xs p.a p.e = (l, r) := ⟨_, _, rfl⟩
      obtain ⟨a8, e8⟩ := r8
      have hd8 := blkE_le h8 hl hpa
      have hvl := hin.1
      refine G5 ?_
      refine two (fun r hr k => Tr.lss J J J J hr k) (fun hs14_20 => ?_) (fun hs14_20 => ?_)
      ·
        have hs14_2 := of_decide_eq_true hs14_20
        refine G4 ?_
        refine .load1 J J J Y32.h J Z0 (by exact Rdr.get_fE (by exact ⟨trivial⟩)) ?_
        refine two (fun r hr k => Tr.eqi J J J J hr k) (fun hs14_80 => ?_) (fun hs14_80 => ?_)
        ·
          have hs14_8 := of_decide_eq_true hs14_80
          refine G3 ?_
          refine two (fun r hr k => Tr.eqi J J J J hr k) (fun hs14_120 => ?_) (fun hs14_120 => ?_)
          ·
            have hs14_12 := of_decide_eq_true hs14_120
            refine G3 ?_
            refine .cond_t J J (G6 ?_)
            refine .alloc (cs := Block.zero.cells) J Block.zr J ?_
            intro n9 hn9 hf9
            refine G5 ?_
            refine .callL (L := [R1B n19 q19 (p.ro) n cp19 (p.a) (p.e)]) J J J J J Body137 (r1_BlockE n19 q19 p.ro n cp19 p.a p.e xs hl hpa hcp19 oM hop o8 a8 e8 h8) (Ab rM Ad) (Au J) (fun w h => ⟨Af h Z1, Ah h Z2, hne⟩) ?_
            rintro v64 out64 ⟨s64, bl64, o64, ho64, rfl, hac64, rfl⟩
            simp only [List.append_assoc, List.cons_append, List.nil_append]
            have hm64 := hac64.num
            refine .call4 J J J J J Body153 (r15_Read s64.p s64.n s64.c (o8.getD []) hm64.symm (fun e => hac64.nil e) (by rw [hm64]; omega)) (fun w h => hac64.see (Lies.of h (by repeat (exact Ar)))) ?_
            rintro v65 out65 ⟨X65, okX, rfl, hX65⟩
            try simp only [List.append_assoc, List.cons_append, List.nil_append]
            refine G9 ?_
            refine .load1 J J J Y22.h J mR (by exact Msg.get_fBlocks (by exact ⟨trivial⟩)) ?_
            refine G1 ?_
            refine .mkRow2 (z := agg Block.zero.cells) [agg X65.cells] X65.cells J J Y22.h Sz79 Block.zr J J (by intro v hv; rw [List.mem_singleton.1 hv]; simp [Value.cells, Block.length okX]) dE (by simp [Value.cells]) ?_
            intro q71
            refine .appendAcc (z := agg Block.zero.cells) (by' := 184) (X65.cells) J J J J J Y22.h Y22.h Sz79 Zr79 (by unfold By; kernel_rfl) J hos.acc sG (fun w h => SeesP.of (Ah h Z0)) (fun e => by cases e) (Block.isCell okX) oM oM (by rw [Block.length okX]) ?_
            intro s72 bl72 hac72
            refine G1 ?_
            refine .s1 J J J J J Sz22 mR (by rw [Msg.length (by exact ⟨trivial⟩)]; decide) (by exact Msg.set_fBlocks (by exact ⟨trivial⟩) _) uU ?_
            refine G9 ?_
            exact ⟨⟨p.k + 1, s72, bl72, out65 ++ p.o, p.rs ++ [X65], p.vs ++ [(readD (o8.getD [])).1], a8, e8, (readD (o8.getD [])).2, o64⟩, ⟨by simp only []; omega, hd8.1, ho64, hos.snoc (by simpa using hac72) (Block.length okX) hX65, inv_step hin zA zA h8⟩, by simp only []; omega, Ae (wk1 rfl (wk1 rfl (wk1 rfl (wk1 rfl (wk1 rfl (wk1 rfl (wk1 rfl wk0))))))) (Ab rM (Ab rM (Ab rM (Ab rM (Aj sG (Cp (Aj sG (Aj sG Ad))))))))⟩
          have hs14_12 := of_decide_eq_false hs14_120
          refine G3 ?_
          refine .cond_f J J (G6 ?_)
          first
            | (have hvk := hin.1
               exact ⟨⟨{ mz 3 0 with fBlocks := p.s }, { dz 3 0 with dBlocks := p.vs }, p.a, p.e, p.ev, p.ro, p.bl ++ p.o⟩, ⟨hpa, hop, (fun W2 hl => (mz_is 3 0 rfl).putBlocks ⟨_, hos.seq (hl.sub (by repeat (exact Ar))) (hl.sub (by repeat (first | exact in_all | refine Bn ?_))) oM⟩), ⟨Nat.zero_le _, Nat.zero_le _, by show p.vs.length ≤ 100000; omega, Nat.zero_le _, Nat.zero_le _, Nat.zero_le _⟩, fin_3 h0 hkk h1 hin (by (right; right; assumption)) hp1⟩, Ae (wk1 rfl (wk1 rfl (wk1 rfl (wk1 rfl (wk1 rfl wk0))))) (Ab rM (Ab rM (Ab rM (Ab rM (Cp (Aj sG (Aj sG Ad)))))))⟩)
        have hs14_8 := of_decide_eq_false hs14_80
        refine G7 ?_
        refine .cond_f J J (G6 ?_)
        first
          | (have hvk := hin.1
             exact ⟨⟨{ mz 3 0 with fBlocks := p.s }, { dz 3 0 with dBlocks := p.vs }, p.a, p.e, p.ev, p.ro, p.bl ++ p.o⟩, ⟨hpa, hop, (fun W2 hl => (mz_is 3 0 rfl).putBlocks ⟨_, hos.seq (hl.sub (by repeat (exact Ar))) (hl.sub (by repeat (first | exact in_all | refine Bn ?_))) oM⟩), ⟨Nat.zero_le _, Nat.zero_le _, by show p.vs.length ≤ 100000; omega, Nat.zero_le _, Nat.zero_le _, Nat.zero_le _⟩, fin_3 h0 hkk h1 hin (by (right; left; assumption)) hp1⟩, Ae (wk1 rfl (wk1 rfl (wk1 rfl (wk1 rfl (wk1 rfl wk0))))) (Ab rM (Ab rM (Ab rM (Ab rM (Cp (Aj sG (Aj sG Ad)))))))⟩)
      have hs14_2 := of_decide_eq_false hs14_20
      refine G13 ?_
      refine .cond_f J J (G6 ?_)
      first
        | (have hvk := hin.1
           exact ⟨⟨{ mz 3 0 with fBlocks := p.s }, { dz 3 0 with dBlocks := p.vs }, p.a, p.e, p.ev, p.ro, p.bl ++ p.o⟩, ⟨hpa, hop, (fun W2 hl => (mz_is 3 0 rfl).putBlocks ⟨_, hos.seq (hl.sub (by repeat (exact Ar))) (hl.sub (by repeat (first | exact in_all | refine Bn ?_))) oM⟩), ⟨Nat.zero_le _, Nat.zero_le _, by show p.vs.length ≤ 100000; omega, Nat.zero_le _, Nat.zero_le _, Nat.zero_le _⟩, fin_3 h0 hkk h1 hin (by (left; omega)) hp1⟩, Ae (wk1 rfl (wk1 rfl (wk1 rfl (wk1 rfl (wk1 rfl wk0))))) (Ab rM (Ab rM (Ab rM (Ab rM (Cp (Aj sG (Aj sG Ad)))))))⟩)
    refine G6 ?_
    refine .condP J (fun hc4 => ?_) (fun hc4 => ?_)
    ·
      obtain rfl := hc4
      obtain ⟨x1, r1, h1⟩ : ∃ l r, A0 xs a0 e0 = (l, r) := ⟨_, _, rfl⟩
      obtain ⟨a1, e1⟩ := r1
      have hd1 := Bc h1 hl ha0
      refine G3 ?_
      refine .callL (L := [R1B n19 q19 (o21) n cp19 (a0) (e0)]) J J J J J Body152 (r25_many n19 q19 o21 n cp19 a0 e0 20 dE xs hl ha0 hcp19 hn ho21 x1 a1 e1 h1) (Ab rM Ad) (Au J) (fun w h => ⟨Af h Z1, Ah h Z2, hne⟩) ?_
      rintro v77 out77 ⟨o77, ho77, rfl, rfl⟩
      refine G3 ?_
      refine .join (ι := LS9 Vote Vote) (fun jv => ⟨[(2, ptr n2 0), (3, i64 0), (4, ptr n19 0), (5, ptr n5 0), (6, i64 jv.ev)], (R1B n19 q19 jv.ro n cp19 jv.a jv.e :: (⟨q19, Aa xs, 5, cp19 * 1⟩ :: (⟨n2, Msg.zero.cells, 57, 8⟩ :: (⟨n5, ({ mz 4 0 with fVotes := jv.s } : Msg).cells, 57, 8⟩ :: (jv.bl ++ (jv.o ++ []))))))⟩) (fun jv => jv.k ≤ (min x1.toNat (20 + 1)) ∧ jv.a ≤ n ∧ At1 cp19 jv.a jv.ro ∧ OwnSeq Vote.cells 132 VoteIs 81 jv.s jv.bl jv.o jv.rs jv.vs jv.k ∧ ItInv Bi xs a1 e1 0 jv.k jv.vs jv.a jv.e jv.ev ∧ (jv.k = min x1.toNat (20 + 1) ∨ ¬ jv.e = 0 ∨ ¬ jv.ev = 0)) ?_ ?_
      ·
        refine G6 ?_
        refine .loop (ι := LS9 Vote Vote) (fun p => ⟨[(2, ptr n2 0), (3, i64 0), (4, ptr n19 0), (5, ptr n5 0), (6, i64 p.ev), (10, i64 (((min x1.toNat (20 + 1)) : Nat) : Int)), (11, i64 (p.k : Int))], (R1B n19 q19 p.ro n cp19 p.a p.e :: (⟨q19, Aa xs, 5, cp19 * 1⟩ :: (⟨n2, Msg.zero.cells, 57, 8⟩ :: (⟨n5, ({ (mz 4 0) with fVotes := p.s } : Msg).cells, 57, 8⟩ :: (p.bl ++ (p.o ++ []))))))⟩) (fun p => p.k ≤ (min x1.toNat (20 + 1)) ∧ p.a ≤ n ∧ At1 cp19 p.a p.ro ∧ OwnSeq Vote.cells 132 VoteIs 81 p.s p.bl p.o p.rs p.vs p.k ∧ ItInv Bi xs a1 e1 0 p.k p.vs p.a p.e p.ev) (fun p => (min x1.toNat (20 + 1)) - p.k) (⟨0, Sl.nil, [], [], [], [], a1, e1, 0, o77⟩) ?_ ?_ ?_
        · exact ⟨Nat.zero_le _, hd1, ho77, ⟨Acc.none, rfl, rfl, fun r h => (by cases h), fun W2 _ i r d h => (by simp at h)⟩, inv_zero _ _ _⟩
        · exact Ae (wk1 rfl (wk1 rfl (wk1 rfl (wk1 rfl (wk1 rfl (wk1 rfl (wk1 rfl wk0))))))) (Ab rM (Ab rM (Ab rM (Ab rM (Cd (Cd Ad))))))
        rintro p ⟨hp1, hpa, hop, hos, hin⟩
        obtain ⟨o8, r8, h8⟩ : ∃ l r, blkR xs p.a p.e = (l, r) := ⟨_, _, rfl⟩
        obtain ⟨a8, e8⟩ := r8
        have hd8 := blkE_le h8 hl hpa
        have hvl := hin.1
        have hvg := voteRd_good (o8.getD [])
        refine G5 ?_
        refine two (fun r hr k => Tr.lss J J J J hr k) (fun hs22_20 => ?_) (fun hs22_20 => ?_)
        ·
          have hs22_2 := of_decide_eq_true hs22_20
          refine G4 ?_
          refine .load1 J J J Y32.h J Z0 (by exact Rdr.get_fE (by exact ⟨trivial⟩)) ?_
          refine two (fun r hr k => Tr.eqi J J J J hr k) (fun hs22_80 => ?_) (fun hs22_80 => ?_)
          ·
            have hs22_8 := of_decide_eq_true hs22_80
            refine G3 ?_
            refine two (fun r hr k => Tr.eqi J J J J hr k) (fun hs22_120 => ?_) (fun hs22_120 => ?_)
            ·
              have hs22_12 := of_decide_eq_true hs22_120
              refine G3 ?_
              refine .cond_t J J (G6 ?_)
              refine .alloc (cs := Vote.zero.cells) J Vote.zr J ?_
              intro n12 hn12 hf12
              refine G5 ?_
              refine .callL (L := [R1B n19 q19 (p.ro) n cp19 (p.a) (p.e)]) J J J J J Body137 (r1_BlockE n19 q19 p.ro n cp19 p.a p.e xs hl hpa hcp19 oM hop o8 a8 e8 h8) (Ab rM Ad) (Au J) (fun w h => ⟨Af h Z1, Ah h Z2, hne⟩) ?_
              rintro v96 out96 ⟨s96, bl96, o96, ho96, rfl, hac96, rfl⟩
              simp only [List.append_assoc, List.cons_append, List.nil_append]
              have hm96 := hac96.num
              refine .cV J J J J Body139 (r20_Read s96.p s96.n s96.c (o8.getD []) hm96.symm (fun e => hac96.nil e) (by rw [hm96]; omega)) (fun w h => hac96.see (Lies.of h (by repeat (exact Ar)))) ?_
              refine G3 ?_
              refine .sA J J J J (Vote.isCell (by exact hvg.ok)) Sz81 (Vote.length (by exact hvg.ok)) mR (Vote.length zT) uU ?_
              refine G5 ?_
              refine .load1 J J J Y24.h J mR (by exact Msg.get_fVotes (by exact ⟨trivial⟩)) ?_
              refine .lA J J J Y81.h J Sz81 mR (Vote.length (by exact hvg.ok)) ?_
              refine .mkRow2 (z := agg Vote.zero.cells) [agg (Bi (o8.getD [])).1.cells] (Bi (o8.getD [])).1.cells J J Y24.h Sz81 Vote.zr J J (by intro v hv; rw [List.mem_singleton.1 hv]; simp [Value.cells, Vote.length (voteRd_good (o8.getD [])).ok]) dE (by simp [Value.cells]) ?_
              intro q103
              refine .appendAcc (z := agg Vote.zero.cells) (by' := 160) ((Bi (o8.getD [])).1.cells) J J J J J Y24.h Y24.h Sz81 Zr81 (by unfold By; kernel_rfl) J hos.acc sG (fun w h => SeesP.of (Ah h Z0)) (fun e => by cases e) (Vote.isCell (voteRd_good (o8.getD [])).ok) oM oM (by rw [Vote.length (voteRd_good (o8.getD [])).ok]) ?_
              intro s104 bl104 hac104
              refine G1 ?_
              refine .s1 J J J J J Sz24 mR (by rw [Msg.length (by exact ⟨trivial⟩)]; decide) (by exact Msg.set_fVotes (by exact ⟨trivial⟩) _) uU ?_
              refine G9 ?_
              exact ⟨⟨p.k + 1, s104, bl104, ([] : List Blk) ++ p.o, p.rs ++ [(Bi (o8.getD [])).1], p.vs ++ [(Bi (o8.getD [])).1], a8, e8, (Bi (o8.getD [])).2, o96⟩, ⟨by simp only []; omega, hd8.1, ho96, hos.snoc (by simpa using hac104) (Vote.length (voteRd_good (o8.getD [])).ok) (vote_isR (o8.getD [])), inv_step hin zA zA h8⟩, by simp only []; omega, Ae (wk1 rfl (wk1 rfl (wk1 rfl (wk1 rfl (wk1 rfl (wk1 rfl (wk1 rfl wk0))))))) (Ab rM (Ab rM (Ab rM (Ab rM (Aj sG (Aj sG Ad))))))⟩
            have hs22_12 := of_decide_eq_false hs22_120
            refine G3 ?_
            refine .cond_f J J (G5 ?_)
            exact ⟨p, ⟨hp1, hpa, hop, hos, hin, (by (right; right; assumption))⟩, Ae (wk1 rfl (wk1 rfl (wk1 rfl (wk1 rfl (wk1 rfl wk0))))) (Ab rM (Ab rM (Ab rM (Ab rM (Aj sG (Aj sG Ad))))))⟩
          have hs22_8 := of_decide_eq_false hs22_80
          refine G7 ?_
          refine .cond_f J J (G5 ?_)
          exact ⟨p, ⟨hp1, hpa, hop, hos, hin, (by (right; left; assumption))⟩, Ae (wk1 rfl (wk1 rfl (wk1 rfl (wk1 rfl (wk1 rfl wk0))))) (Ab rM (Ab rM (Ab rM (Ab rM (Aj sG (Aj sG Ad))))))⟩
        have hs22_2 := of_decide_eq_false hs22_20
        refine G13 ?_
        refine .cond_f J J (G5 ?_)
        exact ⟨p, ⟨hp1, hpa, hop, hos, hin, (by (left; omega))⟩, Ae (wk1 rfl (wk1 rfl (wk1 rfl (wk1 rfl (wk1 rfl wk0))))) (Ab rM (Ab rM (Ab rM (Ab rM (Aj sG (Aj sG Ad))))))⟩
      intro jv hj
      obtain ⟨jv_k, jv_a, jv_o, jv_s, jv_i, jv_x⟩ := hj
      obtain ⟨x2, r3, h2⟩ : ∃ l r, A0 xs jv.a jv.e = (l, r) := ⟨_, _, rfl⟩
      obtain ⟨a3, e3⟩ := r3
      have hd2 := Bc h2 hl jv_a
      refine G3 ?_
      refine .callL (L := [R1B n19 q19 (jv.ro) n cp19 (jv.a) (jv.e)]) J J J J J Body152 (r25_many n19 q19 jv.ro n cp19 jv.a jv.e 4 dE xs hl jv_a hcp19 hn jv_o x2 a3 e3 h2) (Ab rM Ad) (Au J) (fun w h => ⟨Af h Z0, Ah h Z1, hne⟩) ?_
      rintro v107 out107 ⟨o107, ho107, rfl, rfl⟩
      refine G9 ?_
      refine .loop (ι := LS9 Cut DCut) (fun p => ⟨[(2, ptr n2 0), (3, i64 0), (4, ptr n19 0), (5, ptr n5 0), (6, i64 p.ev), (10, i64 (((min x2.toNat (4 + 1)) : Nat) : Int)), (13, i64 (p.k : Int))], (R1B n19 q19 p.ro n cp19 p.a p.e :: (⟨q19, Aa xs, 5, cp19 * 1⟩ :: (⟨n2, Msg.zero.cells, 57, 8⟩ :: (⟨n5, ({ ({ mz 4 0 with fVotes := jv.s } : Msg) with fCuts := p.s } : Msg).cells, 57, 8⟩ :: (p.bl ++ (p.o ++ (jv.bl ++ (jv.o ++ []))))))))⟩) (fun p => p.k ≤ (min x2.toNat (4 + 1)) ∧ p.a ≤ n ∧ At1 cp19 p.a p.ro ∧ OwnSeq Cut.cells 34 CutIs 53 p.s p.bl p.o p.rs p.vs p.k ∧ ItInv B8 xs a3 e3 jv.ev p.k p.vs p.a p.e p.ev) (fun p => (min x2.toNat (4 + 1)) - p.k) (⟨0, Sl.nil, [], [], [], [], a3, e3, jv.ev, o107⟩) ?_ ?_ ?_
      · exact ⟨Nat.zero_le _, hd2, ho107, ⟨Acc.none, rfl, rfl, fun r h => (by cases h), fun W2 _ i r d h => (by simp at h)⟩, inv_zero _ _ _⟩
      · exact Ae (wk1 rfl (wk1 rfl (wk1 rfl (wk1 rfl (wk1 rfl (wk1 rfl (wk1 rfl wk0))))))) (Ab rM (Ab rM (Ab rM (Ab rM (Cd (Cd (Aj sG (Aj sG Ad))))))))
      rintro p ⟨hp1, hpa, hop, hos, hin⟩
      obtain ⟨o8, r8, h8⟩ : ∃ l r, blkR xs p.a p.e = (l, r) := ⟨_, _, rfl⟩
      obtain ⟨a8, e8⟩ := r8
      have hd8 := blkE_le h8 hl hpa
      have hvl := hin.1
      refine G5 ?_
      refine two (fun r hr k => Tr.lss J J J J hr k) (fun hs29_20 => ?_) (fun hs29_20 => ?_)
      ·
        have hs29_2 := of_decide_eq_true hs29_20
        refine G4 ?_
        refine .load1 J J J Y32.h J Z0 (by exact Rdr.get_fE (by exact ⟨trivial⟩)) ?_
        refine two (fun r hr k => Tr.eqi J J J J hr k) (fun hs29_80 => ?_) (fun hs29_80 => ?_)
        ·
          have hs29_8 := of_decide_eq_true hs29_80
          refine G3 ?_
          refine two (fun r hr k => Tr.eqi J J J J hr k) (fun hs29_120 => ?_) (fun hs29_120 => ?_)
          ·
            have hs29_12 := of_decide_eq_true hs29_120
            refine G3 ?_
            refine .cond_t J J (G6 ?_)
            refine .alloc (cs := Cut.zero.cells) J Cut.zr J ?_
            intro n14 hn14 hf14
            refine G5 ?_
            refine .callL (L := [R1B n19 q19 (p.ro) n cp19 (p.a) (p.e)]) J J J J J Body137 (r1_BlockE n19 q19 p.ro n cp19 p.a p.e xs hl hpa hcp19 oM hop o8 a8 e8 h8) (Ab rM Ad) (Au J) (fun w h => ⟨Af h Z1, Ah h Z2, hne⟩) ?_
            rintro v126 out126 ⟨s126, bl126, o126, ho126, rfl, hac126, rfl⟩
            simp only [List.append_assoc, List.cons_append, List.nil_append]
            have hm126 := hac126.num
            refine .call4 J J J J J Body136 (r19_Read s126.p s126.n s126.c (o8.getD []) hm126.symm (fun e => hac126.nil e) (by rw [hm126]; omega)) (fun w h => hac126.see (Lies.of h (by repeat (exact Ar)))) ?_
            rintro v127 out127 ⟨X127, okX, rfl, hX127⟩
            try simp only [List.append_assoc, List.cons_append, List.nil_append]
            refine G9 ?_
            refine .load1 J J J Y25.h J mR (by exact Msg.get_fCuts (by exact ⟨trivial⟩)) ?_
            refine G1 ?_
            refine .mkRow2 (z := agg Cut.zero.cells) [agg X127.cells] X127.cells J J Y25.h Sz53 Cut.zr J J (by intro v hv; rw [List.mem_singleton.1 hv]; simp [Value.cells, Cut.length okX]) dE (by simp [Value.cells]) ?_
            intro q133
            refine .appendAcc (z := agg Cut.zero.cells) (by' := 64) (X127.cells) J J J J J Y25.h Y25.h Sz53 Zr53 (by unfold By; kernel_rfl) J hos.acc sG (fun w h => SeesP.of (Ah h Z0)) (fun e => by cases e) (Cut.isCell okX) oM oM (by rw [Cut.length okX]) ?_
            intro s134 bl134 hac134
            refine G1 ?_
            refine .s1 J J J J J Sz25 mR (by rw [Msg.length (by exact ⟨trivial⟩)]; decide) (by exact Msg.set_fCuts (by exact ⟨trivial⟩) _) uU ?_
            refine G9 ?_
            exact ⟨⟨p.k + 1, s134, bl134, out127 ++ p.o, p.rs ++ [X127], p.vs ++ [(B8 (o8.getD [])).1], a8, e8, (B8 (o8.getD [])).2, o126⟩, ⟨by simp only []; omega, hd8.1, ho126, hos.snoc (by simpa using hac134) (Cut.length okX) hX127, inv_step hin zA zA h8⟩, by simp only []; omega, Ae (wk1 rfl (wk1 rfl (wk1 rfl (wk1 rfl (wk1 rfl (wk1 rfl (wk1 rfl wk0))))))) (Ab rM (Ab rM (Ab rM (Ab rM (Aj sG (Cp (Aj sG (Aj sG (Aj sG (Aj sG Ad))))))))))⟩
          have hs29_12 := of_decide_eq_false hs29_120
          refine G3 ?_
          refine .cond_f J J (G6 ?_)
          first
            | (have hvk := hin.1
               have hvk2 := jv_i.1
               exact ⟨⟨{ mz 4 0 with fVotes := jv.s, fCuts := p.s }, { dz 4 0 with dVotes := jv.vs, dCuts := p.vs }, p.a, p.e, p.ev, p.ro, p.bl ++ (p.o ++ (jv.bl ++ jv.o))⟩, ⟨hpa, hop, (fun W2 hl => ((mz_is 4 0 rfl).putVotes ⟨_, jv_s.seq (hl.sub (by repeat (first | exact Ar | refine Bn ?_))) (hl.sub (by repeat (first | exact in_all | refine Bn ?_))) oM⟩).putCuts ⟨_, hos.seq (hl.sub (by repeat (exact Ar))) (hl.sub (by repeat (first | exact Ar | refine Bn ?_))) oM⟩), ⟨Nat.zero_le _, Nat.zero_le _, Nat.zero_le _, by show jv.vs.length ≤ 100000; omega, by show p.vs.length ≤ 100000; omega, Nat.zero_le _⟩, fin_4 h0 hkk h1 jv_i jv_x jv_k h2 hin (by (right; right; assumption)) hp1⟩, Ae (wk1 rfl (wk1 rfl (wk1 rfl (wk1 rfl (wk1 rfl wk0))))) (Ab rM (Ab rM (Ab rM (Ab rM (Cp (Aj sG (Cp (Aj sG (Cp (Aj sG (Aj sG Ad)))))))))))⟩)
        have hs29_8 := of_decide_eq_false hs29_80
        refine G7 ?_
        refine .cond_f J J (G6 ?_)
        first
          | (have hvk := hin.1
             have hvk2 := jv_i.1
             exact ⟨⟨{ mz 4 0 with fVotes := jv.s, fCuts := p.s }, { dz 4 0 with dVotes := jv.vs, dCuts := p.vs }, p.a, p.e, p.ev, p.ro, p.bl ++ (p.o ++ (jv.bl ++ jv.o))⟩, ⟨hpa, hop, (fun W2 hl => ((mz_is 4 0 rfl).putVotes ⟨_, jv_s.seq (hl.sub (by repeat (first | exact Ar | refine Bn ?_))) (hl.sub (by repeat (first | exact in_all | refine Bn ?_))) oM⟩).putCuts ⟨_, hos.seq (hl.sub (by repeat (exact Ar))) (hl.sub (by repeat (first | exact Ar | refine Bn ?_))) oM⟩), ⟨Nat.zero_le _, Nat.zero_le _, Nat.zero_le _, by show jv.vs.length ≤ 100000; omega, by show p.vs.length ≤ 100000; omega, Nat.zero_le _⟩, fin_4 h0 hkk h1 jv_i jv_x jv_k h2 hin (by (right; left; assumption)) hp1⟩, Ae (wk1 rfl (wk1 rfl (wk1 rfl (wk1 rfl (wk1 rfl wk0))))) (Ab rM (Ab rM (Ab rM (Ab rM (Cp (Aj sG (Cp (Aj sG (Cp (Aj sG (Aj sG Ad)))))))))))⟩)
      have hs29_2 := of_decide_eq_false hs29_20
      refine G13 ?_
      refine .cond_f J J (G6 ?_)
      first
        | (have hvk := hin.1
           have hvk2 := jv_i.1
           exact ⟨⟨{ mz 4 0 with fVotes := jv.s, fCuts := p.s }, { dz 4 0 with dVotes := jv.vs, dCuts := p.vs }, p.a, p.e, p.ev, p.ro, p.bl ++ (p.o ++ (jv.bl ++ jv.o))⟩, ⟨hpa, hop, (fun W2 hl => ((mz_is 4 0 rfl).putVotes ⟨_, jv_s.seq (hl.sub (by repeat (first | exact Ar | refine Bn ?_))) (hl.sub (by repeat (first | exact in_all | refine Bn ?_))) oM⟩).putCuts ⟨_, hos.seq (hl.sub (by repeat (exact Ar))) (hl.sub (by repeat (first | exact Ar | refine Bn ?_))) oM⟩), ⟨Nat.zero_le _, Nat.zero_le _, Nat.zero_le _, by show jv.vs.length ≤ 100000; omega, by show p.vs.length ≤ 100000; omega, Nat.zero_le _⟩, fin_4 h0 hkk h1 jv_i jv_x jv_k h2 hin (by (left; omega)) hp1⟩, Ae (wk1 rfl (wk1 rfl (wk1 rfl (wk1 rfl (wk1 rfl wk0))))) (Ab rM (Ab rM (Ab rM (Ab rM (Cp (Aj sG (Cp (Aj sG (Cp (Aj sG (Aj sG Ad)))))))))))⟩)
    refine G6 ?_
    refine .condP J (fun hc7 => ?_) (fun hc7 => ?_)
    ·
      obtain rfl := hc7
      obtain ⟨x1, r1, h1⟩ : ∃ l r, A0 xs a0 e0 = (l, r) := ⟨_, _, rfl⟩
      obtain ⟨a1, e1⟩ := r1
      have hd1 := Bc h1 hl ha0
      refine G3 ?_
      refine .callL (L := [R1B n19 q19 (o21) n cp19 (a0) (e0)]) J J J J J Body152 (r25_many n19 q19 o21 n cp19 a0 e0 2 dE xs hl ha0 hcp19 hn ho21 x1 a1 e1 h1) (Ab rM Ad) (Au J) (fun w h => ⟨Af h Z1, Ah h Z2, hne⟩) ?_
      rintro v139 out139 ⟨o139, ho139, rfl, rfl⟩
      refine G9 ?_
      refine .loop (ι := LS9 Cert DCert) (fun p => ⟨[(2, ptr n2 0), (3, i64 0), (4, ptr n19 0), (5, ptr n5 0), (6, i64 p.ev), (15, i64 (((min x1.toNat (2 + 1)) : Nat) : Int)), (16, i64 (p.k : Int))], (R1B n19 q19 p.ro n cp19 p.a p.e :: (⟨q19, Aa xs, 5, cp19 * 1⟩ :: (⟨n2, Msg.zero.cells, 57, 8⟩ :: (⟨n5, ({ (mz 5 0) with fCerts := p.s } : Msg).cells, 57, 8⟩ :: (p.bl ++ (p.o ++ []))))))⟩) (fun p => p.k ≤ (min x1.toNat (2 + 1)) ∧ p.a ≤ n ∧ At1 cp19 p.a p.ro ∧ OwnSeq Cert.cells 35 CertIs 55 p.s p.bl p.o p.rs p.vs p.k ∧ ItInv Bv xs a1 e1 0 p.k p.vs p.a p.e p.ev) (fun p => (min x1.toNat (2 + 1)) - p.k) (⟨0, Sl.nil, [], [], [], [], a1, e1, 0, o139⟩) ?_ ?_ ?_
      · exact ⟨Nat.zero_le _, hd1, ho139, ⟨Acc.none, rfl, rfl, fun r h => (by cases h), fun W2 _ i r d h => (by simp at h)⟩, inv_zero _ _ _⟩
      · exact Ae (wk1 rfl (wk1 rfl (wk1 rfl (wk1 rfl (wk1 rfl (wk1 rfl (wk1 rfl wk0))))))) (Ab rM (Ab rM (Ab rM (Ab rM (Cd (Cd Ad))))))
      rintro p ⟨hp1, hpa, hop, hos, hin⟩
      obtain ⟨o8, r8, h8⟩ : ∃ l r, blkR xs p.a p.e = (l, r) := ⟨_, _, rfl⟩
      obtain ⟨a8, e8⟩ := r8
      have hd8 := blkE_le h8 hl hpa
      have hvl := hin.1
      refine G5 ?_
      refine two (fun r hr k => Tr.lss J J J J hr k) (fun hs37_20 => ?_) (fun hs37_20 => ?_)
      ·
        have hs37_2 := of_decide_eq_true hs37_20
        refine G4 ?_
        refine .load1 J J J Y32.h J Z0 (by exact Rdr.get_fE (by exact ⟨trivial⟩)) ?_
        refine two (fun r hr k => Tr.eqi J J J J hr k) (fun hs37_80 => ?_) (fun hs37_80 => ?_)
        ·
          have hs37_8 := of_decide_eq_true hs37_80
          refine G3 ?_
          refine two (fun r hr k => Tr.eqi J J J J hr k) (fun hs37_120 => ?_) (fun hs37_120 => ?_)
          ·
            have hs37_12 := of_decide_eq_true hs37_120
            refine G3 ?_
            refine .cond_t J J (G6 ?_)
            refine .alloc (cs := Cert.zero.cells) J Cert.zr J ?_
            intro n17 hn17 hf17
            refine G5 ?_
            refine .callL (L := [R1B n19 q19 (p.ro) n cp19 (p.a) (p.e)]) J J J J J Body137 (r1_BlockE n19 q19 p.ro n cp19 p.a p.e xs hl hpa hcp19 oM hop o8 a8 e8 h8) (Ab rM Ad) (Au J) (fun w h => ⟨Af h Z1, Ah h Z2, hne⟩) ?_
            rintro v158 out158 ⟨s158, bl158, o158, ho158, rfl, hac158, rfl⟩
            simp only [List.append_assoc, List.cons_append, List.nil_append]
            have hm158 := hac158.num
            refine .call4 J J J J J Body41 (r25_ReadCert s158.p s158.n s158.c (o8.getD []) hm158.symm (fun e => hac158.nil e) (by rw [hm158]; omega)) (fun w h => hac158.see (Lies.of h (by repeat (exact Ar)))) ?_
            rintro v159 out159 ⟨X159, okX, rfl, hX159⟩
            try simp only [List.append_assoc, List.cons_append, List.nil_append]
            refine G9 ?_
            refine .load1 J J J Y23.h J mR (by exact Msg.get_fCerts (by exact ⟨trivial⟩)) ?_
            refine G1 ?_
            refine .mkRow2 (z := agg Cert.zero.cells) [agg X159.cells] X159.cells J J Y23.h Sz55 Cert.zr J J (by intro v hv; rw [List.mem_singleton.1 hv]; simp [Value.cells, Cert.length okX]) dE (by simp [Value.cells]) ?_
            intro q165
            refine .appendAcc (z := agg Cert.zero.cells) (by' := 88) (X159.cells) J J J J J Y23.h Y23.h Sz55 Zr55 (by unfold By; kernel_rfl) J hos.acc sG (fun w h => SeesP.of (Ah h Z0)) (fun e => by cases e) (Cert.isCell okX) oM oM (by rw [Cert.length okX]) ?_
            intro s166 bl166 hac166
            refine G1 ?_
            refine .s1 J J J J J Sz23 mR (by rw [Msg.length (by exact ⟨trivial⟩)]; decide) (by exact Msg.set_fCerts (by exact ⟨trivial⟩) _) uU ?_
            refine G9 ?_
            exact ⟨⟨p.k + 1, s166, bl166, out159 ++ p.o, p.rs ++ [X159], p.vs ++ [(Bv (o8.getD [])).1], a8, e8, (Bv (o8.getD [])).2, o158⟩, ⟨by simp only []; omega, hd8.1, ho158, hos.snoc (by simpa using hac166) (Cert.length okX) hX159, inv_step hin zA zA h8⟩, by simp only []; omega, Ae (wk1 rfl (wk1 rfl (wk1 rfl (wk1 rfl (wk1 rfl (wk1 rfl (wk1 rfl wk0))))))) (Ab rM (Ab rM (Ab rM (Ab rM (Aj sG (Cp (Aj sG (Aj sG Ad))))))))⟩
          have hs37_12 := of_decide_eq_false hs37_120
          refine G3 ?_
          refine .cond_f J J (G6 ?_)
          first
            | (have hvk := hin.1
               exact ⟨⟨{ mz 5 0 with fCerts := p.s }, { dz 5 0 with dCerts := p.vs }, p.a, p.e, p.ev, p.ro, p.bl ++ p.o⟩, ⟨hpa, hop, (fun W2 hl => (mz_is 5 0 rfl).putCerts ⟨_, hos.seq (hl.sub (by repeat (exact Ar))) (hl.sub (by repeat (first | exact in_all | refine Bn ?_))) oM⟩), ⟨Nat.zero_le _, Nat.zero_le _, Nat.zero_le _, Nat.zero_le _, Nat.zero_le _, by show p.vs.length ≤ 100000; omega⟩, fin_5 h0 hkk h1 hin (by (right; right; assumption)) hp1⟩, Ae (wk1 rfl (wk1 rfl (wk1 rfl (wk1 rfl (wk1 rfl wk0))))) (Ab rM (Ab rM (Ab rM (Ab rM (Cp (Aj sG (Aj sG Ad)))))))⟩)
        have hs37_8 := of_decide_eq_false hs37_80
        refine G7 ?_
        refine .cond_f J J (G6 ?_)
        first
          | (have hvk := hin.1
             exact ⟨⟨{ mz 5 0 with fCerts := p.s }, { dz 5 0 with dCerts := p.vs }, p.a, p.e, p.ev, p.ro, p.bl ++ p.o⟩, ⟨hpa, hop, (fun W2 hl => (mz_is 5 0 rfl).putCerts ⟨_, hos.seq (hl.sub (by repeat (exact Ar))) (hl.sub (by repeat (first | exact in_all | refine Bn ?_))) oM⟩), ⟨Nat.zero_le _, Nat.zero_le _, Nat.zero_le _, Nat.zero_le _, Nat.zero_le _, by show p.vs.length ≤ 100000; omega⟩, fin_5 h0 hkk h1 hin (by (right; left; assumption)) hp1⟩, Ae (wk1 rfl (wk1 rfl (wk1 rfl (wk1 rfl (wk1 rfl wk0))))) (Ab rM (Ab rM (Ab rM (Ab rM (Cp (Aj sG (Aj sG Ad)))))))⟩)
      have hs37_2 := of_decide_eq_false hs37_20
      refine G13 ?_
      refine .cond_f J J (G6 ?_)
      first
        | (have hvk := hin.1
           exact ⟨⟨{ mz 5 0 with fCerts := p.s }, { dz 5 0 with dCerts := p.vs }, p.a, p.e, p.ev, p.ro, p.bl ++ p.o⟩, ⟨hpa, hop, (fun W2 hl => (mz_is 5 0 rfl).putCerts ⟨_, hos.seq (hl.sub (by repeat (exact Ar))) (hl.sub (by repeat (first | exact in_all | refine Bn ?_))) oM⟩), ⟨Nat.zero_le _, Nat.zero_le _, Nat.zero_le _, Nat.zero_le _, Nat.zero_le _, by show p.vs.length ≤ 100000; omega⟩, fin_5 h0 hkk h1 hin (by (left; omega)) hp1⟩, Ae (wk1 rfl (wk1 rfl (wk1 rfl (wk1 rfl (wk1 rfl wk0))))) (Ab rM (Ab rM (Ab rM (Ab rM (Cp (Aj sG (Aj sG Ad)))))))⟩)
    refine G6 ?_
    refine .condP J (fun hc9 => ?_) (fun hc9 => ?_)
    ·
      obtain rfl := hc9
      obtain ⟨x1, r1, h1⟩ : ∃ l r, A0 xs a0 e0 = (l, r) := ⟨_, _, rfl⟩
      obtain ⟨a1, e1⟩ := r1
      have hd1 := Bc h1 hl ha0
      refine G2 ?_
      refine .callL (L := [R1B n19 q19 (o21) n cp19 (a0) (e0)]) J J J J J Body138 (B4 n19 q19 o21 n cp19 a0 e0 xs hl ha0 hcp19 oM ho21 x1 a1 e1 h1) (Ab rM Ad) (Au J) (fun w h => ⟨Af h Z1, Ah h Z2, hne⟩) ?_
      rintro v171 out171 ⟨o171, ho171, rfl, rfl⟩
      refine G1 ?_
      refine .s1 J J J J J Sz48 Z1 (by rw [Msg.length (by exact ⟨trivial⟩)]; decide) (Msg.set_fHeight (by exact ⟨trivial⟩) _) zV ?_
      refine G3 ?_
      exact ⟨⟨{ mz 6 0 with fHeight := x1 }, { dz 6 0 with dHeight := x1 }, a1, e1, 0, o171, []⟩, ⟨hd1, ho171, (fun W2 hl => (mz_is 6 0 rfl).putHeight x1), few_dz 6 x1, fin_6 h0 hkk h1⟩, Ae (wk1 rfl (wk1 rfl (wk1 rfl (wk1 rfl (wk1 rfl wk0))))) (Ab rM (Ab rM (Ab rM (Ab rM (Cd Ad)))))⟩
    refine G3 ?_
    exact ⟨⟨(mz kk 0), (dz kk 0), a0, e0, 0, o21, []⟩, ⟨ha0, ho21, (fun W2 hl => mz_is kk 0 hwf), few_dz kk 0, fin_out h0 hkk oM⟩, Ae (wk1 rfl (wk1 rfl (wk1 rfl (wk1 rfl (wk1 rfl wk0))))) (Ab rM (Ab rM (Ab rM (Ab rM (Cd Ad)))))⟩
  intro j hj
  obtain ⟨hja, hjo, hjm, hjf, hjF⟩ := hj
  refine G4 ?_
  refine .cV J J J J Body140 (r1_End n19 q19 j.ro n cp19 j.a j.e hja oM) (fun w h => Af h Z0) ?_
  refine two (fun r hr k => Tr.nei J J J J hr k) (fun hs44_20 => ?_) (fun hs44_20 => ?_)
  ·
    have hs44_2 := nd_t hs44_20
    refine G11 ?_
    refine .cond_t J J (G2 ?_)
    refine .build (cs := Msg.zero.cells) J J J (fun w => by kernel_rfl) ?_
    refine G7 ?_
    refine Ai (out := []) (Aw J J J Y57.h J Sz57 Z2 (by exact Msg.length (by exact Msg.zero_ok))) Ad ?_
    first
      | exact Cj (hjF.2 (by rw [hl]; exact fun h => hs44_2 h.1))
      | exact Cj (hjF.2 (by rw [hl]; exact fun h => hs44_5 h.2.1))
      | exact Cj (hjF.2 (by rw [hl]; exact fun h => hc10 h.2.2))
      | (rw [List.append_nil]
         exact msg_okR (hjF.1 (by rw [hl]; exact ⟨by assumption, by assumption, by first | assumption | (simpa using hc10)⟩)) hjm)
  have hs44_2 := nd_f hs44_20
  refine G2 ?_
  refine two (fun r hr k => Tr.nei J J J J hr k) (fun hs44_50 => ?_) (fun hs44_50 => ?_)
  ·
    have hs44_5 := nd_t hs44_50
    refine G8 ?_
    refine .cond_t J J (G2 ?_)
    refine .build (cs := Msg.zero.cells) J J J (fun w => by kernel_rfl) ?_
    refine G7 ?_
    refine Ai (out := []) (Aw J J J Y57.h J Sz57 Z2 (by exact Msg.length (by exact Msg.zero_ok))) Ad ?_
    first
      | exact Cj (hjF.2 (by rw [hl]; exact fun h => hs44_2 h.1))
      | exact Cj (hjF.2 (by rw [hl]; exact fun h => hs44_5 h.2.1))
      | exact Cj (hjF.2 (by rw [hl]; exact fun h => hc10 h.2.2))
      | (rw [List.append_nil]
         exact msg_okR (hjF.1 (by rw [hl]; exact ⟨by assumption, by assumption, by first | assumption | (simpa using hc10)⟩)) hjm)
  have hs44_5 := nd_f hs44_50
  refine G2 ?_
  refine .lA J J J Y57.h J Sz57 Z3 (Msg.length (by exact ⟨trivial⟩)) ?_
  refine .cV J J J J Body46 (r25_Check j.m j.D hjf) (fun w h => hjm w (Lies.of h (by repeat (first | exact Ar | refine B0 ?_)))) ?_
  refine G4 ?_
  refine .condNP J (fun hc10 => ?_) (fun hc10 => ?_)
  ·
    refine G2 ?_
    refine .build (cs := Msg.zero.cells) J J J (fun w => by kernel_rfl) ?_
    refine G7 ?_
    refine Ai (out := []) (Aw J J J Y57.h J Sz57 Z2 (by exact Msg.length (by exact Msg.zero_ok))) Ad ?_
    first
      | exact Cj (hjF.2 (by rw [hl]; exact fun h => hs44_2 h.1))
      | exact Cj (hjF.2 (by rw [hl]; exact fun h => hs44_5 h.2.1))
      | exact Cj (hjF.2 (by rw [hl]; exact fun h => hc10 h.2.2))
      | (rw [List.append_nil]
         exact msg_okR (hjF.1 (by rw [hl]; exact ⟨by assumption, by assumption, by first | assumption | (simpa using hc10)⟩)) hjm)
  refine G4 ?_
  refine .lA J J J Y57.h J Sz57 Z3 (Msg.length (by exact ⟨trivial⟩)) ?_
  refine .sA J J J J (Msg.isCell (by exact ⟨trivial⟩)) Sz57 (Msg.length (by exact ⟨trivial⟩)) Z2 (Msg.length (by exact Msg.zero_ok)) (by exact upd2) ?_
  refine G5 ?_
  refine Ai (out := (j.bl ++ [])) (Aw J J J Y57.h J Sz57 Z2 (by exact Msg.length (by exact ⟨trivial⟩))) (Aj sG Ad) ?_
  first
    | exact Cj (hjF.2 (by rw [hl]; exact fun h => hs44_2 h.1))
    | exact Cj (hjF.2 (by rw [hl]; exact fun h => hs44_5 h.2.1))
    | exact Cj (hjF.2 (by rw [hl]; exact fun h => hc10 h.2.2))
    | (rw [List.append_nil]
       exact msg_okR (hjF.1 (by rw [hl]; exact ⟨by assumption, by assumption, by assumption⟩)) hjm)

theorem seq_two {R D : Type} {cells : R → List Value} {k : Nat} {Is : World → R → D → Prop} {w : World} (q : Nat) (E : TypeId) (r r2 : R) {m : Nat} {d d2 : D} (hl : Lies [⟨q, ([r, r2].map cells).flatten, E, m⟩] w) (h1 : (cells r).length = k) (h2 : (cells r2).length = k) (hm : m = 2 * k) (i1 : Is w r d) (i2 : Is w r2 d2) : SeqIs cells k Is w ⟨some ⟨q, 0, none⟩, 2, 2⟩ [r, r2] [d, d2] := by
  subst hm
  have ha : Hw.Acc ⟨some ⟨q, 0, none⟩, 2, 2⟩ [⟨q, ([r, r2].map cells).flatten, E, 2 * k⟩] ([r, r2].map cells).flatten E 2 k := Acc.some (Nat.le_refl _) (by simp [h1, h2]; omega)
  refine acc_seq ha hl rfl rfl (fun x hx => ?_) sP fun i x y hx hy => ?_
  · simp only [List.mem_cons, List.not_mem_nil, or_false] at hx
    rcases hx with rfl | rfl
    · exact h1
    · exact h2
  · match i, hx, hy with
    | 0, hx, hy => cases hx; cases hy; exact i1
    | 1, hx, hy => cases hx; cases hy; exact i2
theorem two_light {E E2 : DCert} (h : lightOf lightEf [E, E2] 2 = true) : E.dCut.dHeads.length ≤ 40 ∧ E2.dCut.dHeads.length ≤ 40 := by
  simp only [lightOf, lightEf, Bool.and_eq_true, List.all_cons, List.all_nil, decide_eq_true_eq] at h
  omega
theorem light_few {D : DMsg} (h : D.light = true) : D.Few ∧ D.tiny := by
  have s := light_small h
  exact ⟨⟨by have := s.heads; omega, by have := s.want; omega, by have := s.nB; omega, by have := s.votes; omega, by have := s.nC; omega, by have := s.nE; omega⟩,
    ⟨by have := s.heads; omega, by have := s.want; omega, fun d hd => by have := (s.blocks d hd).1; omega, fun d hd => by have := s.cuts d hd; omega, fun d hd => by have := (s.certs d hd).1; omega⟩⟩
theorem certRd_ok0 {xs : List UInt8} (h : (Bv xs).2 = 0) : (Bv xs).1.check = 0 := by
  revert h
  unfold Bv
  split
  · split
    · split
      · rename_i hg
        intro _; exact hg.2
      · intro h; exact absurd h (show ¬ (4 : Int) = 0 by decide)
    · intro h; exact absurd h (show ¬ (4 : Int) = 0 by decide)
  · intro h; exact absurd h (show ¬ (4 : Int) = 0 by decide)
theorem certRd_small (xs : List UInt8) : (Bv xs).1.dCut.dHeads.length ≤ 1000 := by
  by_cases h : (Bv xs).2 = 0
  · have := (Bv xs).1.dCut.small (DCert.facts (certRd_ok0 h)).1; omega
  · have e : Bv xs = (dcertz, 4) := by
      revert h
      unfold Bv
      split
      · split
        · split
          · intro h; exact absurd rfl h
          · intro _; rfl
        · intro _; rfl
      · intro _; rfl
    rw [e]; exact Nat.zero_le _
theorem msgRd_tiny (xs : List UInt8) : (msgRd xs).1.tiny := by
  unfold msgRd
  cases rS7 xs with
  | none => exact ⟨Nat.zero_le _, Nat.zero_le _, (fun d hd => by cases hd), (fun d hd => by cases hd), (fun d hd => by cases hd)⟩
  | some r =>
    obtain ⟨D, a, e⟩ := r
    rw [msgFin_some]
    split
    · rename_i g
      exact msg_tiny g.2
    · exact ⟨Nat.zero_le _, Nat.zero_le _, (fun d hd => by cases hd), (fun d hd => by cases hd), (fun d hd => by cases hd)⟩

theorem law_synccalls (C : Cert) (E : DCert) (C2 : Cert) (E2 : DCert) (m : Msg) (D : DMsg) (m2 : Msg) (D2 : DMsg) (s : Sl) (xs : List UInt8) : Meets Tryz.prog 6 [agg C.cells, agg C2.cells, agg m.cells, agg m2.cells, s.v] [] (fun W => CertIs W C E ∧ CertIs W C2 E2 ∧ MsgIs W m D ∧ MsgIs W m2 D2 ∧ BytesAt W s xs) (fun v out => v = .bool true ∧ out = []) := by
 intro W hW
 have hC := hW.1.ok
 have hC2 := hW.2.1.ok
 have hm := hW.2.2.1.ok
 have hm2 := hW.2.2.2.1.ok
 have hsml := certRd_small xs
 have hty := msgRd_tiny xs
 have hEl := hW.1.fCut.fHeads.len
 refine Ak Tryz.func6 J 164 Tryz.ntmps6 J (G3 ?_)
 intro n5 hn5 hf5
 refine G1 ?_
 intro n6 hn6 hf6
 refine G1 ?_
 intro n7 hn7 hf7
 refine G1 ?_
 intro n8 hn8 hf8
 refine G6 ?_
 refine .cV J J J J Body23 (law25_lives) tV (G3 ?_)
 refine .cond_f J (rfl) (G7 ?_)
 refine .mkRow (z := agg Cert.zero.cells) [agg C.cells, agg C2.cells] ([C, C2].map Cert.cells).flatten J J J Y23.h Sz55 Cert.zr J J (by intro v hv; simp only [List.mem_cons, List.not_mem_nil, or_false] at hv; rcases hv with rfl | rfl; exact Cert.length hC; exact Cert.length hC2) dE (by simp [Value.cells]) ?_
 intro q25
 refine .callB J J J J Body24 (lightd_certs ⟨some ⟨q25, 0, none⟩, 2, 2⟩ [E, E2] 2) (fun w h => ⟨_, seq_two q25 55 C C2 (Lies.of h (by intro b hb; rw [List.mem_singleton.1 hb]; exact Bw)) (Cert.length hC) (Cert.length hC2) (by simp [Cert.length hC, Cert.length hC2]) (hW.1.ext h J) (hW.2.1.ext h J)⟩) (fun hs3_30 => ?_) (fun hs3_30 => ?_)
 ·
  have hs3_3 := hs3_30
  refine G3 ?_
  refine .callB J J J J Body25 (light_msg m D) (fun w h => hW.2.2.1.ext h J) (fun hs3_70 => ?_) (fun hs3_70 => ?_)
  ·
   have hs3_7 := hs3_70
   refine G4 ?_
   refine .callB J J J J Body25 (light_msg m2 D2) (fun w h => hW.2.2.2.1.ext h J) (fun hs3_120 => ?_) (fun hs3_120 => ?_)
   ·
    have hs3_12 := hs3_120
    refine G9 ?_
    refine .condP J (fun hc1 => ?_) (fun hc1 => ?_)
    ·
     refine G8 ?_
     refine ⟨_, [], Ac J J, sP, sP, ?_, rfl⟩
     rfl
    have hl2 := two_light hs3_3
    obtain ⟨hfew, htn⟩ := light_few hs3_7
    refine G5 ?_
    refine .call4 J J J J J Body30 (cert_bytes C E) (fun w h => hW.1.ext h J) ?_
    rintro v45 out45 ⟨s45, rfl, hac45⟩
    refine G10 ?_
    refine .call4 J J J J J Body40 (r25_CertBytes C E) (fun w h => hW.1.ext h J) ?_
    rintro v50 out50 ⟨s50, rfl, hac50⟩
    refine G10 ?_
    refine .call4 J J J J J Body27 (kit_own s xs oM) (fun w h => bytes_ext h J hW.2.2.2.2) ?_
    rintro v55 out55 ⟨q55, c55, rfl, hc55, rfl⟩
    refine .call4 J J J J J Body29 (meets_know (cert_read (some ⟨q55, 0, none⟩) s.n c55 xs hW.2.2.2.2.len (fun e => by cases e) oM) certread_know) (fun w h => SeesP.of (Ah h Z0)) ?_
    rintro v56 out56 ⟨C56, ok56, rfl, l56, h56⟩
    refine G3 ?_
    refine .alloc (cs := Cert.zero.cells) J Cert.zr J ?_
    intro n15 hn15 hf15
    refine G7 ?_
    refine .call4 J J J J J Body41 (r25_ReadCert s.p s.n s.c xs hW.2.2.2.2.len (fun e => by have h1 := hW.2.2.2.2.nil e; have h2 := hW.2.2.2.2.cap; omega) oM) (fun w h => Ao h J hW.2.2.2.2.see) ?_
    rintro v61 out61 ⟨C61, ok61, rfl, h61⟩
    refine G3 ?_
    refine .alloc (cs := Cert.zero.cells) J Cert.zr J ?_
    intro n17 hn17 hf17
    refine G6 ?_
    refine .draw [(0, 0), (1, 1), (0, 2), (1, 3), (0, 4), (0, 5), (0, 6), (0, 7), (0, 8), (0, 9), (0, 10), (1, 11), (1, 12), (3, 13), (0, 14), (0, 15), (0, 16), (0, 17), (0, 18), (0, 19), (0, 20), (0, 21), (1, 22), (1, 24), (3, 23), (3, 25), (0, 26), (0, 27), (0, 28), (1, 29), (1, 30), (1, 32), (1, 33), (3, 31), (3, 34), (0, 35), (0, 36)] Be zK (G1 ?_)
    refine .toStr J J J Y58.h Y5.h Y9 (fun w h => hac45.see (Lies.of h (by repeat (first | exact Ar | refine B0 ?_ | refine Bn ?_)))) hac45.num.symm ?_
    refine G1 ?_
    refine .toStr J J J Y58.h Y5.h Y9 (fun w h => hac50.see (Lies.of h (by repeat (first | exact Ar | refine B0 ?_ | refine Bn ?_)))) hac50.num.symm ?_
    refine .neq_str J J J J (show (!decide _) = false from congrArg not (decide_eq_true sP)) (G3 ?_)
    refine .nei J J J J (show (!decide _) = false from congrArg not (decide_eq_true sP)) (G4 ?_)
    refine .cV J J J J Body32 ((kit_cert C56 C61 (Bv xs).1 (Bv xs).1 oM).imp (fun w h => h) (fun v out h => by rwa [sameE_self] at h)) (fun w h => ⟨h56 w (Lies.of h (by repeat (first | exact Ar | refine B0 ?_ | refine Bn ?_))), h61 w (Lies.of h (by repeat (first | exact Ar | refine B0 ?_)))⟩) ?_
    refine G5 ?_
    refine .nei J J J J (show (!decide _) = false from congrArg not (decide_eq_true sP)) (G4 ?_)
    refine .cV J J J J Body31 (cert_check C E) (fun w h => hW.1.ext h J) (.cV J J J J Body42 (r25_CheckCert C E) (fun w h => hW.1.ext h J) (.nei J J J J (show (!decide _) = false from congrArg not (decide_eq_true sP)) (G6 ?_)))
    refine .cV J J J J Body43 (same_cert C C2 E E2 oM) (fun w h => ⟨hW.1.ext h J, hW.2.1.ext h J⟩) (.cV J J J J Body32 (kit_cert C C2 E E2 oM) (fun w h => ⟨hW.1.ext h J, hW.2.1.ext h J⟩) ?_)
    refine .neb (r := false) J J J J Y4 (by first
       | simp) ?_
    refine G3 ?_
    refine .cond_f J (rfl) (G5 ?_)
    refine .call4 J J J J J Body33 (kit_own_msg m D hs3_7) (fun w h => hW.2.2.1.ext h J) ?_
    rintro v103 out103 ⟨m103, ok103, rfl, h103⟩
    refine .call4 J J J J J Body28 (msg_bytes m103 D) (fun w h => h103 w (Lies.of h (by repeat (exact Ar)))) ?_
    rintro v104 out104 ⟨s104, rfl, hac104⟩
    refine G10 ?_
    refine .call4 J J J J J Body44 (r25_Bytes m D hfew) (fun w h => hW.2.2.1.ext h J) ?_
    rintro v109 out109 ⟨s109, rfl, hac109⟩
    refine G10 ?_
    refine .call4 J J J J J Body27 (kit_own s xs oM) (fun w h => bytes_ext h J hW.2.2.2.2) ?_
    rintro v114 out114 ⟨q114, c114, rfl, hc114, rfl⟩
    refine .call4 J J J J J Body26 (sync_read (some ⟨q114, 0, none⟩) s.n c114 xs hW.2.2.2.2.len (fun e => by cases e) oM) (fun w h => SeesP.of (Ah h Z0)) ?_
    rintro v115 out115 ⟨m115, ok115, rfl, h115⟩
    refine G3 ?_
    refine .alloc (cs := Msg.zero.cells) J Msg.zr J ?_
    intro n19 hn19 hf19
    refine G7 ?_
    refine .call4 J J J J J Body45 (r25_Read s.p s.n s.c xs hW.2.2.2.2.len (fun e => by have h1 := hW.2.2.2.2.nil e; have h2 := hW.2.2.2.2.cap; omega) oM) (fun w h => Ao h J hW.2.2.2.2.see) ?_
    rintro v120 out120 ⟨m120, ok120, rfl, h120⟩
    refine G3 ?_
    refine .alloc (cs := Msg.zero.cells) J Msg.zr J ?_
    intro n20 hn20 hf20
    refine G5 ?_
    refine .draw [(0, 0), (1, 1), (0, 2), (1, 3), (0, 4), (0, 5), (0, 6), (0, 7), (0, 8), (0, 9), (0, 10), (1, 11), (1, 12), (3, 13), (0, 14), (0, 15), (0, 16), (0, 17), (0, 18), (0, 19), (0, 20), (1, 21), (1, 23), (3, 22), (3, 24), (0, 25), (0, 26), (0, 27), (1, 28), (1, 29), (1, 31), (1, 32), (3, 30), (3, 33), (0, 34), (0, 35), (0, 36), (1, 37), (1, 38), (3, 39), (0, 40), (0, 41)] Be zK (G1 ?_)
    refine .toStr J J J Y58.h Y5.h Y9 (fun w h => hac104.see (Lies.of h (by repeat (first | exact Ar | refine B0 ?_ | refine Bn ?_)))) hac104.num.symm ?_
    refine G1 ?_
    refine .toStr J J J Y58.h Y5.h Y9 (fun w h => hac109.see (Lies.of h (by repeat (first | exact Ar | refine B0 ?_ | refine Bn ?_)))) hac109.num.symm ?_
    refine .eql_str J J J J (decide_eq_true (rfl)) (G3 ?_)
    refine .eqi J J J J (decide_eq_true (rfl)) (G4 ?_)
    refine .cV J J J J Body35 (kit_msg_same m115 m120 (msgRd xs).1 hty) (fun w h => ⟨h115 w (Lies.of h (by repeat (first | exact Ar | refine B0 ?_ | refine Bn ?_))), h120 w (Lies.of h (by repeat (first | exact Ar | refine B0 ?_)))⟩) ?_
    refine G4 ?_
    refine .eqi J J J J (decide_eq_true (rfl)) (G4 ?_)
    refine .cV J J J J Body34 (msg_check m D) (fun w h => hW.2.2.1.ext h J) (.cV J J J J Body46 (r25_Check m D hfew) (fun w h => hW.2.2.1.ext h J) (.eqi J J J J (decide_eq_true (rfl)) (G6 ?_)))
    refine .cV J J J J Body47 (same_msg m m2 D D2 htn) (fun w h => ⟨hW.2.2.1.ext h J, hW.2.2.2.1.ext h J⟩) (.cV J J J J Body35 (kit_msg m m2 D D2 htn) (fun w h => ⟨hW.2.2.1.ext h J, hW.2.2.2.1.ext h J⟩) (.eqb (r := true) J J J J Y4 sP (G4 ?_)))
    refine .cV J J J J Body47 ((same_msg m m D D htn).imp (fun w h => h) (fun v out h => by rwa [sameM_self] at h)) (fun w h => ⟨hW.2.2.1.ext h J, hW.2.2.1.ext h J⟩) ?_
    refine G6 ?_
    refine ⟨_, [], Ac J J, sP, sP, ?_, rfl⟩
    rfl
   have hs3_12 := hs3_120
   refine G9 ?_
   refine .cond_t J J (G8 ?_)
   refine ⟨_, [], Ac J J, sP, sP, ?_, rfl⟩
   rfl
  have hs3_7 := hs3_70
  refine G14 ?_
  refine .cond_t J J (G8 ?_)
  refine ⟨_, [], Ac J J, sP, sP, ?_, rfl⟩
  rfl
 have hs3_3 := hs3_30
 refine G18 ?_
 refine .cond_t J J (G8 ?_)
 refine ⟨_, [], Ac J J, sP, sP, ?_, rfl⟩
 rfl
end Go.Proofs.YtdifpjmfabhpiaaGreat
end

section
namespace Go.Proofs.YtdifpjmfabhpiaaGreat
open Go Go.ChangeShapes Go.WideShapes Go.ChangeAt Go.RowKit

theorem ownSCl : ownKnob Tryz.prog.godebug = none := by kernel_rfl
theorem laidOutSCl : laidOutB Tryz.prog = true := by kernel_rfl

theorem openSlSCl {H : Type} {enc : TypeId × Value → H} {P : Program} {W : World} {base : Nat} {sp : Nat → Bool} {held : Bool} {k e : TypeId} (hu : P.underlying k = some (.slice e)) (he : P.underlying e = some (.int .u8)) (hc : P.cellsOf e = 1) {r : Reach} {b0 : Nat} {v : Value} {d : DataW H} {ps : List MemPlace}
    (hval : Value.okWide P W r b0 k v) (hd : DataW.Trod enc P W base sp held k v d ps) : ∃ s l, v = Hw.Sl.v s ∧ Hw.BytesAt W s l := by
  simp only [Value.okWide, hu, Cell.okWide] at hval
  obtain ⟨a1, len, cap, rfl⟩ : ∃ a1 len cap, v = .slice a1 len cap := by
    unfold Cell.ok at hval
    rw [hu] at hval
    split at hval <;> first | exact hval.elim | exact ⟨_, _, _, rfl⟩ | simp_all
  obtain ⟨fuel, hf⟩ := hd
  obtain ⟨s, l, h1, h2⟩ := Hw.open_bytesS hu he hc hf
  refine ⟨s, l, ?_, h2⟩
  simp [Value.cells] at h1
  exact h1

theorem walkSCl (w : World) (x0 : Cert) (D0 : DCert) (is0 : CertIs w x0 D0) (x1 : Cert) (D1 : DCert) (is1 : CertIs w x1 D1) (x2 : Msg) (D2 : DMsg) (is2 : MsgIs w x2 D2) (x3 : Msg) (D3 : DMsg) (is3 : MsgIs w x3 D3) (s4 : Hw.Sl) (l4 : List UInt8) (hs4 : Hw.BytesAt w s4 l4) : Calls Tryz.prog 6 #[Hw.agg x0.cells, Hw.agg x1.cells, Hw.agg x2.cells, Hw.agg x3.cells, Hw.Sl.v s4] w fun e w' => e = .returned (.bool true) ∧ Below w.heap.size w w' :=
  by
  have fin : ∀ {us : Array Value}, Calls Tryz.prog 6 us w (fun e W' => ∃ v out, e = .returned v ∧ (v = .bool true ∧ out = []) ∧ Hw.Ret [] out w W') → Calls Tryz.prog 6 us w (fun e w' => e = .returned (.bool true) ∧ Below w.heap.size w w') :=
    fun h => h.mono fun e w' ⟨v, out, he, ⟨hv, ho⟩, hr⟩ => ⟨by rw [he, hv], Hw.Keeps.below hr.keeps⟩
  exact fin (law_synccalls x0 D0 x1 D1 x2 D2 x3 D3 s4 l4 w ⟨is0, is1, is2, is3, hs4⟩)

theorem liftedSCl (os : Os) (started : os.Started) (H : Type) (enc : TypeId × Value → H) :
    ReturnsInHanded {} Tryz.checked os 6 .any (Rows.syncCallsSpec.pre6 enc Tryz.prog Tryz.f6 Rows.syncCallsRow.domain false) (Rows.syncCallsSpec.post enc Tryz.prog Tryz.f6 false true false false) := by
  refine returnsInHanded_of_change (C := Tryz.checked) ownSCl started (by kernel_rfl) Tryz.func6
    (ChangeSpec.witness6 (enc := enc) (C := Tryz.checked) false ⟨#[], #[.agg (#[.int .u64 0] ++ Array.replicate 32 (.int .u8 0) ++ #[.slice none 0 0, .slice none 0 0]), .agg (#[.int .u64 0] ++ Array.replicate 32 (.int .u8 0) ++ #[.slice none 0 0, .slice none 0 0]), .agg #[.int .i64 0, .int .u64 0, .slice none 0 0, .slice none 0 0, .slice none 0 0, .slice none 0 0, .slice none 0 0, .slice none 0 0], .agg #[.int .i64 0, .int .u64 0, .slice none 0 0, .slice none 0 0, .slice none 0 0, .slice none 0 0, .slice none 0 0, .slice none 0 0], .slice none 0 0], []⟩ 8 (by kernel_rfl) (by kernel_rfl) (by kernel_rfl) (by kernel_rfl)) ?_
  intro W base args ds gs before hval0 hW hcnd _
  have hval : ∀ (j : Nat) t v, Tryz.f6.params[j]? = some t → args[j]? = some v → Value.okWide Tryz.prog W .any base t v := hval0
  have hW' := hW
  obtain ⟨p, q, hA0, hV, rfl, hfz, hnd⟩ := hW
  have hA : DataW.TrodAll enc Tryz.prog W 0 (fun _ => true) true Tryz.f6.params.toList args.toList ds p := hA0
  rw [Tryz.params6] at hA hval
  obtain ⟨v0, vs0, d0, ds0, p0, q0, hargs, rfl, rfl, h0, r0⟩ := trodAll_cons hA
  obtain ⟨v1, vs1, d1, ds1, p1, q1, rfl, rfl, rfl, h1, r1⟩ := trodAll_cons r0
  obtain ⟨v2, vs2, d2, ds2, p2, q2, rfl, rfl, rfl, h2, r2⟩ := trodAll_cons r1
  obtain ⟨v3, vs3, d3, ds3, p3, q3, rfl, rfl, rfl, h3, r3⟩ := trodAll_cons r2
  obtain ⟨v4, vs4, d4, ds4, p4, q4, rfl, rfl, rfl, h4, r4⟩ := trodAll_cons r3
  obtain ⟨rfl, rfl, rfl⟩ := trodAll_nil r4
  obtain rfl : args = #[v0, v1, v2, v3, v4] := by cases args; simp_all
  obtain ⟨rfl, rfl⟩ := trodVars_none hV
  have k0 := h0
  have lt0 : ∀ x ∈ p0, x.block < W.heap.size := by obtain ⟨m, hm⟩ := k0; exact DataW.trod_lt m _ _ _ hm
  have k1 := h1
  have lt1 : ∀ x ∈ p1, x.block < W.heap.size := by obtain ⟨m, hm⟩ := k1; exact DataW.trod_lt m _ _ _ hm
  have k2 := h2
  have lt2 : ∀ x ∈ p2, x.block < W.heap.size := by obtain ⟨m, hm⟩ := k2; exact DataW.trod_lt m _ _ _ hm
  have k3 := h3
  have lt3 : ∀ x ∈ p3, x.block < W.heap.size := by obtain ⟨m, hm⟩ := k3; exact DataW.trod_lt m _ _ _ hm
  have k4 := h4
  have lt4 : ∀ x ∈ p4, x.block < W.heap.size := by obtain ⟨m, hm⟩ := k4; exact DataW.trod_lt m _ _ _ hm
  obtain ⟨x0, D0, rfl, is0⟩ := Cert.openW (hval 0 55 v0 rfl rfl) h0
  obtain ⟨x1, D1, rfl, is1⟩ := Cert.openW (hval 1 55 v1 rfl rfl) h1
  obtain ⟨x2, D2, rfl, is2⟩ := Msg.openW (hval 2 57 v2 rfl rfl) h2
  obtain ⟨x3, D3, rfl, is3⟩ := Msg.openW (hval 3 57 v3 rfl rfl) h3
  obtain ⟨s4, l4, rfl, hs4⟩ := openSlSCl Tryz.underlying58 Tryz.underlying5 (by kernel_rfl) (hval 4 58 v4 rfl rfl) h4
  clear hA0 hval0
  refine (walkSCl W x0 D0 is0 x1 D1 is1 x2 D2 is2 x3 D3 is3 s4 l4 hs4).mono fun e W' ⟨he, bel⟩ => ?_
  subst he
  exact ⟨_, rfl, _, _, _, [], _, [], hW', trodAll_mk1 (shut_bool Tryz.underlying4 _), (trodAll_cons_mk (Below.trod laidOutSCl (by kernel_rfl) (of_decide_eq_true (by kernel_rfl)) k0 bel lt0) (trodAll_cons_mk (Below.trod laidOutSCl (by kernel_rfl) (of_decide_eq_true (by kernel_rfl)) k1 bel lt1) (trodAll_cons_mk (Below.trod laidOutSCl (by kernel_rfl) (of_decide_eq_true (by kernel_rfl)) k2 bel lt2) (trodAll_cons_mk (Below.trod laidOutSCl (by kernel_rfl) (of_decide_eq_true (by kernel_rfl)) k3 bel lt3) (trodAll_cons_mk (Below.trod laidOutSCl (by kernel_rfl) (of_decide_eq_true (by kernel_rfl)) k4 bel lt4) trodAll_mk0))))), rfl, bel.frame _, fun h => by cases h⟩

theorem syncCalls_holds : Rows.SyncCallsSaid :=
  OpenClaim.holds_of_wide 6 Tryz.f6 rfl rfl rfl rfl rfl rfl rfl ⟨rfl, rfl, rfl, rfl, rfl⟩ rfl rfl rfl rfl rfl (by kernel_rfl) Tryz.func6 (by kernel_rfl)
    (of_decide_eq_true (by kernel_rfl)) (by unfold Func.isWrapper; first | (rw [if_pos (by decide +kernel)]; kernel_rfl) | (rw [if_neg (by decide +kernel)]; exact ⟨rfl, rfl⟩))
    (fun os started H enc _ => liftedSCl os started H enc)

end Go.Proofs.YtdifpjmfabhpiaaGreat
end
