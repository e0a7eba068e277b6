/- headwaterlaw25.SyncMost returns true at every input, and all that it reads reads behind the call as before. Conditions: none beyond the given statement's own. -/
import Derived.WalkKit
import Derived.Orders
import Derived.Deep.LoopGhost
import Derived.IntWalk
import Derived.Laws.StructEq
import Derived.ArgAppend
import Derived.Deep.AppendSrc
import Derived.Lib.Bytealg
import Derived.Lib.BytesEntry
import Derived.Laws.IdiomStrings
import Derived.WideKeyArr2
import Derived.ProofKit
import Derived.OpenShut
import Derived.Deep.Slices
import Derived.Laws.Pointers
import Derived.Laws.Cover3
import Derived.LaidEqlPtr
import Derived.LoopN
import Derived.RangeFuncLeaves
import Derived.RangeFuncSeq
import Derived.OrdersIn
import Derived.Test.YtdifpjmfabhpiaaGreatRows
import Derived.KernelRfl
import Derived.Laws.Externs
import Derived.Defers
import Derived.ChangeOld
import Derived.Below
import Derived.Test.YtdifpjmfabhpiaaGreatSMostC5
set_option maxRecDepth 100000
set_option maxHeartbeats 8000000
set_option linter.unusedVariables false
set_option linter.unusedSimpArgs false
section
namespace Go.Proofs.YtdifpjmfabhpiaaGreat
open Go Hw

open Classical in
noncomputable def P1 (k : Int) (x : UInt64) : List UInt8 := if ¬ B9 (As k) 1 = 0 then Au x else []
theorem P1_yes {k : Int} {x : UInt64} (h : ¬ B9 (As k) 1 = 0) : P1 k x = Au x := if_pos h
theorem P1_no {k : Int} {x : UInt64} (h : B9 (As k) 1 = 0) : P1 k x = [] := if_neg (fun e => e h)
theorem mB1_app (D : DMsg) : mB1 D = [Hw.Bx D.dKind] ++ P1 D.dKind D.dHeight := by
  by_cases h : B9 (As D.dKind) 1 = 0
  · rw [P1_no h, List.append_nil]; exact if_neg (fun e => e h)
  · rw [P1_yes h]; exact (if_pos h).trans (by simp only [List.append_assoc])
open Classical in
noncomputable def P2 (k : Int) (x : List (List UInt8)) : List UInt8 := if ¬ B9 (As k) 2 = 0 then Au (UInt64.ofNat x.length) ++ x.flatten else []
theorem P2_yes {k : Int} {x : List (List UInt8)} (h : ¬ B9 (As k) 2 = 0) : P2 k x = Au (UInt64.ofNat x.length) ++ x.flatten := if_pos h
theorem P2_no {k : Int} {x : List (List UInt8)} (h : B9 (As k) 2 = 0) : P2 k x = [] := if_neg (fun e => e h)
theorem mB2_app (D : DMsg) : mB2 D = mB1 D ++ P2 D.dKind D.dHeads := by
  by_cases h : B9 (As D.dKind) 2 = 0
  · rw [P2_no h, List.append_nil]; exact if_neg (fun e => e h)
  · rw [P2_yes h]; exact (if_pos h).trans (by simp only [List.append_assoc])
open Classical in
noncomputable def P3 (k : Int) (x : List (List UInt8)) : List UInt8 := if ¬ B9 (As k) 4 = 0 then Au (UInt64.ofNat x.length) ++ x.flatten else []
theorem P3_yes {k : Int} {x : List (List UInt8)} (h : ¬ B9 (As k) 4 = 0) : P3 k x = Au (UInt64.ofNat x.length) ++ x.flatten := if_pos h
theorem P3_no {k : Int} {x : List (List UInt8)} (h : B9 (As k) 4 = 0) : P3 k x = [] := if_neg (fun e => e h)
theorem mB3_app (D : DMsg) : mB3 D = mB2 D ++ P3 D.dKind D.dWant := by
  by_cases h : B9 (As D.dKind) 4 = 0
  · rw [P3_no h, List.append_nil]; exact if_neg (fun e => e h)
  · rw [P3_yes h]; exact (if_pos h).trans (by simp only [List.append_assoc])
open Classical in
noncomputable def P4 (k : Int) (x : List DB) : List UInt8 := if ¬ B9 (As k) 8 = 0 then Au (UInt64.ofNat x.length) ++ Av Bj x else []
theorem P4_yes {k : Int} {x : List DB} (h : ¬ B9 (As k) 8 = 0) : P4 k x = Au (UInt64.ofNat x.length) ++ Av Bj x := if_pos h
theorem P4_no {k : Int} {x : List DB} (h : B9 (As k) 8 = 0) : P4 k x = [] := if_neg (fun e => e h)
theorem mB4_app (D : DMsg) : mB4 D = mB3 D ++ P4 D.dKind D.dBlocks := by
  by_cases h : B9 (As D.dKind) 8 = 0
  · rw [P4_no h, List.append_nil]; exact if_neg (fun e => e h)
  · rw [P4_yes h]; exact (if_pos h).trans (by simp only [List.append_assoc])
open Classical in
noncomputable def P5 (k : Int) (x : List Vote) : List UInt8 := if ¬ B9 (As k) 16 = 0 then Au (UInt64.ofNat x.length) ++ Av Be x else []
theorem P5_yes {k : Int} {x : List Vote} (h : ¬ B9 (As k) 16 = 0) : P5 k x = Au (UInt64.ofNat x.length) ++ Av Be x := if_pos h
theorem P5_no {k : Int} {x : List Vote} (h : B9 (As k) 16 = 0) : P5 k x = [] := if_neg (fun e => e h)
theorem mB5_app (D : DMsg) : mB5 D = mB4 D ++ P5 D.dKind D.dVotes := by
  by_cases h : B9 (As D.dKind) 16 = 0
  · rw [P5_no h, List.append_nil]; exact if_neg (fun e => e h)
  · rw [P5_yes h]; exact (if_pos h).trans (by simp only [List.append_assoc])
open Classical in
noncomputable def P6 (k : Int) (x : List DCut) : List UInt8 := if ¬ B9 (As k) 32 = 0 then Au (UInt64.ofNat x.length) ++ Av cutR x else []
theorem P6_yes {k : Int} {x : List DCut} (h : ¬ B9 (As k) 32 = 0) : P6 k x = Au (UInt64.ofNat x.length) ++ Av cutR x := if_pos h
theorem P6_no {k : Int} {x : List DCut} (h : B9 (As k) 32 = 0) : P6 k x = [] := if_neg (fun e => e h)
theorem mB6_app (D : DMsg) : mB6 D = mB5 D ++ P6 D.dKind D.dCuts := by
  by_cases h : B9 (As D.dKind) 32 = 0
  · rw [P6_no h, List.append_nil]; exact if_neg (fun e => e h)
  · rw [P6_yes h]; exact (if_pos h).trans (by simp only [List.append_assoc])
open Classical in
noncomputable def P7 (k : Int) (x : List DCert) : List UInt8 := if ¬ B9 (As k) 64 = 0 then Au (UInt64.ofNat x.length) ++ Av Bt x else []
theorem P7_yes {k : Int} {x : List DCert} (h : ¬ B9 (As k) 64 = 0) : P7 k x = Au (UInt64.ofNat x.length) ++ Av Bt x := if_pos h
theorem P7_no {k : Int} {x : List DCert} (h : B9 (As k) 64 = 0) : P7 k x = [] := if_neg (fun e => e h)
theorem msgB_app (D : DMsg) : msgB D = mB6 D ++ P7 D.dKind D.dCerts := by
  by_cases h : B9 (As D.dKind) 64 = 0
  · rw [P7_no h, List.append_nil]; exact if_neg (fun e => e h)
  · rw [P7_yes h]; exact (if_pos h).trans (by simp only [List.append_assoc])

theorem itR_fwd {D : Type} {f : List UInt8 → D × Int} {g : D → List UInt8} {xs t : List UInt8} {ds : List D} {a : Nat} (hok : ∀ d ∈ ds, f (g d) = (d, 0) ∧ (g d).length ≤ 1000000) (h : xs.drop a = Av g ds ++ t) : ∀ j, j ≤ ds.length → itR f xs j a 0 = some (ds.take j, a + (Av g (ds.take j)).length, 0) ∧ xs.drop (a + (Av g (ds.take j)).length) = Av g (ds.drop j) ++ t
  | 0, _ => ⟨by simp [itR, Av], by simpa [Av] using h⟩
  | j + 1, hj => by
    obtain ⟨h1, h2⟩ := itR_fwd hok h j oM
    have hd : ds[j]? = some ds[j] := List.getElem?_eq_getElem oM
    obtain ⟨ho, hle⟩ := hok ds[j] (List.getElem_mem oM)
    rw [List.drop_eq_getElem_cons (l := ds) (i := j) oM, listB_cons, blkB, List.append_assoc] at h2
    obtain ⟨h3, h4⟩ := blk_fwd (ds := g ds[j]) oM h2
    have hst := itR_step h1 h3 (by rw [Option.getD_some, ho]) rfl
    rw [Option.getD_some, ho] at hst
    have e : a + (Av g (ds.take (j + 1))).length = a + (Av g (ds.take j)).length + szN (g ds[j]).length + (g ds[j]).length := by
      rw [listB_step g hd, List.length_append, blkB_length oM]; omega
    rw [e]
    refine ⟨?_, h4⟩
    rw [hst, List.take_succ_eq_append_getElem oM]
theorem listR_fwd {D : Type} {f : List UInt8 → D × Int} {g : D → List UInt8} {xs t : List UInt8} {ds : List D} {a M : Nat} (hok : ∀ d ∈ ds, f (g d) = (d, 0) ∧ (g d).length ≤ 1000000) (hM : ds.length ≤ M) (hb : M ≤ 1000) (h : xs.drop a = (Au (UInt64.ofNat ds.length) ++ Av g ds) ++ t) : listR f xs M a 0 = some (ds, a + (Au (UInt64.ofNat ds.length) ++ Av g ds).length, 0) := by
  rw [List.append_assoc] at h
  obtain ⟨g2, h2⟩ := num_fwd h
  have hx : (UInt64.ofNat ds.length).toNat = ds.length := A1 oM
  rw [hx] at g2 h2
  obtain ⟨g3, h3⟩ := itR_fwd hok h2 ds.length (Nat.le_refl _)
  rw [List.take_length] at g3
  unfold listR
  rw [g2]
  simp only [hx]
  rw [if_pos ⟨trivial, hM⟩, g3, List.length_append, Aq, hx]
  congr 2
  rw [Nat.add_assoc]
theorem dgR_fwd {xs t : List UInt8} {ls : List (List UInt8)} {a : Nat} (hls : ∀ l ∈ ls, l.length = 32) (h : xs.drop a = ls.flatten ++ t) : ∀ j, j ≤ ls.length → dgR xs j a 0 = some (ls.take j, a + 32 * j, 0) ∧ xs.drop (a + 32 * j) = (ls.drop j).flatten ++ t
  | 0, _ => ⟨rfl, by simpa using h⟩
  | j + 1, hj => by
    obtain ⟨h1, h2⟩ := dgR_fwd hls h j oM
    rw [List.drop_eq_getElem_cons (l := ls) (i := j) oM, List.flatten_cons, List.append_assoc] at h2
    obtain ⟨h3, h4⟩ := dig_fwd h2 (hls _ (List.getElem_mem oM))
    refine ⟨?_, by rw [show a + 32 * (j + 1) = a + 32 * j + 32 by omega]; exact h4⟩
    rw [dgR_step h1 h3 rfl, List.take_succ_eq_append_getElem oM]
    rfl
theorem dlistR_fwd {xs t : List UInt8} {ls : List (List UInt8)} {a M : Nat} (hls : ∀ l ∈ ls, l.length = 32) (hM : ls.length ≤ M) (hb : M ≤ 1000) (h : xs.drop a = (Au (UInt64.ofNat ls.length) ++ ls.flatten) ++ t) : dlistR xs M a 0 = some (ls, a + (Au (UInt64.ofNat ls.length) ++ ls.flatten).length, 0) := by
  rw [List.append_assoc] at h
  obtain ⟨g2, h2⟩ := num_fwd h
  have hx : (UInt64.ofNat ls.length).toNat = ls.length := A1 oM
  rw [hx] at g2 h2
  obtain ⟨g3, h3⟩ := dgR_fwd hls h2 ls.length (Nat.le_refl _)
  rw [List.take_length] at g3
  unfold dlistR
  rw [g2]
  simp only [hx]
  rw [if_pos ⟨trivial, hM⟩, g3, List.length_append, Aq, hx, flat32 hls]
  congr 2
  rw [Nat.add_assoc, Nat.mul_comm]
theorem stage_fwd {r : RS} {b : Int} {F : DMsg → Nat → Int → RS} {D D2 : DMsg} {a a2 : Nat} (h : r = some (D, a, 0)) (h1 : ¬ B9 (As D.dKind) b = 0 → F D a 0 = some (D2, a2, 0)) (h0 : B9 (As D.dKind) b = 0 → D2 = D ∧ a2 = a) : stageO r b F = some (D2, a2, 0) := by
  by_cases hb : B9 (As D.dKind) b = 0
  · obtain ⟨rfl, rfl⟩ := h0 hb
    exact Bq h hb
  · rw [Ax h hb]; exact h1 hb
theorem byte_kind {k : Int} (h0 : 0 ≤ k) (h7 : k < 256) : ((Hw.Bx k).toUInt64.toNat : Int) = k := by
  rw [byteOf_small h0 h7]; omega
theorem word_fwd {c : UInt8} {t : List UInt8} : wordR (c :: t) 0 0 = (c.toUInt64, 1, 0) := by
  unfold wordR
  rw [if_neg sP, if_neg sP]
  rfl
theorem kind_has {k : Int} (h : 1 ≤ k ∧ k ≤ 6) : (B9 (As k) 1 = 0 ↔ ¬ (k = 1 ∨ k = 6)) ∧ (B9 (As k) 2 = 0 ↔ ¬ (k = 1 ∨ k = 2)) ∧ (B9 (As k) 4 = 0 ↔ ¬ k = 2) ∧ (B9 (As k) 8 = 0 ↔ ¬ k = 3) ∧ (B9 (As k) 16 = 0 ↔ ¬ k = 4) ∧ (B9 (As k) 32 = 0 ↔ ¬ k = 4) ∧ (B9 (As k) 64 = 0 ↔ ¬ k = 5) := by
  obtain ⟨n, rfl⟩ : ∃ n : Nat, k = n := ⟨k.toNat, by omega⟩
  have hn : n = 1 ∨ n = 2 ∨ n = 3 ∨ n = 4 ∨ n = 5 ∨ n = 6 := by omega
  rcases hn with rfl | rfl | rfl | rfl | rfl | rfl <;> decide
theorem len_app (x y : List UInt8) : (x ++ y).length = x.length + y.length := List.length_append
theorem drop_of {X a b : List UInt8} (h : X = a ++ b) : X.drop a.length = b := by rw [h, List.drop_left]
theorem rS_fwd {D : DMsg} (hc : D.check = 0) (o : D.oks) (t : List UInt8) : rS7 (msgB D ++ t) = some (D, (msgB D).length, 0) := by
  obtain ⟨hd, he⟩ := (valid_iff D).1 hc
  obtain ⟨hk, g1, g2, g3, g4, g5, g6, g7, g8, g9, g10, g11, g12, g13, g14, g15⟩ := hd
  obtain ⟨k1, k2, k3, k4, k5, k6, k7⟩ := kind_has hk
  have hz := msg_sizes hc
  obtain ⟨X, hX⟩ : ∃ X, msgB D ++ t = X := ⟨_, rfl⟩
  have e6 : X = mB6 D ++ (P7 D.dKind D.dCerts ++ t) := by rw [← hX, msgB_app, List.append_assoc]
  have e5 : X = mB5 D ++ (P6 D.dKind D.dCuts ++ (P7 D.dKind D.dCerts ++ t)) := by rw [e6, mB6_app, List.append_assoc]
  have e4 : X = mB4 D ++ (P5 D.dKind D.dVotes ++ (P6 D.dKind D.dCuts ++ (P7 D.dKind D.dCerts ++ t))) := by rw [e5, mB5_app, List.append_assoc]
  have e3 : X = mB3 D ++ (P4 D.dKind D.dBlocks ++ (P5 D.dKind D.dVotes ++ (P6 D.dKind D.dCuts ++ (P7 D.dKind D.dCerts ++ t)))) := by rw [e4, mB4_app, List.append_assoc]
  have e2 : X = mB2 D ++ (P3 D.dKind D.dWant ++ (P4 D.dKind D.dBlocks ++ (P5 D.dKind D.dVotes ++ (P6 D.dKind D.dCuts ++ (P7 D.dKind D.dCerts ++ t))))) := by rw [e3, mB3_app, List.append_assoc]
  have e1 : X = mB1 D ++ (P2 D.dKind D.dHeads ++ (P3 D.dKind D.dWant ++ (P4 D.dKind D.dBlocks ++ (P5 D.dKind D.dVotes ++ (P6 D.dKind D.dCuts ++ (P7 D.dKind D.dCerts ++ t)))))) := by rw [e2, mB2_app, List.append_assoc]
  have e0 : X = [Hw.Bx D.dKind] ++ (P1 D.dKind D.dHeight ++ (P2 D.dKind D.dHeads ++ (P3 D.dKind D.dWant ++ (P4 D.dKind D.dBlocks ++ (P5 D.dKind D.dVotes ++ (P6 D.dKind D.dCuts ++ (P7 D.dKind D.dCerts ++ t))))))) := by rw [e1, mB1_app, List.append_assoc]
  rw [hX]
  have d0 : X.drop 1 = _ := drop_of e0
  have d1 := drop_of e1
  have d2 := drop_of e2
  have d3 := drop_of e3
  have d4 := drop_of e4
  have d5 := drop_of e5
  have d6 := drop_of e6
  have w : wordR X 0 0 = ((Hw.Bx D.dKind).toUInt64, 1, 0) := by rw [e0, List.singleton_append]; exact word_fwd
  clear e0 e1 e2 e3 e4 e5 e6 hX
  have s0 : rS0 X = some (dz D.dKind 0, 1, 0) := by
    unfold rS0
    rw [w]
    dsimp only
    rw [byte_kind oM oM]
    exact if_neg fun e => (parts_zero _).1 e hk
  have s1 : rS1 X = some (⟨D.dKind, D.dHeight, [], [], [], [], [], []⟩, (mB1 D).length, 0) := by
    refine stage_fwd s0 (fun hb => ?_) (fun hb => ?_)
    · have hb : ¬ B9 (As D.dKind) 1 = 0 := hb
      rw [P1_yes hb] at d0
      have := (num_fwd d0).1
      show some (({ dz D.dKind 0 with dHeight := (Bg X 1 0).1 } : DMsg), (Bg X 1 0).2) = _
      rw [this, mB1_app, P1_yes hb, List.length_append, Aq, List.length_singleton]
      rfl
    · have hb : B9 (As D.dKind) 1 = 0 := hb
      have h0 : D.dHeight = 0 := UInt64.toNat_inj.1 (by have := k1.1 hb; show D.dHeight.toNat = 0; omega)
      refine ⟨by rw [h0]; rfl, by rw [mB1_app, P1_no hb]; rfl⟩
  have s2 : rS2 X = some (⟨D.dKind, D.dHeight, D.dHeads, [], [], [], [], []⟩, (mB2 D).length, 0) := by
    refine stage_fwd s1 (fun hb => ?_) (fun hb => ?_)
    · have hb : ¬ B9 (As D.dKind) 2 = 0 := hb
      rw [P2_yes hb] at d1
      have := (dlistR_fwd (M := 32) o.h oM dE) d1
      simp only [this, mB2_app, P2_yes hb, Option.map_some]
      rw [len_app (mB1 D)]
    · have hb : B9 (As D.dKind) 2 = 0 := hb
      have h0 : D.dHeads = [] := List.eq_nil_of_length_eq_zero (by have := k2.1 hb; omega)
      refine ⟨by rw [h0], by rw [mB2_app, P2_no hb, List.append_nil]⟩
  have s3 : rS3 X = some (⟨D.dKind, D.dHeight, D.dHeads, D.dWant, [], [], [], []⟩, (mB3 D).length, 0) := by
    refine stage_fwd s2 (fun hb => ?_) (fun hb => ?_)
    · have hb : ¬ B9 (As D.dKind) 4 = 0 := hb
      rw [P3_yes hb] at d2
      have := (dlistR_fwd (M := 32) o.w oM dE) d2
      simp only [this, mB3_app, P3_yes hb, Option.map_some]
      rw [len_app (mB2 D)]
    · have hb : B9 (As D.dKind) 4 = 0 := hb
      have h0 : D.dWant = [] := List.eq_nil_of_length_eq_zero (by have := k3.1 hb; omega)
      refine ⟨by rw [h0], by rw [mB3_app, P3_no hb, List.append_nil]⟩
  have s4 : rS4 X = some (⟨D.dKind, D.dHeight, D.dHeads, D.dWant, D.dBlocks, [], [], []⟩, (mB4 D).length, 0) := by
    refine stage_fwd s3 (fun hb => ?_) (fun hb => ?_)
    · have hb : ¬ B9 (As D.dKind) 8 = 0 := hb
      rw [P4_yes hb] at d3
      have := (listR_fwd (M := 8) (f := readD) (g := Bj) (fun d hd => ⟨by rw [show Bj d = d.bytes from if_pos (hz.gb d hd)]; exact readD_bytes (o.b d hd) (hz.gb d hd), by have := blockBy_tight (o.b d hd); omega⟩) oM dE) d3
      simp only [this, mB4_app, P4_yes hb, Option.map_some]
      rw [len_app (mB3 D)]
    · have hb : B9 (As D.dKind) 8 = 0 := hb
      have h0 : D.dBlocks = [] := List.eq_nil_of_length_eq_zero (by have := k4.1 hb; omega)
      refine ⟨by rw [h0], by rw [mB4_app, P4_no hb, List.append_nil]⟩
  have s5 : rS5 X = some (⟨D.dKind, D.dHeight, D.dHeads, D.dWant, D.dBlocks, D.dVotes, [], []⟩, (mB5 D).length, 0) := by
    refine stage_fwd s4 (fun hb => ?_) (fun hb => ?_)
    · have hb : ¬ B9 (As D.dKind) 16 = 0 := hb
      rw [P5_yes hb] at d4
      have := (listR_fwd (M := 20) (f := voteRd) (g := Be) (fun d hd => ⟨voteRd_bytes (o.v d hd) (hz.gv d hd), by have := voteBy_le (o.v d hd); omega⟩) oM dE) d4
      simp only [readVL_is, this, mB5_app, P5_yes hb, Option.map_some]
      rw [len_app (mB4 D)]
    · have hb : B9 (As D.dKind) 16 = 0 := hb
      have h0 : D.dVotes = [] := List.eq_nil_of_length_eq_zero (by have := k5.1 hb; omega)
      refine ⟨by rw [h0], by rw [mB5_app, P5_no hb, List.append_nil]⟩
  have s6 : rS6 X = some (⟨D.dKind, D.dHeight, D.dHeads, D.dWant, D.dBlocks, D.dVotes, D.dCuts, []⟩, (mB6 D).length, 0) := by
    refine stage_fwd s5 (fun hb => ?_) (fun hb => ?_)
    · have hb : ¬ B9 (As D.dKind) 32 = 0 := hb
      rw [P6_yes hb] at d5
      have := (listR_fwd (M := 4) (f := cutRd) (g := cutR) (fun d hd => ⟨by rw [show cutR d = d.bytes from if_pos (hz.gc d hd)]; exact cutRd_bytes (o.c d hd).1 (o.c d hd).2 (hz.gc d hd), by have := cutR_tight (o.c d hd); omega⟩) oM dE) d5
      simp only [this, mB6_app, P6_yes hb, Option.map_some]
      rw [len_app (mB5 D)]
    · have hb : B9 (As D.dKind) 32 = 0 := hb
      have h0 : D.dCuts = [] := List.eq_nil_of_length_eq_zero (by have := k6.1 hb; omega)
      refine ⟨by rw [h0], by rw [mB6_app, P6_no hb, List.append_nil]⟩
  have s7 : rS7 X = some (⟨D.dKind, D.dHeight, D.dHeads, D.dWant, D.dBlocks, D.dVotes, D.dCuts, D.dCerts⟩, (msgB D).length, 0) := by
    refine stage_fwd s6 (fun hb => ?_) (fun hb => ?_)
    · have hb : ¬ B9 (As D.dKind) 64 = 0 := hb
      rw [P7_yes hb] at d6
      have := (listR_fwd (M := 2) (f := certRd) (g := Bt) (fun d hd => ⟨by rw [show Bt d = d.bytes from if_pos (hz.ge d hd)]; exact certRd_bytes (o.e d hd).1.1 (o.e d hd).1.2 (o.e d hd).2 (hz.ge d hd), by have := certBy_tight (o.e d hd); omega⟩) oM dE) d6
      simp only [this, msgB_app, P7_yes hb, Option.map_some]
      rw [len_app (mB6 D)]
    · have hb : B9 (As D.dKind) 64 = 0 := hb
      have h0 : D.dCerts = [] := List.eq_nil_of_length_eq_zero (by have := k7.1 hb; omega)
      refine ⟨by rw [h0], by rw [msgB_app, P7_no hb, List.append_nil]⟩
  exact s7

theorem msgRd_bytes {D : DMsg} (hc : D.check = 0) (o : D.oks) : msgRd (msgB D) = (D, 0) := by
  have := rS_fwd hc o []
  rw [List.append_nil] at this
  exact msgRd_ok this ⟨by simp [endR], hc⟩
theorem msgB_most {D : DMsg} (hc : D.check = 0) (o : D.oks) : (msgB D).length ≤ 16384 := by
  obtain ⟨hd, _⟩ := (valid_iff D).1 hc
  obtain ⟨hk, g1, g2, g3, g4, g5, g6, g7, g8, g9, g10, g11, g12, g13, g14, g15⟩ := hd
  obtain ⟨k1, k2, k3, k4, k5, k6, k7⟩ := kind_has hk
  have b1 : (P1 D.dKind D.dHeight).length ≤ 9 := by
    by_cases e : B9 (As D.dKind) 1 = 0
    · rw [P1_no e]; exact Nat.zero_le _
    · rw [P1_yes e, Aq]; exact (A8 _).2
  have b2 : (P2 D.dKind D.dHeads).length ≤ 1033 := by
    by_cases e : B9 (As D.dKind) 2 = 0
    · rw [P2_no e]; exact Nat.zero_le _
    · rw [P2_yes e, List.length_append, flat32 o.h]; have := nb_le D.dHeads.length oM; omega
  have b3 : (P3 D.dKind D.dWant).length ≤ 1033 := by
    by_cases e : B9 (As D.dKind) 4 = 0
    · rw [P3_no e]; exact Nat.zero_le _
    · rw [P3_yes e, List.length_append, flat32 o.w]; have := nb_le D.dWant.length oM; omega
  have b4 : (P4 D.dKind D.dBlocks).length ≤ if D.dKind = 3 then 9681 else 0 := by
    by_cases e : B9 (As D.dKind) 8 = 0
    · rw [P4_no e]; exact Nat.zero_le _
    · rw [if_pos (by have := mt k4.2 e; omega), P4_yes e, List.length_append]
      have h1 := nb_le D.dBlocks.length oM
      have h2 := listB_le Bj 1200 dE D.dBlocks (fun d hd => blockBy_tight (o.b d hd))
      have h3 : D.dBlocks.length * (1200 + 9) ≤ 8 * 1209 := Nat.mul_le_mul_right _ g11
      omega
  have b5 : (P5 D.dKind D.dVotes).length ≤ if D.dKind = 4 then 3469 else 0 := by
    by_cases e : B9 (As D.dKind) 16 = 0
    · rw [P5_no e]; exact Nat.zero_le _
    · rw [if_pos (by have := mt k5.2 e; omega), P5_yes e, List.length_append]
      have h1 := nb_le D.dVotes.length oM
      have h2 := listB_le Be 164 dE D.dVotes (fun d hd => voteBy_le (o.v d hd))
      have h3 : D.dVotes.length * (164 + 9) ≤ 20 * 173 := Nat.mul_le_mul_right _ g12
      omega
  have b6 : (P6 D.dKind D.dCuts).length ≤ if D.dKind = 4 then 8045 else 0 := by
    by_cases e : B9 (As D.dKind) 32 = 0
    · rw [P6_no e]; exact Nat.zero_le _
    · rw [if_pos (by have := mt k6.2 e; omega), P6_yes e, List.length_append]
      have h1 := nb_le D.dCuts.length oM
      have h2 := listB_le cutR 2000 dE D.dCuts (fun d hd => cutR_tight (o.c d hd))
      have h3 : D.dCuts.length * (2000 + 9) ≤ 4 * 2009 := Nat.mul_le_mul_right _ g13
      omega
  have b7 : (P7 D.dKind D.dCerts).length ≤ if D.dKind = 5 then 10027 else 0 := by
    by_cases e : B9 (As D.dKind) 64 = 0
    · rw [P7_no e]; exact Nat.zero_le _
    · rw [if_pos (by have := mt k7.2 e; omega), P7_yes e, List.length_append]
      have h1 := nb_le D.dCerts.length oM
      have h2 := listB_le Bt 5000 dE D.dCerts (fun d hd => certBy_tight (o.e d hd))
      have h3 : D.dCerts.length * (5000 + 9) ≤ 2 * 5009 := Nat.mul_le_mul_right _ g14
      omega
  rw [msgB_app, mB6_app, mB5_app, mB4_app, mB3_app, mB2_app, mB1_app]
  simp only [List.length_append, List.length_singleton]
  split at b4 <;> split at b5 <;> split at b6 <;> split at b7 <;> omega

end Go.Proofs.YtdifpjmfabhpiaaGreat
end

section
namespace Go.Proofs.YtdifpjmfabhpiaaGreat
open Go Hw

noncomputable def sameM (a b : DMsg) : Bool := decide (a.dKind = b.dKind) && (decide ((a.dHeight.toNat : Int) = (b.dHeight.toNat : Int)) && (decide (a.dHeads = b.dHeads) && (decide (a.dWant = b.dWant) && (sameL sameBk a.dBlocks b.dBlocks && (sameL sameV a.dVotes b.dVotes && (sameL sameC a.dCuts b.dCuts && sameL sameE a.dCerts b.dCerts))))))
theorem sameM_self (a : DMsg) : sameM a a = true := by
  simp only [sameM, decide_true, sameL_self sameBk_self, sameL_self sameE_self, sameL_self sameV_self, sameL_self sameC_self, Bool.and_self]
structure DMsg.tiny (a : DMsg) : Prop where
  h : a.dHeads.length ≤ 1000000
  w : a.dWant.length ≤ 1000000
  b : ∀ d ∈ a.dBlocks, d.ls.length ≤ 1000000
  c : ∀ d ∈ a.dCuts, d.dHeads.length ≤ 1000000
  e : ∀ d ∈ a.dCerts, d.dCut.dHeads.length ≤ 1000000
theorem msg_tiny {D : DMsg} (h : D.check = 0) : D.tiny := by
  have s := msg_sizes h
  exact ⟨by have := s.h; omega, by have := s.w; omega, fun d hd => by have := d.head_small (s.gb d hd); omega, fun d hd => by have := d.small (s.gc d hd); omega, fun d hd => by have := d.dCut.small (DCert.facts (s.ge d hd)).1; omega⟩

theorem kit_msg (A B : Msg) (a b : DMsg) (hsm : a.tiny) : Meets Tryz.prog 35 [agg A.cells, agg B.cells] [] (fun W => MsgIs W A a ∧ MsgIs W B b) (fun v out => v = .bool (sameM a b) ∧ out = []) := by
 intro W hW
 have hA := hW.1.ok
 have hB := hW.2.ok
 have e1 := hW.1.fKind
 have e2 := hW.2.fKind
 have e3 := hW.1.fHeight
 have e4 := hW.2.fHeight
 refine An Tryz.func35 rfl 59 Tryz.ntmps35 rfl ?_
 refine Sat.seq (Sat.region ?_)
 refine Tr.boxA rfl rfl ?_
 intro n2 hn2 hf2
 refine Tr.boxA rfl rfl ?_
 intro n3 hn3 hf3
 refine Tr.a rfl rfl rfl ?_
 refine Tr.nil (Aa (Sat.seq (Sat.region ?_)))
 refine Tr.fld rfl rfl rfl Y57 rfl Sz3 dE _ rfl ?_
 refine Tr.load1 rfl rfl rfl Y3 rfl mM (by first | exact Msg.get_fKind (by first | exact oK  | exact hA | exact hB) | exact vL) ?_
 refine Tr.fld rfl rfl rfl Y57 rfl Sz3 dE _ rfl ?_
 refine Tr.load1 rfl rfl rfl Y3 rfl mM (by first | exact Msg.get_fKind (by first | exact oK  | exact hA | exact hB) | exact vL) ?_
 refine two (fun r hr k => Tr.eqi rfl rfl rfl rfl hr k) (fun hs1_40 => ?_) (fun hs1_40 => ?_)
 ·
  first | have hs1_4 := of_decide_eq_true hs1_40 | have hs1_4 := of_decide_eq_false hs1_40 | have hs1_4 := A2 hs1_40 | have hs1_4 := A3 hs1_40 | have hs1_4 := hs1_40
  refine Tr.m rfl rfl rfl ?_
  refine Tr.fld rfl rfl rfl Y57 rfl B1 dE _ rfl ?_
  refine Tr.load1 rfl rfl rfl Y48 rfl mM (by first | exact Msg.get_fHeight (by first | exact oK  | exact hA | exact hB) | exact vL) ?_
  refine Tr.fld rfl rfl rfl Y57 rfl B1 dE _ rfl ?_
  refine Tr.load1 rfl rfl rfl Y48 rfl mM (by first | exact Msg.get_fHeight (by first | exact oK  | exact hA | exact hB) | exact vL) ?_
  refine two (fun r hr k => Tr.eqi rfl rfl rfl rfl hr k) (fun hs1_100 => ?_) (fun hs1_100 => ?_)
  ·
   first | have hs1_10 := of_decide_eq_true hs1_100 | have hs1_10 := of_decide_eq_false hs1_100 | have hs1_10 := A2 hs1_100 | have hs1_10 := A3 hs1_100 | have hs1_10 := hs1_100
   refine Tr.pick rfl rfl rfl rfl rfl rfl ?_
   refine Tr.m rfl rfl rfl ?_
   refine Tr.fld rfl rfl rfl Y57 rfl Sz51 dE _ rfl ?_
   refine Tr.load1 rfl rfl rfl Y51 rfl mM (by first | exact Msg.get_fHeads (by first | exact oK  | exact hA | exact hB) | exact vL) ?_
   refine Tr.fld rfl rfl rfl Y57 rfl Sz51 dE _ rfl ?_
   refine Tr.load1 rfl rfl rfl Y51 rfl mM (by first | exact Msg.get_fHeads (by first | exact oK  | exact hA | exact hB) | exact vL) ?_
   refine Tr.callB rfl rfl rfl rfl Body130 (digests_any2 _ _ _ _ _ _ a.dHeads b.dHeads hW.1.fHeads.row hW.2.fHeads.row hW.1.fHeads.len hW.2.fHeads.len (by have := hW.1.fHeads.len; have := hsm.h; omega)) (fun w h => ⟨Aw h rfl hW.1.fHeads.see, Aw h rfl hW.2.fHeads.see⟩) (fun hs1_170 => ?_) (fun hs1_170 => ?_)
   ·
    first | have hs1_17 := of_decide_eq_true hs1_170 | have hs1_17 := of_decide_eq_false hs1_170 | have hs1_17 := A2 hs1_170 | have hs1_17 := A3 hs1_170 | have hs1_17 := hs1_170
    refine Tr.pick rfl rfl rfl rfl rfl rfl ?_
    refine Tr.m rfl rfl rfl ?_
    refine Tr.fld rfl rfl rfl Y57 rfl Sz51 dE _ rfl ?_
    refine Tr.load1 rfl rfl rfl Y51 rfl mM (by first | exact Msg.get_fWant (by first | exact oK  | exact hA | exact hB) | exact vL) ?_
    refine Tr.fld rfl rfl rfl Y57 rfl Sz51 dE _ rfl ?_
    refine Tr.load1 rfl rfl rfl Y51 rfl mM (by first | exact Msg.get_fWant (by first | exact oK  | exact hA | exact hB) | exact vL) ?_
    refine Tr.callB rfl rfl rfl rfl Body130 (digests_any2 _ _ _ _ _ _ a.dWant b.dWant hW.1.fWant.row hW.2.fWant.row hW.1.fWant.len hW.2.fWant.len (by have := hW.1.fWant.len; have := hsm.w; omega)) (fun w h => ⟨Aw h rfl hW.1.fWant.see, Aw h rfl hW.2.fWant.see⟩) (fun hs1_240 => ?_) (fun hs1_240 => ?_)
    ·
     first | have hs1_24 := of_decide_eq_true hs1_240 | have hs1_24 := of_decide_eq_false hs1_240 | have hs1_24 := A2 hs1_240 | have hs1_24 := A3 hs1_240 | have hs1_24 := hs1_240
     refine Tr.pick rfl rfl rfl rfl rfl rfl ?_
     refine Tr.m rfl rfl rfl ?_
     refine Tr.fld rfl rfl rfl Y57 rfl Sz22 dE _ rfl ?_
     refine Tr.load1 rfl rfl rfl Y22 rfl mM (by first | exact Msg.get_fBlocks (by first | exact oK  | exact hA | exact hB) | exact vL) ?_
     refine Tr.fld rfl rfl rfl Y57 rfl Sz22 dE _ rfl ?_
     refine Tr.load1 rfl rfl rfl Y22 rfl mM (by first | exact Msg.get_fBlocks (by first | exact oK  | exact hA | exact hB) | exact vL) ?_
     refine Tr.callB rfl rfl rfl rfl Body19 (kit_blocks A.fBlocks B.fBlocks a.dBlocks b.dBlocks hsm.b) (fun w h => ⟨Blocks_ext h rfl hW.1.fBlocks, Blocks_ext h rfl hW.2.fBlocks⟩) (fun hs1_310 => ?_) (fun hs1_310 => ?_)
     ·
      first | have hs1_31 := of_decide_eq_true hs1_310 | have hs1_31 := of_decide_eq_false hs1_310 | have hs1_31 := A2 hs1_310 | have hs1_31 := A3 hs1_310 | have hs1_31 := hs1_310
      refine Tr.pick rfl rfl rfl rfl rfl rfl ?_
      refine Tr.m rfl rfl rfl ?_
      refine Tr.fld rfl rfl rfl Y57 rfl Sz24 dE _ rfl ?_
      refine Tr.load1 rfl rfl rfl Y24 rfl mM (by first | exact Msg.get_fVotes (by first | exact oK  | exact hA | exact hB) | exact vL) ?_
      refine Tr.fld rfl rfl rfl Y57 rfl Sz24 dE _ rfl ?_
      refine Tr.load1 rfl rfl rfl Y24 rfl mM (by first | exact Msg.get_fVotes (by first | exact oK  | exact hA | exact hB) | exact vL) ?_
      refine Tr.callB rfl rfl rfl rfl Body21 (kit_votes A.fVotes B.fVotes a.dVotes b.dVotes) (fun w h => ⟨Votes_ext h rfl hW.1.fVotes, Votes_ext h rfl hW.2.fVotes⟩) (fun hs1_380 => ?_) (fun hs1_380 => ?_)
      ·
       first | have hs1_38 := of_decide_eq_true hs1_380 | have hs1_38 := of_decide_eq_false hs1_380 | have hs1_38 := A2 hs1_380 | have hs1_38 := A3 hs1_380 | have hs1_38 := hs1_380
       refine Tr.pick rfl rfl rfl rfl rfl rfl ?_
       refine Tr.m rfl rfl rfl ?_
       refine Tr.fld rfl rfl rfl Y57 rfl Sz25 dE _ rfl ?_
       refine Tr.load1 rfl rfl rfl Y25 rfl mM (by first | exact Msg.get_fCuts (by first | exact oK  | exact hA | exact hB) | exact vL) ?_
       refine Tr.fld rfl rfl rfl Y57 rfl Sz25 dE _ rfl ?_
       refine Tr.load1 rfl rfl rfl Y25 rfl mM (by first | exact Msg.get_fCuts (by first | exact oK  | exact hA | exact hB) | exact vL) ?_
       refine Tr.callB rfl rfl rfl rfl Body22 (kit_cuts A.fCuts B.fCuts a.dCuts b.dCuts hsm.c) (fun w h => ⟨Cuts_ext h rfl hW.1.fCuts, Cuts_ext h rfl hW.2.fCuts⟩) (fun hs1_450 => ?_) (fun hs1_450 => ?_)
       ·
        first | have hs1_45 := of_decide_eq_true hs1_450 | have hs1_45 := of_decide_eq_false hs1_450 | have hs1_45 := A2 hs1_450 | have hs1_45 := A3 hs1_450 | have hs1_45 := hs1_450
        refine Tr.pick rfl rfl rfl rfl rfl rfl ?_
        refine Tr.m rfl rfl rfl ?_
        refine Tr.fld rfl rfl rfl Y57 rfl Sz23 dE _ rfl ?_
        refine Tr.load1 rfl rfl rfl Y23 rfl mM (by first | exact Msg.get_fCerts (by first | exact oK  | exact hA | exact hB) | exact vL) ?_
        refine Tr.fld rfl rfl rfl Y57 rfl Sz23 dE _ rfl ?_
        refine Tr.load1 rfl rfl rfl Y23 rfl mM (by first | exact Msg.get_fCerts (by first | exact oK  | exact hA | exact hB) | exact vL) ?_
        refine Tr.cV rfl rfl rfl rfl Body20 (kit_certs A.fCerts B.fCerts a.dCerts b.dCerts hsm.e) (fun w h => ⟨Certs_ext h rfl hW.1.fCerts, Certs_ext h rfl hW.2.fCerts⟩) ?_
        refine Tr.pick rfl rfl rfl rfl rfl rfl ?_
        refine Tr.a rfl rfl rfl ?_
        refine Tr.nil (Aa (Sat.ret (Am ?_)))
        refine ⟨_, [], Ae rfl rfl, sP, sP, ?_, rfl⟩
        simp_all [sameM]
       ·
        first | have hs1_45 := of_decide_eq_true hs1_450 | have hs1_45 := of_decide_eq_false hs1_450 | have hs1_45 := A2 hs1_450 | have hs1_45 := A3 hs1_450 | have hs1_45 := hs1_450
        refine Tr.pick rfl rfl rfl rfl rfl rfl ?_
        refine Tr.m rfl rfl rfl ?_
        refine Tr.skp rfl rfl ?_
        refine Tr.skp rfl rfl ?_
        refine Tr.skp rfl rfl ?_
        refine Tr.skp rfl rfl ?_
        refine Tr.skp rfl rfl ?_
        refine Tr.pick rfl rfl rfl rfl rfl rfl ?_
        refine Tr.a rfl rfl rfl ?_
        refine Tr.nil (Aa (Sat.ret (Am ?_)))
        refine ⟨_, [], Ae rfl rfl, sP, sP, ?_, rfl⟩
        simp_all [sameM]
      ·
       first | have hs1_38 := of_decide_eq_true hs1_380 | have hs1_38 := of_decide_eq_false hs1_380 | have hs1_38 := A2 hs1_380 | have hs1_38 := A3 hs1_380 | have hs1_38 := hs1_380
       refine Tr.pick rfl rfl rfl rfl rfl rfl ?_
       refine Tr.m rfl rfl rfl ?_
       refine Tr.skp rfl rfl ?_
       refine Tr.skp rfl rfl ?_
       refine Tr.skp rfl rfl ?_
       refine Tr.skp rfl rfl ?_
       refine Tr.skp rfl rfl ?_
       refine Tr.pick rfl rfl rfl rfl rfl rfl ?_
       refine Tr.m rfl rfl rfl ?_
       refine Tr.skp rfl rfl ?_
       refine Tr.skp rfl rfl ?_
       refine Tr.skp rfl rfl ?_
       refine Tr.skp rfl rfl ?_
       refine Tr.skp rfl rfl ?_
       refine Tr.pick rfl rfl rfl rfl rfl rfl ?_
       refine Tr.a rfl rfl rfl ?_
       refine Tr.nil (Aa (Sat.ret (Am ?_)))
       refine ⟨_, [], Ae rfl rfl, sP, sP, ?_, rfl⟩
       simp_all [sameM]
     ·
      first | have hs1_31 := of_decide_eq_true hs1_310 | have hs1_31 := of_decide_eq_false hs1_310 | have hs1_31 := A2 hs1_310 | have hs1_31 := A3 hs1_310 | have hs1_31 := hs1_310
      refine Tr.pick rfl rfl rfl rfl rfl rfl ?_
      refine Tr.m rfl rfl rfl ?_
      refine Tr.skp rfl rfl ?_
      refine Tr.skp rfl rfl ?_
      refine Tr.skp rfl rfl ?_
      refine Tr.skp rfl rfl ?_
      refine Tr.skp rfl rfl ?_
      refine Tr.pick rfl rfl rfl rfl rfl rfl ?_
      refine Tr.m rfl rfl rfl ?_
      refine Tr.skp rfl rfl ?_
      refine Tr.skp rfl rfl ?_
      refine Tr.skp rfl rfl ?_
      refine Tr.skp rfl rfl ?_
      refine Tr.skp rfl rfl ?_
      refine Tr.pick rfl rfl rfl rfl rfl rfl ?_
      refine Tr.m rfl rfl rfl ?_
      refine Tr.skp rfl rfl ?_
      refine Tr.skp rfl rfl ?_
      refine Tr.skp rfl rfl ?_
      refine Tr.skp rfl rfl ?_
      refine Tr.skp rfl rfl ?_
      refine Tr.pick rfl rfl rfl rfl rfl rfl ?_
      refine Tr.a rfl rfl rfl ?_
      refine Tr.nil (Aa (Sat.ret (Am ?_)))
      refine ⟨_, [], Ae rfl rfl, sP, sP, ?_, rfl⟩
      simp_all [sameM]
    ·
     first | have hs1_24 := of_decide_eq_true hs1_240 | have hs1_24 := of_decide_eq_false hs1_240 | have hs1_24 := A2 hs1_240 | have hs1_24 := A3 hs1_240 | have hs1_24 := hs1_240
     refine Tr.pick rfl rfl rfl rfl rfl rfl ?_
     refine Tr.m rfl rfl rfl ?_
     refine Tr.skp rfl rfl ?_
     refine Tr.skp rfl rfl ?_
     refine Tr.skp rfl rfl ?_
     refine Tr.skp rfl rfl ?_
     refine Tr.skp rfl rfl ?_
     refine Tr.pick rfl rfl rfl rfl rfl rfl ?_
     refine Tr.m rfl rfl rfl ?_
     refine Tr.skp rfl rfl ?_
     refine Tr.skp rfl rfl ?_
     refine Tr.skp rfl rfl ?_
     refine Tr.skp rfl rfl ?_
     refine Tr.skp rfl rfl ?_
     refine Tr.pick rfl rfl rfl rfl rfl rfl ?_
     refine Tr.m rfl rfl rfl ?_
     refine Tr.skp rfl rfl ?_
     refine Tr.skp rfl rfl ?_
     refine Tr.skp rfl rfl ?_
     refine Tr.skp rfl rfl ?_
     refine Tr.skp rfl rfl ?_
     refine Tr.pick rfl rfl rfl rfl rfl rfl ?_
     refine Tr.m rfl rfl rfl ?_
     refine Tr.skp rfl rfl ?_
     refine Tr.skp rfl rfl ?_
     refine Tr.skp rfl rfl ?_
     refine Tr.skp rfl rfl ?_
     refine Tr.skp rfl rfl ?_
     refine Tr.pick rfl rfl rfl rfl rfl rfl ?_
     refine Tr.a rfl rfl rfl ?_
     refine Tr.nil (Aa (Sat.ret (Am ?_)))
     refine ⟨_, [], Ae rfl rfl, sP, sP, ?_, rfl⟩
     simp_all [sameM]
   ·
    first | have hs1_17 := of_decide_eq_true hs1_170 | have hs1_17 := of_decide_eq_false hs1_170 | have hs1_17 := A2 hs1_170 | have hs1_17 := A3 hs1_170 | have hs1_17 := hs1_170
    refine Tr.pick rfl rfl rfl rfl rfl rfl ?_
    refine Tr.m rfl rfl rfl ?_
    refine Tr.skp rfl rfl ?_
    refine Tr.skp rfl rfl ?_
    refine Tr.skp rfl rfl ?_
    refine Tr.skp rfl rfl ?_
    refine Tr.skp rfl rfl ?_
    refine Tr.pick rfl rfl rfl rfl rfl rfl ?_
    refine Tr.m rfl rfl rfl ?_
    refine Tr.skp rfl rfl ?_
    refine Tr.skp rfl rfl ?_
    refine Tr.skp rfl rfl ?_
    refine Tr.skp rfl rfl ?_
    refine Tr.skp rfl rfl ?_
    refine Tr.pick rfl rfl rfl rfl rfl rfl ?_
    refine Tr.m rfl rfl rfl ?_
    refine Tr.skp rfl rfl ?_
    refine Tr.skp rfl rfl ?_
    refine Tr.skp rfl rfl ?_
    refine Tr.skp rfl rfl ?_
    refine Tr.skp rfl rfl ?_
    refine Tr.pick rfl rfl rfl rfl rfl rfl ?_
    refine Tr.m rfl rfl rfl ?_
    refine Tr.skp rfl rfl ?_
    refine Tr.skp rfl rfl ?_
    refine Tr.skp rfl rfl ?_
    refine Tr.skp rfl rfl ?_
    refine Tr.skp rfl rfl ?_
    refine Tr.pick rfl rfl rfl rfl rfl rfl ?_
    refine Tr.m rfl rfl rfl ?_
    refine Tr.skp rfl rfl ?_
    refine Tr.skp rfl rfl ?_
    refine Tr.skp rfl rfl ?_
    refine Tr.skp rfl rfl ?_
    refine Tr.skp rfl rfl ?_
    refine Tr.pick rfl rfl rfl rfl rfl rfl ?_
    refine Tr.a rfl rfl rfl ?_
    refine Tr.nil (Aa (Sat.ret (Am ?_)))
    refine ⟨_, [], Ae rfl rfl, sP, sP, ?_, rfl⟩
    simp_all [sameM]
  ·
   first | have hs1_10 := of_decide_eq_true hs1_100 | have hs1_10 := of_decide_eq_false hs1_100 | have hs1_10 := A2 hs1_100 | have hs1_10 := A3 hs1_100 | have hs1_10 := hs1_100
   refine Tr.pick rfl rfl rfl rfl rfl rfl ?_
   refine Tr.m rfl rfl rfl ?_
   refine Tr.skp rfl rfl ?_
   refine Tr.skp rfl rfl ?_
   refine Tr.skp rfl rfl ?_
   refine Tr.skp rfl rfl ?_
   refine Tr.skp rfl rfl ?_
   refine Tr.pick rfl rfl rfl rfl rfl rfl ?_
   refine Tr.m rfl rfl rfl ?_
   refine Tr.skp rfl rfl ?_
   refine Tr.skp rfl rfl ?_
   refine Tr.skp rfl rfl ?_
   refine Tr.skp rfl rfl ?_
   refine Tr.skp rfl rfl ?_
   refine Tr.pick rfl rfl rfl rfl rfl rfl ?_
   refine Tr.m rfl rfl rfl ?_
   refine Tr.skp rfl rfl ?_
   refine Tr.skp rfl rfl ?_
   refine Tr.skp rfl rfl ?_
   refine Tr.skp rfl rfl ?_
   refine Tr.skp rfl rfl ?_
   refine Tr.pick rfl rfl rfl rfl rfl rfl ?_
   refine Tr.m rfl rfl rfl ?_
   refine Tr.skp rfl rfl ?_
   refine Tr.skp rfl rfl ?_
   refine Tr.skp rfl rfl ?_
   refine Tr.skp rfl rfl ?_
   refine Tr.skp rfl rfl ?_
   refine Tr.pick rfl rfl rfl rfl rfl rfl ?_
   refine Tr.m rfl rfl rfl ?_
   refine Tr.skp rfl rfl ?_
   refine Tr.skp rfl rfl ?_
   refine Tr.skp rfl rfl ?_
   refine Tr.skp rfl rfl ?_
   refine Tr.skp rfl rfl ?_
   refine Tr.pick rfl rfl rfl rfl rfl rfl ?_
   refine Tr.m rfl rfl rfl ?_
   refine Tr.skp rfl rfl ?_
   refine Tr.skp rfl rfl ?_
   refine Tr.skp rfl rfl ?_
   refine Tr.skp rfl rfl ?_
   refine Tr.skp rfl rfl ?_
   refine Tr.pick rfl rfl rfl rfl rfl rfl ?_
   refine Tr.a rfl rfl rfl ?_
   refine Tr.nil (Aa (Sat.ret (Am ?_)))
   refine ⟨_, [], Ae rfl rfl, sP, sP, ?_, rfl⟩
   simp_all [sameM]
 ·
  first | have hs1_4 := of_decide_eq_true hs1_40 | have hs1_4 := of_decide_eq_false hs1_40 | have hs1_4 := A2 hs1_40 | have hs1_4 := A3 hs1_40 | have hs1_4 := hs1_40
  refine Tr.m rfl rfl rfl ?_
  refine Tr.skp rfl rfl ?_
  refine Tr.skp rfl rfl ?_
  refine Tr.skp rfl rfl ?_
  refine Tr.skp rfl rfl ?_
  refine Tr.skp rfl rfl ?_
  refine Tr.pick rfl rfl rfl rfl rfl rfl ?_
  refine Tr.m rfl rfl rfl ?_
  refine Tr.skp rfl rfl ?_
  refine Tr.skp rfl rfl ?_
  refine Tr.skp rfl rfl ?_
  refine Tr.skp rfl rfl ?_
  refine Tr.skp rfl rfl ?_
  refine Tr.pick rfl rfl rfl rfl rfl rfl ?_
  refine Tr.m rfl rfl rfl ?_
  refine Tr.skp rfl rfl ?_
  refine Tr.skp rfl rfl ?_
  refine Tr.skp rfl rfl ?_
  refine Tr.skp rfl rfl ?_
  refine Tr.skp rfl rfl ?_
  refine Tr.pick rfl rfl rfl rfl rfl rfl ?_
  refine Tr.m rfl rfl rfl ?_
  refine Tr.skp rfl rfl ?_
  refine Tr.skp rfl rfl ?_
  refine Tr.skp rfl rfl ?_
  refine Tr.skp rfl rfl ?_
  refine Tr.skp rfl rfl ?_
  refine Tr.pick rfl rfl rfl rfl rfl rfl ?_
  refine Tr.m rfl rfl rfl ?_
  refine Tr.skp rfl rfl ?_
  refine Tr.skp rfl rfl ?_
  refine Tr.skp rfl rfl ?_
  refine Tr.skp rfl rfl ?_
  refine Tr.skp rfl rfl ?_
  refine Tr.pick rfl rfl rfl rfl rfl rfl ?_
  refine Tr.m rfl rfl rfl ?_
  refine Tr.skp rfl rfl ?_
  refine Tr.skp rfl rfl ?_
  refine Tr.skp rfl rfl ?_
  refine Tr.skp rfl rfl ?_
  refine Tr.skp rfl rfl ?_
  refine Tr.pick rfl rfl rfl rfl rfl rfl ?_
  refine Tr.m rfl rfl rfl ?_
  refine Tr.skp rfl rfl ?_
  refine Tr.skp rfl rfl ?_
  refine Tr.skp rfl rfl ?_
  refine Tr.skp rfl rfl ?_
  refine Tr.skp rfl rfl ?_
  refine Tr.pick rfl rfl rfl rfl rfl rfl ?_
  refine Tr.a rfl rfl rfl ?_
  refine Tr.nil (Aa (Sat.ret (Am ?_)))
  refine ⟨_, [], Ae rfl rfl, sP, sP, ?_, rfl⟩
  simp_all [sameM]

theorem kit_msg_same (A B : Msg) (a : DMsg) (h : a.tiny) : Meets Tryz.prog 35 [agg A.cells, agg B.cells] [] (fun W => MsgIs W A a ∧ MsgIs W B a) (fun v out => v = .bool true ∧ out = []) := by
  have h2 := kit_msg A B a a h
  rwa [sameM_self] at h2
theorem cert_okR2 {W : World} {C : Cert} {D : DCert} (h : CertIs W C D) : D.ok := by
  obtain ⟨_, hv⟩ := h.fVotes
  exact ⟨h.fCut.fPrev ▸ h.fCut.ok.l_fPrev, h.fCut.fHeads.row, seqv_ok hv⟩

end Go.Proofs.YtdifpjmfabhpiaaGreat
end

section
namespace Go.Proofs.YtdifpjmfabhpiaaGreat
open Go Hw

def OwnedMsg2 (D : DMsg) (v : Value) (out : List Blk) : Prop := ∃ (m' : Msg) (bv rest : List Blk), v = agg m'.cells ∧ out = bv ++ rest ∧ Hw.Acc m'.fVotes bv (D.dVotes.map Vote.cells).flatten 81 D.dVotes.length 132 ∧ (∀ V ∈ D.dVotes, Vgood V) ∧ ∀ W2, Lies rest W2 → ∀ s ds, VotesAt W2 s ds → MsgIs W2 { m' with fVotes := s } { D with dVotes := ds }
theorem votes_same {W : World} {s : Sl} {vs ds : List Vote} (h : SeqIs Vote.cells 132 VoteIs W s vs ds) : vs = ds := by
  apply List.ext_getElem?
  intro i
  by_cases hi : i < s.n
  · have h1 : i < vs.length := by rw [h.nr]; exact hi
    have h2 : i < ds.length := by rw [h.nd]; exact hi
    rw [List.getElem?_eq_getElem h1, List.getElem?_eq_getElem h2]
    exact congrArg some (h.is i _ _ (List.getElem?_eq_getElem h1) (List.getElem?_eq_getElem h2)).eq
  · rw [List.getElem?_eq_none (by rw [h.nr]; omega), List.getElem?_eq_none (by rw [h.nd]; omega)]
theorem votes_good {W : World} {s : Sl} {vs ds : List Vote} (h : SeqIs Vote.cells 132 VoteIs W s vs ds) : ∀ V ∈ ds, Vgood V := fun V hV => by
  obtain ⟨i, hi⟩ := List.getElem?_of_mem hV
  have h1 : i < vs.length := by rw [h.nr, ← h.nd]; exact (List.getElem?_eq_some_iff.1 hi).1
  have hI := h.is i _ V (List.getElem?_eq_getElem h1) hi
  have e := hI.eq
  exact ⟨by rw [← e]; exact hI.ok, hI.wf⟩

theorem kit_own_msg2 (m : Msg) (D : DMsg) (hl : D.light = true) : Meets Tryz.prog 33 [agg m.cells] [] (fun W => MsgIs W m D) (OwnedMsg2 D) := by
 intro W hW
 obtain ⟨vs, hvs⟩ := hW.fVotes
 have hok := hW.ok
 have hlen := hW.len
 have hsm := light_small hl
 have e1 := hlen.heads
 have e2 := hlen.want
 have e3 := hlen.blocks
 have e4 := hlen.votes
 have hvg := votes_good hvs
 have e5 := hlen.cuts
 have e6 := hlen.certs
 have f1 := hsm.heads
 have f2 := hsm.want
 have f3 := hsm.nB
 have f4 := hsm.votes
 have f5 := hsm.nC
 have f6 := hsm.nE
 clear hl
 obtain rfl := votes_same hvs
 refine An Tryz.func33 rfl 29 Tryz.ntmps33 rfl ?_
 refine Sat.seq (Sat.region ?_)
 refine Tr.boxA rfl rfl ?_
 intro n1 hn1 hf1
 refine Tr.alloc (cs := Msg.zero.cells) rfl Msg.zr rfl ?_
 intro n2 hn2 hf2
 refine Tr.nil (Aa (Sat.seq ?_))
 refine Sat.drawK (sp_v (sp_k sp_n)) rfl [(0, 0), (0, 1), (0, 3), (0, 4), (0, 6), (0, 7), (4, 2), (0, 9), (4, 5), (4, 8)] [(4, 10), (0, 11), (4, 12), (0, 13), (4, 14)] Bv zK zK ?_
 refine Tr.fld rfl rfl rfl Y57 rfl Sz51 dE _ rfl ?_
 refine Tr.kload1 rfl rfl rfl Y51 rfl mM (by first | exact Msg.get_fHeads (by first | exact oK  | exact hW.ok | exact ⟨trivial⟩) | exact vL) ?_
 refine Tr.fld rfl rfl rfl Y57 rfl Sz51 dE _ rfl ?_
 refine Tr.kload1 rfl rfl rfl Y51 rfl mM (by first | exact Msg.get_fWant (by first | exact oK  | exact hW.ok | exact ⟨trivial⟩) | exact vL) ?_
 refine Tr.fld rfl rfl rfl Y57 rfl Sz22 dE _ rfl ?_
 refine Tr.kload1 rfl rfl rfl Y22 rfl mM (by first | exact Msg.get_fBlocks (by first | exact oK  | exact hW.ok | exact ⟨trivial⟩) | exact vL) ?_
 refine Tr.call4 rfl rfl rfl rfl rfl Body124 (kit_names m.fHeads D.dHeads oM) (fun w h => rows_ext h rfl hW.fHeads) ?_
 rintro v5 out5 ⟨q1, c1, rfl, hq1, rfl⟩
 refine Tr.fld rfl rfl rfl Y57 rfl Sz51 dE _ rfl ?_
 refine Tr.call4 rfl rfl rfl rfl rfl Body124 (kit_names m.fWant D.dWant oM) (fun w h => rows_ext h rfl hW.fWant) ?_
 rintro v8 out8 ⟨q2, c2, rfl, hq2, rfl⟩
 refine Tr.call4 rfl rfl rfl rfl rfl Body72 (kit_own_blocks m.fBlocks D.dBlocks oM hsm.blocks) (fun w h => Blocks_ext h rfl hW.fBlocks) ?_
 rintro v11 out11 ⟨sB, bB, bB2, rB, rfl, rfl, hoB⟩
 simp only [List.append_assoc, List.cons_append, List.nil_append]
 refine Tr.nil ?_
 refine Tr.s1 rfl rfl rfl rfl rfl Sz51 mM (by rw [Msg.length (by first | exact oK  | exact hW.ok | exact ⟨trivial⟩)]; decide) (by first | exact Msg.set_fHeads (by first | exact oK  | exact hW.ok | exact ⟨trivial⟩) _ | exact Msg.setS_fHeads (by first | exact oK  | exact hW.ok | exact ⟨trivial⟩) _ _ _) uU ?_
 refine Tr.fld rfl rfl rfl Y57 rfl Sz51 dE _ rfl ?_
 refine Tr.s1 rfl rfl rfl rfl rfl Sz51 mM (by rw [Msg.length (by first | exact oK  | exact hW.ok | exact ⟨trivial⟩)]; decide) (by first | exact Msg.set_fWant (by first | exact oK  | exact hW.ok | exact ⟨trivial⟩) _ | exact Msg.setS_fWant (by first | exact oK  | exact hW.ok | exact ⟨trivial⟩) _ _ _) uU ?_
 refine Tr.fld rfl rfl rfl Y57 rfl Sz22 dE _ rfl ?_
 refine Tr.s1 rfl rfl rfl rfl rfl Sz22 mM (by rw [Msg.length (by first | exact oK  | exact hW.ok | exact ⟨trivial⟩)]; decide) (by first | exact Msg.set_fBlocks (by first | exact oK  | exact hW.ok | exact ⟨trivial⟩) _ | exact Msg.setS_fBlocks (by first | exact oK  | exact hW.ok | exact ⟨trivial⟩) _ _ _) uU ?_
 refine Tr.nil (Aa (Sat.seq ?_))
 refine Sat.drawK (sp_k (sp_x (sp_x (sp_v (sp_v (sp_v sp_n)))))) rfl [(0, 1), (0, 2), (0, 4), (0, 5), (0, 7), (0, 8), (2, 0), (4, 3), (0, 10), (4, 6), (4, 9)] [(4, 11), (0, 12), (4, 13), (0, 14), (4, 15)] Bv zK zK ?_
 refine Tr.fld rfl rfl rfl Y57 rfl Sz24 dE _ rfl ?_
 refine Tr.kload1 rfl rfl rfl Y24 rfl mM (by first | exact Msg.get_fVotes (by first | exact oK  | exact hW.ok | exact ⟨trivial⟩) | exact vL) ?_
 refine Tr.fld rfl rfl rfl Y57 rfl Sz25 dE _ rfl ?_
 refine Tr.kload1 rfl rfl rfl Y25 rfl mM (by first | exact Msg.get_fCuts (by first | exact oK  | exact hW.ok | exact ⟨trivial⟩) | exact vL) ?_
 refine Tr.fld rfl rfl rfl Y57 rfl Sz23 dE _ rfl ?_
 refine Tr.kload1 rfl rfl rfl Y23 rfl mM (by first | exact Msg.get_fCerts (by first | exact oK  | exact hW.ok | exact ⟨trivial⟩) | exact vL) ?_
 dsimp only
 refine Tr.mkRow2 (z := agg Vote.zero.cells) [] [] rfl rfl Y24 Sz81 Vote.zr rfl rfl (by intro v hv; cases hv) dE rfl ?_
 intro q15
 refine Tr.appendSl (z := agg Vote.zero.cells) (by' := 160) ((D.dVotes.map Vote.cells).flatten) rfl rfl rfl rfl rfl Y24 Y24 Sz81 Zr81 (by unfold By; kernel_rfl) rfl (fun w h => Aw h rfl hvs.see) (fun e => by have := hvs.nil e; have := hvs.cap; omega) (votes_cell (seq_votes hvs)) rM rfl rfl oM oM oM hvs.flat ?_
 intro q18 c18 hq18
 rw [Nat.zero_add m.fVotes.n]
 refine Tr.fld rfl rfl rfl Y57 rfl Sz24 dE _ rfl ?_
 refine Tr.call4 rfl rfl rfl rfl rfl Body38 (kit_own_cuts m.fCuts D.dCuts oM hsm.cuts) (fun w h => Cuts_ext h rfl hW.fCuts) ?_
 rintro v21 out21 ⟨sC, bC, bC2, rC, rfl, rfl, hoC⟩
 simp only [List.append_assoc, List.cons_append, List.nil_append]
 refine Tr.call4 rfl rfl rfl rfl rfl Body39 (kit_own_certs m.fCerts D.dCerts oM hsm.certs) (fun w h => Certs_ext h rfl hW.fCerts) ?_
 rintro v24 out24 ⟨sE, bE, bE2, rE, rfl, rfl, hoE⟩
 simp only [List.append_assoc, List.cons_append, List.nil_append]
 refine Tr.nil ?_
 refine Tr.s1 rfl rfl rfl rfl rfl Sz24 mM (by rw [Msg.length (by first | exact oK  | exact hW.ok | exact ⟨trivial⟩)]; decide) (by first | exact Msg.set_fVotes (by first | exact oK  | exact hW.ok | exact ⟨trivial⟩) _ | exact Msg.setS_fVotes (by first | exact oK  | exact hW.ok | exact ⟨trivial⟩) _ _ _) uU ?_
 refine Tr.fld rfl rfl rfl Y57 rfl Sz25 dE _ rfl ?_
 refine Tr.s1 rfl rfl rfl rfl rfl Sz25 mM (by rw [Msg.length (by first | exact oK  | exact hW.ok | exact ⟨trivial⟩)]; decide) (by first | exact Msg.set_fCuts (by first | exact oK  | exact hW.ok | exact ⟨trivial⟩) _ | exact Msg.setS_fCuts (by first | exact oK  | exact hW.ok | exact ⟨trivial⟩) _ _ _) uU ?_
 refine Tr.fld rfl rfl rfl Y57 rfl Sz23 dE _ rfl ?_
 refine Tr.s1 rfl rfl rfl rfl rfl Sz23 mM (by rw [Msg.length (by first | exact oK  | exact hW.ok | exact ⟨trivial⟩)]; decide) (by first | exact Msg.set_fCerts (by first | exact oK  | exact hW.ok | exact ⟨trivial⟩) _ | exact Msg.setS_fCerts (by first | exact oK  | exact hW.ok | exact ⟨trivial⟩) _ _ _) uU ?_
 refine Tr.nil (Aa (Sat.seq (Sat.region ?_)))
 refine Tr.lA rfl rfl rfl Y57 rfl Sz57 mM (Msg.length (by first | exact oK  | exact hW.ok | exact ⟨trivial⟩)) ?_
 refine Tr.sA rfl rfl rfl rfl (Msg.isCell (by first | exact oK  | exact hW.ok | exact ⟨trivial⟩)) Sz57 (Msg.length (by first | exact oK  | exact hW.ok | exact ⟨trivial⟩)) mM (Msg.length (by first | exact oK  | exact hW.ok | exact ⟨trivial⟩)) uU ?_
 refine Tr.nil (Aa (Sat.ret (Am ?_)))
 refine Ak (out := (⟨q18, (D.dVotes.map Vote.cells).flatten, 81, c18 * 132⟩ :: (⟨q1, B5 D.dHeads, 50, c1 * 32⟩ :: (⟨q2, B5 D.dWant, 50, c2 * 32⟩ :: (bB ++ (bB2 ++ (bC ++ (bC2 ++ (bE ++ (bE2 ++ [])))))))))) (res_cell rfl rfl Y57 rfl Sz57 mM (by first | (simp; done) | exact Msg.length (by first | exact oK  | exact hW.ok | exact ⟨trivial⟩))) (Ac rM (Ac rM (Ac rM (Ah sG (Ah sG (Ah sG (Ah sG (Ah sG (Ah sG Ad))))))))) ?_
 refine ⟨({ m with fHeads := ⟨some ⟨q1, 0, none⟩, m.fHeads.n, c1⟩, fWant := ⟨some ⟨q2, 0, none⟩, m.fWant.n, c2⟩, fBlocks := sB, fVotes := ⟨some ⟨q18, 0, none⟩, m.fVotes.n, c18⟩, fCuts := sC, fCerts := sE } : Msg), [_], _, rfl, rfl, ?_, hvg, fun W2 hl s ds hv => ⟨⟨trivial⟩, hW.fKind, hW.wKind, hW.fHeight, acc_rows (Acc.some (E := 50) hq1 (by rw [B7 hW.fHeads.row, hW.fHeads.len])) (hl.sub (by intro b hb; rw [List.mem_singleton.1 hb]; repeat (first | exact List.mem_cons_self | refine List.mem_cons_of_mem _ ?_ | refine mem_seg ?_))) hW.fHeads.row hW.fHeads.len oM, acc_rows (Acc.some (E := 50) hq2 (by rw [B7 hW.fWant.row, hW.fWant.len])) (hl.sub (by intro b hb; rw [List.mem_singleton.1 hb]; repeat (first | exact List.mem_cons_self | refine List.mem_cons_of_mem _ ?_ | refine mem_seg ?_))) hW.fWant.row hW.fWant.len oM, ⟨_, hoB.seq (hl.sub iN) (hl.sub iN) oM⟩, hv, ⟨_, hoC.seq (hl.sub iN) (hl.sub iN) oM⟩, ⟨_, hoE.seq (hl.sub iN) (hl.sub iN) oM⟩⟩⟩
 rw [← e4]
 exact Acc.some (show m.fVotes.n ≤ c18 by omega) hvs.flat

end Go.Proofs.YtdifpjmfabhpiaaGreat
end

section
namespace Go.Proofs.YtdifpjmfabhpiaaGreat
open Go Hw

theorem light_one {D : Type} {f : D → Bool} {d : D} (h : lightOf f [d] 1 = true) : f d = true := by simpa [lightOf] using h
theorem replicate_snoc {α : Type} (n : Nat) (x : α) : List.replicate (n + 1) x = List.replicate n x ++ [x] := List.replicate_succ'
theorem cut_lenok {r : Cut} (h : r.cells.length = 34) : r.ok := by
  refine ⟨?_⟩
  simp only [Cut.cells, List.length_append, List.length_singleton, Ab, List.length_map] at h
  omega
theorem cert_lenok {r : Cert} (h : r.cells.length = 35) : r.ok := by
  refine ⟨cut_lenok ?_⟩
  simp only [Cert.cells, List.length_append, List.length_singleton] at h
  omega
theorem one_of {R D : Type} {cells : R → List Value} {k : Nat} {Is : World → R → D → Prop} {E : TypeId} {s : Sl} {b o : List Blk} {rs : List R} {d : D} (h : OwnSeq cells k Is E s b o rs [d] 1) : ∃ r, rs = [r] ∧ (cells r).length = k ∧ ∀ W2, Lies o W2 → Is W2 r d := by
  have hn := h.nr
  match rs, hn, h with
  | [r], _, h => exact ⟨r, rfl, h.len r List.mem_cons_self, fun W2 hl => h.is W2 hl 0 r d rfl rfl⟩
theorem pick3 {m0 m1 m2 : Msg} {D0 D1 D2 : DMsg} {k : Nat} (hk : k < 3) : ∃ r d, ((([m0, m1, m2].map Msg.cells).flatten).drop (0 + k * 8)).take 8 = r.cells ∧ r.cells.length = 8 ∧ ((r = m0 ∧ d = D0) ∨ (r = m1 ∧ d = D1) ∨ (r = m2 ∧ d = D2)) := by
  match k, hk with
  | 0, _ => exact ⟨m0, D0, rfl, rfl, .inl ⟨rfl, rfl⟩⟩
  | 1, _ => exact ⟨m1, D1, rfl, rfl, .inr (.inl ⟨rfl, rfl⟩)⟩
  | 2, _ => exact ⟨m2, D2, rfl, rfl, .inr (.inr ⟨rfl, rfl⟩)⟩
def mD3 (D : DB) : DMsg := { dz 3 0 with dBlocks := List.replicate 8 D }
def mD4 (V : Vote) (F : DCut) : DMsg := { dz 4 0 with dVotes := List.replicate 20 V, dCuts := List.replicate 4 F }
def mD5 (E : DCert) : DMsg := { dz 5 0 with dCerts := List.replicate 2 E }
theorem no_rows {D : Type} {P : D → Prop} : ∀ d ∈ ([] : List D), P d := fun d h => by cases h
theorem mD3_oks {D : DB} (h : D.ok) : (mD3 D).oks := ⟨no_rows, no_rows, fun d hd => (List.mem_replicate.1 hd).2 ▸ h, no_rows, no_rows, no_rows⟩
theorem mD4_oks {V : Vote} {F : DCut} (h : V.ok) (h2 : F.dPrev.length = 32 ∧ ∀ l ∈ F.dHeads, l.length = 32) : (mD4 V F).oks := ⟨no_rows, no_rows, no_rows, fun d hd => (List.mem_replicate.1 hd).2 ▸ h, fun d hd => (List.mem_replicate.1 hd).2 ▸ h2, no_rows⟩
theorem mD5_oks {E : DCert} (h : E.ok) : (mD5 E).oks := ⟨no_rows, no_rows, no_rows, no_rows, no_rows, fun d hd => (List.mem_replicate.1 hd).2 ▸ ⟨⟨h.prev, h.heads⟩, h.votes⟩⟩
theorem mD4_light {V : Vote} {F : DCut} (h : F.dHeads.length ≤ 40) : (mD4 V F).light = true := by
  simp only [DMsg.light, mD4, dz, lightOf, lightBf, lightCf, lightEf, Bool.and_eq_true, decide_eq_true_eq, List.length_nil, List.length_replicate, List.all_nil, List.all_replicate]
  simp
  omega
theorem mD4_more {V : Vote} {F : DCut} : ({ mD4 V F with dVotes := List.replicate 20 V ++ [V] } : DMsg).check = 2 := by
  refine Bu (.inr (.inr (.inr (.inr (.inr (.inr (.inl ?_)))))))
  simp

theorem law_syncmost (B : Block) (D : DB) (V : Vote) (U : Vote) (C : Cert) (E : DCert) : Meets Tryz.prog 5 [agg B.cells, agg V.cells, agg C.cells] [] (fun W => BlockIs W B D ∧ VoteIs W V U ∧ CertIs W C E) (fun v out => v = .bool true ∧ out = []) := by
 intro W hW
 obtain ⟨hWB, hWV, hWC⟩ := hW
 have hB := hWB.ok
 have hV := hWV.ok
 have hC := hWC.ok
 obtain rfl := hWV.eq
 have hdo := hWB.dok
 have heok := cert_okR2 hWC
 have hwf := hWV.wf
 refine An Tryz.func5 rfl 129 Tryz.ntmps5 rfl ?_
 refine Sat.seq (Sat.region ?_)
 refine Tr.boxA rfl rfl ?_
 intro n3 hn3 hf3
 refine Tr.boxA rfl rfl ?_
 intro n4 hn4 hf4
 refine Tr.boxA rfl rfl ?_
 intro n5 hn5 hf5
 refine Tr.a rfl rfl rfl ?_
 refine Tr.nil (Aa (Sat.seq (Sat.seq (Sat.region ?_))))
 refine Tr.cV rfl rfl rfl rfl Body23 (law25_lives) tV ?_
 refine Tr.not rfl rfl rfl ?_
 refine Tr.nil (Aa ?_)
 refine Sat.cond_f rfl (rfl) ?_
 refine Sat.skip (Aa (Sat.seq (Sat.seq (Sat.region ?_))))
 refine Tr.lA rfl rfl rfl Y79 rfl Sz79 mM (Block.length (by first | exact oK  | exact hB | exact hV | exact hC | exact hC.o_fCut | exact ⟨trivial⟩ | exact ok101)) ?_
 refine Tr.mkRow (z := agg Block.zero.cells) [agg B.cells] B.cells rfl rfl rfl Y22 Sz79 Block.zr rfl rfl (by intro v hv; rw [List.mem_singleton.1 hv]; exact Block.length hB) dE (by simp [Value.cells]) ?_
 intro q23
 refine Tr.callB rfl rfl rfl rfl Body36 (lightd_blocks ⟨some ⟨q23, 0, none⟩, 1, 1⟩ [D] 1) (fun w h => ⟨_, seq_one q23 79 B (Lies.of h (by intro b hb; rw [List.mem_singleton.1 hb]; repeat (first | exact List.mem_cons_self | refine List.mem_cons_of_mem _ ?_ | refine mem_seg ?_))) (Block.length hB) (by rw [Block.length hB]) (hWB.ext h rfl)⟩) (fun hs3_20 => ?_) (fun hs3_20 => ?_)
 ·
  first | have hs3_2 := of_decide_eq_true hs3_20 | have hs3_2 := of_decide_eq_false hs3_20 | have hs3_2 := A2 hs3_20 | have hs3_2 := A3 hs3_20 | have hs3_2 := hs3_20
  refine Tr.not rfl rfl rfl ?_
  refine Tr.m rfl rfl rfl ?_
  refine Tr.lA rfl rfl rfl Y55 rfl Sz55 mM (Cert.length (by first | exact oK  | exact hB | exact hV | exact hC | exact hC.o_fCut | exact ⟨trivial⟩ | exact ok101)) ?_
  refine Tr.mkRow (z := agg Cert.zero.cells) [agg C.cells] C.cells rfl rfl rfl Y23 Sz55 Cert.zr rfl rfl (by intro v hv; rw [List.mem_singleton.1 hv]; exact Cert.length hC) dE (by simp [Value.cells]) ?_
  intro q28
  refine Tr.cV rfl rfl rfl rfl Body24 (lightd_certs ⟨some ⟨q28, 0, none⟩, 1, 1⟩ [E] 1) (fun w h => ⟨_, seq_one q28 55 C (Lies.of h (by intro b hb; rw [List.mem_singleton.1 hb]; repeat (first | exact List.mem_cons_self | refine List.mem_cons_of_mem _ ?_ | refine mem_seg ?_))) (Cert.length hC) (by rw [Cert.length hC]) (hWC.ext h rfl)⟩) ?_
  refine Tr.not rfl rfl rfl ?_
  refine Tr.pick rfl rfl rfl rfl rfl rfl ?_
  refine Tr.nil (Aa ?_)
  refine Sat.cond rfl (fun hc1 => ?_) (fun hc1 => ?_)
  ·
   skip
   refine Sat.seq (Sat.region ?_)
   refine Tr.a rfl rfl rfl ?_
   refine Tr.nil (Aa (Sat.ret (Ao (Am ?_))))
   refine ⟨_, [], Ae rfl rfl, sP, sP, ?_, rfl⟩
   rfl
  ·
   have hs3_7 : lightOf lightEf [E] 1 = true := by simpa using hc1
   refine Sat.skip (Aa (Sat.seq (Sat.region ?_)))
   have hl1 := light_one hs3_2
   simp only [lightBf, Bool.and_eq_true, decide_eq_true_eq] at hl1
   obtain ⟨hlA, hlB⟩ := hl1
   have hl2 := light_one hs3_7
   simp only [lightEf, Bool.and_eq_true, decide_eq_true_eq] at hl2
   obtain ⟨hlC, hlD⟩ := hl2
   refine Tr.build (cs := (mz 3 0).cells) rfl rfl rfl (fun w => by kernel_rfl) ?_
   refine Tr.build (cs := (mz 4 0).cells) rfl rfl rfl (fun w => by kernel_rfl) ?_
   refine Tr.build (cs := (mz 5 0).cells) rfl rfl rfl (fun w => by kernel_rfl) ?_
   refine Tr.alloc (cs := Msg.zero.cells) rfl Msg.zr rfl ?_
   intro n7 hn7 hf7
   refine Tr.alloc (cs := Msg.zero.cells) rfl Msg.zr rfl ?_
   intro n8 hn8 hf8
   refine Tr.alloc (cs := Msg.zero.cells) rfl Msg.zr rfl ?_
   intro n9 hn9 hf9
   refine Tr.sA rfl rfl rfl rfl (Msg.isCell (by first | exact oK  | exact hB | exact hV | exact hC | exact hC.o_fCut | exact ⟨trivial⟩ | exact ok101)) Sz57 (Msg.length (by first | exact oK  | exact hB | exact hV | exact hC | exact hC.o_fCut | exact ⟨trivial⟩ | exact ok101)) mM (Msg.length (by first | exact oK  | exact hB | exact hV | exact hC | exact hC.o_fCut | exact ⟨trivial⟩ | exact ok101)) uU ?_
   refine Tr.sA rfl rfl rfl rfl (Msg.isCell (by first | exact oK  | exact hB | exact hV | exact hC | exact hC.o_fCut | exact ⟨trivial⟩ | exact ok101)) Sz57 (Msg.length (by first | exact oK  | exact hB | exact hV | exact hC | exact hC.o_fCut | exact ⟨trivial⟩ | exact ok101)) mM (Msg.length (by first | exact oK  | exact hB | exact hV | exact hC | exact hC.o_fCut | exact ⟨trivial⟩ | exact ok101)) uU ?_
   refine Tr.sA rfl rfl rfl rfl (Msg.isCell (by first | exact oK  | exact hB | exact hV | exact hC | exact hC.o_fCut | exact ⟨trivial⟩ | exact ok101)) Sz57 (Msg.length (by first | exact oK  | exact hB | exact hV | exact hC | exact hC.o_fCut | exact ⟨trivial⟩ | exact ok101)) mM (Msg.length (by first | exact oK  | exact hB | exact hV | exact hC | exact hC.o_fCut | exact ⟨trivial⟩ | exact ok101)) uU ?_
   refine Tr.nil (Aa (Sat.seq (Sat.seq (Sat.region ?_))))
   refine Tr.a rfl rfl rfl ?_
   refine Tr.nil (Aa (Sat.block ?_))
   refine Sat.loop (ι := Nat × Sl × List Blk × List Blk × List Block) (fun p => ⟨[(3, ptr n3 0), (4, ptr n4 0), (5, ptr n5 0), (6, .bool false), (7, ptr n7 0), (8, ptr n8 0), (9, ptr n9 0), (10, i64 (p.1 : Int))], (⟨n7, ({ mz 3 0 with fBlocks := p.2.1 } : Msg).cells, 57, 8⟩ :: (⟨n8, (mz 4 0).cells, 57, 8⟩ :: (⟨n9, (mz 5 0).cells, 57, 8⟩ :: (⟨n5, C.cells, 55, C.cells.length⟩ :: (⟨n4, V.cells, 81, V.cells.length⟩ :: (⟨n3, B.cells, 79, B.cells.length⟩ :: (p.2.2.1 ++ (p.2.2.2.1 ++ []))))))))⟩) (fun p => p.1 ≤ 8 ∧ OwnSeq Block.cells 131 BlockIs 79 p.2.1 p.2.2.1 p.2.2.2.1 p.2.2.2.2 (List.replicate p.1 D) p.1) (fun p => 8 - p.1) ((0, Sl.nil, [], [], [])) ?_ ?_ ?_
   · exact ⟨Nat.zero_le _, OwnSeq.none⟩
   · exact Af (wk1 rfl (wk1 rfl (wk1 rfl (wk1 rfl (wk1 rfl (wk1 rfl (wk1 rfl (wk1 rfl wk0)))))))) (Ac rM (Ac rM (Ac rM (Ac rM (Ac rM (Ac rM (Bl (Bl Ad))))))))
   ·
    rintro p0 ⟨hk, hos⟩
    refine Sat.seq (Sat.seq (Sat.region ?_))
    refine Tr.m rfl rfl rfl ?_
    refine Tr.lss rfl rfl rfl rfl rfl ?_
    refine Tr.nil (Aa ?_)
    first
     | refine Sat.condP rfl (fun hc2 => ?_) (fun hc2 => ?_)
     | refine Sat.condNP rfl (fun hc2 => ?_) (fun hc2 => ?_)
     | refine Sat.cond rfl (fun hc2 => ?_) (fun hc2 => ?_)
    ·
     refine Sat.skip (Aa (Sat.seq (Sat.block ?_)))
     refine Sat.drawK (sp_k (sp_v (sp_v (sp_v (sp_v (sp_k (sp_x (sp_x sp_n)))))))) rfl [(0, 0), (0, 1), (0, 2), (4, 3), (4, 4)] [(4, 5), (0, 6), (4, 7)] Bv zK zK ?_
     refine Tr.fld rfl rfl rfl Y57 rfl Sz22 dE _ rfl ?_
     refine Tr.kload1 rfl rfl rfl Y22 rfl mM (by first | exact Msg.get_fBlocks (by first | exact oK  | exact hB | exact hV | exact hC | exact hC.o_fCut | exact ⟨trivial⟩ | exact ok101) | exact vL) ?_
     refine Tr.kloadAll rfl rfl rfl Y79 rfl Sz79 mM (Block.length (by first | exact oK  | exact hB | exact hV | exact hC | exact hC.o_fCut | exact ⟨trivial⟩ | exact ok101)) ?_
     refine Tr.call4 rfl rfl rfl rfl rfl Body37 (kit_own_block B hB D.ls D.ds (by rw [← hWB.ls.len]; omega) (by rw [← hWB.ds.len]; omega)) (fun w h => ⟨rows_ext h rfl hWB.ls, bytes_ext h rfl hWB.ds⟩) ?_
     rintro v42 out42 ⟨q1, c1, q2, c2, rfl, hq1, hq2, rfl⟩
     have hoi := owned_is (q1 := q1) (q2 := q2) hWB hq1 hq2 (by rw [← hWB.ls.len]; omega) (by rw [← hWB.ds.len]; omega)
     have hok2 := ownB_ok hB q1 c1 q2 c2
     refine Tr.mkRow (z := agg Block.zero.cells) [agg (ownB B q1 c1 q2 c2).cells] (ownB B q1 c1 q2 c2).cells rfl rfl rfl Y22 Sz79 Block.zr rfl rfl (by intro v hv; rw [List.mem_singleton.1 hv]; exact Block.length hok2) dE (by simp [Value.cells]) ?_
     intro q43
     refine Tr.nil ?_
     refine Tr.appendAcc (z := agg Block.zero.cells) (by' := 184) ((ownB B q1 c1 q2 c2).cells) rfl rfl rfl rfl rfl Y22 Y22 Sz79 Zr79 (by unfold By; kernel_rfl) rfl hos.acc sG (fun w h => SeesP.of (Ap h mM)) (fun e => by cases e) (Block.isCell hok2) oM oM (by rw [Block.length hok2]) ?_
     intro s44 bl44 hac44
     refine Tr.fld rfl rfl rfl Y57 rfl Sz22 dE _ rfl ?_
     refine Tr.s1 rfl rfl rfl rfl rfl Sz22 mM (by rw [Msg.length (by first | exact oK  | exact hB | exact hV | exact hC | exact hC.o_fCut | exact ⟨trivial⟩ | exact ok101)]; decide) (by first | exact Msg.set_fBlocks (by first | exact oK  | exact hB | exact hV | exact hC | exact hC.o_fCut | exact ⟨trivial⟩ | exact ok101) _ | exact Msg.setS_fBlocks (by first | exact oK  | exact hB | exact hV | exact hC | exact hC.o_fCut | exact ⟨trivial⟩ | exact ok101) _ _ _) uU ?_
     refine Tr.nil (B2 (Aa (Sat.region ?_)))
     simp only [List.cons_append, List.nil_append, List.append_assoc]
     refine Tr.m rfl rfl rfl ?_
     refine Tr.aI rfl rfl rfl rfl oM ?_
     refine Tr.a rfl rfl rfl ?_
     refine Tr.nil (Aa ?_)
     exact ⟨(p0.1 + 1, s44, bl44, [⟨q2, Ab D.ds, 5, c2 * 1⟩, ⟨q1, B5 D.ls, 50, c1 * 32⟩] ++ p0.2.2.2.1, p0.2.2.2.2 ++ [ownB B q1 c1 q2 c2]), ⟨by simp only []; omega, by simp only [replicate_snoc]; exact hos.snoc hac44 (Block.length hok2) hoi⟩, by simp only []; omega, Af (wk1 rfl (wk1 rfl (wk1 rfl (wk1 rfl (wk1 rfl (wk1 rfl (wk1 rfl (wk1 (by rw [Int.natCast_add]; rfl) wk0)))))))) (Ac rM (Ac rM (Ac rM (Ac rM (Ac rM (Ac rM (Ah sG (pm_in2 (Ac rM (Ac rM (Ah sG Ad)))))))))))⟩
    ·
     have e0 : p0.1 = 8 := by omega
     rw [e0] at hos
     refine Sat.exit (Bf (Bf (bl_h (Aa (Sat.seq (Sat.seq (Sat.region ?_)))))))
     refine Tr.a rfl rfl rfl ?_
     refine Tr.nil (Aa (Sat.block ?_))
     refine Sat.loop (ι := Nat × Sl × List Blk) (fun p => ⟨[(3, ptr n3 0), (4, ptr n4 0), (5, ptr n5 0), (6, .bool false), (7, ptr n7 0), (8, ptr n8 0), (9, ptr n9 0), (11, i64 (p.1 : Int))], (⟨n7, ({ mz 3 0 with fBlocks := p0.2.1 } : Msg).cells, 57, 8⟩ :: (⟨n8, ({ mz 4 0 with fVotes := p.2.1, fCuts := Sl.nil } : Msg).cells, 57, 8⟩ :: (⟨n9, (mz 5 0).cells, 57, 8⟩ :: (⟨n5, C.cells, 55, C.cells.length⟩ :: (⟨n4, V.cells, 81, V.cells.length⟩ :: (p0.2.2.1 ++ (p0.2.2.2.1 ++ (p.2.2 ++ []))))))))⟩) (fun p => p.1 ≤ 20 ∧ Hw.Acc p.2.1 p.2.2 ((List.replicate p.1 V).map Vote.cells).flatten 81 p.1 132) (fun p => 20 - p.1) ((0, Sl.nil, [])) ?_ ?_ ?_
     · exact ⟨Nat.zero_le _, Acc.none⟩
     · exact Af (wk1 rfl (wk1 rfl (wk1 rfl (wk1 rfl (wk1 rfl (wk1 rfl (wk1 rfl (wk1 rfl wk0)))))))) (Ac rM (Ac rM (Ac rM (Ac rM (Ac rM (Ah sG (Ah sG (Bl Ad))))))))
     ·
      rintro p1 ⟨hk1, hac1⟩
      refine Sat.seq (Sat.seq (Sat.region ?_))
      refine Tr.m rfl rfl rfl ?_
      refine Tr.lss rfl rfl rfl rfl rfl ?_
      refine Tr.nil (Aa ?_)
      first
       | refine Sat.condP rfl (fun hc3 => ?_) (fun hc3 => ?_)
       | refine Sat.condNP rfl (fun hc3 => ?_) (fun hc3 => ?_)
       | refine Sat.cond rfl (fun hc3 => ?_) (fun hc3 => ?_)
      ·
       refine Sat.skip (Aa (Sat.seq (Sat.block (Sat.region ?_))))
       refine Tr.fld rfl rfl rfl Y57 rfl Sz24 dE _ rfl ?_
       refine Tr.load1 rfl rfl rfl Y24 rfl mM (by first | exact Msg.get_fVotes (by first | exact oK  | exact hB | exact hV | exact hC | exact hC.o_fCut | exact ⟨trivial⟩ | exact ok101) | exact vL) ?_
       refine Tr.lA rfl rfl rfl Y81 rfl Sz81 mM (Vote.length (by first | exact oK  | exact hB | exact hV | exact hC | exact hC.o_fCut | exact ⟨trivial⟩ | exact ok101)) ?_
       refine Tr.mkRow (z := agg Vote.zero.cells) [agg V.cells] V.cells rfl rfl rfl Y24 Sz81 Vote.zr rfl rfl (by intro v hv; rw [List.mem_singleton.1 hv]; exact Vote.length hV) dE (by simp [Value.cells]) ?_
       intro q53
       refine Tr.appendAcc (z := agg Vote.zero.cells) (by' := 160) (V.cells) rfl rfl rfl rfl rfl Y24 Y24 Sz81 Zr81 (by unfold By; kernel_rfl) rfl hac1 sG (fun w h => SeesP.of (Ap h mM)) (fun e => by cases e) (Vote.isCell hV) oM oM (by rw [Vote.length hV]) ?_
       intro s54 bl54 hac54
       refine Tr.fld rfl rfl rfl Y57 rfl Sz24 dE _ rfl ?_
       refine Tr.s1 rfl rfl rfl rfl rfl Sz24 mM (by rw [Msg.length (by first | exact oK  | exact hB | exact hV | exact hC | exact hC.o_fCut | exact ⟨trivial⟩ | exact ok101)]; decide) (by first | exact Msg.set_fVotes (by first | exact oK  | exact hB | exact hV | exact hC | exact hC.o_fCut | exact ⟨trivial⟩ | exact ok101) _ | exact Msg.setS_fVotes (by first | exact oK  | exact hB | exact hV | exact hC | exact hC.o_fCut | exact ⟨trivial⟩ | exact ok101) _ _ _) uU ?_
       refine Tr.nil (B2 (Aa (Sat.region ?_)))
       refine Tr.m rfl rfl rfl ?_
       refine Tr.aI rfl rfl rfl rfl oM ?_
       refine Tr.a rfl rfl rfl ?_
       refine Tr.nil (Aa ?_)
       exact ⟨(p1.1 + 1, s54, bl54), ⟨by simp only []; omega, by simp only [replicate_snoc]; simpa using hac54⟩, by simp only []; omega, Af (wk1 rfl (wk1 rfl (wk1 rfl (wk1 rfl (wk1 rfl (wk1 rfl (wk1 rfl (wk1 (by rw [Int.natCast_add]; rfl) wk0)))))))) (Ac rM (Ac rM (Ac rM (Ac rM (Ac rM (Ah sG (Ah sG (Ah sG Ad))))))))⟩
      ·
       have e1 : p1.1 = 20 := by omega
       rw [e1] at hac1
       refine Sat.exit (Bf (Bf (bl_h (Aa (Sat.seq (Sat.seq (Sat.region ?_)))))))
       refine Tr.a rfl rfl rfl ?_
       refine Tr.nil (Aa (Sat.block ?_))
       refine Sat.loop (ι := Nat × Sl × List Blk × List Blk × List Cut) (fun p => ⟨[(3, ptr n3 0), (4, ptr n4 0), (5, ptr n5 0), (6, .bool false), (7, ptr n7 0), (8, ptr n8 0), (9, ptr n9 0), (12, i64 (p.1 : Int))], (⟨n7, ({ mz 3 0 with fBlocks := p0.2.1 } : Msg).cells, 57, 8⟩ :: (⟨n8, ({ mz 4 0 with fVotes := p1.2.1, fCuts := p.2.1 } : Msg).cells, 57, 8⟩ :: (⟨n9, (mz 5 0).cells, 57, 8⟩ :: (⟨n5, C.cells, 55, C.cells.length⟩ :: (⟨n4, V.cells, 81, V.cells.length⟩ :: (p0.2.2.1 ++ (p0.2.2.2.1 ++ (p1.2.2 ++ (p.2.2.1 ++ (p.2.2.2.1 ++ []))))))))))⟩) (fun p => p.1 ≤ 4 ∧ OwnSeq Cut.cells 34 CutIs 53 p.2.1 p.2.2.1 p.2.2.2.1 p.2.2.2.2 (List.replicate p.1 E.dCut) p.1) (fun p => 4 - p.1) ((0, Sl.nil, [], [], [])) ?_ ?_ ?_
       · exact ⟨Nat.zero_le _, OwnSeq.none⟩
       · exact Af (wk1 rfl (wk1 rfl (wk1 rfl (wk1 rfl (wk1 rfl (wk1 rfl (wk1 rfl (wk1 rfl wk0)))))))) (Ac rM (Ac rM (Ac rM (Ac rM (Ac rM (Ah sG (Ah sG (Ah sG (Bl (Bl Ad))))))))))
       ·
        rintro p2 ⟨hk2, hos2⟩
        refine Sat.seq (Sat.seq (Sat.region ?_))
        refine Tr.m rfl rfl rfl ?_
        refine Tr.lss rfl rfl rfl rfl rfl ?_
        refine Tr.nil (Aa ?_)
        first
         | refine Sat.condP rfl (fun hc4 => ?_) (fun hc4 => ?_)
         | refine Sat.condNP rfl (fun hc4 => ?_) (fun hc4 => ?_)
         | refine Sat.cond rfl (fun hc4 => ?_) (fun hc4 => ?_)
        ·
         refine Sat.skip (Aa (Sat.seq (Sat.block ?_)))
         refine Sat.drawK (sp_v (sp_k (sp_v (sp_k (sp_v (sp_x (sp_x (sp_x (sp_x (sp_x sp_n)))))))))) rfl [(0, 0), (0, 1), (0, 2), (0, 3), (4, 4), (4, 5)] [(4, 6), (0, 7), (4, 8)] Bv zK zK ?_
         refine Tr.fld rfl rfl rfl Y57 rfl Sz25 dE _ rfl ?_
         refine Tr.kload1 rfl rfl rfl Y25 rfl mM (by first | exact Msg.get_fCuts (by first | exact oK  | exact hB | exact hV | exact hC | exact hC.o_fCut | exact ⟨trivial⟩ | exact ok101) | exact vL) ?_
         refine Tr.fld rfl rfl rfl Y55 rfl Ca dE _ rfl ?_
         refine Tr.kloadN (Cut.cells _) rfl rfl rfl Y53 rfl Ca mM (Cert.row_fCut (by first | exact oK  | exact hB | exact hV | exact hC | exact hC.o_fCut | exact ⟨trivial⟩ | exact ok101)) (Cert.rl_fCut (by first | exact oK  | exact hB | exact hV | exact hC | exact hC.o_fCut | exact ⟨trivial⟩ | exact ok101)) ?_
         refine Tr.mkRow (z := agg Cut.zero.cells) [agg C.fCut.cells] C.fCut.cells rfl rfl rfl Y25 Ca Cut.zr rfl rfl (by intro v hv; rw [List.mem_singleton.1 hv]; exact Cut.length hC.o_fCut) dE (by simp [Value.cells]) ?_
         intro q64
         refine Tr.call4 rfl rfl rfl rfl rfl Body38 (kit_own_cuts ⟨some ⟨q64, 0, none⟩, 1, 1⟩ [E.dCut] (show 1 ≤ 1000 by decide) (fun d hd => by rw [List.mem_singleton.1 hd]; omega)) (fun w h => ⟨_, seq_one q64 53 C.fCut (Lies.of h (by intro b hb; rw [List.mem_singleton.1 hb]; repeat (first | exact List.mem_cons_self | refine List.mem_cons_of_mem _ ?_ | refine mem_seg ?_))) (Cut.length hC.o_fCut) (by rw [Cut.length hC.o_fCut]) (hWC.fCut.ext h rfl)⟩) ?_
         rintro v65 out65 ⟨s65, b65, o65, rs65, rfl, rfl, q65_⟩
         obtain ⟨r65, rfl, len65, is65⟩ := one_of q65_
         have n65 : s65.n = 1 := q65_.acc.num
         simp only [List.append_assoc]
         refine Tr.nil ?_
         refine Tr.appendAcc (z := agg Cut.zero.cells) (by' := 64) (r65.cells) rfl rfl rfl rfl rfl Y25 Y25 Ca Zr53 (by unfold By; kernel_rfl) rfl hos2.acc sG (fun w h => by have := q65_.acc.see (Lies.of h iN); simpa using this) (fun e => by have := q65_.acc.nil e; omega) (Cut.isCell (cut_lenok len65)) oM oM (by rw [len65, n65]) ?_
         intro s66 bl66 hac66
         refine Tr.fld rfl rfl rfl Y57 rfl Sz25 dE _ rfl ?_
         refine Tr.s1 rfl rfl rfl rfl rfl Sz25 mM (by rw [Msg.length (by first | exact oK  | exact hB | exact hV | exact hC | exact hC.o_fCut | exact ⟨trivial⟩ | exact ok101)]; decide) (by first | exact Msg.set_fCuts (by first | exact oK  | exact hB | exact hV | exact hC | exact hC.o_fCut | exact ⟨trivial⟩ | exact ok101) _ | exact Msg.setS_fCuts (by first | exact oK  | exact hB | exact hV | exact hC | exact hC.o_fCut | exact ⟨trivial⟩ | exact ok101) _ _ _) uU ?_
         refine Tr.nil (B2 (Aa (Sat.region ?_)))
         simp only [List.cons_append, List.nil_append, List.append_assoc]
         refine Tr.m rfl rfl rfl ?_
         refine Tr.aI rfl rfl rfl rfl oM ?_
         refine Tr.a rfl rfl rfl ?_
         refine Tr.nil (Aa ?_)
         exact ⟨(p2.1 + 1, s66, bl66, o65 ++ p2.2.2.2.1, p2.2.2.2.2 ++ [r65]), ⟨by simp only []; omega, by simp only [replicate_snoc]; exact hos2.snoc (by simpa [n65] using hac66) len65 is65⟩, by simp only []; omega, Af (wk1 rfl (wk1 rfl (wk1 rfl (wk1 rfl (wk1 rfl (wk1 rfl (wk1 rfl (wk1 (by rw [Int.natCast_add]; rfl) wk0)))))))) (Ac rM (Ac rM (Ac rM (Ac rM (Ac rM (Ah sG (Ah sG (Ah sG (Ah sG (B4 (X := o65) (Y := p2.2.2.2.1) (Ah sG (Ah sG Ad))))))))))))⟩
        ·
         have e2 : p2.1 = 4 := by omega
         rw [e2] at hos2
         refine Sat.exit (Bf (Bf (bl_h (Aa (Sat.seq (Sat.seq (Sat.region ?_)))))))
         refine Tr.a rfl rfl rfl ?_
         refine Tr.nil (Aa (Sat.block ?_))
         refine Sat.loop (ι := Nat × Sl × List Blk × List Blk × List Cert) (fun p => ⟨[(3, ptr n3 0), (4, ptr n4 0), (5, ptr n5 0), (6, .bool false), (7, ptr n7 0), (8, ptr n8 0), (9, ptr n9 0), (13, i64 (p.1 : Int))], (⟨n7, ({ mz 3 0 with fBlocks := p0.2.1 } : Msg).cells, 57, 8⟩ :: (⟨n8, ({ mz 4 0 with fVotes := p1.2.1, fCuts := p2.2.1 } : Msg).cells, 57, 8⟩ :: (⟨n9, ({ mz 5 0 with fCerts := p.2.1 } : Msg).cells, 57, 8⟩ :: (⟨n5, C.cells, 55, C.cells.length⟩ :: (⟨n4, V.cells, 81, V.cells.length⟩ :: (p0.2.2.1 ++ (p0.2.2.2.1 ++ (p1.2.2 ++ (p2.2.2.1 ++ (p2.2.2.2.1 ++ (p.2.2.1 ++ (p.2.2.2.1 ++ []))))))))))))⟩) (fun p => p.1 ≤ 2 ∧ OwnSeq Cert.cells 35 CertIs 55 p.2.1 p.2.2.1 p.2.2.2.1 p.2.2.2.2 (List.replicate p.1 E) p.1) (fun p => 2 - p.1) ((0, Sl.nil, [], [], [])) ?_ ?_ ?_
         · exact ⟨Nat.zero_le _, OwnSeq.none⟩
         · exact Af (wk1 rfl (wk1 rfl (wk1 rfl (wk1 rfl (wk1 rfl (wk1 rfl (wk1 rfl (wk1 rfl wk0)))))))) (Ac rM (Ac rM (Ac rM (Ac rM (Ac rM (Ah sG (Ah sG (Ah sG (Ah sG (Ah sG (Bl (Bl Ad))))))))))))
         ·
          rintro p3 ⟨hk3, hos3⟩
          refine Sat.seq (Sat.seq (Sat.region ?_))
          refine Tr.m rfl rfl rfl ?_
          refine Tr.lss rfl rfl rfl rfl rfl ?_
          refine Tr.nil (Aa ?_)
          first
           | refine Sat.condP rfl (fun hc5 => ?_) (fun hc5 => ?_)
           | refine Sat.condNP rfl (fun hc5 => ?_) (fun hc5 => ?_)
           | refine Sat.cond rfl (fun hc5 => ?_) (fun hc5 => ?_)
          ·
           refine Sat.skip (Aa (Sat.seq (Sat.block ?_)))
           refine Sat.drawK (sp_v (sp_v (sp_k (sp_k (sp_v (sp_x (sp_x (sp_x (sp_x (sp_x (sp_x (sp_x sp_n)))))))))))) rfl [(0, 0), (0, 1), (0, 2), (4, 3), (4, 4)] [(4, 5), (0, 6), (4, 7)] Bv zK zK ?_
           refine Tr.fld rfl rfl rfl Y57 rfl Sz23 dE _ rfl ?_
           refine Tr.kload1 rfl rfl rfl Y23 rfl mM (by first | exact Msg.get_fCerts (by first | exact oK  | exact hB | exact hV | exact hC | exact hC.o_fCut | exact ⟨trivial⟩ | exact ok101) | exact vL) ?_
           refine Tr.kloadAll rfl rfl rfl Y55 rfl Sz55 mM (Cert.length (by first | exact oK  | exact hB | exact hV | exact hC | exact hC.o_fCut | exact ⟨trivial⟩ | exact ok101)) ?_
           refine Tr.mkRow (z := agg Cert.zero.cells) [agg C.cells] C.cells rfl rfl rfl Y23 Sz55 Cert.zr rfl rfl (by intro v hv; rw [List.mem_singleton.1 hv]; exact Cert.length hC) dE (by simp [Value.cells]) ?_
           intro q75
           refine Tr.call4 rfl rfl rfl rfl rfl Body39 (kit_own_certs ⟨some ⟨q75, 0, none⟩, 1, 1⟩ [E] (show 1 ≤ 1000 by decide) (fun d hd => by rw [List.mem_singleton.1 hd]; omega)) (fun w h => ⟨_, seq_one q75 55 C (Lies.of h (by intro b hb; rw [List.mem_singleton.1 hb]; repeat (first | exact List.mem_cons_self | refine List.mem_cons_of_mem _ ?_ | refine mem_seg ?_))) (Cert.length hC) (by rw [Cert.length hC]) (hWC.ext h rfl)⟩) ?_
           rintro v76 out76 ⟨s76, b76, o76, rs76, rfl, rfl, q76_⟩
           obtain ⟨r76, rfl, len76, is76⟩ := one_of q76_
           have n76 : s76.n = 1 := q76_.acc.num
           simp only [List.append_assoc]
           refine Tr.nil ?_
           refine Tr.appendAcc (z := agg Cert.zero.cells) (by' := 88) (r76.cells) rfl rfl rfl rfl rfl Y23 Y23 Sz55 Zr55 (by unfold By; kernel_rfl) rfl hos3.acc sG (fun w h => by have := q76_.acc.see (Lies.of h iN); simpa using this) (fun e => by have := q76_.acc.nil e; omega) (Cert.isCell (cert_lenok len76)) oM oM (by rw [len76, n76]) ?_
           intro s77 bl77 hac77
           refine Tr.fld rfl rfl rfl Y57 rfl Sz23 dE _ rfl ?_
           refine Tr.s1 rfl rfl rfl rfl rfl Sz23 mM (by rw [Msg.length (by first | exact oK  | exact hB | exact hV | exact hC | exact hC.o_fCut | exact ⟨trivial⟩ | exact ok101)]; decide) (by first | exact Msg.set_fCerts (by first | exact oK  | exact hB | exact hV | exact hC | exact hC.o_fCut | exact ⟨trivial⟩ | exact ok101) _ | exact Msg.setS_fCerts (by first | exact oK  | exact hB | exact hV | exact hC | exact hC.o_fCut | exact ⟨trivial⟩ | exact ok101) _ _ _) uU ?_
           refine Tr.nil (B2 (Aa (Sat.region ?_)))
           simp only [List.cons_append, List.nil_append, List.append_assoc]
           refine Tr.m rfl rfl rfl ?_
           refine Tr.aI rfl rfl rfl rfl oM ?_
           refine Tr.a rfl rfl rfl ?_
           refine Tr.nil (Aa ?_)
           exact ⟨(p3.1 + 1, s77, bl77, o76 ++ p3.2.2.2.1, p3.2.2.2.2 ++ [r76]), ⟨by simp only []; omega, by simp only [replicate_snoc]; exact hos3.snoc (by simpa [n76] using hac77) len76 is76⟩, by simp only []; omega, Af (wk1 rfl (wk1 rfl (wk1 rfl (wk1 rfl (wk1 rfl (wk1 rfl (wk1 rfl (wk1 (by rw [Int.natCast_add]; rfl) wk0)))))))) (Ac rM (Ac rM (Ac rM (Ac rM (Ac rM (Ah sG (Ah sG (Ah sG (Ah sG (Ah sG (Ah sG (B4 (X := o76) (Y := p3.2.2.2.1) (Ah sG (Ah sG Ad))))))))))))))⟩
          ·
           have e3 : p3.1 = 2 := by omega
           rw [e3] at hos3
           refine Sat.exit (Bf (Bf (bl_h (Aa (Sat.seq (Sat.seq (Sat.region ?_)))))))
           refine Tr.lA rfl rfl rfl Y57 rfl Sz57 mM (Msg.length (by first | exact oK  | exact hB | exact hV | exact hC | exact hC.o_fCut | exact ⟨trivial⟩ | exact ok101)) ?_
           refine Tr.lA rfl rfl rfl Y57 rfl Sz57 mM (Msg.length (by first | exact oK  | exact hB | exact hV | exact hC | exact hC.o_fCut | exact ⟨trivial⟩ | exact ok101)) ?_
           refine Tr.lA rfl rfl rfl Y57 rfl Sz57 mM (Msg.length (by first | exact oK  | exact hB | exact hV | exact hC | exact hC.o_fCut | exact ⟨trivial⟩ | exact ok101)) ?_
           refine Tr.mkRow (z := agg Msg.zero.cells) [agg ({ mz 3 0 with fBlocks := p0.2.1 } : Msg).cells, agg ({ mz 4 0 with fVotes := p1.2.1, fCuts := p2.2.1 } : Msg).cells, agg ({ mz 5 0 with fCerts := p3.2.1 } : Msg).cells] ([({ mz 3 0 with fBlocks := p0.2.1 } : Msg), ({ mz 4 0 with fVotes := p1.2.1, fCuts := p2.2.1 } : Msg), ({ mz 5 0 with fCerts := p3.2.1 } : Msg)].map Msg.cells).flatten rfl rfl rfl Tryz.underlying86 Sz57 Msg.zr rfl rfl (by intro v hv; simp only [List.mem_cons, List.not_mem_nil, or_false] at hv; rcases hv with rfl | rfl | rfl <;> rfl) dE (by simp [Value.cells]) ?_
           intro q82
           refine Tr.lenSl rfl rfl rfl Tryz.underlying86 ?_
           refine Tr.m rfl rfl rfl ?_
           refine Tr.nil (Aa (Sat.block ?_))
           refine Sat.loop (ι := Nat) (fun k => ⟨[(4, ptr n4 0), (6, .bool false), (8, ptr n8 0), (82, .slice (some ⟨q82, 0, none⟩) 3 3), (83, i64 3), (84, i64 (k : Int))], (⟨q82, ([({ mz 3 0 with fBlocks := p0.2.1 } : Msg), ({ mz 4 0 with fVotes := p1.2.1, fCuts := p2.2.1 } : Msg), ({ mz 5 0 with fCerts := p3.2.1 } : Msg)].map Msg.cells).flatten, 57, 3 * 8⟩ :: (⟨n8, ({ mz 4 0 with fVotes := p1.2.1, fCuts := p2.2.1 } : Msg).cells, 57, 8⟩ :: (⟨n4, V.cells, 81, V.cells.length⟩ :: (p0.2.2.1 ++ (p0.2.2.2.1 ++ (p1.2.2 ++ (p2.2.2.1 ++ (p2.2.2.2.1 ++ (p3.2.2.1 ++ (p3.2.2.2.1 ++ []))))))))))⟩) (fun k => k ≤ 3) (fun k => 3 - k) (0) ?_ ?_ ?_
           · exact Nat.zero_le _
           · exact Af (wk1 rfl (wk1 rfl (wk1 rfl (wk1 rfl (wk1 rfl (wk1 rfl wk0)))))) (Ac rM (Ac rM (Ac rM (Ah sG (Ah sG (Ah sG (Ah sG (Ah sG (Ah sG (Ah sG Ad))))))))))
           ·
            rintro k hk4
            refine Sat.seq (Sat.region ?_)
            refine Tr.lss rfl rfl rfl rfl rfl ?_
            refine Tr.nil (Aa (Sat.seq ?_))
            first
             | refine Sat.condP rfl (fun hc6 => ?_) (fun hc6 => ?_)
             | refine Sat.condNP rfl (fun hc6 => ?_) (fun hc6 => ?_)
             | refine Sat.cond rfl (fun hc6 => ?_) (fun hc6 => ?_)
            ·
             obtain ⟨r, d, hrow, hlen8, hrd⟩ := pick3 (m0 := ({ mz 3 0 with fBlocks := p0.2.1 } : Msg)) (m1 := ({ mz 4 0 with fVotes := p1.2.1, fCuts := p2.2.1 } : Msg)) (m2 := ({ mz 5 0 with fCerts := p3.2.1 } : Msg)) (D0 := mD3 D) (D1 := mD4 V E.dCut) (D2 := mD5 E) (show k < 3 by omega)
             have hm7 : ∀ (w : World) (l1 : Lies p0.2.2.1 w) (l2 : Lies p0.2.2.2.1 w) (l3 : Lies p1.2.2 w) (l4 : Lies p2.2.2.1 w) (l5 : Lies p2.2.2.2.1 w) (l6 : Lies p3.2.2.1 w) (l7 : Lies p3.2.2.2.1 w), MsgIs w ({ mz 3 0 with fBlocks := p0.2.1 } : Msg) (mD3 D) := fun w l1 l2 l3 l4 l5 l6 l7 => (mz_is 3 0 rfl).putBlocks ⟨_, hos.seq l1 l2 dE⟩
             have hm8 : ∀ (w : World) (l1 : Lies p0.2.2.1 w) (l2 : Lies p0.2.2.2.1 w) (l3 : Lies p1.2.2 w) (l4 : Lies p2.2.2.1 w) (l5 : Lies p2.2.2.2.1 w) (l6 : Lies p3.2.2.1 w) (l7 : Lies p3.2.2.2.1 w), MsgIs w ({ mz 4 0 with fVotes := p1.2.1, fCuts := p2.2.1 } : Msg) (mD4 V E.dCut) := fun w l1 l2 l3 l4 l5 l6 l7 => ((mz_is 4 0 rfl).putVotes (owned_vs (vs := List.replicate 20 V) (fun x hx => (List.mem_replicate.1 hx).2 ▸ ⟨hV, hwf⟩) (by simpa using hac1) sP w l3)).putCuts ⟨_, hos2.seq l4 l5 dE⟩
             have hm9 : ∀ (w : World) (l1 : Lies p0.2.2.1 w) (l2 : Lies p0.2.2.2.1 w) (l3 : Lies p1.2.2 w) (l4 : Lies p2.2.2.1 w) (l5 : Lies p2.2.2.2.1 w) (l6 : Lies p3.2.2.1 w) (l7 : Lies p3.2.2.2.1 w), MsgIs w ({ mz 5 0 with fCerts := p3.2.1 } : Msg) (mD5 E) := fun w l1 l2 l3 l4 l5 l6 l7 => (mz_is 5 0 rfl).putCerts ⟨_, hos3.seq l6 l7 dE⟩
             have hme : ∀ (w : World) (l1 : Lies p0.2.2.1 w) (l2 : Lies p0.2.2.2.1 w) (l3 : Lies p1.2.2 w) (l4 : Lies p2.2.2.1 w) (l5 : Lies p2.2.2.2.1 w) (l6 : Lies p3.2.2.1 w) (l7 : Lies p3.2.2.2.1 w), MsgIs w r d := by
              rcases hrd with ⟨rfl, rfl⟩ | ⟨rfl, rfl⟩ | ⟨rfl, rfl⟩
              · exact hm7
              · exact hm8
              · exact hm9
             have hoks : d.oks := by
              rcases hrd with ⟨_, rfl⟩ | ⟨_, rfl⟩ | ⟨_, rfl⟩
              · exact mD3_oks hdo
              · exact mD4_oks hV ⟨heok.prev, heok.heads⟩
              · exact mD5_oks heok
             refine Sat.skip (Aa (Sat.seq (Sat.block (Sat.seq (Sat.region ?_)))))
             refine Tr.idxSlP 8 rfl rfl rfl rfl rfl Tryz.underlying86 Sz57 k rfl oM ?_
             refine Tr.lN r.cells rfl rfl rfl Y57 rfl Sz57 mM hrow hlen8 ?_
             refine Tr.alloc (cs := Msg.zero.cells) rfl Msg.zr rfl ?_
             intro n15 hn15 hf15
             refine Tr.sA rfl rfl rfl rfl (Msg.isCell (by first | exact oK  | exact hB | exact hV | exact hC | exact hC.o_fCut | exact ⟨trivial⟩ | exact ok101)) Sz57 (Msg.length (by first | exact oK  | exact hB | exact hV | exact hC | exact hC.o_fCut | exact ⟨trivial⟩ | exact ok101)) mM (Msg.length (by first | exact oK  | exact hB | exact hV | exact hC | exact hC.o_fCut | exact ⟨trivial⟩ | exact ok101)) uU ?_
             refine Tr.nil (Aa (Sat.seq (Sat.region ?_)))
             refine Tr.lA rfl rfl rfl Y57 rfl Sz57 mM (Msg.length (by first | exact oK  | exact hB | exact hV | exact hC | exact hC.o_fCut | exact ⟨trivial⟩ | exact ok101)) ?_
             refine Tr.call4 rfl rfl rfl rfl rfl Body28 (msg_bytes r d) (fun w h => hme w (Lies.of h iN) (Lies.of h iN) (Lies.of h iN) (Lies.of h iN) (Lies.of h iN) (Lies.of h iN) (Lies.of h iN)) ?_
             rintro v90 out90 ⟨s90, rfl, hac90⟩
             have hn90 := hac90.num
             refine Tr.m rfl rfl rfl ?_
             refine Tr.eX rfl rfl rfl rfl ?_
             refine Tr.eX rfl rfl rfl rfl ?_
             refine Tr.a rfl rfl rfl ?_
             refine Tr.a rfl rfl rfl ?_
             refine Tr.nil (Aa (Sat.seq (Sat.seq (Sat.region ?_))))
             refine Tr.m rfl rfl rfl ?_
             refine Tr.lA rfl rfl rfl Y57 rfl Sz57 mM (Msg.length (by first | exact oK  | exact hB | exact hV | exact hC | exact hC.o_fCut | exact ⟨trivial⟩ | exact ok101)) ?_
             refine Tr.cV rfl rfl rfl rfl Body34 (msg_check r d) (fun w h => hme w (Lies.of h iN) (Lies.of h iN) (Lies.of h iN) (Lies.of h iN) (Lies.of h iN) (Lies.of h iN) (Lies.of h iN)) ?_
             refine Tr.nei rfl rfl rfl rfl (show (!decide _) = false from congrArg not (decide_eq_true (rfl))) ?_
             refine Tr.nil (Aa ?_)
             refine Sat.cond_f rfl rfl ?_
             refine Sat.skip (Aa (Sat.seq (Sat.seq (Sat.region ?_))))
             refine Tr.m rfl rfl rfl ?_
             refine Tr.nei rfl rfl rfl rfl rfl ?_
             refine Tr.nil (Aa ?_)
             first
              | refine Sat.condP rfl (fun hc8 => ?_) (fun hc8 => ?_)
              | refine Sat.condNP rfl (fun hc8 => ?_) (fun hc8 => ?_)
              | refine Sat.cond rfl (fun hc8 => ?_) (fun hc8 => ?_)
             ·
              refine Sat.exit (Bf (bl_h (Aa (Sat.region ?_))))
              refine Tr.aI rfl rfl rfl rfl oM ?_
              refine Tr.m rfl rfl rfl ?_
              refine Tr.nil (Aa ?_)
              exact ⟨k + 1, by omega, by omega, Af (wk1 rfl (wk1 rfl (wk1 rfl (wk1 rfl (wk1 rfl (wk1 (by rw [Int.natCast_add]; rfl) wk0)))))) (Ac rM (Ac rM (Ac rM (Ah sG (Ah sG (Ah sG (Ah sG (Ah sG (Ah sG (Ah sG Ad))))))))))⟩
             ·
              have cD : d.check = 0 := hc8
              have hbD : msgR d = msgB d := if_pos cD
              rw [hbD] at hac90 hn90
              have hmost := msgB_most cD hoks
              refine Sat.skip (Aa (Sat.seq (Sat.region ?_)))
              refine Tr.m rfl rfl rfl ?_
              refine Tr.call4 rfl rfl rfl rfl rfl Body26 (sync_read s90.p s90.n s90.c (msgB d) hn90.symm (fun e => hac90.nil e) oM) (fun w h => hac90.see (Lies.of h iN)) ?_
              rintro v101 out101 ⟨m101, ok101, rfl, h101⟩
              rw [msgRd_bytes cD hoks] at h101 ⊢
              dsimp only at h101
              refine Tr.m rfl rfl rfl ?_
              refine Tr.eX rfl rfl rfl rfl ?_
              refine Tr.eX rfl rfl rfl rfl ?_
              refine Tr.alloc (cs := Msg.zero.cells) rfl Msg.zr rfl ?_
              intro n18 hn18 hf18
              refine Tr.sA rfl rfl rfl rfl (Msg.isCell (by first | exact oK  | exact hB | exact hV | exact hC | exact hC.o_fCut | exact ⟨trivial⟩ | exact ok101)) Sz57 (Msg.length (by first | exact oK  | exact hB | exact hV | exact hC | exact hC.o_fCut | exact ⟨trivial⟩ | exact ok101)) mM (Msg.length (by first | exact oK  | exact hB | exact hV | exact hC | exact hC.o_fCut | exact ⟨trivial⟩ | exact ok101)) uU ?_
              refine Tr.a rfl rfl rfl ?_
              refine Tr.nil (Aa (Sat.seq (Sat.region ?_)))
              refine Tr.m rfl rfl rfl ?_
              refine Tr.nei rfl rfl rfl rfl (show (!decide _) = false from congrArg not (decide_eq_true (rfl))) ?_
              refine Tr.m rfl rfl rfl ?_
              refine Tr.m rfl rfl rfl ?_
              refine Tr.lenSl rfl rfl rfl Y58 ?_
              refine Tr.gtr rfl rfl rfl rfl (decide_eq_false oM) ?_
              refine Tr.pick rfl rfl rfl rfl rfl rfl ?_
              refine Tr.m rfl rfl rfl ?_
              refine Tr.lA rfl rfl rfl Y57 rfl Sz57 mM (Msg.length (by first | exact oK  | exact hB | exact hV | exact hC | exact hC.o_fCut | exact ⟨trivial⟩ | exact ok101)) ?_
              refine Tr.lA rfl rfl rfl Y57 rfl Sz57 mM (Msg.length (by first | exact oK  | exact hB | exact hV | exact hC | exact hC.o_fCut | exact ⟨trivial⟩ | exact ok101)) ?_
              refine Tr.cV rfl rfl rfl rfl Body35 (kit_msg_same m101 r d (msg_tiny cD)) (fun w h => ⟨h101 w (Lies.of h iN), hme w (Lies.of h iN) (Lies.of h iN) (Lies.of h iN) (Lies.of h iN) (Lies.of h iN) (Lies.of h iN) (Lies.of h iN)⟩) ?_
              refine Tr.not rfl rfl rfl ?_
              refine Tr.pick rfl rfl rfl rfl rfl rfl ?_
              refine Tr.nil (Aa ?_)
              refine Sat.cond_f rfl rfl ?_
              refine Sat.skip (B2 (Aa (Sat.region ?_)))
              refine Tr.aI rfl rfl rfl rfl oM ?_
              refine Tr.m rfl rfl rfl ?_
              refine Tr.nil (Aa ?_)
              exact ⟨k + 1, by omega, by omega, Af (wk1 rfl (wk1 rfl (wk1 rfl (wk1 rfl (wk1 rfl (wk1 (by rw [Int.natCast_add]; rfl) wk0)))))) (Ac rM (Ac rM (Ac rM (Ah sG (Ah sG (Ah sG (Ah sG (Ah sG (Ah sG (Ah sG Ad))))))))))⟩
            ·
             have hm8 : ∀ (w : World) (l1 : Lies p0.2.2.1 w) (l2 : Lies p0.2.2.2.1 w) (l3 : Lies p1.2.2 w) (l4 : Lies p2.2.2.1 w) (l5 : Lies p2.2.2.2.1 w) (l6 : Lies p3.2.2.1 w) (l7 : Lies p3.2.2.2.1 w), MsgIs w ({ mz 4 0 with fVotes := p1.2.1, fCuts := p2.2.1 } : Msg) (mD4 V E.dCut) := fun w l1 l2 l3 l4 l5 l6 l7 => ((mz_is 4 0 rfl).putVotes (owned_vs (vs := List.replicate 20 V) (fun x hx => (List.mem_replicate.1 hx).2 ▸ ⟨hV, hwf⟩) (by simpa using hac1) sP w l3)).putCuts ⟨_, hos2.seq l4 l5 dE⟩
             have hlD2 : E.dCut.dHeads.length ≤ 40 := by omega
             refine Sat.exit (Bf (Bf (bl_h (Aa (Sat.seq (Sat.region ?_))))))
             refine Tr.lA rfl rfl rfl Y57 rfl Sz57 mM (Msg.length (by first | exact oK  | exact hB | exact hV | exact hC | exact hC.o_fCut | exact ⟨trivial⟩ | exact ok101)) ?_
             refine Tr.call4 rfl rfl rfl rfl rfl Body33 (kit_own_msg2 ({ mz 4 0 with fVotes := p1.2.1, fCuts := p2.2.1 } : Msg) (mD4 V E.dCut) (mD4_light hlD2)) (fun w h => hm8 w (Lies.of h iN) (Lies.of h iN) (Lies.of h iN) (Lies.of h iN) (Lies.of h iN) (Lies.of h iN) (Lies.of h iN)) ?_
             rintro v119 out119 ⟨m119, bv, rest, rfl, rfl, hac119, hvg, h119⟩
             simp only [List.append_assoc]
             rw [show (mD4 V E.dCut).dVotes = List.replicate 20 V from rfl] at hac119 hvg
             rw [List.length_replicate] at hac119
             refine Tr.alloc (cs := Msg.zero.cells) rfl Msg.zr rfl ?_
             intro n19 hn19 hf19
             refine Tr.sA rfl rfl rfl rfl (Msg.isCell (by first | exact oK  | exact hB | exact hV | exact hC | exact hC.o_fCut | exact ⟨trivial⟩ | exact ok101)) Sz57 (Msg.length (by first | exact oK  | exact hB | exact hV | exact hC | exact hC.o_fCut | exact ⟨trivial⟩ | exact ok101)) mM (Msg.length (by first | exact oK  | exact hB | exact hV | exact hC | exact hC.o_fCut | exact ⟨trivial⟩ | exact ok101)) uU ?_
             refine Tr.nil (Aa (Sat.seq (Sat.region ?_)))
             refine Tr.fld rfl rfl rfl Y57 rfl Sz24 dE _ rfl ?_
             refine Tr.load1 rfl rfl rfl Y24 rfl mM (by first | exact Msg.get_fVotes (by first | exact oK  | exact hB | exact hV | exact hC | exact hC.o_fCut | exact ⟨trivial⟩ | exact ok101) | exact vL) ?_
             refine Tr.lA rfl rfl rfl Y81 rfl Sz81 mM (Vote.length (by first | exact oK  | exact hB | exact hV | exact hC | exact hC.o_fCut | exact ⟨trivial⟩ | exact ok101)) ?_
             refine Tr.mkRow (z := agg Vote.zero.cells) [agg V.cells] V.cells rfl rfl rfl Y24 Sz81 Vote.zr rfl rfl (by intro v hv; rw [List.mem_singleton.1 hv]; exact Vote.length hV) dE (by simp [Value.cells]) ?_
             intro q123
             refine Tr.appendAcc (z := agg Vote.zero.cells) (by' := 160) (V.cells) rfl rfl rfl rfl rfl Y24 Y24 Sz81 Zr81 (by unfold By; kernel_rfl) rfl hac119 sG (fun w h => SeesP.of (Ap h mM)) (fun e => by cases e) (Vote.isCell hV) oM oM (by rw [Vote.length hV]) ?_
             intro s124 bl124 hac124
             refine Tr.fld rfl rfl rfl Y57 rfl Sz24 dE _ rfl ?_
             refine Tr.s1 rfl rfl rfl rfl rfl Sz24 mM (by rw [Msg.length (by first | exact oK  | exact hB | exact hV | exact hC | exact hC.o_fCut | exact ⟨trivial⟩ | exact ok101)]; decide) (by first | exact Msg.set_fVotes (by first | exact oK  | exact hB | exact hV | exact hC | exact hC.o_fCut | exact ⟨trivial⟩ | exact ok101) _ | exact Msg.setS_fVotes (by first | exact oK  | exact hB | exact hV | exact hC | exact hC.o_fCut | exact ⟨trivial⟩ | exact ok101) _ _ _) uU ?_
             refine Tr.nil (Aa (Sat.seq (Sat.region ?_)))
             refine Tr.lA rfl rfl rfl Y57 rfl Sz57 mM (Msg.length (by first | exact oK  | exact hB | exact hV | exact hC | exact hC.o_fCut | exact ⟨trivial⟩ | exact ok101)) ?_
             refine Tr.cV rfl rfl rfl rfl Body34 (msg_check { m119 with fVotes := s124 } { mD4 V E.dCut with dVotes := List.replicate 20 V ++ [V] }) (fun w h => h119 w (Lies.of h iN) _ _ (owned_vs (fun x hx => by rcases List.mem_append.1 hx with hx | hx; exact hvg x hx; exact (List.mem_singleton.1 hx) ▸ ⟨hV, hwf⟩) (by simp only [List.map_append, List.flatten_append, List.map_cons, List.map_nil, List.flatten_cons, List.flatten_nil, List.append_nil, List.length_append, List.length_replicate, List.length_cons, List.length_nil]; exact hac124) sP w (Lies.of h iN))) ?_
             refine Tr.eqi rfl rfl rfl rfl (decide_eq_true (by rw [mD4_more])) ?_
             refine Tr.a rfl rfl rfl ?_
             refine Tr.nil (Aa (Sat.ret (Am ?_)))
             refine ⟨_, [], Ae rfl rfl, sP, sP, ?_, rfl⟩
             rfl
 ·
  first | have hs3_2 := of_decide_eq_true hs3_20 | have hs3_2 := of_decide_eq_false hs3_20 | have hs3_2 := A2 hs3_20 | have hs3_2 := A3 hs3_20 | have hs3_2 := hs3_20
  refine Tr.not rfl rfl rfl ?_
  refine Tr.m rfl rfl rfl ?_
  refine Tr.skp rfl rfl ?_
  refine Tr.skp rfl rfl ?_
  refine Tr.skp rfl rfl ?_
  refine Tr.skp rfl rfl ?_
  refine Tr.pick rfl rfl rfl rfl rfl rfl ?_
  refine Tr.nil (Aa ?_)
  refine Sat.cond_t rfl rfl ?_
  refine Sat.seq (Sat.region ?_)
  refine Tr.a rfl rfl rfl ?_
  refine Tr.nil (Aa (Sat.ret (Ao (Am ?_))))
  refine ⟨_, [], Ae rfl rfl, sP, sP, ?_, rfl⟩
  rfl

end Go.Proofs.YtdifpjmfabhpiaaGreat
end

section
namespace Go.Proofs.YtdifpjmfabhpiaaGreat
open Go Go.ChangeShapes Go.WideShapes Go.ChangeAt Go.RowKit

theorem ownSMost : ownKnob Tryz.prog.godebug = none := by kernel_rfl
theorem laidOutSMost : laidOutB Tryz.prog = true := by kernel_rfl

theorem walkSMost (w : World) (x0 : Block) (D0 : DB) (is0 : BlockIs w x0 D0) (x1 : Vote) (D1 : Vote) (is1 : VoteIs w x1 D1) (x2 : Cert) (D2 : DCert) (is2 : CertIs w x2 D2) : Calls Tryz.prog 5 #[Hw.agg x0.cells, Hw.agg x1.cells, Hw.agg x2.cells] w fun e w' => e = .returned (.bool true) ∧ Below w.heap.size w w' :=
  by
  have fin : ∀ {us : Array Value}, Calls Tryz.prog 5 us w (fun e W' => ∃ v out, e = .returned v ∧ (v = .bool true ∧ out = []) ∧ Hw.Ret [] out w W') → Calls Tryz.prog 5 us w (fun e w' => e = .returned (.bool true) ∧ Below w.heap.size w w') :=
    fun h => h.mono fun e w' ⟨v, out, he, ⟨hv, ho⟩, hr⟩ => ⟨by rw [he, hv], Hw.Keeps.below hr.keeps⟩
  exact fin (law_syncmost x0 D0 x1 D1 x2 D2 w ⟨is0, is1, is2⟩)

theorem liftedSMost (os : Os) (started : os.Started) (H : Type) (enc : TypeId × Value → H) :
    ReturnsInHanded {} Tryz.checked os 5 .any (Rows.syncMostSpec.pre6 enc Tryz.prog Tryz.f5 Rows.syncMostRow.domain false) (Rows.syncMostSpec.post enc Tryz.prog Tryz.f5 false true false false) := by
  refine returnsInHanded_of_change (C := Tryz.checked) ownSMost started (by kernel_rfl) Tryz.func5
    (ChangeSpec.witness6 (enc := enc) (C := Tryz.checked) false ⟨#[], #[.agg (Array.replicate 32 (.int .u8 0) ++ #[.int .u64 0] ++ Array.replicate 32 (.int .u8 0) ++ #[.slice none 0 0, .slice none 0 0] ++ Array.replicate 64 (.int .u8 0)), .agg (#[.int .u64 0, .int .u64 0, .int .i64 0] ++ Array.replicate 32 (.int .u8 0) ++ #[.int .u64 0] ++ Array.replicate 96 (.int .u8 0)), .agg (#[.int .u64 0] ++ Array.replicate 32 (.int .u8 0) ++ #[.slice none 0 0, .slice none 0 0])], []⟩ 8 (by kernel_rfl) (by kernel_rfl) (by kernel_rfl) (by kernel_rfl)) ?_
  intro W base args ds gs before hval0 hW hcnd _
  have hval : ∀ (j : Nat) t v, Tryz.f5.params[j]? = some t → args[j]? = some v → Value.okWide Tryz.prog W .any base t v := hval0
  have hW' := hW
  obtain ⟨p, q, hA0, hV, rfl, hfz, hnd⟩ := hW
  have hA : DataW.TrodAll enc Tryz.prog W 0 (fun _ => true) true Tryz.f5.params.toList args.toList ds p := hA0
  rw [Tryz.params5] at hA hval
  obtain ⟨v0, vs0, d0, ds0, p0, q0, hargs, rfl, rfl, h0, r0⟩ := trodAll_cons hA
  obtain ⟨v1, vs1, d1, ds1, p1, q1, rfl, rfl, rfl, h1, r1⟩ := trodAll_cons r0
  obtain ⟨v2, vs2, d2, ds2, p2, q2, rfl, rfl, rfl, h2, r2⟩ := trodAll_cons r1
  obtain ⟨rfl, rfl, rfl⟩ := trodAll_nil r2
  obtain rfl : args = #[v0, v1, v2] := by cases args; simp_all
  obtain ⟨rfl, rfl⟩ := trodVars_none hV
  have k0 := h0
  have lt0 : ∀ x ∈ p0, x.block < W.heap.size := by obtain ⟨m, hm⟩ := k0; exact DataW.trod_lt m _ _ _ hm
  have k1 := h1
  have lt1 : ∀ x ∈ p1, x.block < W.heap.size := by obtain ⟨m, hm⟩ := k1; exact DataW.trod_lt m _ _ _ hm
  have k2 := h2
  have lt2 : ∀ x ∈ p2, x.block < W.heap.size := by obtain ⟨m, hm⟩ := k2; exact DataW.trod_lt m _ _ _ hm
  obtain ⟨x0, D0, rfl, is0⟩ := Block.openW (hval 0 79 v0 rfl rfl) h0
  obtain ⟨x1, D1, rfl, is1⟩ := Vote.openW (hval 1 81 v1 rfl rfl) h1
  obtain ⟨x2, D2, rfl, is2⟩ := Cert.openW (hval 2 55 v2 rfl rfl) h2
  clear hA0 hval0
  refine (walkSMost W x0 D0 is0 x1 D1 is1 x2 D2 is2).mono fun e W' ⟨he, bel⟩ => ?_
  subst he
  exact ⟨_, rfl, _, _, _, [], _, [], hW', trodAll_mk1 (shut_bool Tryz.underlying4 _), (trodAll_cons_mk (Below.trod laidOutSMost (by kernel_rfl) (of_decide_eq_true (by kernel_rfl)) k0 bel lt0) (trodAll_cons_mk (Below.trod laidOutSMost (by kernel_rfl) (of_decide_eq_true (by kernel_rfl)) k1 bel lt1) (trodAll_cons_mk (Below.trod laidOutSMost (by kernel_rfl) (of_decide_eq_true (by kernel_rfl)) k2 bel lt2) trodAll_mk0))), rfl, bel.frame _, fun h => by cases h⟩

theorem syncMost_holds : Rows.SyncMostSaid :=
  OpenClaim.holds_of_wide 5 Tryz.f5 rfl rfl rfl rfl rfl rfl rfl ⟨rfl, rfl, rfl, rfl, rfl⟩ rfl rfl rfl rfl rfl (by kernel_rfl) Tryz.func5 (by kernel_rfl)
    (of_decide_eq_true (by kernel_rfl)) (by unfold Func.isWrapper; first | (rw [if_pos (by decide +kernel)]; kernel_rfl) | (rw [if_neg (by decide +kernel)]; exact ⟨rfl, rfl⟩))
    (fun os started H enc _ => liftedSMost os started H enc)

end Go.Proofs.YtdifpjmfabhpiaaGreat
end
