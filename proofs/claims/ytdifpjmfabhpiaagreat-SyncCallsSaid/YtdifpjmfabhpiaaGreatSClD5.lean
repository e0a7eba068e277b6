/- Contracts of functions of the loaded program, and the lemmas that they need (part 5). It proves no statement by itself; it has no conditions. -/
import Derived.WalkKit
import Derived.Orders
import Derived.Deep.LoopGhost
import Derived.IntWalk
import Derived.Laws.StructEq
import Derived.ArgAppend
import Derived.Deep.AppendSrc
import Derived.Lib.Bytealg
import Derived.Lib.BytesEntry
import Derived.Laws.IdiomStrings
import Derived.WideKeyArr2
import Derived.ProofKit
import Derived.OpenShut
import Derived.Deep.Slices
import Derived.Laws.Pointers
import Derived.Laws.Cover3
import Derived.LaidEqlPtr
import Derived.LoopN
import Derived.RangeFuncLeaves
import Derived.RangeFuncSeq
import Derived.OrdersIn
import Derived.Test.YtdifpjmfabhpiaaGreatRows
import Derived.KernelRfl
import Derived.Laws.Externs
import Derived.Defers
import Derived.Laws.MathBits
import Derived.ChangeOld
import Derived.Below
import Derived.Test.YtdifpjmfabhpiaaGreatSClD4
set_option maxRecDepth 100000
set_option maxHeartbeats 8000000
set_option linter.unusedVariables false
set_option linter.unusedSimpArgs false
section
namespace Go.Proofs.YtdifpjmfabhpiaaGreat
open Go Hw

abbrev RS := Option (DMsg × Nat × Int)
open Classical in
noncomputable def stageO (r : RS) (b : Int) (F : DMsg → Nat → Int → RS) : RS := r.bind fun p => if ¬ andI (Bb p.1.dKind) b = 0 then F p.1 p.2.1 p.2.2 else some p
theorem Bl {r : RS} {b : Int} {F : DMsg → Nat → Int → RS} {D : DMsg} {a : Nat} {e : Int} (h : r = some (D, a, e)) (hb : andI (Bb D.dKind) b = 0) : stageO r b F = some (D, a, e) := by
  rw [stageO, h, Option.bind_some]
  exact if_neg (fun h => h hb)
theorem Bq {r : RS} {b : Int} {F : DMsg → Nat → Int → RS} {D : DMsg} {a : Nat} {e : Int} (h : r = some (D, a, e)) (hb : ¬ andI (Bb D.dKind) b = 0) : stageO r b F = F D a e := by
  rw [stageO, h, Option.bind_some]
  exact if_pos hb
theorem stageO_none {r : RS} {b : Int} {F : DMsg → Nat → Int → RS} (h : r = none) : stageO r b F = none := by rw [stageO, h]; rfl
noncomputable def rS0 (xs : List UInt8) : RS := if Bb ((wordR xs 0 0).1.toNat : Int) = 0 then none else some (dz ((wordR xs 0 0).1.toNat : Int) 0, (wordR xs 0 0).2)
noncomputable def rS1 (xs : List UInt8) : RS := stageO (rS0 xs) 1 fun D a e => some ({ D with dHeight := (A0 xs a e).1 }, (A0 xs a e).2)
noncomputable def rS2 (xs : List UInt8) : RS := stageO (rS1 xs) 2 fun D a e => (B9 xs 32 a e).map fun r => ({ D with dHeads := r.1 }, r.2)
noncomputable def rS3 (xs : List UInt8) : RS := stageO (rS2 xs) 4 fun D a e => (B9 xs 32 a e).map fun r => ({ D with dWant := r.1 }, r.2)
noncomputable def rS4 (xs : List UInt8) : RS := stageO (rS3 xs) 8 fun D a e => (Cs readD xs 8 a e).map fun r => ({ D with dBlocks := r.1 }, r.2)
noncomputable def rS5 (xs : List UInt8) : RS := stageO (rS4 xs) 16 fun D a e => (readVL xs 20 a e).map fun r => ({ D with dVotes := r.1 }, r.2)
noncomputable def rS6 (xs : List UInt8) : RS := stageO (rS5 xs) 32 fun D a e => (Cs B8 xs 4 a e).map fun r => ({ D with dCuts := r.1 }, r.2)
noncomputable def rS7 (xs : List UInt8) : RS := stageO (rS6 xs) 64 fun D a e => (Cs Bv xs 2 a e).map fun r => ({ D with dCerts := r.1 }, r.2)
theorem bad7 {xs : List UInt8} (h : rS7 xs = none) : rS7 xs = none := h
theorem bad6 {xs : List UInt8} (h : rS6 xs = none) : rS7 xs = none := stageO_none h
theorem bad5 {xs : List UInt8} (h : rS5 xs = none) : rS7 xs = none := bad6 (stageO_none h)
theorem bad4 {xs : List UInt8} (h : rS4 xs = none) : rS7 xs = none := bad5 (stageO_none h)
theorem bad3 {xs : List UInt8} (h : rS3 xs = none) : rS7 xs = none := bad4 (stageO_none h)
theorem bad2 {xs : List UInt8} (h : rS2 xs = none) : rS7 xs = none := bad3 (stageO_none h)
theorem bad1 {xs : List UInt8} (h : rS1 xs = none) : rS7 xs = none := bad2 (stageO_none h)
theorem bad0 {xs : List UInt8} (h : rS0 xs = none) : rS7 xs = none := bad1 (stageO_none h)
def dmz : DMsg := dz 0 0
noncomputable def msgFin (n : Nat) : RS → DMsg × Int
  | some (D, a, e) => if endR n a e = 0 ∧ D.check = 0 then (D, 0) else (dmz, 4)
  | none => (dmz, 4)
noncomputable def msgRd (xs : List UInt8) : DMsg × Int := msgFin xs.length (rS7 xs)
theorem msgFin_none (n : Nat) : msgFin n none = (dmz, 4) := rfl
theorem msgFin_some (n : Nat) (D : DMsg) (a : Nat) (e : Int) : msgFin n (some (D, a, e)) = if endR n a e = 0 ∧ D.check = 0 then (D, 0) else (dmz, 4) := rfl
theorem msgRd_none {xs : List UInt8} (h : rS7 xs = none) : msgRd xs = (dmz, 4) := by unfold msgRd; rw [h, msgFin_none]
theorem msgRd_bad {xs : List UInt8} {D : DMsg} {a : Nat} {e : Int} (h : rS7 xs = some (D, a, e)) (hb : ¬ (endR xs.length a e = 0 ∧ D.check = 0)) : msgRd xs = (dmz, 4) := by
  unfold msgRd; rw [h, msgFin_some]; exact if_neg hb
theorem msgRd_ok {xs : List UInt8} {D : DMsg} {a : Nat} {e : Int} (h : rS7 xs = some (D, a, e)) (hb : endR xs.length a e = 0 ∧ D.check = 0) : msgRd xs = (D, 0) := by
  unfold msgRd; rw [h, msgFin_some]; exact if_pos hb
def MsgRead (xs : List UInt8) (v : Value) (out : List Blk) : Prop := ∃ m : Msg, m.ok ∧ v = .tuple #[agg m.cells, i64 (msgRd xs).2] ∧ ∀ W2, Lies out W2 → MsgIs W2 m (msgRd xs).1
theorem msg_zero_is (W : World) : MsgIs W Msg.zero dmz := mz_is 0 0 rfl
theorem Cj {xs : List UInt8} {out : List Blk} (h : msgRd xs = (dmz, 4)) : MsgRead xs (.tuple #[agg Msg.zero.cells, i64 4]) out :=
  ⟨Msg.zero, ⟨trivial⟩, by rw [h], fun W2 _ => by rw [h]; exact msg_zero_is W2⟩
theorem msg_okR {xs : List UInt8} {out : List Blk} {m : Msg} {D : DMsg} (h : msgRd xs = (D, 0)) (hm : ∀ W2, Lies out W2 → MsgIs W2 m D) : MsgRead xs (.tuple #[agg m.cells, i64 0]) out :=
  ⟨m, ⟨trivial⟩, by rw [h], fun W2 hl => by rw [h]; exact hm W2 hl⟩
structure RSt where
  b : Bool
  m : Msg
  D : DMsg
  a : Nat
  e : Int
  bl : List Blk
structure RJ (k : Int) (st : RS) (N : Nat) (p : RSt) : Prop where
  a : p.a ≤ N
  yes : p.b = true → st = some (p.D, p.a, p.e) ∧ p.D.dKind = k ∧ ∀ W2, Lies p.bl W2 → MsgIs W2 p.m p.D
  no : p.b = false → st = none
theorem RJ.good {k : Int} {st : RS} {N : Nat} {m : Msg} {D : DMsg} {a : Nat} {e : Int} {bl : List Blk} (ha : a ≤ N) (h1 : st = some (D, a, e)) (h2 : D.dKind = k) (h3 : ∀ W2, Lies bl W2 → MsgIs W2 m D) : RJ k st N ⟨true, m, D, a, e, bl⟩ := ⟨ha, fun _ => ⟨h1, h2, h3⟩, fun h => by cases h⟩
theorem RJ.fail {k : Int} {st : RS} {N : Nat} {m : Msg} {D : DMsg} {a : Nat} {e : Int} {bl : List Blk} (ha : a ≤ N) (h1 : st = none) : RJ k st N ⟨false, m, D, a, e, bl⟩ := ⟨ha, fun h => (by cases h), fun _ => h1⟩

theorem MsgIs.putHeads {W : World} {m : Msg} {D : DMsg} (h : MsgIs W m D) {s : Sl} {ds : List (List UInt8)} (hr : RowsAt W s 32 ds) : MsgIs W { m with fHeads := s } { D with dHeads := ds } := ⟨⟨trivial⟩, h.fKind, h.wKind, h.fHeight, hr, h.fWant, h.fBlocks, h.fVotes, h.fCuts, h.fCerts⟩

theorem MsgIs.putWant {W : World} {m : Msg} {D : DMsg} (h : MsgIs W m D) {s : Sl} {ds : List (List UInt8)} (hr : RowsAt W s 32 ds) : MsgIs W { m with fWant := s } { D with dWant := ds } := ⟨⟨trivial⟩, h.fKind, h.wKind, h.fHeight, h.fHeads, hr, h.fBlocks, h.fVotes, h.fCuts, h.fCerts⟩

theorem MsgIs.putBlocks {W : World} {m : Msg} {D : DMsg} (h : MsgIs W m D) {s : Sl} {ds : List DB} (hr : BlocksAt W s ds) : MsgIs W { m with fBlocks := s } { D with dBlocks := ds } := ⟨⟨trivial⟩, h.fKind, h.wKind, h.fHeight, h.fHeads, h.fWant, hr, h.fVotes, h.fCuts, h.fCerts⟩

theorem MsgIs.putVotes {W : World} {m : Msg} {D : DMsg} (h : MsgIs W m D) {s : Sl} {ds : List Vote} (hr : VotesAt W s ds) : MsgIs W { m with fVotes := s } { D with dVotes := ds } := ⟨⟨trivial⟩, h.fKind, h.wKind, h.fHeight, h.fHeads, h.fWant, h.fBlocks, hr, h.fCuts, h.fCerts⟩

theorem MsgIs.putCuts {W : World} {m : Msg} {D : DMsg} (h : MsgIs W m D) {s : Sl} {ds : List DCut} (hr : CutsAt W s ds) : MsgIs W { m with fCuts := s } { D with dCuts := ds } := ⟨⟨trivial⟩, h.fKind, h.wKind, h.fHeight, h.fHeads, h.fWant, h.fBlocks, h.fVotes, hr, h.fCerts⟩

theorem MsgIs.putCerts {W : World} {m : Msg} {D : DMsg} (h : MsgIs W m D) {s : Sl} {ds : List DCert} (hr : CertsAt W s ds) : MsgIs W { m with fCerts := s } { D with dCerts := ds } := ⟨⟨trivial⟩, h.fKind, h.wKind, h.fHeight, h.fHeads, h.fWant, h.fBlocks, h.fVotes, h.fCuts, hr⟩

theorem MsgIs.putHeight {W : World} {m : Msg} {D : DMsg} (h : MsgIs W m D) (x : UInt64) : MsgIs W { m with fHeight := x } { D with dHeight := x } := ⟨⟨trivial⟩, h.fKind, h.wKind, rfl, h.fHeads, h.fWant, h.fBlocks, h.fVotes, h.fCuts, h.fCerts⟩
theorem rd_Word1 (n q N cp at' : Nat) (e : Int) (xs : List UInt8) (hx : xs.length = N) (hat : at' ≤ N) (hN : N ≤ cp) (hbig : N ≤ 1000000) (x : UInt64) (a1 : Nat) (e1 : Int) (h : wordR xs at' e = (x, a1, e1)) : Meets Tryz.prog 92 [ptr n 0, i64 1] [n] (fun W => BlkOk W (RB n q N cp at' e) ∧ Bs W q 0 (Aa xs) ∧ q ≠ n) (fun v out => v = u64 x ∧ out = [RB n q N cp a1 e1]) := by
  unfold wordR at h
  by_cases he : e = 0
  · subst he
    rw [if_neg sP] at h
    by_cases hk : xs.length < at' + 1
    · rw [if_pos hk] at h
      cases h
      exact rd_word_more n q N cp at' xs hx hat hN hbig oM
    · rw [if_neg hk] at h
      cases h
      exact rd_word_ok n q N cp at' xs hx hat hN hbig oM
  · rw [if_pos he] at h
    cases h
    exact rd_word_err n q N cp at' e xs hx hat hN hbig he
theorem wordE_le {xs : List UInt8} {x : UInt64} {a a1 N : Nat} {e e1 : Int} (h : wordR xs a e = (x, a1, e1)) (hx : xs.length = N) (hat : a ≤ N) : a1 ≤ N ∧ x.toNat ≤ 255 := by
  unfold wordR at h
  split at h
  · cases h; exact ⟨hat, by decide⟩
  · split at h
    · cases h; exact ⟨hat, by decide⟩
    · cases h
      have := (xs.getD a 0).toNat_lt
      exact ⟨by omega, by rw [UInt8.toNat_toUInt64]; omega⟩
theorem wf_byte {x : UInt64} (h : x.toNat ≤ 255) : (Lit.int .i64 (x.toNat : Int)).wf = true := by
  have e1 : IntKind.i64.min = -9223372036854775808 := rfl
  have e2 : IntKind.i64.max = 9223372036854775807 := rfl
  simp [Lit.wf]
  omega

theorem sync_read (a : Option Addr) (n c : Nat) (xs : List UInt8) (hl : xs.length = n) (hp : a = none → n = 0) (hn : n ≤ 90000) : Meets Tryz.prog 26 [.slice a n c] [] (fun W => SeesP W a (Aa xs)) (MsgRead xs) := by
 intro W hW
 obtain ⟨x0, r0, h0⟩ : ∃ l r, wordR xs 0 0 = (l, r) := ⟨_, _, rfl⟩
 obtain ⟨a0, e0⟩ := r0
 have hw := wordE_le h0 hl (Nat.zero_le _)
 have ha0 := hw.1
 obtain ⟨kk, hkk⟩ : ∃ k : Int, (x0.toNat : Int) = k := ⟨_, rfl⟩
 refine Ak Tryz.func26 J 118 Tryz.ntmps26 J (G2 ?_)
 refine .alloc (cs := Msg.zero.cells) J Msg.zr J ?_
 intro n2 hn2 hf2
 refine G6 ?_
 refine .call4 J J J J J Body91 (oct_Read a n c xs hl hp hn) (fun w h => Ao h J hW) ?_
 rintro v9 out9 ⟨n9, q9, cp9, rfl, hcp9, rfl⟩
 refine .nd (fun hnd => ?_)
 have hne : q9 ≠ n9 := by intro e; simp [RB, e] at hnd
 clear hnd
 refine G6 ?_
 refine .callL (L := [RB n9 q9 n cp9 0 0]) J J J J J Body92 (rd_Word1 n9 q9 n cp9 0 0 xs hl (Nat.zero_le _) hcp9 oM x0 a0 e0 h0) (Ab rM Ad) (Au J) (fun w h => ⟨Af h Z0, Ah h Z1, hne⟩) ?_
 rintro v11 out11 ⟨rfl, rfl⟩
 refine .conv J J J Y48.h Y3.h (cv_u64_i64 oM) ?_
 rw [hkk]
 refine .build (cs := (mz kk 0).cells) J J J (fun w => by kernel_rfl) ?_
 refine .alloc (cs := Msg.zero.cells) J Msg.zr J ?_
 intro n5 hn5 hf5
 refine .sA J J J J (Msg.isCell (by exact ⟨trivial⟩)) Sz57 (Msg.length (by exact ⟨trivial⟩)) Z0 (Msg.length (by exact Msg.zero_ok)) zU ?_
 refine G5 ?_
 refine .load1 J J J Y3.h J Z0 (by exact Msg.get_fKind (by exact ⟨trivial⟩)) ?_
 refine .cV J J J J Body93 (sync_parts kk) tV (G6 ?_)
 refine two (fun r hr k => Tr.nei J J J J hr k) (fun hs4_10 => ?_) (fun hs4_10 => ?_)
 ·
  have hs4_1 := nd_t hs4_10
  have hst0 : rS0 xs = some (dz kk 0, a0, e0) := by
   unfold rS0
   rw [h0]
   dsimp only
   rw [hkk]
   exact if_neg hs4_1
  have hkd0 : (dz kk 0).dKind = kk := rfl
  have hm0 : ∀ W2, Lies [] W2 → MsgIs W2 (mz kk 0) (dz kk 0) := fun W2 _ => mz_is kk 0 (by rw [← hkk]; exact wf_byte hw.2)
  refine G3 ?_
  refine .join (ι := RSt) (fun p1 => ⟨[(2, ptr n2 0), (3, i64 0), (4, ptr n9 0), (5, ptr n5 0), (6, i64 (Bb kk)), (7, .bool p1.b)], (RB n9 q9 n cp9 p1.a p1.e :: (⟨q9, Aa xs, 5, cp9 * 1⟩ :: (⟨n2, Msg.zero.cells, 57, 8⟩ :: (⟨n5, p1.m.cells, 57, 8⟩ :: (p1.bl ++ [])))))⟩) (fun p1 => RJ kk (rS1 xs) n p1) ?_ ?_
  ·
   refine G6 ?_
   refine two (fun r hr k => Tr.nei J J J J hr k) (fun hs5_40 => ?_) (fun hs5_40 => ?_)
   ·
    have hs5_4 := nd_t hs5_40
    refine G3 ?_
    refine .cond_t J J (G2 ?_)
    obtain ⟨x1, r1, h1⟩ : ∃ l r, A0 xs a0 e0 = (l, r) := ⟨_, _, rfl⟩
    obtain ⟨a_1, e_1⟩ := r1
    have hle1 := Bc h1 hl ha0
    refine .callL (L := [RB n9 q9 n cp9 a0 e0]) J J J J J Body94 (rd_NumberE n9 q9 n cp9 a0 e0 xs hl ha0 hcp9 oM x1 a_1 e_1 h1) (Ab rM Ad) (Au J) (fun w h => ⟨Af h Z1, Ah h Z2, hne⟩) ?_
    rintro v26 out26 ⟨rfl, rfl⟩
    refine G1 ?_
    refine .s1 J J J J J Sz48 Z1 (by rw [Msg.length (by exact ⟨trivial⟩)]; decide) (Msg.set_fHeight (by exact ⟨trivial⟩) _) zV ?_
    refine G2 ?_
    exact ⟨⟨true, { mz kk 0 with fHeight := x1 }, { dz kk 0 with dHeight := x1 }, a_1, e_1, []⟩, RJ.good hle1 ((Bq hst0 hs5_4).trans (by rw [h1])) rfl (fun W2 hl => (hm0 W2 hl).putHeight x1), Ae (wk1 rfl (wk1 rfl (wk1 rfl (wk1 rfl (wk1 rfl (wk1 rfl wk0)))))) (Ab rM (Ab rM (Ab rM (Ab rM (Cd Ad)))))⟩
   have hs5_4 := nd_f hs5_40
   refine G3 ?_
   refine .cond_f J J (G2 ?_)
   exact ⟨⟨true, (mz kk 0), (dz kk 0), a0, e0, []⟩, RJ.good ha0 (Bl hst0 (by rw [hkd0]; exact hs5_4)) hkd0 hm0, Ae (wk1 rfl (wk1 rfl (wk1 rfl (wk1 rfl (wk1 rfl (wk1 rfl wk0)))))) (Ab rM (Ab rM (Ab rM (Ab rM (Cd Ad)))))⟩
  intro p1 hj
  obtain ⟨b1, m1, D1, a1, e1, bl1⟩ := p1
  cases b1
  rotate_left
  ·
   have ha1 := hj.a
   obtain ⟨hst1, hkd1, hm1⟩ := hj.yes rfl
   dsimp only at ha1 hst1 hkd1 hm1 ⊢
   refine .join (ι := RSt) (fun p2 => ⟨[(2, ptr n2 0), (3, i64 0), (4, ptr n9 0), (5, ptr n5 0), (6, i64 (Bb kk)), (7, .bool p2.b)], (RB n9 q9 n cp9 p2.a p2.e :: (⟨q9, Aa xs, 5, cp9 * 1⟩ :: (⟨n2, Msg.zero.cells, 57, 8⟩ :: (⟨n5, p2.m.cells, 57, 8⟩ :: (p2.bl ++ [])))))⟩) (fun p2 => RJ kk (rS2 xs) n p2) ?_ ?_
   ·
    refine G6 ?_
    refine two (fun r hr k => Tr.nei J J J J hr k) (fun hs7_40 => ?_) (fun hs7_40 => ?_)
    ·
     have hs7_4 := nd_t hs7_40
     refine G3 ?_
     refine .cond_t J J (G2 ?_)
     refine .callL (L := [RB n9 q9 n cp9 a1 e1]) J J J J J Body95 (read_digests n9 q9 n cp9 a1 e1 32 xs hl ha1 hcp9 hn dE) (Ab rM Ad) (Au J) (fun w h => ⟨Af h Z0, Ah h Z1, hne⟩) ?_
     rintro v2_ out2_ ⟨s2, bl_2, a_2, e_2, hle2, rfl, rfl, hv2⟩
     try simp only [List.append_assoc, List.cons_append, List.nil_append]
     refine G2 ?_
     refine .extractB J J J J (fun hs8_40 => ?_) (fun hs8_40 => ?_)
     ·
      have hs8_4 := hs8_40
      obtain ⟨r, hr2⟩ := Option.isSome_iff_exists.1 hs8_4
      obtain ⟨vs2, x_2, y_2⟩ := r
      obtain ⟨rfl, rfl, hvn2, hl322, hac2⟩ := hv2 _ _ _ hr2
      refine G1 ?_
      refine .s1 J J J J J Sz51 mR (by rw [Msg.length (by exact ⟨trivial⟩)]; decide) (by exact Msg.set_fHeads (by exact ⟨trivial⟩) _) uU ?_
      refine G3 ?_
      exact ⟨⟨true, { m1 with fHeads := s2 }, { D1 with dHeads := vs2 }, a_2, e_2, bl_2 ++ bl1⟩, RJ.good hle2 ((Bq hst1 (by rw [hkd1]; exact hs7_4)).trans (by rw [hr2]; rfl)) hkd1 (fun W2 hl => (hm1 W2 (hl.sub (by repeat (first | exact in_all | refine Bn ?_)))).putHeads (Ch hac2 (hl.sub (by repeat (exact Ar))) hl322 rfl oM)), Ae (wk1 rfl (wk1 rfl (wk1 rfl (wk1 rfl (wk1 rfl (wk1 rfl wk0)))))) (Ab (by repeat (first | exact Aq | apply Bm)) (Ab (by repeat (first | exact Aq | apply Bm)) (Ab (by repeat (first | exact Aq | apply Bm)) (Ab (by repeat (first | exact Aq | apply Bm)) (Cp (Aj sG (Aj sG Ad)))))))⟩
     have hs8_4 := hs8_40
     have hr2 : B9 xs 32 a1 e1 = none := by simpa using hs8_4
     refine G1 ?_
     refine .s1 J J J J J Sz51 mR (by rw [Msg.length (by exact ⟨trivial⟩)]; decide) (by exact Msg.set_fHeads (by exact ⟨trivial⟩) _) uU ?_
     refine G3 ?_
     exact ⟨⟨false, { m1 with fHeads := s2 }, D1, a_2, e_2, []⟩, RJ.fail hle2 ((Bq hst1 (by rw [hkd1]; exact hs7_4)).trans (by rw [hr2]; rfl)), Ae (wk1 rfl (wk1 rfl (wk1 rfl (wk1 rfl (wk1 rfl (wk1 rfl wk0)))))) (Ab (by repeat (first | exact Aq | apply Bm)) (Ab (by repeat (first | exact Aq | apply Bm)) (Ab (by repeat (first | exact Aq | apply Bm)) (Ab (by repeat (first | exact Aq | apply Bm)) (Cd Ad)))))⟩
    have hs7_4 := nd_f hs7_40
    refine G3 ?_
    refine .cond_f J J (G2 ?_)
    exact ⟨⟨true, m1, D1, a1, e1, bl1⟩, RJ.good ha1 (Bl hst1 (by rw [hkd1]; exact hs7_4)) hkd1 hm1, Ae (wk1 rfl (wk1 rfl (wk1 rfl (wk1 rfl (wk1 rfl (wk1 rfl wk0)))))) (Ab rM (Ab rM (Ab rM (Ab rM (Aj sG Ad)))))⟩
   intro p2 hj
   obtain ⟨b2, m2, D2, a2, e2, bl2⟩ := p2
   cases b2
   rotate_left
   ·
    have ha2 := hj.a
    obtain ⟨hst2, hkd2, hm2⟩ := hj.yes rfl
    dsimp only at ha2 hst2 hkd2 hm2 ⊢
    refine .join (ι := RSt) (fun p3 => ⟨[(2, ptr n2 0), (3, i64 0), (4, ptr n9 0), (5, ptr n5 0), (6, i64 (Bb kk)), (7, .bool p3.b)], (RB n9 q9 n cp9 p3.a p3.e :: (⟨q9, Aa xs, 5, cp9 * 1⟩ :: (⟨n2, Msg.zero.cells, 57, 8⟩ :: (⟨n5, p3.m.cells, 57, 8⟩ :: (p3.bl ++ [])))))⟩) (fun p3 => RJ kk (rS3 xs) n p3) ?_ ?_
    ·
     refine G6 ?_
     refine two (fun r hr k => Tr.nei J J J J hr k) (fun hs9_40 => ?_) (fun hs9_40 => ?_)
     ·
      have hs9_4 := nd_t hs9_40
      refine G3 ?_
      refine .cond_t J J (G2 ?_)
      refine .callL (L := [RB n9 q9 n cp9 a2 e2]) J J J J J Body95 (read_digests n9 q9 n cp9 a2 e2 32 xs hl ha2 hcp9 hn dE) (Ab rM Ad) (Au J) (fun w h => ⟨Af h Z0, Ah h Z1, hne⟩) ?_
      rintro v3_ out3_ ⟨s3, bl_3, a_3, e_3, hle3, rfl, rfl, hv3⟩
      try simp only [List.append_assoc, List.cons_append, List.nil_append]
      refine G2 ?_
      refine .extractB J J J J (fun hs10_40 => ?_) (fun hs10_40 => ?_)
      ·
       have hs10_4 := hs10_40
       obtain ⟨r, hr3⟩ := Option.isSome_iff_exists.1 hs10_4
       obtain ⟨vs3, x_3, y_3⟩ := r
       obtain ⟨rfl, rfl, hvn3, hl323, hac3⟩ := hv3 _ _ _ hr3
       refine G1 ?_
       refine .s1 J J J J J Sz51 mR (by rw [Msg.length (by exact ⟨trivial⟩)]; decide) (by exact Msg.set_fWant (by exact ⟨trivial⟩) _) uU ?_
       refine G3 ?_
       exact ⟨⟨true, { m2 with fWant := s3 }, { D2 with dWant := vs3 }, a_3, e_3, bl_3 ++ bl2⟩, RJ.good hle3 ((Bq hst2 (by rw [hkd2]; exact hs9_4)).trans (by rw [hr3]; rfl)) hkd2 (fun W2 hl => (hm2 W2 (hl.sub (by repeat (first | exact in_all | refine Bn ?_)))).putWant (Ch hac3 (hl.sub (by repeat (exact Ar))) hl323 rfl oM)), Ae (wk1 rfl (wk1 rfl (wk1 rfl (wk1 rfl (wk1 rfl (wk1 rfl wk0)))))) (Ab (by repeat (first | exact Aq | apply Bm)) (Ab (by repeat (first | exact Aq | apply Bm)) (Ab (by repeat (first | exact Aq | apply Bm)) (Ab (by repeat (first | exact Aq | apply Bm)) (Cp (Aj sG (Aj sG Ad)))))))⟩
      have hs10_4 := hs10_40
      have hr3 : B9 xs 32 a2 e2 = none := by simpa using hs10_4
      refine G1 ?_
      refine .s1 J J J J J Sz51 mR (by rw [Msg.length (by exact ⟨trivial⟩)]; decide) (by exact Msg.set_fWant (by exact ⟨trivial⟩) _) uU ?_
      refine G3 ?_
      exact ⟨⟨false, { m2 with fWant := s3 }, D2, a_3, e_3, []⟩, RJ.fail hle3 ((Bq hst2 (by rw [hkd2]; exact hs9_4)).trans (by rw [hr3]; rfl)), Ae (wk1 rfl (wk1 rfl (wk1 rfl (wk1 rfl (wk1 rfl (wk1 rfl wk0)))))) (Ab (by repeat (first | exact Aq | apply Bm)) (Ab (by repeat (first | exact Aq | apply Bm)) (Ab (by repeat (first | exact Aq | apply Bm)) (Ab (by repeat (first | exact Aq | apply Bm)) (Cd Ad)))))⟩
     have hs9_4 := nd_f hs9_40
     refine G3 ?_
     refine .cond_f J J (G2 ?_)
     exact ⟨⟨true, m2, D2, a2, e2, bl2⟩, RJ.good ha2 (Bl hst2 (by rw [hkd2]; exact hs9_4)) hkd2 hm2, Ae (wk1 rfl (wk1 rfl (wk1 rfl (wk1 rfl (wk1 rfl (wk1 rfl wk0)))))) (Ab rM (Ab rM (Ab rM (Ab rM (Aj sG Ad)))))⟩
    intro p3 hj
    obtain ⟨b3, m3, D3, a3, e3, bl3⟩ := p3
    cases b3
    rotate_left
    ·
     have ha3 := hj.a
     obtain ⟨hst3, hkd3, hm3⟩ := hj.yes rfl
     dsimp only at ha3 hst3 hkd3 hm3 ⊢
     refine .join (ι := RSt) (fun p4 => ⟨[(2, ptr n2 0), (3, i64 0), (4, ptr n9 0), (5, ptr n5 0), (6, i64 (Bb kk)), (7, .bool p4.b)], (RB n9 q9 n cp9 p4.a p4.e :: (⟨q9, Aa xs, 5, cp9 * 1⟩ :: (⟨n2, Msg.zero.cells, 57, 8⟩ :: (⟨n5, p4.m.cells, 57, 8⟩ :: (p4.bl ++ [])))))⟩) (fun p4 => RJ kk (rS4 xs) n p4) ?_ ?_
     ·
      refine G6 ?_
      refine two (fun r hr k => Tr.nei J J J J hr k) (fun hs11_40 => ?_) (fun hs11_40 => ?_)
      ·
       have hs11_4 := nd_t hs11_40
       refine G3 ?_
       refine .cond_t J J (G2 ?_)
       refine .call4 J J J J J Body98 (mk_item_block) tV ?_
       rintro v60 out60 ⟨c60, rfl, rfl⟩
       refine .nd (fun hnd => ?_)
       have hcn60 : c60 ≠ n9 := by intro e; simp [RB, e] at hnd
       clear hnd
       try simp only [List.append_assoc, List.cons_append, List.nil_append]
       refine .callL (L := [RB n9 q9 n cp9 a3 e3]) J J J J J Body97 (read_blocks n9 q9 n cp9 a3 e3 c60 8 xs hl ha3 hcp9 hn hcn60 dE) (Ab rM Ad) (Au J) (fun w h => ⟨Af h Z1, Ah h Z2, hne, (Af (B := ⟨c60, _, _, _⟩) h Z0).cell (o := 0) J⟩) ?_
       rintro v4_ out4_ ⟨s4, bl_4, o_4, rs_4, a_4, e_4, hle4, rfl, rfl, hv4⟩
       try simp only [List.append_assoc, List.cons_append, List.nil_append]
       refine G2 ?_
       refine .extractB J J J J (fun hs12_50 => ?_) (fun hs12_50 => ?_)
       ·
        have hs12_5 := hs12_50
        obtain ⟨r, hr4⟩ := Option.isSome_iff_exists.1 hs12_5
        obtain ⟨vs4, x_4, y_4⟩ := r
        obtain ⟨rfl, rfl, hvn4, hos4⟩ := hv4 _ _ _ hr4
        refine G1 ?_
        refine .s1 J J J J J Sz22 mR (by rw [Msg.length (by exact ⟨trivial⟩)]; decide) (by exact Msg.set_fBlocks (by exact ⟨trivial⟩) _) uU ?_
        refine G3 ?_
        exact ⟨⟨true, { m3 with fBlocks := s4 }, { D3 with dBlocks := vs4 }, a_4, e_4, bl_4 ++ (o_4 ++ bl3)⟩, RJ.good hle4 ((Bq hst3 (by rw [hkd3]; exact hs11_4)).trans (by rw [hr4]; rfl)) hkd3 (fun W2 hl => (hm3 W2 (hl.sub (by repeat (first | exact in_all | refine Bn ?_)))).putBlocks (⟨_, hos4.seq (hl.sub (by repeat (exact Ar))) (hl.sub (by repeat (first | exact Ar | refine Bn ?_))) oM⟩)), Ae (wk1 rfl (wk1 rfl (wk1 rfl (wk1 rfl (wk1 rfl (wk1 rfl wk0)))))) (Ab (by repeat (first | exact Aq | apply Bm)) (Ab rM (Ab rM (Ab rM (Cp (Aj sG (Cp (Aj sG (Aj sG Ad)))))))))⟩
       have hs12_5 := hs12_50
       have hr4 : Cs readD xs 8 a3 e3 = none := by simpa using hs12_5
       refine G1 ?_
       refine .s1 J J J J J Sz22 mR (by rw [Msg.length (by exact ⟨trivial⟩)]; decide) (by exact Msg.set_fBlocks (by exact ⟨trivial⟩) _) uU ?_
       refine G3 ?_
       exact ⟨⟨false, { m3 with fBlocks := s4 }, D3, a_4, e_4, []⟩, RJ.fail hle4 ((Bq hst3 (by rw [hkd3]; exact hs11_4)).trans (by rw [hr4]; rfl)), Ae (wk1 rfl (wk1 rfl (wk1 rfl (wk1 rfl (wk1 rfl (wk1 rfl wk0)))))) (Ab (by repeat (first | exact Aq | apply Bm)) (Ab rM (Ab rM (Ab rM (Cd Ad)))))⟩
      have hs11_4 := nd_f hs11_40
      refine G3 ?_
      refine .cond_f J J (G2 ?_)
      exact ⟨⟨true, m3, D3, a3, e3, bl3⟩, RJ.good ha3 (Bl hst3 (by rw [hkd3]; exact hs11_4)) hkd3 hm3, Ae (wk1 rfl (wk1 rfl (wk1 rfl (wk1 rfl (wk1 rfl (wk1 rfl wk0)))))) (Ab rM (Ab rM (Ab rM (Ab rM (Aj sG Ad)))))⟩
     intro p4 hj
     obtain ⟨b4, m4, D4, a4, e4, bl4⟩ := p4
     cases b4
     rotate_left
     ·
      have ha4 := hj.a
      obtain ⟨hst4, hkd4, hm4⟩ := hj.yes rfl
      dsimp only at ha4 hst4 hkd4 hm4 ⊢
      refine .join (ι := RSt) (fun p5 => ⟨[(2, ptr n2 0), (3, i64 0), (4, ptr n9 0), (5, ptr n5 0), (6, i64 (Bb kk)), (7, .bool p5.b)], (RB n9 q9 n cp9 p5.a p5.e :: (⟨q9, Aa xs, 5, cp9 * 1⟩ :: (⟨n2, Msg.zero.cells, 57, 8⟩ :: (⟨n5, p5.m.cells, 57, 8⟩ :: (p5.bl ++ [])))))⟩) (fun p5 => RJ kk (rS5 xs) n p5) ?_ ?_
      ·
       refine G6 ?_
       refine two (fun r hr k => Tr.nei J J J J hr k) (fun hs13_40 => ?_) (fun hs13_40 => ?_)
       ·
        have hs13_4 := nd_t hs13_40
        refine G3 ?_
        refine .cond_t J J (G2 ?_)
        refine .call4 J J J J J Body100 (mk_item_vote) tV ?_
        rintro v73 out73 ⟨c73, rfl, rfl⟩
        refine .nd (fun hnd => ?_)
        have hcn73 : c73 ≠ n9 := by intro e; simp [RB, e] at hnd
        clear hnd
        try simp only [List.append_assoc, List.cons_append, List.nil_append]
        refine .callL (L := [RB n9 q9 n cp9 a4 e4]) J J J J J Body99 (read_votes n9 q9 n cp9 a4 e4 c73 20 xs hl ha4 hcp9 hn hcn73 dE) (Ab rM Ad) (Au J) (fun w h => ⟨Af h Z1, Ah h Z2, hne, (Af (B := ⟨c73, _, _, _⟩) h Z0).cell (o := 0) J⟩) ?_
        rintro v5_ out5_ ⟨s5, bl_5, a_5, e_5, hle5, rfl, rfl, hv5⟩
        try simp only [List.append_assoc, List.cons_append, List.nil_append]
        refine G2 ?_
        refine .extractB J J J J (fun hs14_50 => ?_) (fun hs14_50 => ?_)
        ·
         have hs14_5 := hs14_50
         obtain ⟨r, hr5⟩ := Option.isSome_iff_exists.1 hs14_5
         obtain ⟨vs5, x_5, y_5⟩ := r
         obtain ⟨rfl, rfl, hvn5, hvo5, hac5⟩ := hv5 _ _ _ hr5
         refine G1 ?_
         refine .s1 J J J J J Sz24 mR (by rw [Msg.length (by exact ⟨trivial⟩)]; decide) (by exact Msg.set_fVotes (by exact ⟨trivial⟩) _) uU ?_
         refine G3 ?_
         exact ⟨⟨true, { m4 with fVotes := s5 }, { D4 with dVotes := vs5 }, a_5, e_5, bl_5 ++ bl4⟩, RJ.good hle5 ((Bq hst4 (by rw [hkd4]; exact hs13_4)).trans (by rw [hr5]; rfl)) hkd4 (fun W2 hl => (hm4 W2 (hl.sub (by repeat (first | exact in_all | refine Bn ?_)))).putVotes (owned_vs hvo5 hac5 oM W2 (hl.sub (by repeat (exact Ar))))), Ae (wk1 rfl (wk1 rfl (wk1 rfl (wk1 rfl (wk1 rfl (wk1 rfl wk0)))))) (Ab (by repeat (first | exact Aq | apply Bm)) (Ab rM (Ab rM (Ab rM (Cp (Aj sG (Aj sG Ad)))))))⟩
        have hs14_5 := hs14_50
        have hr5 : readVL xs 20 a4 e4 = none := by simpa using hs14_5
        refine G1 ?_
        refine .s1 J J J J J Sz24 mR (by rw [Msg.length (by exact ⟨trivial⟩)]; decide) (by exact Msg.set_fVotes (by exact ⟨trivial⟩) _) uU ?_
        refine G3 ?_
        exact ⟨⟨false, { m4 with fVotes := s5 }, D4, a_5, e_5, []⟩, RJ.fail hle5 ((Bq hst4 (by rw [hkd4]; exact hs13_4)).trans (by rw [hr5]; rfl)), Ae (wk1 rfl (wk1 rfl (wk1 rfl (wk1 rfl (wk1 rfl (wk1 rfl wk0)))))) (Ab (by repeat (first | exact Aq | apply Bm)) (Ab rM (Ab rM (Ab rM (Cd Ad)))))⟩
       have hs13_4 := nd_f hs13_40
       refine G3 ?_
       refine .cond_f J J (G2 ?_)
       exact ⟨⟨true, m4, D4, a4, e4, bl4⟩, RJ.good ha4 (Bl hst4 (by rw [hkd4]; exact hs13_4)) hkd4 hm4, Ae (wk1 rfl (wk1 rfl (wk1 rfl (wk1 rfl (wk1 rfl (wk1 rfl wk0)))))) (Ab rM (Ab rM (Ab rM (Ab rM (Aj sG Ad)))))⟩
      intro p5 hj
      obtain ⟨b5, m5, D5, a5, e5, bl5⟩ := p5
      cases b5
      rotate_left
      ·
       have ha5 := hj.a
       obtain ⟨hst5, hkd5, hm5⟩ := hj.yes rfl
       dsimp only at ha5 hst5 hkd5 hm5 ⊢
       refine .join (ι := RSt) (fun p6 => ⟨[(2, ptr n2 0), (3, i64 0), (4, ptr n9 0), (5, ptr n5 0), (6, i64 (Bb kk)), (7, .bool p6.b)], (RB n9 q9 n cp9 p6.a p6.e :: (⟨q9, Aa xs, 5, cp9 * 1⟩ :: (⟨n2, Msg.zero.cells, 57, 8⟩ :: (⟨n5, p6.m.cells, 57, 8⟩ :: (p6.bl ++ [])))))⟩) (fun p6 => RJ kk (rS6 xs) n p6) ?_ ?_
       ·
        refine G6 ?_
        refine two (fun r hr k => Tr.nei J J J J hr k) (fun hs15_40 => ?_) (fun hs15_40 => ?_)
        ·
         have hs15_4 := nd_t hs15_40
         refine G3 ?_
         refine .cond_t J J (G2 ?_)
         refine .call4 J J J J J Body102 (mk_item_cut) tV ?_
         rintro v86 out86 ⟨c86, rfl, rfl⟩
         refine .nd (fun hnd => ?_)
         have hcn86 : c86 ≠ n9 := by intro e; simp [RB, e] at hnd
         clear hnd
         try simp only [List.append_assoc, List.cons_append, List.nil_append]
         refine .callL (L := [RB n9 q9 n cp9 a5 e5]) J J J J J Body101 (read_cuts n9 q9 n cp9 a5 e5 c86 4 xs hl ha5 hcp9 hn hcn86 dE) (Ab rM Ad) (Au J) (fun w h => ⟨Af h Z1, Ah h Z2, hne, (Af (B := ⟨c86, _, _, _⟩) h Z0).cell (o := 0) J⟩) ?_
         rintro v6_ out6_ ⟨s6, bl_6, o_6, rs_6, a_6, e_6, hle6, rfl, rfl, hv6⟩
         try simp only [List.append_assoc, List.cons_append, List.nil_append]
         refine G2 ?_
         refine .extractB J J J J (fun hs16_50 => ?_) (fun hs16_50 => ?_)
         ·
          have hs16_5 := hs16_50
          obtain ⟨r, hr6⟩ := Option.isSome_iff_exists.1 hs16_5
          obtain ⟨vs6, x_6, y_6⟩ := r
          obtain ⟨rfl, rfl, hvn6, hos6⟩ := hv6 _ _ _ hr6
          refine G1 ?_
          refine .s1 J J J J J Sz25 mR (by rw [Msg.length (by exact ⟨trivial⟩)]; decide) (by exact Msg.set_fCuts (by exact ⟨trivial⟩) _) uU ?_
          refine G3 ?_
          exact ⟨⟨true, { m5 with fCuts := s6 }, { D5 with dCuts := vs6 }, a_6, e_6, bl_6 ++ (o_6 ++ bl5)⟩, RJ.good hle6 ((Bq hst5 (by rw [hkd5]; exact hs15_4)).trans (by rw [hr6]; rfl)) hkd5 (fun W2 hl => (hm5 W2 (hl.sub (by repeat (first | exact in_all | refine Bn ?_)))).putCuts (⟨_, hos6.seq (hl.sub (by repeat (exact Ar))) (hl.sub (by repeat (first | exact Ar | refine Bn ?_))) oM⟩)), Ae (wk1 rfl (wk1 rfl (wk1 rfl (wk1 rfl (wk1 rfl (wk1 rfl wk0)))))) (Ab (by repeat (first | exact Aq | apply Bm)) (Ab rM (Ab rM (Ab rM (Cp (Aj sG (Cp (Aj sG (Aj sG Ad)))))))))⟩
         have hs16_5 := hs16_50
         have hr6 : Cs B8 xs 4 a5 e5 = none := by simpa using hs16_5
         refine G1 ?_
         refine .s1 J J J J J Sz25 mR (by rw [Msg.length (by exact ⟨trivial⟩)]; decide) (by exact Msg.set_fCuts (by exact ⟨trivial⟩) _) uU ?_
         refine G3 ?_
         exact ⟨⟨false, { m5 with fCuts := s6 }, D5, a_6, e_6, []⟩, RJ.fail hle6 ((Bq hst5 (by rw [hkd5]; exact hs15_4)).trans (by rw [hr6]; rfl)), Ae (wk1 rfl (wk1 rfl (wk1 rfl (wk1 rfl (wk1 rfl (wk1 rfl wk0)))))) (Ab (by repeat (first | exact Aq | apply Bm)) (Ab rM (Ab rM (Ab rM (Cd Ad)))))⟩
        have hs15_4 := nd_f hs15_40
        refine G3 ?_
        refine .cond_f J J (G2 ?_)
        exact ⟨⟨true, m5, D5, a5, e5, bl5⟩, RJ.good ha5 (Bl hst5 (by rw [hkd5]; exact hs15_4)) hkd5 hm5, Ae (wk1 rfl (wk1 rfl (wk1 rfl (wk1 rfl (wk1 rfl (wk1 rfl wk0)))))) (Ab rM (Ab rM (Ab rM (Ab rM (Aj sG Ad)))))⟩
       intro p6 hj
       obtain ⟨b6, m6, D6, a6, e6, bl6⟩ := p6
       cases b6
       rotate_left
       ·
        have ha6 := hj.a
        obtain ⟨hst6, hkd6, hm6⟩ := hj.yes rfl
        dsimp only at ha6 hst6 hkd6 hm6 ⊢
        refine .join (ι := RSt) (fun p7 => ⟨[(2, ptr n2 0), (3, i64 0), (4, ptr n9 0), (5, ptr n5 0), (6, i64 (Bb kk)), (7, .bool p7.b)], (RB n9 q9 n cp9 p7.a p7.e :: (⟨q9, Aa xs, 5, cp9 * 1⟩ :: (⟨n2, Msg.zero.cells, 57, 8⟩ :: (⟨n5, p7.m.cells, 57, 8⟩ :: (p7.bl ++ [])))))⟩) (fun p7 => RJ kk (rS7 xs) n p7) ?_ ?_
        ·
         refine G6 ?_
         refine two (fun r hr k => Tr.nei J J J J hr k) (fun hs17_40 => ?_) (fun hs17_40 => ?_)
         ·
          have hs17_4 := nd_t hs17_40
          refine G3 ?_
          refine .cond_t J J (G2 ?_)
          refine .call4 J J J J J Body104 (mk_item_cert) tV ?_
          rintro v99 out99 ⟨c99, rfl, rfl⟩
          refine .nd (fun hnd => ?_)
          have hcn99 : c99 ≠ n9 := by intro e; simp [RB, e] at hnd
          clear hnd
          try simp only [List.append_assoc, List.cons_append, List.nil_append]
          refine .callL (L := [RB n9 q9 n cp9 a6 e6]) J J J J J Body103 (read_certs n9 q9 n cp9 a6 e6 c99 2 xs hl ha6 hcp9 hn hcn99 dE) (Ab rM Ad) (Au J) (fun w h => ⟨Af h Z1, Ah h Z2, hne, (Af (B := ⟨c99, _, _, _⟩) h Z0).cell (o := 0) J⟩) ?_
          rintro v7_ out7_ ⟨s7, bl_7, o_7, rs_7, a_7, e_7, hle7, rfl, rfl, hv7⟩
          try simp only [List.append_assoc, List.cons_append, List.nil_append]
          refine G2 ?_
          refine .extractB J J J J (fun hs18_50 => ?_) (fun hs18_50 => ?_)
          ·
           have hs18_5 := hs18_50
           obtain ⟨r, hr7⟩ := Option.isSome_iff_exists.1 hs18_5
           obtain ⟨vs7, x_7, y_7⟩ := r
           obtain ⟨rfl, rfl, hvn7, hos7⟩ := hv7 _ _ _ hr7
           refine G1 ?_
           refine .s1 J J J J J Sz23 mR (by rw [Msg.length (by exact ⟨trivial⟩)]; decide) (by exact Msg.set_fCerts (by exact ⟨trivial⟩) _) uU ?_
           refine G3 ?_
           exact ⟨⟨true, { m6 with fCerts := s7 }, { D6 with dCerts := vs7 }, a_7, e_7, bl_7 ++ (o_7 ++ bl6)⟩, RJ.good hle7 ((Bq hst6 (by rw [hkd6]; exact hs17_4)).trans (by rw [hr7]; rfl)) hkd6 (fun W2 hl => (hm6 W2 (hl.sub (by repeat (first | exact in_all | refine Bn ?_)))).putCerts (⟨_, hos7.seq (hl.sub (by repeat (exact Ar))) (hl.sub (by repeat (first | exact Ar | refine Bn ?_))) oM⟩)), Ae (wk1 rfl (wk1 rfl (wk1 rfl (wk1 rfl (wk1 rfl (wk1 rfl wk0)))))) (Ab (by repeat (first | exact Aq | apply Bm)) (Ab rM (Ab rM (Ab rM (Cp (Aj sG (Cp (Aj sG (Aj sG Ad)))))))))⟩
          have hs18_5 := hs18_50
          have hr7 : Cs Bv xs 2 a6 e6 = none := by simpa using hs18_5
          refine G1 ?_
          refine .s1 J J J J J Sz23 mR (by rw [Msg.length (by exact ⟨trivial⟩)]; decide) (by exact Msg.set_fCerts (by exact ⟨trivial⟩) _) uU ?_
          refine G3 ?_
          exact ⟨⟨false, { m6 with fCerts := s7 }, D6, a_7, e_7, []⟩, RJ.fail hle7 ((Bq hst6 (by rw [hkd6]; exact hs17_4)).trans (by rw [hr7]; rfl)), Ae (wk1 rfl (wk1 rfl (wk1 rfl (wk1 rfl (wk1 rfl (wk1 rfl wk0)))))) (Ab (by repeat (first | exact Aq | apply Bm)) (Ab rM (Ab rM (Ab rM (Cd Ad)))))⟩
         have hs17_4 := nd_f hs17_40
         refine G3 ?_
         refine .cond_f J J (G2 ?_)
         exact ⟨⟨true, m6, D6, a6, e6, bl6⟩, RJ.good ha6 (Bl hst6 (by rw [hkd6]; exact hs17_4)) hkd6 hm6, Ae (wk1 rfl (wk1 rfl (wk1 rfl (wk1 rfl (wk1 rfl (wk1 rfl wk0)))))) (Ab rM (Ab rM (Ab rM (Ab rM (Aj sG Ad)))))⟩
        intro p7 hj
        obtain ⟨b7, m7, D7, a7, e7, bl7⟩ := p7
        cases b7
        rotate_left
        ·
         have ha7 := hj.a
         obtain ⟨hst7, hkd7, hm7⟩ := hj.yes rfl
         dsimp only at ha7 hst7 hkd7 hm7 ⊢
         refine G7 ?_
         refine .cV J J J J Body105 (rd_End n9 q9 n cp9 a7 e7 ha7 oM) (fun w h => Af h Z0) ?_
         refine two (fun r hr k => Tr.nei J J J J hr k) (fun hs19_50 => ?_) (fun hs19_50 => ?_)
         ·
          have hs19_5 := nd_t hs19_50
          refine G8 ?_
          refine .cond_t J J (G2 ?_)
          refine .build (cs := Msg.zero.cells) J J J (fun w => by kernel_rfl) ?_
          refine G7 ?_
          refine Ai (out := []) (Aw J J J Y57.h J Sz57 Z2 (by exact Msg.length (by exact Msg.zero_ok))) Ad ?_
          exact Cj (msgRd_bad hst7 (by rw [hl]; exact fun h => hs19_5 h.1))
         have hs19_5 := nd_f hs19_50
         refine G2 ?_
         refine .lA J J J Y57.h J Sz57 Z3 (Msg.length (by exact ⟨trivial⟩)) ?_
         refine .cV J J J J Body34 (msg_check m7 D7) (fun w h => hm7 w (Lies.of h (by repeat (first | exact Ar | refine B0 ?_)))) ?_
         refine G4 ?_
         refine .condNP J (fun hc7 => ?_) (fun hc7 => ?_)
         ·
          refine G2 ?_
          refine .build (cs := Msg.zero.cells) J J J (fun w => by kernel_rfl) ?_
          refine G7 ?_
          refine Ai (out := []) (Aw J J J Y57.h J Sz57 Z2 (by exact Msg.length (by exact Msg.zero_ok))) Ad ?_
          exact Cj (msgRd_bad hst7 (by rw [hl]; exact fun h => hc7 h.2))
         refine G4 ?_
         refine .lA J J J Y57.h J Sz57 Z3 (Msg.length (by exact ⟨trivial⟩)) ?_
         refine .sA J J J J (Msg.isCell (by exact ⟨trivial⟩)) Sz57 (Msg.length (by exact ⟨trivial⟩)) Z2 (Msg.length (by exact Msg.zero_ok)) (by exact upd2) ?_
         refine G5 ?_
         refine Ai (out := (bl7 ++ [])) (Aw J J J Y57.h J Sz57 Z2 (by exact Msg.length (by exact ⟨trivial⟩))) (Aj sG Ad) ?_
         rw [List.append_nil]
         exact msg_okR (msgRd_ok hst7 (by rw [hl]; exact ⟨hs19_5, hc7⟩)) hm7
        have hbad := hj.no rfl
        dsimp only at hbad ⊢
        refine G17 ?_
        refine .cond_t J J (G2 ?_)
        refine .build (cs := Msg.zero.cells) J J J (fun w => by kernel_rfl) ?_
        refine G7 ?_
        refine Ai (out := []) (Aw J J J Y57.h J Sz57 Z2 (by exact Msg.length (by exact Msg.zero_ok))) Ad ?_
        exact Cj (msgRd_none (by exact bad7 hbad))
       have hbad := hj.no rfl
       dsimp only at hbad ⊢
       refine G11 ?_
       refine .cond_f J J (G19 ?_)
       refine .cond_t J J (G2 ?_)
       refine .build (cs := Msg.zero.cells) J J J (fun w => by kernel_rfl) ?_
       refine G7 ?_
       refine Ai (out := []) (Aw J J J Y57.h J Sz57 Z2 (by exact Msg.length (by exact Msg.zero_ok))) Ad ?_
       exact Cj (msgRd_none (by exact bad6 hbad))
      have hbad := hj.no rfl
      dsimp only at hbad ⊢
      refine G11 ?_
      refine .cond_f J J (G13 ?_)
      refine .cond_f J J (G19 ?_)
      refine .cond_t J J (G2 ?_)
      refine .build (cs := Msg.zero.cells) J J J (fun w => by kernel_rfl) ?_
      refine G7 ?_
      refine Ai (out := []) (Aw J J J Y57.h J Sz57 Z2 (by exact Msg.length (by exact Msg.zero_ok))) Ad ?_
      exact Cj (msgRd_none (by exact bad5 hbad))
     have hbad := hj.no rfl
     dsimp only at hbad ⊢
     refine G11 ?_
     refine .cond_f J J (G13 ?_)
     refine .cond_f J J (G13 ?_)
     refine .cond_f J J (G19 ?_)
     refine .cond_t J J (G2 ?_)
     refine .build (cs := Msg.zero.cells) J J J (fun w => by kernel_rfl) ?_
     refine G7 ?_
     refine Ai (out := []) (Aw J J J Y57.h J Sz57 Z2 (by exact Msg.length (by exact Msg.zero_ok))) Ad ?_
     exact Cj (msgRd_none (by exact bad4 hbad))
    have hbad := hj.no rfl
    dsimp only at hbad ⊢
    refine G11 ?_
    refine .cond_f J J (G13 ?_)
    refine .cond_f J J (G13 ?_)
    refine .cond_f J J (G13 ?_)
    refine .cond_f J J (G19 ?_)
    refine .cond_t J J (G2 ?_)
    refine .build (cs := Msg.zero.cells) J J J (fun w => by kernel_rfl) ?_
    refine G7 ?_
    refine Ai (out := []) (Aw J J J Y57.h J Sz57 Z2 (by exact Msg.length (by exact Msg.zero_ok))) Ad ?_
    exact Cj (msgRd_none (by exact bad3 hbad))
   have hbad := hj.no rfl
   dsimp only at hbad ⊢
   refine G11 ?_
   refine .cond_f J J (G13 ?_)
   refine .cond_f J J (G13 ?_)
   refine .cond_f J J (G13 ?_)
   refine .cond_f J J (G13 ?_)
   refine .cond_f J J (G19 ?_)
   refine .cond_t J J (G2 ?_)
   refine .build (cs := Msg.zero.cells) J J J (fun w => by kernel_rfl) ?_
   refine G7 ?_
   refine Ai (out := []) (Aw J J J Y57.h J Sz57 Z2 (by exact Msg.length (by exact Msg.zero_ok))) Ad ?_
   exact Cj (msgRd_none (by exact bad2 hbad))
  have hbad := hj.no rfl
  dsimp only at hbad ⊢
  refine G11 ?_
  refine .cond_f J J (G13 ?_)
  refine .cond_f J J (G13 ?_)
  refine .cond_f J J (G13 ?_)
  refine .cond_f J J (G13 ?_)
  refine .cond_f J J (G13 ?_)
  refine .cond_f J J (G19 ?_)
  refine .cond_t J J (G2 ?_)
  refine .build (cs := Msg.zero.cells) J J J (fun w => by kernel_rfl) ?_
  refine G7 ?_
  refine Ai (out := []) (Aw J J J Y57.h J Sz57 Z2 (by exact Msg.length (by exact Msg.zero_ok))) Ad ?_
  exact Cj (msgRd_none (by exact bad1 hbad))
 have hs4_1 := nd_f hs4_10
 have hbad : rS0 xs = none := by
  unfold rS0
  rw [h0]
  dsimp only
  rw [hkk]
  exact if_pos hs4_1
 refine G14 ?_
 refine .cond_f J J (G13 ?_)
 refine .cond_f J J (G13 ?_)
 refine .cond_f J J (G13 ?_)
 refine .cond_f J J (G13 ?_)
 refine .cond_f J J (G13 ?_)
 refine .cond_f J J (G13 ?_)
 refine .cond_f J J (G19 ?_)
 refine .cond_t J J (G2 ?_)
 refine .build (cs := Msg.zero.cells) J J J (fun w => by kernel_rfl) ?_
 refine G7 ?_
 refine Ai (out := []) (Aw J J J Y57.h J Sz57 Z3 (by exact Msg.length (by exact Msg.zero_ok))) Ad ?_
 exact Cj (msgRd_none (by exact bad0 hbad))
end Go.Proofs.YtdifpjmfabhpiaaGreat
end

section
namespace Go.Proofs.YtdifpjmfabhpiaaGreat
open Go Hw

def putE {D : Type} (f : D → DRecord × Int) : List D → Int
  | [] => 0
  | d :: l => if (f d).2 = 0 then putE f l else (f d).2
def putD {D : Type} (f : D → DRecord × Int) (ds : List D) : List DRecord := ds.map fun d => (f d).1

noncomputable def stg {D : Type} (f : D → DRecord × Int) (ds : List D) (q : List DRecord × Int) : List DRecord × Int := if q.2 = 0 then (if putE f ds = 0 then (q.1 ++ putD f ds, 0) else ([], putE f ds)) else q
structure QI (q : List DRecord × Int) (e : Int) (s : Sl) (b o : List Blk) (rs : List Record) (M : Nat) : Prop where
  err : e = q.2
  own : q.2 = 0 → OwnSeq Record.cells 2 RecordIs 91 s b o rs q.1 q.1.length
  bad : ¬ q.2 = 0 → q.1 = []
  le : q.1.length ≤ M
noncomputable def rsE (D : DKept) : List DRecord × Int := stg (fun X : DCert => recOf 2 (Bg X) (DCert.check X)) D.dCerts ([], D.check)
noncomputable def rsB (D : DKept) : List DRecord × Int := stg (fun X : DB => recOf 1 (A9 X) (DB.check X)) D.dBlocks (rsE D)
noncomputable def rsC (D : DKept) : List DRecord × Int := stg (fun X : DCut => recOf 4 (Br X) (DCut.check X)) D.dCuts (rsB D)

def DKept.light (D : DKept) (n : Int) : Bool := lightOf lightBf D.dBlocks n && (lightOf lightEf D.dCerts n && (decide ((D.dVotes.length : Int) ≤ n) && lightOf lightCf D.dCuts n))
structure LightK (D : DKept) : Prop where
  nB : D.dBlocks.length ≤ 12
  nE : D.dCerts.length ≤ 12
  nV : D.dVotes.length ≤ 12
  nC : D.dCuts.length ≤ 12
  blocks : ∀ d ∈ D.dBlocks, d.ls.length ≤ 500000 ∧ d.ds.length ≤ 500000
  cuts : ∀ d ∈ D.dCuts, d.dHeads.length ≤ 500000
  certs : ∀ d ∈ D.dCerts, d.dCut.dHeads.length ≤ 500000 ∧ d.dVotes.length ≤ 500000
theorem no_lie0 {n : Nat} {v : Value} {T : TypeId} {W : World} (h : Lies [⟨n, [v], T, 0⟩] W) : False := by
  obtain ⟨full, fr, hb⟩ := h _ (List.mem_singleton.2 rfl)
  have h1 := hb.pre.length_le
  have h2 := hb.size
  simp at h1
  simp only at h2
  omega
theorem flat_len0 {R : Type} {cells : R → List Value} {k : Nat} : ∀ (rs : List R), (∀ r ∈ rs, (cells r).length = k) → (rs.map cells).flatten.length = rs.length * k
  | [], _ => by simp
  | r :: l, h => by
    rw [List.map_cons, List.flatten_cons, List.length_append, flat_len0 l (fun x hx => h x (List.mem_cons_of_mem _ hx)), h r List.mem_cons_self, List.length_cons, Nat.add_mul, Nat.one_mul, Nat.add_comm]

def AccR (xs : List Value) (E : TypeId) (n size : Nat) (v : Value) (out : List Blk) : Prop := ∃ s : Sl, v = s.v ∧ Hw.Acc s out xs E n size
theorem AccR.loose {xs : List Value} {E : TypeId} {n size : Nat} (h : xs.length = n * size) : Loose (AccR xs E n size) := fun l hl => by
  obtain ⟨q, _, hq⟩ := fresh_is 0 l
  refine ⟨_, [⟨q, xs, E, n * size⟩], ⟨⟨some ⟨q, 0, none⟩, n, n⟩, rfl, Acc.some (Nat.le_refl _) h⟩, ?_⟩
  rw [List.map_append, List.nodup_append]
  refine ⟨by simp, hl, fun i hi j hj => ?_⟩
  obtain ⟨b, hb, rfl⟩ := List.mem_map.1 hj
  simp at hi
  subst hi
  exact fun e => hq b hb e.symm

def CutOwn (D : DCut) (v : Value) (out : List Blk) : Prop := ∃ C : Cut, C.ok ∧ v = agg C.cells ∧ ∀ W2, Lies out W2 → CutIs W2 C D
def BlockOwn (D : DB) (v : Value) (out : List Blk) : Prop := ∃ B : Block, B.ok ∧ v = agg B.cells ∧ ∀ W2, Lies out W2 → BlockIs W2 B D


structure MidK (D : DKept) : Prop where
  blocks : ∀ d ∈ D.dBlocks, d.ls.length ≤ 90000 ∧ d.ds.length ≤ 90000
  certs : ∀ d ∈ D.dCerts, d.dCut.dHeads.length ≤ 90000 ∧ d.dVotes.length ≤ 90000
  cuts : ∀ d ∈ D.dCuts, d.dHeads.length ≤ 90000
theorem BlockOwn.loose (D : DB) : Loose (BlockOwn D) := fun l hl => by
  obtain ⟨n, _, hn⟩ := fresh_is 0 l
  exact ⟨agg Block.zero.cells, [⟨n, [undef], 0, 0⟩], ⟨Block.zero, Block.zero_ok, rfl, fun W2 h => (no_lie0 h).elim⟩, by
    rw [List.map_append, List.nodup_append]
    refine ⟨by simp, hl, fun i hi j hj => ?_⟩
    obtain ⟨b, hb, rfl⟩ := List.mem_map.1 hj
    simp at hi
    subst hi
    exact fun e => hn b hb e.symm⟩
theorem CutOwn.loose (D : DCut) : Loose (CutOwn D) := fun l hl => by
  obtain ⟨n, _, hn⟩ := fresh_is 0 l
  exact ⟨agg Cut.zero.cells, [⟨n, [undef], 0, 0⟩], ⟨Cut.zero, Cut.zero_ok, rfl, fun W2 h => (no_lie0 h).elim⟩, by
    rw [List.map_append, List.nodup_append]
    refine ⟨by simp, hl, fun i hi j hj => ?_⟩
    obtain ⟨b, hb, rfl⟩ := List.mem_map.1 hj
    simp at hi
    subst hi
    exact fun e => hn b hb e.symm⟩

def SaidR (ds : List Vote) (v : Value) (out : List Blk) : Prop := ∃ (s : Sl) (rs : List Vote), v = s.v ∧ OwnSeq Vote.cells 132 VoteIs 81 s out [] rs ds ds.length
theorem SaidR.loose {ds : List Vote} (h : ∀ d ∈ ds, d.ok ∧ (Lit.int .i64 d.fPhase).wf = true) : Loose (SaidR ds) := fun l hl => by
  obtain ⟨q, _, hq⟩ := fresh_is 0 l
  refine ⟨_, [⟨q, (ds.map Vote.cells).flatten, 81, ds.length * 132⟩], ⟨⟨some ⟨q, 0, none⟩, ds.length, ds.length⟩, ds, rfl, Acc.some (Nat.le_refl _) (flat_len0 ds fun r hr => Vote.length (h r hr).1), rfl, rfl, fun r hr => Vote.length (h r hr).1, fun W2 _ i r d h1 h2 => ?_⟩, ?_⟩
  · rw [h1] at h2; cases h2
    have := h r (List.mem_of_getElem? h1)
    exact ⟨this.1, rfl, this.2⟩
  · rw [List.map_append, List.nodup_append]
    refine ⟨by simp, hl, fun i hi j hj => ?_⟩
    obtain ⟨b, hb, rfl⟩ := List.mem_map.1 hj
    simp at hi
    subst hi
    exact fun e => hq b hb e.symm

theorem meets_know {P : Program} {f : FuncId} {args : List Value} {Pre : World → Prop} {R R' : Value → List Blk → Prop} (h : Meets P f args [] Pre R) (hr : ∀ v out w, R v out → Lies out w → R' v out) : Meets P f args [] Pre R' :=
  fun W hW => (h W hW).mono fun e W' ⟨v, out, h1, h2, h3⟩ => ⟨v, out, h1, hr v out W' h2 h3.cells, h3⟩

structure DCert.ok (D : DCert) : Prop where
  prev : D.dCut.dPrev.length = 32
  heads : ∀ l ∈ D.dCut.dHeads, l.length = 32
  votes : ∀ d ∈ D.dVotes, d.ok
structure DCut.okL (D : DCut) : Prop where
  prev : D.dPrev.length = 32
  heads : ∀ l ∈ D.dHeads, l.length = 32
structure DKept.oks (D : DKept) : Prop where
  b : ∀ d ∈ D.dBlocks, d.ok
  e : ∀ d ∈ D.dCerts, d.ok
  v : ∀ d ∈ D.dVotes, d.ok
  c : ∀ d ∈ D.dCuts, d.okL
def fB : DB → DRecord × Int := (fun X : DB => recOf 1 (A9 X) (DB.check X))
noncomputable def fE : DCert → DRecord × Int := (fun X : DCert => recOf 2 (Bg X) (DCert.check X))
def fV : Vote → DRecord × Int := (fun X : Vote => recOf 3 (A4 X) (A5 X))
def fC : DCut → DRecord × Int := (fun X : DCut => recOf 4 (Br X) (DCut.check X))
theorem fold_put {D : Type} {f : D → DRecord × Int} {g : DKept → List D → DKept} (h0 : ∀ K, g K [] = K) (h1 : ∀ K d l, g (g K [d]) l = g K (d :: l)) : ∀ (ds : List D), (∀ d ∈ ds, ∀ K, keepStep K (f d).1 = some (g K [d])) → ∀ K, (putD f ds).foldl (fun o r => o.bind fun D => keepStep D r) (some K) = some (g K ds)
  | [], _, K => by rw [h0]; rfl
  | d :: l, h, K => by
    have ih := fold_put h0 h1 l (fun x hx => h x (List.mem_cons_of_mem _ hx)) (g K [d])
    rw [h1] at ih
    rw [← ih]
    show List.foldl _ (some K) ((f d).1 :: putD f l) = _
    rw [List.foldl_cons, Option.bind_some, h d List.mem_cons_self K]
structure PutAll (D : DKept) : Prop where
  chk : D.check = 0
  e : ∀ d ∈ D.dCerts, (fE d).2 = 0
  b : ∀ d ∈ D.dBlocks, (fB d).2 = 0
  c : ∀ d ∈ D.dCuts, (fC d).2 = 0
  v : ∀ d ∈ D.dVotes, (fV d).2 = 0
structure OfRecs (l : List DRecord) (D : DKept) : Prop where
  oks : D.oks
  b : putD fB D.dBlocks = l.filter (fun r => decide (r.dKind = 1))
  e : putD fE D.dCerts = l.filter (fun r => decide (r.dKind = 2))
  v : putD fV D.dVotes = l.filter (fun r => decide (r.dKind = 3))
  c : putD fC D.dCuts = l.filter (fun r => decide (r.dKind = 4))
  gb : ∀ d ∈ D.dBlocks, (fB d).2 = 0
  ge : ∀ d ∈ D.dCerts, (fE d).2 = 0
  gv : ∀ d ∈ D.dVotes, (fV d).2 = 0
  gc : ∀ d ∈ D.dCuts, (fC d).2 = 0
  kinds : ∀ r ∈ l, r.dKind = 1 ∨ r.dKind = 2 ∨ r.dKind = 3 ∨ r.dKind = 4
structure Pre4 (Q D : DKept) : Prop where
  b : Q.dBlocks <+: D.dBlocks
  e : Q.dCerts <+: D.dCerts
  v : Q.dVotes <+: D.dVotes
  c : Q.dCuts <+: D.dCuts
theorem Pre4.refl (D : DKept) : Pre4 D D := ⟨List.prefix_rfl, List.prefix_rfl, List.prefix_rfl, List.prefix_rfl⟩
theorem Pre4.trans {A B C : DKept} (h : Pre4 A B) (k : Pre4 B C) : Pre4 A C := ⟨h.b.trans k.b, h.e.trans k.e, h.v.trans k.v, h.c.trans k.c⟩
def DKept.num (D : DKept) : Nat := D.dBlocks.length + D.dCerts.length + D.dVotes.length + D.dCuts.length

def allBs : Nat → List (List Bool)
  | 0 => [[]]
  | n + 1 => (allBs n).flatMap fun l => [true :: l, false :: l]
theorem mem_allBs : ∀ bs : List Bool, bs ∈ allBs bs.length
  | [] => List.mem_singleton.2 rfl
  | b :: bs => by
    rw [List.length_cons, allBs, List.mem_flatMap]
    exact ⟨bs, mem_allBs bs, by cases b <;> simp⟩
def okBits (k : Nat) (bs : List Bool) : Bool := (!bs.getD 0 false || (k == 1 || k == 6)) && ((!bs.getD 1 false || (k == 1 || k == 2)) && ((!bs.getD 2 false || k == 2) && ((!bs.getD 3 false || k == 3) && ((!bs.getD 4 false || k == 4) && ((!bs.getD 5 false || k == 4) && (!bs.getD 6 false || k == 5))))))
theorem fits_all : ((List.range 7).all fun k => k == 0 || (allBs 7).all fun bs => decide (andNotI ((usedN bs 7 : Nat) : Int) (Bb (k : Int)) = 0) == okBits k bs) = true := by kernel_rfl
theorem zero_all : ((allBs 7).all fun bs => decide (((usedN bs 7 : Nat) : Int) = 0) == !(bs.getD 0 false || (bs.getD 1 false || (bs.getD 2 false || (bs.getD 3 false || (bs.getD 4 false || (bs.getD 5 false || bs.getD 6 false))))))) = true := by kernel_rfl
theorem fits_iff {k : Nat} {bs : List Bool} (h0 : k ≠ 0) (h7 : k < 7) (hb : bs.length = 7) : andNotI ((usedN bs 7 : Nat) : Int) (Bb (k : Int)) = 0 ↔ okBits k bs = true := by
  have h := List.all_eq_true.1 fits_all k (List.mem_range.2 h7)
  rw [Bool.or_eq_true] at h
  rcases h with h | h
  · simp at h; exact absurd h h0
  · have h := List.all_eq_true.1 h bs (hb ▸ mem_allBs bs)
    rw [beq_iff_eq] at h
    rw [← h, decide_eq_true_iff]
theorem zero_iff {bs : List Bool} (hb : bs.length = 7) : ((usedN bs 7 : Nat) : Int) = 0 ↔ (!(bs.getD 0 false || (bs.getD 1 false || (bs.getD 2 false || (bs.getD 3 false || (bs.getD 4 false || (bs.getD 5 false || bs.getD 6 false))))))) = true := by
  have h := List.all_eq_true.1 zero_all bs (hb ▸ mem_allBs bs)
  rw [beq_iff_eq] at h
  rw [← h, decide_eq_true_iff]
theorem parts_zero (k : Int) : Bb k = 0 ↔ ¬ (1 ≤ k ∧ k ≤ 6) := by
  by_cases h : 0 ≤ k ∧ k < 7
  · obtain ⟨n, rfl⟩ : ∃ n : Nat, k = n := ⟨k.toNat, by omega⟩
    have hn : n < 7 := by omega
    match n, hn with
    | 0, _ => decide
    | 1, _ => decide
    | 2, _ => decide
    | 3, _ => decide
    | 4, _ => decide
    | 5, _ => decide
    | 6, _ => decide
  · rw [parts_out h]
    simp
    omega
def DMsg.hd (D : DMsg) : Prop := (1 ≤ D.dKind ∧ D.dKind ≤ 6) ∧ D.dHeight.toNat ≤ 4294967295 ∧ (D.dKind = 1 ∨ D.dKind = 6 ∨ D.dHeight.toNat = 0) ∧ (D.dKind = 1 ∨ D.dKind = 2 ∨ D.dHeads.length = 0) ∧ (D.dKind = 2 ∨ D.dWant.length = 0) ∧ (D.dKind = 3 ∨ D.dBlocks.length = 0) ∧ (D.dKind = 4 ∨ D.dVotes.length = 0) ∧ (D.dKind = 4 ∨ D.dCuts.length = 0) ∧ (D.dKind = 5 ∨ D.dCerts.length = 0) ∧
  D.dHeads.length ≤ 32 ∧ D.dWant.length ≤ 32 ∧ D.dBlocks.length ≤ 8 ∧ D.dVotes.length ≤ 20 ∧ D.dCuts.length ≤ 4 ∧ D.dCerts.length ≤ 2 ∧ (D.dKind = 1 ∨ D.dKind = 2 ∨ ¬ (D.dHeight.toNat = 0 ∧ D.dHeads.length = 0 ∧ D.dWant.length = 0 ∧ D.dBlocks.length = 0 ∧ D.dVotes.length = 0 ∧ D.dCuts.length = 0 ∧ D.dCerts.length = 0))
structure DMsg.els (D : DMsg) : Prop where
  b : (D.dBlocks.all fun d => decide (d.check = 0)) = true
  v : (D.dVotes.all fun d => decide (A5 d = 0)) = true
  c : (D.dCuts.all fun d => decide (d.check = 0)) = true
  e : (D.dCerts.all fun d => decide (d.check = 0)) = true
theorem bits_len (D : DMsg) : D.bits.length = 7 := rfl
theorem used_zero (D : DMsg) : D.used = 0 ↔ (D.dHeight.toNat = 0 ∧ D.dHeads.length = 0 ∧ D.dWant.length = 0 ∧ D.dBlocks.length = 0 ∧ D.dVotes.length = 0 ∧ D.dCuts.length = 0 ∧ D.dCerts.length = 0) := by
  rw [DMsg.used, zero_iff (bits_len D)]
  simp only [DMsg.bits, List.getD_cons_zero, List.getD_cons_succ, Bool.not_eq_true', Bool.or_eq_false_iff, Bool.not_eq_false', decide_eq_true_eq, decide_eq_false_iff_not]
  omega
theorem used_fits (D : DMsg) {k : Nat} (h0 : k ≠ 0) (h7 : k < 7) : andNotI D.used (Bb (k : Int)) = 0 ↔ ((k = 1 ∨ k = 6 ∨ D.dHeight.toNat = 0) ∧ (k = 1 ∨ k = 2 ∨ D.dHeads.length = 0) ∧ (k = 2 ∨ D.dWant.length = 0) ∧ (k = 3 ∨ D.dBlocks.length = 0) ∧ (k = 4 ∨ D.dVotes.length = 0) ∧ (k = 4 ∨ D.dCuts.length = 0) ∧ (k = 5 ∨ D.dCerts.length = 0)) := by
  rw [DMsg.used, fits_iff h0 h7 (bits_len D)]
  simp only [okBits, DMsg.bits, List.getD_cons_zero, List.getD_cons_succ, Bool.and_eq_true, Bool.or_eq_true, Bool.not_eq_true', Bool.not_eq_false', decide_eq_true_eq, decide_eq_false_iff_not, beq_iff_eq]
  omega
theorem valid_iff (D : DMsg) : D.check = 0 ↔ D.hd ∧ D.els := by
  have hb : D.check = 0 ↔ ¬ D.bad := ⟨fun h hb => (by rw [Ce hb] at h; cases h), Bz⟩
  rw [hb]
  by_cases hk : 1 ≤ D.dKind ∧ D.dKind ≤ 6
  · obtain ⟨n, hn⟩ : ∃ n : Nat, D.dKind = n := ⟨D.dKind.toNat, by omega⟩
    have hf := used_fits D (k := n) oM oM
    have hz := used_zero D
    have hp : ¬ Bb D.dKind = 0 := fun e => (parts_zero _).1 e hk
    rw [← hn] at hf
    constructor
    · intro h
      have g1 : andNotI D.used (Bb D.dKind) = 0 := Classical.byContradiction fun e => h (.inr (.inr (.inl e)))
      have g2 := hf.1 g1
      have g3 : ¬ (4294967295 : Int) < (D.dHeight.toNat : Int) := fun e => h (.inr (.inl e))
      have g4 : ¬ (32 : Int) < (D.dHeads.length : Int) := fun e => h (.inr (.inr (.inr (.inl e))))
      have g5 : ¬ (32 : Int) < (D.dWant.length : Int) := fun e => h (.inr (.inr (.inr (.inr (.inl e)))))
      have g6 : ¬ (8 : Int) < (D.dBlocks.length : Int) := fun e => h (.inr (.inr (.inr (.inr (.inr (.inl e))))))
      have g7 : ¬ (20 : Int) < (D.dVotes.length : Int) := fun e => h (.inr (.inr (.inr (.inr (.inr (.inr (.inl e)))))))
      have g8 : ¬ (4 : Int) < (D.dCuts.length : Int) := fun e => h (.inr (.inr (.inr (.inr (.inr (.inr (.inr (.inl e))))))))
      have g9 : ¬ (2 : Int) < (D.dCerts.length : Int) := fun e => h (.inr (.inr (.inr (.inr (.inr (.inr (.inr (.inr (.inl e)))))))))
      have g10 : ¬ (¬ D.dKind = 1 ∧ ¬ D.dKind = 2 ∧ D.used = 0) := fun e => h (.inr (.inr (.inr (.inr (.inr (.inr (.inr (.inr (.inr (.inl e))))))))))
      have el : D.els := ⟨Classical.byContradiction fun e => h (.inr (.inr (.inr (.inr (.inr (.inr (.inr (.inr (.inr (.inr (.inl e))))))))))), Classical.byContradiction fun e => h (.inr (.inr (.inr (.inr (.inr (.inr (.inr (.inr (.inr (.inr (.inr (.inl e)))))))))))), Classical.byContradiction fun e => h (.inr (.inr (.inr (.inr (.inr (.inr (.inr (.inr (.inr (.inr (.inr (.inr (.inl e))))))))))))), Classical.byContradiction fun e => h (.inr (.inr (.inr (.inr (.inr (.inr (.inr (.inr (.inr (.inr (.inr (.inr (.inr (e))))))))))))))⟩
      refine ⟨?_, el⟩
      rw [hz] at g10
      clear h el hb hf hz g1
      unfold DMsg.hd
      omega
    · rintro ⟨h, el⟩ hbad
      unfold DMsg.hd at h
      rcases hbad with e | e | e | e | e | e | e | e | e | ⟨e1, e2, e3⟩ | e | e | e | e
      · exact hp e
      · omega
      · exact e (hf.2 oM)
      · omega
      · omega
      · omega
      · omega
      · omega
      · omega
      · have := hz.1 e3
        omega
      · exact e el.b
      · exact e el.v
      · exact e el.c
      · exact e el.e
  · exact ⟨fun h => absurd (.inl ((parts_zero _).2 hk)) h, fun h => absurd h.1.1 hk⟩
section
variable {W : World} {m : Msg} {D E : DMsg}
end

end Go.Proofs.YtdifpjmfabhpiaaGreat
end

section
namespace Go.Proofs.YtdifpjmfabhpiaaGreat
open Go Hw

noncomputable def sameM (a b : DMsg) : Bool := decide (a.dKind = b.dKind) && (decide ((a.dHeight.toNat : Int) = (b.dHeight.toNat : Int)) && (decide (a.dHeads = b.dHeads) && (decide (a.dWant = b.dWant) && (sameL sameBk a.dBlocks b.dBlocks && (sameL sameV a.dVotes b.dVotes && (sameL sameC a.dCuts b.dCuts && sameL sameE a.dCerts b.dCerts))))))
theorem sameM_self (a : DMsg) : sameM a a = true := by
  simp only [sameM, decide_true, sameL_self sameBk_self, sameL_self sameE_self, sameL_self sameV_self, sameL_self sameC_self, Bool.and_self]
structure DMsg.tiny (a : DMsg) : Prop where
  h : a.dHeads.length ≤ 1000000
  w : a.dWant.length ≤ 1000000
  b : ∀ d ∈ a.dBlocks, d.ls.length ≤ 1000000
  c : ∀ d ∈ a.dCuts, d.dHeads.length ≤ 1000000
  e : ∀ d ∈ a.dCerts, d.dCut.dHeads.length ≤ 1000000
theorem msg_tiny {D : DMsg} (h : D.check = 0) : D.tiny := by
  have s := msg_sizes h
  exact ⟨by have := s.h; omega, by have := s.w; omega, fun d hd => by have := d.head_small (s.gb d hd); omega, fun d hd => by have := d.small (s.gc d hd); omega, fun d hd => by have := d.dCut.small (DCert.facts (s.ge d hd)).1; omega⟩

theorem kit_msg (A B : Msg) (a b : DMsg) (hsm : a.tiny) : Meets Tryz.prog 35 [agg A.cells, agg B.cells] [] (fun W => MsgIs W A a ∧ MsgIs W B b) (fun v out => v = .bool (sameM a b) ∧ out = []) := by
 intro W hW
 have hA := hW.1.ok
 have hB := hW.2.ok
 have e1 := hW.1.fKind
 have e2 := hW.2.fKind
 have e3 := hW.1.fHeight
 have e4 := hW.2.fHeight
 refine Ak Tryz.func35 J 59 Tryz.ntmps35 J (G3 ?_)
 intro n2 hn2 hf2
 refine G1 ?_
 intro n3 hn3 hf3
 refine G9 ?_
 refine two (fun r hr k => Tr.eqi J J J J hr k) (fun hs1_40 => ?_) (fun hs1_40 => ?_)
 ·
  have hs1_4 := of_decide_eq_true hs1_40
  refine G5 ?_
  refine two (fun r hr k => Tr.eqi J J J J hr k) (fun hs1_100 => ?_) (fun hs1_100 => ?_)
  ·
   have hs1_10 := of_decide_eq_true hs1_100
   refine G6 ?_
   refine .callB J J J J Body130 (digests_any2 _ _ _ _ _ _ a.dHeads b.dHeads hW.1.fHeads.row hW.2.fHeads.row hW.1.fHeads.len hW.2.fHeads.len (by have := hW.1.fHeads.len; have := hsm.h; omega)) (fun w h => ⟨Ao h J hW.1.fHeads.see, Ao h J hW.2.fHeads.see⟩) (fun hs1_170 => ?_) (fun hs1_170 => ?_)
   ·
    have hs1_17 := of_decide_eq_true hs1_170
    refine G6 ?_
    refine .callB J J J J Body130 (digests_any2 _ _ _ _ _ _ a.dWant b.dWant hW.1.fWant.row hW.2.fWant.row hW.1.fWant.len hW.2.fWant.len (by have := hW.1.fWant.len; have := hsm.w; omega)) (fun w h => ⟨Ao h J hW.1.fWant.see, Ao h J hW.2.fWant.see⟩) (fun hs1_240 => ?_) (fun hs1_240 => ?_)
    ·
     have hs1_24 := of_decide_eq_true hs1_240
     refine G6 ?_
     refine .callB J J J J Body19 (kit_blocks A.fBlocks B.fBlocks a.dBlocks b.dBlocks hsm.b) (fun w h => ⟨Blocks_ext h J hW.1.fBlocks, Blocks_ext h J hW.2.fBlocks⟩) (fun hs1_310 => ?_) (fun hs1_310 => ?_)
     ·
      have hs1_31 := hs1_310
      refine G6 ?_
      refine .callB J J J J Body21 (kit_votes A.fVotes B.fVotes a.dVotes b.dVotes) (fun w h => ⟨Cn h J hW.1.fVotes, Cn h J hW.2.fVotes⟩) (fun hs1_380 => ?_) (fun hs1_380 => ?_)
      ·
       have hs1_38 := hs1_380
       refine G6 ?_
       refine .callB J J J J Body22 (kit_cuts A.fCuts B.fCuts a.dCuts b.dCuts hsm.c) (fun w h => ⟨Cuts_ext h J hW.1.fCuts, Cuts_ext h J hW.2.fCuts⟩) (fun hs1_450 => ?_) (fun hs1_450 => ?_)
       ·
        have hs1_45 := hs1_450
        refine G6 ?_
        refine .cV J J J J Body20 (kit_certs A.fCerts B.fCerts a.dCerts b.dCerts hsm.e) (fun w h => ⟨Certs_ext h J hW.1.fCerts, Certs_ext h J hW.2.fCerts⟩) (G6 ?_)
        refine ⟨_, [], Ac J J, sP, sP, ?_, rfl⟩
        simp_all [sameM]
       have hs1_45 := hs1_450
       refine G13 ?_
       refine ⟨_, [], Ac J J, sP, sP, ?_, rfl⟩
       simp_all [sameM]
      have hs1_38 := hs1_380
      refine G20 ?_
      refine ⟨_, [], Ac J J, sP, sP, ?_, rfl⟩
      simp_all [sameM]
     have hs1_31 := hs1_310
     refine G27 ?_
     refine ⟨_, [], Ac J J, sP, sP, ?_, rfl⟩
     simp_all [sameM]
    have hs1_24 := of_decide_eq_false hs1_240
    refine G34 ?_
    refine ⟨_, [], Ac J J, sP, sP, ?_, rfl⟩
    simp_all [sameM]
   have hs1_17 := of_decide_eq_false hs1_170
   refine G41 ?_
   refine ⟨_, [], Ac J J, sP, sP, ?_, rfl⟩
   simp_all [sameM]
  have hs1_10 := of_decide_eq_false hs1_100
  refine G48 ?_
  refine ⟨_, [], Ac J J, sP, sP, ?_, rfl⟩
  simp_all [sameM]
 have hs1_4 := of_decide_eq_false hs1_40
 refine G54 ?_
 refine ⟨_, [], Ac J J, sP, sP, ?_, rfl⟩
 simp_all [sameM]
theorem kit_msg_same (A B : Msg) (a : DMsg) (h : a.tiny) : Meets Tryz.prog 35 [agg A.cells, agg B.cells] [] (fun W => MsgIs W A a ∧ MsgIs W B a) (fun v out => v = .bool true ∧ out = []) := by
  have h2 := kit_msg A B a a h
  rwa [sameM_self] at h2
theorem certread_know {xs : List UInt8} (v : Value) (out : List Blk) (w : World) (h : CertRead xs v out) (hl : Lies out w) : ∃ C : Cert, C.ok ∧ v = .tuple #[agg C.cells, i64 (Bv xs).2] ∧ C.fCut.fHeads.n = (Bv xs).1.dCut.dHeads.length ∧ ∀ W2, Lies out W2 → CertIs W2 C (Bv xs).1 := by
  obtain ⟨C, ok, e, hx⟩ := h
  exact ⟨C, ok, e, (hx w hl).fCut.fHeads.len.symm, hx⟩

theorem lin_same (p q : Option Addr) (n m c1 c2 : Nat) (xs ys : List (List UInt8)) (hx : ∀ l ∈ xs, l.length = 32) (hy : ∀ l ∈ ys, l.length = 32) (h1 : xs.length = n) (h2 : ys.length = m) (hn : n ≤ 1000000) : Meets Tryz.prog 218 [.slice p n c1, .slice q m c2] [] (fun W => SeesP W p (Bt xs) ∧ SeesP W q (Bt ys)) (fun v out => v = .bool (decide (xs = ys)) ∧ out = []) := by
 intro W hW
 refine Ak Tryz.func218 J 8 Tryz.ntmps218 J (G9 ?_)
 refine .cV J J J J Body155 (seq_any p q n m c1 c2 xs ys hx hy h1 h2 hn) (fun w h => ⟨Ao h J hW.1, Ao h J hW.2⟩) (G5 ?_)
 refine ⟨_, [], Ac J J, sP, sP, ?_, rfl⟩
 rfl

theorem cut_same (A B : Cut) (a b : DCut) (hn : A.fHeads.n ≤ 1000000) : Meets Tryz.prog 145 [agg A.cells, agg B.cells] [] (fun W => CutIs W A a ∧ CutIs W B b) (fun v out => v = .bool (sameC a b) ∧ out = []) := by
 intro W hW
 have hA := hW.1.ok
 have hB := hW.2.ok
 have e1 := hW.1.fHeight
 have e2 := hW.2.fHeight
 have e3 := hW.1.fPrev
 have e4 := hW.2.fPrev
 refine Ak Tryz.func145 J 24 Tryz.ntmps145 J (G3 ?_)
 intro n2 hn2 hf2
 refine G1 ?_
 intro n3 hn3 hf3
 refine G9 ?_
 refine two (fun r hr k => Tr.eqi J J J J hr k) (fun hs1_40 => ?_) (fun hs1_40 => ?_)
 ·
  have hs1_4 := of_decide_eq_true hs1_40
  refine G2 ?_
  refine .lN (Aa _) J J J Y50.h J Sz50 Z1 (Cut.row_fPrev zA) (Cut.rl_fPrev zA) ?_
  refine G1 ?_
  refine .lN (Aa _) J J J Y50.h J Sz50 Z0 (Cut.row_fPrev zA) (Cut.rl_fPrev zA) ?_
  refine two (fun r hr k => Tr.eql_bytes J J J J Tryz.eqGuardType50 Y50.h Y5.h Sz5 (by (simp [hA.l_fPrev]; done)) (by (simp [hB.l_fPrev]; done)) hr k) (fun hs1_100 => ?_) (fun hs1_100 => ?_)
  ·
   have hs1_10 := of_decide_eq_true hs1_100
   refine G6 ?_
   refine .cV J J J J Body218 (lin_same _ _ _ _ _ _ a.dHeads b.dHeads hW.1.fHeads.row hW.2.fHeads.row hW.1.fHeads.len hW.2.fHeads.len hn) (fun w h => ⟨Ao h J hW.1.fHeads.see, Ao h J hW.2.fHeads.see⟩) (G6 ?_)
   refine ⟨_, [], Ac J J, sP, sP, ?_, rfl⟩
   unfold sameC
   simp_all
  have hs1_10 := of_decide_eq_false hs1_100
  refine G13 ?_
  refine ⟨_, [], Ac J J, sP, sP, ?_, rfl⟩
  unfold sameC
  simp_all
 have hs1_4 := of_decide_eq_false hs1_40
 refine G19 ?_
 refine ⟨_, [], Ac J J, sP, sP, ?_, rfl⟩
 unfold sameC
 simp_all
theorem vote_sameV (a b : Vote) (ha : a.ok) (hb : b.ok) : Meets Tryz.prog 147 [agg a.cells, agg b.cells] [] (fun _ => True) (fun v out => v = .bool (sameV a b) ∧ out = []) := vote_same a b ha hb
theorem block_sameD (A B : Block) (a b : DB) (hn : A.fLinks.n ≤ 1000000) : Meets Tryz.prog 157 [agg A.cells, agg B.cells] [] (fun W => BlockIs W A a ∧ BlockIs W B b) (fun v out => v = .bool (sameBk a b) ∧ out = []) := fun W hW => by
  rw [← sameB_Bk hW.1 hW.2]
  exact block_same A B hW.1.ok hW.2.ok a.ls b.ls a.ds b.ds hn W ⟨⟨hW.1.ls, hW.1.ds⟩, ⟨hW.2.ls, hW.2.ds⟩⟩

theorem eqfg_vote (s u : Sl) (xs ys : List Vote) : Meets Tryz.prog 146 [s.v, u.v, .func (.func 147) #[] #[]] [] (fun W => VotesAt W s xs ∧ VotesAt W u ys) (fun v out => v = .bool (sameL sameV xs ys) ∧ out = []) := by
 intro W hW
 obtain ⟨⟨rs, hs⟩, ⟨ru, hu⟩⟩ := hW
 have hnd := hs.nd
 have hnu := hu.nd
 have hmax := hs.max
 have hmaxu := hu.max
 simp only [maxLen] at hmax hmaxu
 refine Ak Tryz.func146 J 32 Tryz.ntmps146 J (G15 ?_)
 refine .condNP J (fun hc0 => ?_) (fun hc0 => ?_)
 ·
  refine G8 ?_
  refine ⟨_, [], Ac J J, sP, sP, ?_, rfl⟩
  exact congrArg Value.bool (sameL_len (by rw [hnd, hnu]; omega)).symm
 refine G11 ?_
 refine .loop (ι := Nat) (fun k => ⟨[(1, u.v), (2, .func (.func 147) #[] #[]), (15, s.v), (16, i64 (s.n : Int)), (17, i64 (k : Int))], []⟩) (fun k => k ≤ s.n ∧ s.n = u.n ∧ ∀ (j : Nat) (a b : Vote), j < k → xs[j]? = some a → ys[j]? = some b → sameV a b = true) (fun k => s.n - k) (0) ?_ ?_ ?_
 · exact ⟨by omega, by omega, fun j a b hj => by omega⟩
 · exact Ag (wk1 rfl (wk1 rfl (wk1 rfl (wk1 rfl (wk1 rfl wk0))))) wh0 nD
 rintro k ⟨hk, hsu, hg⟩
 refine G6 ?_
 refine .condP J (fun hc1 => ?_) (fun hc1 => ?_)
 ·
  have hk2 : k < s.n := by omega
  obtain ⟨b, o, r, d, hsp, hr, hd, his, hlen, hsee⟩ := hs.at dE hk2
  obtain ⟨b2, o2, r2, d2, hspu, hru, hdu, hiu, hlenu, hseeu⟩ := hu.at dE (show k < u.n by omega)
  obtain rfl := his.eq
  obtain rfl := hiu.eq
  refine G7 ?_
  refine .idxSlP 132 J J J hsp J Y24.h Sz81 k J oM (.loadEN r.cells J J J Y81.h J Sz81 sP hlen hsee (.alloc (cs := Vote.zero.cells) J Vote.zr J ?_))
  intro n8 hn8 hf8
  refine G1 ?_
  refine .sA J J J J (Vote.isCell (by exact his.ok)) Sz81 (Vote.length (by exact his.ok)) Z0 (Vote.length zT) zU ?_
  refine G6 ?_
  refine .idxSlP 132 J J J hspu J Y24.h Sz81 k J oM (.loadEN r2.cells J J J Y81.h J Sz81 sP hlenu hseeu (.alloc (cs := Vote.zero.cells) J Vote.zr J ?_))
  intro n9 hn9 hf9
  refine .sA J J J J (Vote.isCell (by exact hiu.ok)) Sz81 (Vote.length (by exact hiu.ok)) Z0 (Vote.length zT) zU ?_
  refine G5 ?_
  refine .lA J J J Y81.h J Sz81 Z1 (Vote.length (by exact his.ok)) ?_
  refine .lA J J J Y81.h J Sz81 Z0 (Vote.length (by exact hiu.ok)) ?_
  refine .cV J J J J Body147 (vote_sameV r r2 his.ok hiu.ok) tV (G3 ?_)
  refine .cond J (fun hc2 => ?_) (fun hc2 => ?_)
  ·
   refine G12 ?_
   refine ⟨_, [], Ac J J, sP, sP, ?_, rfl⟩
   exact congrArg Value.bool (sameL_no hd hdu (by simp_all; done)).symm
  refine G8 ?_
  exact ⟨k + 1, ⟨by omega, hsu, fun j a b hj ha hb => by rcases Nat.lt_succ_iff_lt_or_eq.1 hj with h | rfl; exact hg j a b h ha hb; exact (by rw [hd] at ha; rw [hdu] at hb; cases ha; cases hb; simp_all)⟩, by omega, Ag (wk1 rfl (wk1 rfl (wk1 rfl (wk1 rfl (wk1 (by rw [Int.natCast_add]; rfl) wk0))))) wh0 nD⟩
 obtain rfl : k = s.n := by omega
 refine G12 ?_
 refine ⟨_, [], Ac J J, sP, sP, ?_, rfl⟩
 exact congrArg Value.bool (sameL_yes (by rw [hnd, hnu]; omega) (by rw [hnd]; exact hg)).symm
theorem eqfg_cut (s u : Sl) (xs ys : List DCut) (hsm : ∀ d ∈ xs, d.dHeads.length ≤ 1000000) : Meets Tryz.prog 158 [s.v, u.v, .func (.func 145) #[] #[]] [] (fun W => CutsAt W s xs ∧ CutsAt W u ys) (fun v out => v = .bool (sameL sameC xs ys) ∧ out = []) := by
 intro W hW
 obtain ⟨⟨rs, hs⟩, ⟨ru, hu⟩⟩ := hW
 have hnd := hs.nd
 have hnu := hu.nd
 have hmax := hs.max
 have hmaxu := hu.max
 simp only [maxLen] at hmax hmaxu
 refine Ak Tryz.func158 J 32 Tryz.ntmps158 J (G15 ?_)
 refine .condNP J (fun hc0 => ?_) (fun hc0 => ?_)
 ·
  refine G8 ?_
  refine ⟨_, [], Ac J J, sP, sP, ?_, rfl⟩
  exact congrArg Value.bool (sameL_len (by rw [hnd, hnu]; omega)).symm
 refine G11 ?_
 refine .loop (ι := Nat) (fun k => ⟨[(1, u.v), (2, .func (.func 145) #[] #[]), (15, s.v), (16, i64 (s.n : Int)), (17, i64 (k : Int))], []⟩) (fun k => k ≤ s.n ∧ s.n = u.n ∧ ∀ (j : Nat) (a b : DCut), j < k → xs[j]? = some a → ys[j]? = some b → sameC a b = true) (fun k => s.n - k) (0) ?_ ?_ ?_
 · exact ⟨by omega, by omega, fun j a b hj => by omega⟩
 · exact Ag (wk1 rfl (wk1 rfl (wk1 rfl (wk1 rfl (wk1 rfl wk0))))) wh0 nD
 rintro k ⟨hk, hsu, hg⟩
 refine G6 ?_
 refine .condP J (fun hc1 => ?_) (fun hc1 => ?_)
 ·
  have hk2 : k < s.n := by omega
  obtain ⟨b, o, r, d, hsp, hr, hd, his, hlen, hsee⟩ := hs.at dE hk2
  obtain ⟨b2, o2, r2, d2, hspu, hru, hdu, hiu, hlenu, hseeu⟩ := hu.at dE (show k < u.n by omega)
  refine G7 ?_
  refine .idxSlP 34 J J J hsp J Y25.h Sz53 k J oM (.loadEN r.cells J J J Y53.h J Sz53 sP hlen hsee (.alloc (cs := Cut.zero.cells) J Cut.zr J ?_))
  intro n8 hn8 hf8
  refine G1 ?_
  refine .sA J J J J (Cut.isCell (by exact his.ok)) Sz53 (Cut.length (by exact his.ok)) Z0 (Cut.length (by exact Cut.zero_ok)) zU ?_
  refine G6 ?_
  refine .idxSlP 34 J J J hspu J Y25.h Sz53 k J oM (.loadEN r2.cells J J J Y53.h J Sz53 sP hlenu hseeu (.alloc (cs := Cut.zero.cells) J Cut.zr J ?_))
  intro n9 hn9 hf9
  refine .sA J J J J (Cut.isCell (by exact hiu.ok)) Sz53 (Cut.length (by exact hiu.ok)) Z0 (Cut.length (by exact Cut.zero_ok)) zU ?_
  refine G5 ?_
  refine .lA J J J Y53.h J Sz53 Z1 (Cut.length (by exact his.ok)) ?_
  refine .lA J J J Y53.h J Sz53 Z0 (Cut.length (by exact hiu.ok)) ?_
  refine .cV J J J J Body145 (cut_same r r2 d d2 (by rw [← his.fHeads.len]; exact hsm d (List.mem_of_getElem? hd))) (fun w h => ⟨his.ext h J, hiu.ext h J⟩) ?_
  refine G3 ?_
  refine .cond J (fun hc2 => ?_) (fun hc2 => ?_)
  ·
   refine G12 ?_
   refine ⟨_, [], Ac J J, sP, sP, ?_, rfl⟩
   exact congrArg Value.bool (sameL_no hd hdu (by simp_all; done)).symm
  refine G8 ?_
  exact ⟨k + 1, ⟨by omega, hsu, fun j a b hj ha hb => by rcases Nat.lt_succ_iff_lt_or_eq.1 hj with h | rfl; exact hg j a b h ha hb; exact (by rw [hd] at ha; rw [hdu] at hb; cases ha; cases hb; simp_all)⟩, by omega, Ag (wk1 rfl (wk1 rfl (wk1 rfl (wk1 rfl (wk1 (by rw [Int.natCast_add]; rfl) wk0))))) wh0 nD⟩
 obtain rfl : k = s.n := by omega
 refine G12 ?_
 refine ⟨_, [], Ac J J, sP, sP, ?_, rfl⟩
 exact congrArg Value.bool (sameL_yes (by rw [hnd, hnu]; omega) (by rw [hnd]; exact hg)).symm
theorem eqfg_block (s u : Sl) (xs ys : List DB) (hsm : ∀ d ∈ xs, d.ls.length ≤ 1000000) : Meets Tryz.prog 156 [s.v, u.v, .func (.func 157) #[] #[]] [] (fun W => BlocksAt W s xs ∧ BlocksAt W u ys) (fun v out => v = .bool (sameL sameBk xs ys) ∧ out = []) := by
 intro W hW
 obtain ⟨⟨rs, hs⟩, ⟨ru, hu⟩⟩ := hW
 have hnd := hs.nd
 have hnu := hu.nd
 have hmax := hs.max
 have hmaxu := hu.max
 simp only [maxLen] at hmax hmaxu
 refine Ak Tryz.func156 J 32 Tryz.ntmps156 J (G15 ?_)
 refine .condNP J (fun hc0 => ?_) (fun hc0 => ?_)
 ·
  refine G8 ?_
  refine ⟨_, [], Ac J J, sP, sP, ?_, rfl⟩
  exact congrArg Value.bool (sameL_len (by rw [hnd, hnu]; omega)).symm
 refine G11 ?_
 refine .loop (ι := Nat) (fun k => ⟨[(1, u.v), (2, .func (.func 157) #[] #[]), (15, s.v), (16, i64 (s.n : Int)), (17, i64 (k : Int))], []⟩) (fun k => k ≤ s.n ∧ s.n = u.n ∧ ∀ (j : Nat) (a b : DB), j < k → xs[j]? = some a → ys[j]? = some b → sameBk a b = true) (fun k => s.n - k) (0) ?_ ?_ ?_
 · exact ⟨by omega, by omega, fun j a b hj => by omega⟩
 · exact Ag (wk1 rfl (wk1 rfl (wk1 rfl (wk1 rfl (wk1 rfl wk0))))) wh0 nD
 rintro k ⟨hk, hsu, hg⟩
 refine G6 ?_
 refine .condP J (fun hc1 => ?_) (fun hc1 => ?_)
 ·
  have hk2 : k < s.n := by omega
  obtain ⟨b, o, r, d, hsp, hr, hd, his, hlen, hsee⟩ := hs.at dE hk2
  obtain ⟨b2, o2, r2, d2, hspu, hru, hdu, hiu, hlenu, hseeu⟩ := hu.at dE (show k < u.n by omega)
  refine G7 ?_
  refine .idxSlP 131 J J J hsp J Y22.h Sz79 k J oM (.loadEN r.cells J J J Y79.h J Sz79 sP hlen hsee (.alloc (cs := Block.zero.cells) J Block.zr J ?_))
  intro n8 hn8 hf8
  refine G1 ?_
  refine .sA J J J J (Block.isCell (by exact his.ok)) Sz79 (Block.length (by exact his.ok)) Z0 (Block.length (by exact Block.zero_ok)) zU ?_
  refine G6 ?_
  refine .idxSlP 131 J J J hspu J Y22.h Sz79 k J oM (.loadEN r2.cells J J J Y79.h J Sz79 sP hlenu hseeu (.alloc (cs := Block.zero.cells) J Block.zr J ?_))
  intro n9 hn9 hf9
  refine .sA J J J J (Block.isCell (by exact hiu.ok)) Sz79 (Block.length (by exact hiu.ok)) Z0 (Block.length (by exact Block.zero_ok)) zU ?_
  refine G5 ?_
  refine .lA J J J Y79.h J Sz79 Z1 (Block.length (by exact his.ok)) ?_
  refine .lA J J J Y79.h J Sz79 Z0 (Block.length (by exact hiu.ok)) ?_
  refine .cV J J J J Body157 (block_sameD r r2 d d2 (by rw [← his.ls.len]; exact hsm d (List.mem_of_getElem? hd))) (fun w h => ⟨his.ext h J, hiu.ext h J⟩) ?_
  refine G3 ?_
  refine .cond J (fun hc2 => ?_) (fun hc2 => ?_)
  ·
   refine G12 ?_
   refine ⟨_, [], Ac J J, sP, sP, ?_, rfl⟩
   exact congrArg Value.bool (sameL_no hd hdu (by simp_all; done)).symm
  refine G8 ?_
  exact ⟨k + 1, ⟨by omega, hsu, fun j a b hj ha hb => by rcases Nat.lt_succ_iff_lt_or_eq.1 hj with h | rfl; exact hg j a b h ha hb; exact (by rw [hd] at ha; rw [hdu] at hb; cases ha; cases hb; simp_all)⟩, by omega, Ag (wk1 rfl (wk1 rfl (wk1 rfl (wk1 rfl (wk1 (by rw [Int.natCast_add]; rfl) wk0))))) wh0 nD⟩
 obtain rfl : k = s.n := by omega
 refine G12 ?_
 refine ⟨_, [], Ac J J, sP, sP, ?_, rfl⟩
 exact congrArg Value.bool (sameL_yes (by rw [hnd, hnu]; omega) (by rw [hnd]; exact hg)).symm
theorem same_cert (A B : Cert) (a b : DCert) (hn : A.fCut.fHeads.n ≤ 1000000) : Meets Tryz.prog 43 [agg A.cells, agg B.cells] [] (fun W => CertIs W A a ∧ CertIs W B b) (fun v out => v = .bool (sameE a b) ∧ out = []) := by
 intro W hW
 have hA := hW.1.ok
 have hB := hW.2.ok
 refine Ak Tryz.func43 J 17 Tryz.ntmps43 J (G3 ?_)
 intro n2 hn2 hf2
 refine G1 ?_
 intro n3 hn3 hf3
 refine G6 ?_
 refine .lN (Cut.cells _) J J J Y53.h J Sz53 Z1 (Cert.row_fCut zA) (Cert.rl_fCut zA) ?_
 refine G1 ?_
 refine .lN (Cut.cells _) J J J Y53.h J Sz53 Z0 (Cert.row_fCut zA) (Cert.rl_fCut zA) ?_
 refine .callB J J J J Body145 (cut_same A.fCut B.fCut a.dCut b.dCut hn) (fun w h => ⟨hW.1.fCut.ext h J, hW.2.fCut.ext h J⟩) (fun hs1_40 => ?_) (fun hs1_40 => ?_)
 ·
  have hs1_4 := hs1_40
  refine G5 ?_
  refine .cV J J J J Body146 (eqfg_vote A.fVotes B.fVotes a.dVotes b.dVotes) (fun w h => ⟨Cn h J hW.1.fVotes, Cn h J hW.2.fVotes⟩) (G6 ?_)
  refine ⟨_, [], Ac J J, sP, sP, ?_, rfl⟩
  simp_all [sameE]
 have hs1_4 := hs1_40
 refine G12 ?_
 refine ⟨_, [], Ac J J, sP, sP, ?_, rfl⟩
 simp_all [sameE]
theorem eqfg_cert (s u : Sl) (xs ys : List DCert) (hsm : ∀ d ∈ xs, d.dCut.dHeads.length ≤ 1000000) : Meets Tryz.prog 159 [s.v, u.v, .func (.func 43) #[] #[]] [] (fun W => CertsAt W s xs ∧ CertsAt W u ys) (fun v out => v = .bool (sameL sameE xs ys) ∧ out = []) := by
 intro W hW
 obtain ⟨⟨rs, hs⟩, ⟨ru, hu⟩⟩ := hW
 have hnd := hs.nd
 have hnu := hu.nd
 have hmax := hs.max
 have hmaxu := hu.max
 simp only [maxLen] at hmax hmaxu
 refine Ak Tryz.func159 J 32 Tryz.ntmps159 J (G15 ?_)
 refine .condNP J (fun hc0 => ?_) (fun hc0 => ?_)
 ·
  refine G8 ?_
  refine ⟨_, [], Ac J J, sP, sP, ?_, rfl⟩
  exact congrArg Value.bool (sameL_len (by rw [hnd, hnu]; omega)).symm
 refine G11 ?_
 refine .loop (ι := Nat) (fun k => ⟨[(1, u.v), (2, .func (.func 43) #[] #[]), (15, s.v), (16, i64 (s.n : Int)), (17, i64 (k : Int))], []⟩) (fun k => k ≤ s.n ∧ s.n = u.n ∧ ∀ (j : Nat) (a b : DCert), j < k → xs[j]? = some a → ys[j]? = some b → sameE a b = true) (fun k => s.n - k) (0) ?_ ?_ ?_
 · exact ⟨by omega, by omega, fun j a b hj => by omega⟩
 · exact Ag (wk1 rfl (wk1 rfl (wk1 rfl (wk1 rfl (wk1 rfl wk0))))) wh0 nD
 rintro k ⟨hk, hsu, hg⟩
 refine G6 ?_
 refine .condP J (fun hc1 => ?_) (fun hc1 => ?_)
 ·
  have hk2 : k < s.n := by omega
  obtain ⟨b, o, r, d, hsp, hr, hd, his, hlen, hsee⟩ := hs.at dE hk2
  obtain ⟨b2, o2, r2, d2, hspu, hru, hdu, hiu, hlenu, hseeu⟩ := hu.at dE (show k < u.n by omega)
  refine G7 ?_
  refine .idxSlP 35 J J J hsp J Y23.h Sz55 k J oM (.loadEN r.cells J J J Y55.h J Sz55 sP hlen hsee (.alloc (cs := Cert.zero.cells) J Cert.zr J ?_))
  intro n8 hn8 hf8
  refine G1 ?_
  refine .sA J J J J (Cert.isCell (by exact his.ok)) Sz55 (Cert.length (by exact his.ok)) Z0 (Cert.length (by exact Cert.zero_ok)) zU ?_
  refine G6 ?_
  refine .idxSlP 35 J J J hspu J Y23.h Sz55 k J oM (.loadEN r2.cells J J J Y55.h J Sz55 sP hlenu hseeu (.alloc (cs := Cert.zero.cells) J Cert.zr J ?_))
  intro n9 hn9 hf9
  refine .sA J J J J (Cert.isCell (by exact hiu.ok)) Sz55 (Cert.length (by exact hiu.ok)) Z0 (Cert.length (by exact Cert.zero_ok)) zU ?_
  refine G5 ?_
  refine .lA J J J Y55.h J Sz55 Z1 (Cert.length (by exact his.ok)) ?_
  refine .lA J J J Y55.h J Sz55 Z0 (Cert.length (by exact hiu.ok)) ?_
  refine .cV J J J J Body43 (same_cert r r2 d d2 (by rw [← his.fCut.fHeads.len]; exact hsm d (List.mem_of_getElem? hd))) (fun w h => ⟨his.ext h J, hiu.ext h J⟩) ?_
  refine G3 ?_
  refine .cond J (fun hc2 => ?_) (fun hc2 => ?_)
  ·
   refine G12 ?_
   refine ⟨_, [], Ac J J, sP, sP, ?_, rfl⟩
   exact congrArg Value.bool (sameL_no hd hdu (by simp_all; done)).symm
  refine G8 ?_
  exact ⟨k + 1, ⟨by omega, hsu, fun j a b hj ha hb => by rcases Nat.lt_succ_iff_lt_or_eq.1 hj with h | rfl; exact hg j a b h ha hb; exact (by rw [hd] at ha; rw [hdu] at hb; cases ha; cases hb; simp_all)⟩, by omega, Ag (wk1 rfl (wk1 rfl (wk1 rfl (wk1 rfl (wk1 (by rw [Int.natCast_add]; rfl) wk0))))) wh0 nD⟩
 obtain rfl : k = s.n := by omega
 refine G12 ?_
 refine ⟨_, [], Ac J J, sP, sP, ?_, rfl⟩
 exact congrArg Value.bool (sameL_yes (by rw [hnd, hnu]; omega) (by rw [hnd]; exact hg)).symm
theorem same_msg (A B : Msg) (a b : DMsg) (hsm : a.tiny) : Meets Tryz.prog 47 [agg A.cells, agg B.cells] [] (fun W => MsgIs W A a ∧ MsgIs W B b) (fun v out => v = .bool (sameM a b) ∧ out = []) := by
 intro W hW
 have hA := hW.1.ok
 have hB := hW.2.ok
 have e1 := hW.1.fKind
 have e2 := hW.2.fKind
 have e3 := hW.1.fHeight
 have e4 := hW.2.fHeight
 refine Ak Tryz.func47 J 59 Tryz.ntmps47 J (G3 ?_)
 intro n2 hn2 hf2
 refine G1 ?_
 intro n3 hn3 hf3
 refine G9 ?_
 refine two (fun r hr k => Tr.eqi J J J J hr k) (fun hs1_40 => ?_) (fun hs1_40 => ?_)
 ·
  have hs1_4 := of_decide_eq_true hs1_40
  refine G5 ?_
  refine two (fun r hr k => Tr.eqi J J J J hr k) (fun hs1_100 => ?_) (fun hs1_100 => ?_)
  ·
   have hs1_10 := of_decide_eq_true hs1_100
   refine G6 ?_
   refine .callB J J J J Body155 (seq_any _ _ _ _ _ _ a.dHeads b.dHeads hW.1.fHeads.row hW.2.fHeads.row hW.1.fHeads.len hW.2.fHeads.len (by have := hW.1.fHeads.len; have := hsm.h; omega)) (fun w h => ⟨Ao h J hW.1.fHeads.see, Ao h J hW.2.fHeads.see⟩) (fun hs1_170 => ?_) (fun hs1_170 => ?_)
   ·
    have hs1_17 := of_decide_eq_true hs1_170
    refine G6 ?_
    refine .callB J J J J Body155 (seq_any _ _ _ _ _ _ a.dWant b.dWant hW.1.fWant.row hW.2.fWant.row hW.1.fWant.len hW.2.fWant.len (by have := hW.1.fWant.len; have := hsm.w; omega)) (fun w h => ⟨Ao h J hW.1.fWant.see, Ao h J hW.2.fWant.see⟩) (fun hs1_240 => ?_) (fun hs1_240 => ?_)
    ·
     have hs1_24 := of_decide_eq_true hs1_240
     refine G6 ?_
     refine .callB J J J J Body156 (eqfg_block A.fBlocks B.fBlocks a.dBlocks b.dBlocks hsm.b) (fun w h => ⟨Blocks_ext h J hW.1.fBlocks, Blocks_ext h J hW.2.fBlocks⟩) (fun hs1_310 => ?_) (fun hs1_310 => ?_)
     ·
      have hs1_31 := hs1_310
      refine G6 ?_
      refine .callB J J J J Body146 (eqfg_vote A.fVotes B.fVotes a.dVotes b.dVotes) (fun w h => ⟨Cn h J hW.1.fVotes, Cn h J hW.2.fVotes⟩) (fun hs1_380 => ?_) (fun hs1_380 => ?_)
      ·
       have hs1_38 := hs1_380
       refine G6 ?_
       refine .callB J J J J Body158 (eqfg_cut A.fCuts B.fCuts a.dCuts b.dCuts hsm.c) (fun w h => ⟨Cuts_ext h J hW.1.fCuts, Cuts_ext h J hW.2.fCuts⟩) (fun hs1_450 => ?_) (fun hs1_450 => ?_)
       ·
        have hs1_45 := hs1_450
        refine G6 ?_
        refine .cV J J J J Body159 (eqfg_cert A.fCerts B.fCerts a.dCerts b.dCerts hsm.e) (fun w h => ⟨Certs_ext h J hW.1.fCerts, Certs_ext h J hW.2.fCerts⟩) (G6 ?_)
        refine ⟨_, [], Ac J J, sP, sP, ?_, rfl⟩
        simp_all [sameM]
       have hs1_45 := hs1_450
       refine G13 ?_
       refine ⟨_, [], Ac J J, sP, sP, ?_, rfl⟩
       simp_all [sameM]
      have hs1_38 := hs1_380
      refine G20 ?_
      refine ⟨_, [], Ac J J, sP, sP, ?_, rfl⟩
      simp_all [sameM]
     have hs1_31 := hs1_310
     refine G27 ?_
     refine ⟨_, [], Ac J J, sP, sP, ?_, rfl⟩
     simp_all [sameM]
    have hs1_24 := of_decide_eq_false hs1_240
    refine G34 ?_
    refine ⟨_, [], Ac J J, sP, sP, ?_, rfl⟩
    simp_all [sameM]
   have hs1_17 := of_decide_eq_false hs1_170
   refine G41 ?_
   refine ⟨_, [], Ac J J, sP, sP, ?_, rfl⟩
   simp_all [sameM]
  have hs1_10 := of_decide_eq_false hs1_100
  refine G48 ?_
  refine ⟨_, [], Ac J J, sP, sP, ?_, rfl⟩
  simp_all [sameM]
 have hs1_4 := of_decide_eq_false hs1_40
 refine G54 ?_
 refine ⟨_, [], Ac J J, sP, sP, ?_, rfl⟩
 simp_all [sameM]


def btag : List UInt8 := [98, 108, 111, 99, 107]
def btxt (D : DB) : List UInt8 := btag ++ D.body
theorem DB.body_small {D : DB} (hd : D.ok) (h1 : D.ls.length ≤ 40) (h2 : D.ds.length ≤ 2000) : (btxt D).length ≤ 4005 := by
  have hz1 := A2 D.seq.toNat
  have hz2 := A2 (UInt64.ofNat D.ls.length).toNat
  have hz3 := A2 (UInt64.ofNat D.ds.length).toNat
  have hfl := Bf hd.ls (Nat.le_refl D.ls.length)
  rw [List.take_length] at hfl
  simp only [btxt, btag, DB.body, List.length_append, Am, hd.w, hd.prev, hfl, List.length_cons, List.length_nil]
  omega
def SeesX (W : World) (ex : List Nat) (p : Option Addr) (cs : List Value) : Prop := ∀ (j : Nat) (v : Value), cs[j]? = some v → ∃ b o, p = some ⟨b, o, none⟩ ∧ b ∉ ex ∧ W.cell? ⟨b, o + j, none⟩ = some v
theorem SeesX.ext {C : Cx} {hp : List Blk} {w : World} {p : Option Addr} {cs : List Value} (h : HRep C hp w) (hs : SeesX C.W0 C.lent p cs) : SeesP w p cs := fun j v hj => by
  obtain ⟨b, o, e, hb, hc⟩ := hs j v hj
  exact ⟨b, o, e, h.keeps.cell hb hc⟩
theorem cell_lt' {w : World} {c o : Nat} {v : Value} (h : w.cell? ⟨c, o, none⟩ = some v) : c < w.heap.size := by
  rcases Nat.lt_or_ge c w.heap.size with h1 | h1
  · exact h1
  · simp [World.cell?, Array.getElem?_eq_none h1] at h
theorem SeesX.new {C : Cx} {hp : List Blk} {w : World} {p : Option Addr} {cs : List Value} {n : Nat} (h : HRep C hp w) (hl : C.lent = []) (hn : C.W0.heap.size ≤ n) (hs : SeesP C.W0 p cs) : SeesX w [n] p cs := fun j v hj => by
  obtain ⟨b, o, e, hc⟩ := hs j v hj
  refine ⟨b, o, e, ?_, h.keeps.cell (by rw [hl]; simp) hc⟩
  have := cell_lt' hc
  simp
  omega
theorem lie_none {n : Nat} {v : Value} {T : TypeId} {W : World} (h : Lies [⟨n, [v], T, 0⟩] W) : False := by
  obtain ⟨full, fr, hb⟩ := h _ (List.mem_singleton.2 rfl)
  have h1 := hb.pre.length_le
  have h2 := hb.size
  simp at h1
  simp only at h2
  omega
structure SameB (B : Block) (D : DB) : Prop where
  ok : B.ok
  w : B.fWriter = D.w
  seq : B.fSeq = D.seq
  prev : B.fPrev = D.prev
  sg : B.fSig = D.sg
  ln : B.fLinks.n = D.ls.length
  dn : B.fData.n = D.ds.length
theorem some_same {D : DB} (h : D.ok) : SameB ⟨D.w, D.seq, D.prev, ⟨none, D.ls.length, 0⟩, ⟨none, D.ds.length, 0⟩, D.sg⟩ D := ⟨⟨h.w, h.prev, h.sg⟩, rfl, rfl, rfl, rfl, rfl, rfl⟩
def BlkR (e : Int) (D : DB) (v : Value) (out : List Blk) : Prop := ∃ B : Block, SameB B D ∧ v = .tuple #[agg B.cells, i64 e] ∧ ∀ W2, Lies out W2 → BlockIs W2 B D
def BlkV (D : DB) (v : Value) (out : List Blk) : Prop := ∃ B : Block, SameB B D ∧ v = agg B.cells ∧ ∀ W2, Lies out W2 → BlockIs W2 B D
theorem none_nodup {l : List Blk} {n : Nat} (hl : (l.map (·.n)).Nodup) (hn : ∀ b ∈ l, b.n ≠ n) (v : Value) : ((([⟨n, [v], 0, 0⟩] : List Blk) ++ l).map (·.n)).Nodup := by
  simp only [List.singleton_append, List.map_cons, List.nodup_cons]
  exact ⟨fun h2 => by obtain ⟨b, hb, e⟩ := List.mem_map.1 h2; exact hn b hb e, hl⟩
theorem BlkR.loose (e : Int) (D : DB) (hD : D.ok) : Loose (BlkR e D) := fun l hl => by
  obtain ⟨n, _, hn⟩ := fresh_is 0 l
  exact ⟨_, [⟨n, [undef], 0, 0⟩], ⟨_, some_same hD, rfl, fun W2 h => (lie_none h).elim⟩, none_nodup hl hn _⟩
theorem BlkV.loose (D : DB) (hD : D.ok) : Loose (BlkV D) := fun l hl => by
  obtain ⟨n, _, hn⟩ := fresh_is 0 l
  exact ⟨_, [⟨n, [undef], 0, 0⟩], ⟨_, some_same hD, rfl, fun W2 h => (lie_none h).elim⟩, none_nodup hl hn _⟩
end Go.Proofs.YtdifpjmfabhpiaaGreat
end

section
namespace Go.Proofs.YtdifpjmfabhpiaaGreat
open Go Hw


theorem dcheck_2 {D : DB} (h : ¬ D.check = 0) : D.check = 2 := by
  unfold DB.check at h ⊢
  by_cases h1 : D.head = true
  · rw [if_pos h1]
  · rw [if_neg h1] at h ⊢
    by_cases h2 : linksBad D.prev D.ls = true
    · rw [if_pos h2]
    · rw [if_neg h2] at h; exact absurd rfl h

theorem r15_cmp (a b : List UInt8) (ha : a.length = 32) (hb : b.length = 32) : Meets Tryz.prog 144 [agg (Aa a), agg (Aa b)] [] (fun _ => True) (fun v out => v = i64 (cmpB a b) ∧ out = []) := by
 intro W hW
 refine Ak Tryz.func144 J 24 Tryz.ntmps144 J (G3 ?_)
 intro n2 hn2 hf2
 refine G1 ?_
 intro n3 hn3 hf3
 refine G10 ?_
 refine .loop (ι := Nat) (fun k => ⟨[(2, ptr n2 0), (3, ptr n3 0), (5, i64 (k : Int))], [⟨n3, Aa b, 50, (Aa b).length⟩, ⟨n2, Aa a, 50, (Aa a).length⟩]⟩) (fun k => k ≤ 32 ∧ ∀ j, j < k → a.getD j 0 = b.getD j 0) (fun k => 32 - k) (0) ?_ ?_ ?_
 · exact ⟨Nat.zero_le _, fun j hj => absurd hj (Nat.not_lt_zero _)⟩
 · exact Ag (wk1 rfl (wk1 rfl (wk1 rfl wk0))) (wh1 Z0 (wh1 Z1 wh0)) nD
 rintro k ⟨hk, hsm⟩
 refine G7 ?_
 refine .condP J (fun hc0 => ?_) (fun hc0 => ?_)
 ·
  have hk2 : k < 32 := by omega
  refine G6 ?_
  refine .draw [(0, 0), (0, 1), (1, 2), (0, 3), (0, 4), (1, 5), (0, 6)] Be zK (G1 ?_)
  refine .i1 J J J J Y50.h Sz5 k J oM (G2 ?_)
  refine .i1 J J J J Y50.h Sz5 k J oM (G4 ?_)
  refine .condP J (fun hc1 => ?_) (fun hc1 => ?_)
  ·
   have hek : a.getD k 0 ≠ b.getD k 0 := fun e => by rw [e] at hc1; omega
   refine G13 ?_
   refine ⟨_, [], Ac J J, sP, sP, ?_, rfl⟩
   (rw [cmpB_at k a b oM hsm oM hek]; unfold cmpI; rw [if_pos oM]; done)
  refine G3 ?_
  refine .draw [(0, 0), (0, 1), (1, 2), (0, 3), (0, 4), (1, 5), (0, 6)] Be zK (G1 ?_)
  refine .i1 J J J J Y50.h Sz5 k J oM (G2 ?_)
  refine .i1 J J J J Y50.h Sz5 k J oM (G4 ?_)
  refine .condP J (fun hc2 => ?_) (fun hc2 => ?_)
  ·
   have hek : a.getD k 0 ≠ b.getD k 0 := fun e => by rw [e] at hc2; omega
   refine G12 ?_
   refine ⟨_, [], Ac J J, sP, sP, ?_, rfl⟩
   (rw [cmpB_at k a b oM hsm oM hek]; unfold cmpI; rw [if_neg oM, if_pos oM]; done)
  have hek : a.getD k 0 = b.getD k 0 := UInt8.toNat_inj.1 oM
  refine G9 ?_
  exact ⟨k + 1, ⟨by omega, fun j hj => by rcases Nat.lt_or_ge j k with h1 | h1; exact hsm j h1; exact (show j = k by omega) ▸ hek⟩, by omega, Ag (wk1 rfl (wk1 rfl (wk1 (by rw [Int.natCast_add]; rfl) wk0))) (wh1 Z0 (wh1 Z1 wh0)) nD⟩
 have hk2 : k = 32 := by omega
 refine G12 ?_
 refine ⟨_, [], Ac J J, sP, sP, ?_, rfl⟩
 (rw [cmpB_all ha hb (fun j hj => hsm j oM)]; done)
theorem r15_check (B : Block) (hB : B.ok) (ls : List (List UInt8)) : Meets Tryz.prog 154 [agg B.cells] [] (fun W => RowsAt W B.fLinks 32 ls) (fun v out => v = i64 (bcheck B ls) ∧ out = []) := by
 intro W hW
 have hcx : B.fLinks.n ≤ maxLen := hW.max
 simp only [maxLen] at hcx
 have hcn := hW.cap
 refine Ak Tryz.func154 J 74 Tryz.ntmps154 J (G3 ?_)
 intro n1 hn1 hf1
 refine G5 ?_
 refine .build (cs := Aa (List.replicate 32 0)) J J J (fun w => by kernel_rfl) ?_
 refine .alloc (cs := (Aa (List.replicate 32 0))) J Zr50 J ?_
 intro n3 hn3 hf3
 refine .sA J J J J zE Sz50 sP Z0 sP zU ?_
 refine G4 ?_
 refine .draw [(0, 0), (1, 1), (0, 2), (0, 3), (0, 4), (1, 5), (1, 6), (0, 7), (0, 8), (1, 9), (0, 10), (0, 11), (0, 12), (0, 13), (0, 14), (1, 15), (0, 16), (0, 17), (0, 18), (0, 19), (0, 20), (1, 21), (0, 22), (0, 23), (0, 24)] Be zK (G2 ?_)
 refine two (fun r hr k => Tr.gtr J J J J hr k) (fun hs2_20 => ?_) (fun hs2_20 => ?_)
 ·
  have hs2_2 := of_decide_eq_true hs2_20
  refine G24 ?_
  refine .cond_t J J (G8 ?_)
  refine ⟨_, [], Ac J J, sP, sP, ?_, rfl⟩
  exact congrArg i64 (bcheck_head (by unfold bhead bheadB; simp_all)).symm
 have hs2_2 := of_decide_eq_false hs2_20
 refine G2 ?_
 refine .lN (Aa _) J J J Y50.h J Sz50 Z1 (Block.row_fPrev zA) (Block.rl_fPrev zA) ?_
 refine .lA J J J Y50.h J Sz50 Z0 sP ?_
 refine .eql_bytes J J J J Tryz.eqGuardType50 Y50.h Y5.h Sz5 (by (simp [hB.l_fPrev]; done)) sP J ?_
 refine G3 ?_
 refine two (fun r hr k => Tr.neb J J J J Y4 hr k) (fun hs2_110 => ?_) (fun hs2_110 => ?_)
 ·
  have hs2_11 := nd_t hs2_110
  refine G15 ?_
  refine .cond_t J J (G8 ?_)
  refine ⟨_, [], Ac J J, sP, sP, ?_, rfl⟩
  exact congrArg i64 (bcheck_head (by unfold bhead bheadB; simp_all)).symm
 have hs2_11 := nd_f hs2_110
 refine G5 ?_
 refine two (fun r hr k => Tr.gtr J J J J hr k) (fun hs2_170 => ?_) (fun hs2_170 => ?_)
 ·
  have hs2_17 := of_decide_eq_true hs2_170
  refine G9 ?_
  refine .cond_t J J (G8 ?_)
  refine ⟨_, [], Ac J J, sP, sP, ?_, rfl⟩
  exact congrArg i64 (bcheck_head (by unfold bhead bheadB; simp_all)).symm
 have hs2_17 := of_decide_eq_false hs2_170
 refine G9 ?_
 refine .condP J (fun hc0 => ?_) (fun hc0 => ?_)
 ·
  refine G8 ?_
  refine ⟨_, [], Ac J J, sP, sP, ?_, rfl⟩
  exact congrArg i64 (bcheck_head (by unfold bhead bheadB; simp_all)).symm
 have hnb : ¬ bhead B := by unfold bhead bheadB; simp_all
 refine G9 ?_
 refine .loop (ι := Nat) (fun k => ⟨[(1, ptr n1 0), (3, ptr n3 0), (4, i64 (k : Int))], [⟨n3, Aa (List.replicate 32 0), 50, 32⟩, ⟨n1, B.cells, 79, B.cells.length⟩]⟩) (fun k => k ≤ B.fLinks.n ∧ ∀ j, j < k → badAt B.fPrev ls j = false) (fun k => B.fLinks.n - k) (0) ?_ ?_ ?_
 · exact ⟨by omega, fun j hj => by omega⟩
 · exact Ag (wk1 rfl (wk1 rfl (wk1 rfl wk0))) (wh1 Z0 (wh1 Z1 wh0)) nD
 rintro k ⟨hk, hg⟩
 refine G10 ?_
 refine .condP J (fun hc1 => ?_) (fun hc1 => ?_)
 ·
  have hk2 : k < B.fLinks.n := by omega
  have hll := hW.len
  obtain ⟨b, o, hbp, hbs⟩ := hW.see.at (by rw [Bk hW.row]; omega)
  have hr0 : (ls.getD k []).length = 32 := Bh hW.row oM
  have hr1 : (ls.getD (k - 1) []).length = 32 := Bh hW.row oM
  refine G2 ?_
  refine .join (ι := Unit) (fun _u => ⟨[(1, ptr n1 0), (3, ptr n3 0), (4, i64 (k : Int))], [⟨n3, Aa (List.replicate 32 0), 50, 32⟩, ⟨n1, B.cells, 79, B.cells.length⟩]⟩) (fun _u => badAt B.fPrev ls k = false) ?_ ?_
  ·
   refine G2 ?_
   refine .draw [(0, 0), (1, 1), (0, 2), (0, 3), (1, 4), (1, 5), (0, 6), (0, 7), (0, 8), (1, 9), (0, 10), (0, 11), (1, 12), (0, 13), (1, 14), (0, 15), (0, 16), (0, 17), (0, 18), (0, 19), (0, 20), (0, 21), (1, 22), (0, 23), (0, 24), (0, 25), (1, 26), (0, 27), (1, 28), (0, 29), (0, 30), (1, 31), (3, 32), (0, 33), (0, 34), (0, 35)] Be zK (G3 ?_)
   refine .idxSlP 32 J J J hbp J Y51.h Sz50 k J oM (.loadEN (Aa (ls.getD (k) [])) J J J Y50.h J Sz50 sP (by rw [Aa, List.length_map]; exact Bh hW.row (by rw [hW.len]; omega)) (Cq hW.row hbs (by rw [hW.len]; omega)) ?_)
   refine .lA J J J Y50.h J Sz50 Z0 sP ?_
   refine two (fun r hr k => Tr.eql_bytes J J J J Tryz.eqGuardType50 Y50.h Y5.h Sz5 zA sP hr k) (fun hs7_60 => ?_) (fun hs7_60 => ?_)
   ·
    have hs7_6 := of_decide_eq_true hs7_60
    refine G31 ?_
    refine .cond_t J J (G12 ?_)
    refine ⟨_, [], Ac J J, sP, sP, ?_, rfl⟩
    exact congrArg i64 (bcheck_bad hnb (linksBad_at (k := k) oM (by unfold badAt; simp_all))).symm
   have hs7_6 := of_decide_eq_false hs7_60
   refine G4 ?_
   refine .idxSlP 32 J J J hbp J Y51.h Sz50 k J oM (.loadEN (Aa (ls.getD (k) [])) J J J Y50.h J Sz50 sP (by rw [Aa, List.length_map]; exact Bh hW.row (by rw [hW.len]; omega)) (Cq hW.row hbs (by rw [hW.len]; omega)) ?_)
   refine G1 ?_
   refine .lN (Aa _) J J J Y50.h J Sz50 Z1 (Block.row_fPrev zA) (Block.rl_fPrev zA) ?_
   refine two (fun r hr k => Tr.eql_bytes J J J J Tryz.eqGuardType50 Y50.h Y5.h Sz5 zA (by (simp [hB.l_fPrev]; done)) hr k) (fun hs7_150 => ?_) (fun hs7_150 => ?_)
   ·
    have hs7_15 := of_decide_eq_true hs7_150
    refine G22 ?_
    refine .cond_t J J (G12 ?_)
    refine ⟨_, [], Ac J J, sP, sP, ?_, rfl⟩
    exact congrArg i64 (bcheck_bad hnb (linksBad_at (k := k) oM (by unfold badAt; simp_all))).symm
   have hs7_15 := of_decide_eq_false hs7_150
   refine G3 ?_
   refine two (fun r hr k => Tr.gtr J J J J hr k) (fun hs7_190 => ?_) (fun hs7_190 => ?_)
   ·
    have hs7_19 := of_decide_eq_true hs7_190
    refine G5 ?_
    refine .idxSlP 32 J J J hbp J Y51.h Sz50 (k - 1) oM oM (.loadEN (Aa (ls.getD (k - 1) [])) J J J Y50.h J Sz50 sP (by rw [Aa, List.length_map]; exact Bh hW.row (by rw [hW.len]; omega)) (Cq hW.row hbs (by rw [hW.len]; omega)) ?_)
    refine G3 ?_
    refine .idxSlP 32 J J J hbp J Y51.h Sz50 k J oM (.loadEN (Aa (ls.getD (k) [])) J J J Y50.h J Sz50 sP (by rw [Aa, List.length_map]; exact Bh hW.row (by rw [hW.len]; omega)) (Cq hW.row hbs (by rw [hW.len]; omega)) ?_)
    refine .cV J J J J Body144 (r15_cmp _ _ hr1 hr0) tV (G5 ?_)
    refine .condP J (fun hc2 => ?_) (fun hc2 => ?_)
    ·
     refine G12 ?_
     refine ⟨_, [], Ac J J, sP, sP, ?_, rfl⟩
     exact congrArg i64 (bcheck_bad hnb (linksBad_at (k := k) oM (by unfold badAt; simp_all))).symm
    refine G3 ?_
    refine ⟨(), by unfold badAt; simp_all, Ag (wk1 J (wk1 J (wk1 J wk0))) (wh1 Z0 (wh1 Z1 wh0)) nD⟩
   have hs7_19 := of_decide_eq_false hs7_190
   refine G18 ?_
   refine .cond_f J J (G3 ?_)
   refine ⟨(), by unfold badAt; simp_all, Ag (wk1 J (wk1 J (wk1 J wk0))) (wh1 Z0 (wh1 Z1 wh0)) nD⟩
  intro _u hj
  have hgk := hj
  refine G6 ?_
  exact ⟨k + 1, ⟨by omega, fun j hj => by rcases Nat.lt_succ_iff_lt_or_eq.1 hj with h | rfl; exact hg j h; exact hgk⟩, by omega, Ag (wk1 rfl (wk1 rfl (wk1 (by rw [Int.natCast_add]; rfl) wk0))) (wh1 Z0 (wh1 Z1 wh0)) nD⟩
 obtain rfl : k = B.fLinks.n := by omega
 refine G12 ?_
 refine ⟨_, [], Ac J J, sP, sP, ?_, rfl⟩
 exact congrArg i64 (bcheck_ok hnb (linksBad_not (by rw [hW.len]; exact hg))).symm
theorem r15_Check (B : Block) (D : DB) : Meets Tryz.prog 154 [agg B.cells] [] (fun W => BlockIs W B D) (fun v out => v = i64 D.check ∧ out = []) :=
  fun W hW => by rw [← hW.check]; exact r15_check B hW.ok D.ls W hW.ls

theorem r1_Block (p r : Option Addr) (n c m d : Nat) (l ys : List UInt8) (hl : l.length = n) (hy : ys.length = m) (hp : p = none → n = 0) (hr : r = none → m = 0) (hn : n ≤ 40000) (hm : m ≤ 40000) : Meets Tryz.prog 133 [.slice p n c, .slice r m d] [] (fun W => SeesP W p (Aa l) ∧ SeesP W r (Aa ys)) (fun v out => FreshRow v out (Aa (l ++ Ap (UInt64.ofNat m) ++ ys)) 5 (n + szN m + m) 1) := by
 intro W hW
 have hz := A2 m
 have hw : Bd (m : Int) = UInt64.ofNat m := by simp only [Bd]; congr 1; omega
 have hmn : (UInt64.ofNat m).toNat = m := by rw [UInt64.toNat_ofNat', Nat.mod_eq_of_lt oM]
 refine Ak Tryz.func133 J 12 Tryz.ntmps133 J (G11 ?_)
 rw [hw]
 refine .call4 J J J J J Body132 (Cr p n c l (UInt64.ofNat m) hl hp oM) (fun w h => Ao h J hW.1) ?_
 rintro v9 out9 ⟨q9, c9, rfl, hc9, rfl⟩
 rw [hmn] at hc9 ⊢
 refine G1 ?_
 refine .appendSl (z := u8 0) (by' := 1) (Aa ys) J J J J J Y58.h Y58.h Sz5 Zr5 (by unfold By; kernel_rfl) J (fun w h => Ao h J hW.2) hr (Ay _) rM J (by rw [Aa, List.length_map, List.length_append, Am, hl, hmn, Nat.mul_one]) oM oM oM (by rw [Aa, List.length_map, hy, Nat.mul_one]) ?_
 intro q11 c11 hq11
 rw [← B1]
 refine G5 ?_
 refine Ai (out := (⟨q11, Aa (l ++ Ap (UInt64.ofNat m) ++ ys), 5, c11 * 1⟩ :: [])) (Ac J J) (Ab rM Ad) ?_
 exact ⟨q11, c11, rfl, hq11, rfl⟩

theorem btag_length : btag.length = 5 := rfl

theorem r15_Text (B : Block) (D : DB) (hB : B.ok) (h1 : D.ls.length ≤ 40) (h2 : D.ds.length ≤ 2000) : Meets Tryz.prog 219 [agg B.cells] [] (fun W => BlockIs W B D) (fun v out => FreshRow v out (Aa (btxt D)) 5 (btxt D).length 1) := by
 intro W hW
 have hbs0 := DB.body_small hW.dok h1 h2
 have e1 := hW.ls.len
 have e2 := hW.ds.len
 have hz1 := A2 B.fSeq.toNat
 have hz2 := A2 (UInt64.ofNat B.fLinks.n).toNat
 have hz3 := A2 B.fData.n
 have hw2 := Cf (n := B.fLinks.n) oM
 have hrow := hW.ls.row
 refine Ak Tryz.func219 J 41 Tryz.ntmps219 J (G3 ?_)
 intro n1 hn1 hf1
 refine G5 ?_
 refine .mkRow (z := u8 0) [u8 98, u8 108, u8 111, u8 99, u8 107] (Aa btag) J J J Y58.h Sz5 Zr5 J J (by intro v hv; simp only [List.mem_cons, List.not_mem_nil, or_false] at hv; rcases hv with rfl | rfl | rfl | rfl | rfl <;> rfl) dE J ?_
 intro q5
 refine .constB J J J J Y58.h Y5.h Z0 ?_
 refine G2 ?_
 refine .appendSl (z := u8 0) (by' := 1) (Aa B.fWriter) J J J J J Y58.h Y58.h Sz5 Zr5 (by unfold By; kernel_rfl) J (fun w h => SeesP.of (sees_part h Z1 (Block.see_fWriter hB))) (fun e => by cases e) (Ay _) rM J J dE dE dE (by simp [hB.l_fWriter]) ?_
 intro q9 c9 hq9
 rw [← B1]
 refine G4 ?_
 refine .draw [(0, 0), (0, 1), (1, 2), (0, 4), (0, 5), (4, 3), (4, 6), (0, 7)] Be zK (G5 ?_)
 refine .call4 J J J J J Body132 (Cr (some ⟨q9, 0, none⟩) (5 + 32) c9 (btag ++ B.fWriter) (B.fSeq) (by simp only [List.length_append, Am, hB.l_fWriter, hB.l_fPrev, btag_length]) (fun e => by cases e) oM) (fun w h => SeesP.of (Ah (cs := Aa (btag ++ B.fWriter)) h Z0)) ?_
 rintro v13 out13 ⟨q13, c13, rfl, hc13, rfl⟩
 refine .appendSl (z := u8 0) (by' := 1) (Aa B.fPrev) J J J J J Y58.h Y58.h Sz5 Zr5 (by unfold By; kernel_rfl) J (fun w h => SeesP.of (sees_part h Z2 (Block.see_fPrev hB))) (fun e => by cases e) (Ay _) rM J (by rw [Aa, List.length_map, Nat.mul_one]; simp only [List.length_append, Am, hB.l_fWriter, hB.l_fPrev, btag_length]) oM oM oM (by simp [hB.l_fPrev]) ?_
 intro q16 c16 hq16
 rw [← B1]
 refine G10 ?_
 rw [hw2]
 refine .call4 J J J J J Body132 (Cr (some ⟨q16, 0, none⟩) (5 + 32 + szN B.fSeq.toNat + 32) c16 (btag ++ B.fWriter ++ Ap B.fSeq ++ B.fPrev) (UInt64.ofNat B.fLinks.n) (by simp only [List.length_append, Am, hB.l_fWriter, hB.l_fPrev, btag_length]) (fun e => by cases e) oM) (fun w h => SeesP.of (Ah (cs := Aa (btag ++ B.fWriter ++ Ap B.fSeq ++ B.fPrev)) h Z0)) ?_
 rintro v22 out22 ⟨q22, c22, rfl, hc22, rfl⟩
 refine G10 ?_
 refine .loop (ι := Nat × Nat × Nat) (fun p => ⟨[(1, ptr n1 0), (3, .slice (some ⟨p.2.1, 0, none⟩) (5 + 32 + szN B.fSeq.toNat + 32 + szN (UInt64.ofNat B.fLinks.n).toNat + 32 * p.1) p.2.2), (4, i64 (p.1 : Int))], [⟨p.2.1, Aa (btag ++ B.fWriter ++ Ap B.fSeq ++ B.fPrev ++ Ap (UInt64.ofNat B.fLinks.n) ++ (D.ls.take p.1).flatten), 5, p.2.2 * 1⟩, ⟨n1, B.cells, 79, B.cells.length⟩]⟩) (fun p => p.1 ≤ B.fLinks.n ∧ 5 + 32 + szN B.fSeq.toNat + 32 + szN (UInt64.ofNat B.fLinks.n).toNat + 32 * p.1 ≤ p.2.2) (fun p => B.fLinks.n - p.1) ((0, q22, c22)) ?_ ?_ ?_
 · exact ⟨Nat.zero_le _, by simp only []; omega⟩
 · exact Ae (wk1 rfl (wk1 rfl (wk1 rfl wk0))) (Cg rM (by simp only [List.take_zero, List.flatten_nil, List.append_nil]) rfl (Ab rM Ad))
 rintro p ⟨hp1, hp2⟩
 refine G10 ?_
 refine .condP J (fun hc0 => ?_) (fun hc0 => ?_)
 ·
  have hp3 : p.1 < B.fLinks.n := by omega
  obtain ⟨b, o, hbp, hbs⟩ := hW.ls.see.at (by rw [Bk hrow]; omega)
  have hrk : (D.ls.getD p.1 []).length = 32 := Bh hrow oM
  refine G9 ?_
  refine .idxSlP 32 J J J hbp J Y51.h Sz50 p.1 J oM (G1 ?_)
  refine .appendSl (z := u8 0) (by' := 1) (Aa (D.ls.getD p.1 [])) J J J J J Y58.h Y58.h Sz5 Zr5 (by unfold By; kernel_rfl) J (fun w h => SeesP.of (Ba h sP (Cq hrow hbs oM))) (fun e => by cases e) (Ay _) rM J (by simp only [Aa, List.length_map, List.length_append, Am, hB.l_fWriter, hB.l_fPrev, btag_length, Bf hrow (show p.1 ≤ D.ls.length by omega)]; omega) oM oM oM (by rw [Aa, List.length_map, hrk]) ?_
  intro q36 c36 hq36
  rw [← B1]
  refine G10 ?_
  exact ⟨(p.1 + 1, q36, c36), ⟨by simp only []; omega, by simp only []; omega⟩, by simp only []; omega, Ae (wk1 rfl (wk1 (by rw [show 5 + 32 + szN B.fSeq.toNat + 32 + szN (UInt64.ofNat B.fLinks.n).toNat + 32 * (p.1 + 1) = 5 + 32 + szN B.fSeq.toNat + 32 + szN (UInt64.ofNat B.fLinks.n).toNat + 32 * p.1 + 32 by omega]; rfl) (wk1 (by rw [Int.natCast_add]; rfl) wk0))) (Cg rM (by rw [flatten_take_step oM, ← List.append_assoc]) rfl (Ab rM Ad))⟩
 have hp3 : p.1 = B.fLinks.n := by omega
 refine G10 ?_
 refine .call4 J J J J J Body133 (r1_Block (some ⟨p.2.1, 0, none⟩) B.fData.p (5 + 32 + szN B.fSeq.toNat + 32 + szN (UInt64.ofNat B.fLinks.n).toNat + 32 * p.1) p.2.2 B.fData.n B.fData.c (btag ++ B.fWriter ++ Ap B.fSeq ++ B.fPrev ++ Ap (UInt64.ofNat B.fLinks.n) ++ (D.ls.take p.1).flatten) D.ds (by simp only [List.length_append, Am, hB.l_fWriter, hB.l_fPrev, btag_length, Bf hrow (show p.1 ≤ D.ls.length by omega)]; omega) e2 (fun e => by cases e) (fun e => by have h3 := hW.ds.nil e; have h4 := hW.ds.cap; omega) oM oM) (fun w h => ⟨SeesP.of (Ah h Z0), Ao h J hW.ds.see⟩) ?_
 rintro v40 out40 ⟨q40, c40, rfl, hc40, rfl⟩
 refine G5 ?_
 refine Ai (out := (⟨q40, Aa (btag ++ B.fWriter ++ Ap B.fSeq ++ B.fPrev ++ Ap (UInt64.ofNat B.fLinks.n) ++ (D.ls.take p.1).flatten ++ Ap (UInt64.ofNat B.fData.n) ++ D.ds), 5, c40 * 1⟩ :: [])) (Ac J J) (Ab rM Ad) ?_
 have hfin : btag ++ B.fWriter ++ Ap B.fSeq ++ B.fPrev ++ Ap (UInt64.ofNat B.fLinks.n) ++ (D.ls.take p.1).flatten ++ Ap (UInt64.ofNat B.fData.n) ++ D.ds = btxt D := by rw [btxt, DB.body, ← hW.w, ← hW.seq, ← hW.prev, e1, e2, List.take_of_length_le oM]; simp only [List.append_assoc]
 have hlen : 5 + 32 + szN B.fSeq.toNat + 32 + szN (UInt64.ofNat B.fLinks.n).toNat + 32 * p.1 + szN B.fData.n + B.fData.n = (btxt D).length := by rw [← hfin]; simp only [List.length_append, Am, hB.l_fWriter, hB.l_fPrev, btag_length, Bf hrow (show p.1 ≤ D.ls.length by omega), e2, A6 (show B.fData.n ≤ 1000000 by omega)]; omega
 rw [hfin]
 exact ⟨q40, c40, by rw [hlen], by omega, rfl⟩
end Go.Proofs.YtdifpjmfabhpiaaGreat
end

section
namespace Go.Proofs.YtdifpjmfabhpiaaGreat
open Go Hw


theorem numR_stays {xs : List UInt8} {x : UInt64} {a a1 : Nat} {e e1 : Int} (h : A0 xs a e = (x, a1, e1)) (he : ¬ e1 = 0) : a1 = a := by
  unfold A0 at h
  split at h
  · exact (congrArg (fun z => z.2.1) h).symm
  split at h
  · exact (congrArg (fun z => z.2.1) h).symm
  split at h
  · exact (congrArg (fun z => z.2.1) h).symm
  split at h
  · exact absurd (congrArg (fun z => z.2.2) h).symm he
  · exact (congrArg (fun z => z.2.1) h).symm

theorem r1t_zero (n q N cp at' o : Nat) (xs : List UInt8) (hx : xs.length = N) (hat : at' ≤ N) (hN : N ≤ cp) (hbig : N ≤ 90000)  : Meets Tryz.prog 216 [ptr n 0, i64 ((0 : Nat) : Int)] [n] (fun W => BlkOk W (R1B n q (o) N cp (at') (0)) ∧ Bs W q 0 (Aa xs) ∧ q ≠ n) (fun v out => ∃ q1 c1, v = .slice (some ⟨q1, 0, none⟩) 0 c1 ∧ 0 ≤ c1 ∧ out = [⟨q1, Aa [], 5, c1 * 1⟩, R1B n q (if cp - at' = 0 then o else o + 0 * 1) N cp (at' + 0) (0)]) := by
 intro W hW
 have hfn : (rd1 q o N cp at' 0).fB.n = N - at' := rfl
 have hfc : (rd1 q o N cp at' 0).fB.c = cp - at' := rfl
 have hfe : (rd1 q o N cp at' 0).fE = 0 := rfl
 refine A3 (hp0 := [R1B n q (o) N cp (at') (0)]) Tryz.func216 J 48 Tryz.ntmps216 J (HRep.one hW.1) (G8 ?_)
 refine .max2 J J J J (show Value.int .i64 (if (0 : Int) > ((0 : Nat) : Int) then 0 else ((0 : Nat) : Int)) = i64 ((0 : Nat) : Int) by rw [if_neg oM]) ?_
 refine G10 ?_
 refine .eqi J J J J (decide_eq_true (rfl)) (G7 ?_)
 refine .lss J J J J (decide_eq_false oM) (G3 ?_)
 refine .cond_f J (rfl) (G9 ?_)
 refine .nei J J J J (show (!decide _) = false from congrArg not (decide_eq_true (rfl))) (G2 ?_)
 refine .cond_f J (rfl) (G9 ?_)
 refine .sliceHi 0 J J J J J oM Y58.h Sz5 (G11 ?_)
 refine .sliceLoN 0 J J J J J oM oM Y58.h Sz5 (G2 ?_)
 refine .s1 J J J J J Sz58 Z0 (by rw [Rdr.length (by exact rd1_ok _ _ _ _ _ _)]; decide) (by exact Rdr.setS_fB (by exact rd1_ok _ _ _ _ _ _) _ _ _) zU ?_
 refine G4 ?_
 refine .mkRow2 (z := u8 0) [] [] rfl J Y58.h Sz5 Zr5 J J (by intro v hv; cases hv) dE J ?_
 intro q45
 refine G1 ?_
 refine .appendSl (z := u8 0) (by' := 1) (Aa []) J J J J J Y58.h Y58.h Sz5 Zr5 (by unfold By; kernel_rfl) J (fun w h => SeesP.nil) (fun e => by cases e) (Ay _) Aq J J oM oM oM J ?_
 intro q47 c47 hq47
 refine G5 ?_
 refine ⟨_, [⟨q47, [] ++ Aa [], 5, c47 * 1⟩, R1B n q (if cp - at' = 0 then o else o + 0 * 1) N cp (at' + 0) (0)], Ac J J, (by intro b hb; rcases List.mem_cons.1 hb with rfl | hb; exact Bw; rw [List.mem_singleton.1 hb, r1b_move]; exact mem1), (fun h => h.sublist (by simp [R1B])), ?_⟩
 exact ⟨q47, c47, rfl, Nat.zero_le _, rfl⟩

theorem r1_TakeA (n q o N cp a : Nat) (e : Int) (m : Nat) (hm : m ≤ 90000) (xs : List UInt8) (hx : xs.length = N) (hat : a ≤ N) (hN : N ≤ cp) (hbig : N ≤ 90000) (ho : At1 cp a o) (l : List UInt8) (a1 : Nat) (h : takR xs m a 0 = (l, a1, 0)) : Meets Tryz.prog 216 [ptr n 0, i64 (m : Int)] [n] (fun W => BlkOk W (R1B n q o N cp a 0) ∧ Bs W q 0 (Aa xs) ∧ q ≠ n)
    (fun v out => ∃ s bl o1, At1 cp a1 o1 ∧ v = s.v ∧ Acc s bl (Aa l) 5 l.length 1 ∧ out = bl ++ [R1B n q o1 N cp a1 0]) := by
  rcases Nat.eq_zero_or_pos m with rfl | hm0
  · have h0 := h
    unfold takR at h0
    rw [if_neg sP, if_neg oM] at h0
    obtain ⟨rfl, rfl⟩ : [] = l ∧ a + 0 = a1 := by simpa using h0
    refine (r1t_zero n q N cp a o xs hx hat hN hbig).imp (fun w h => h) fun v out ⟨q1, c1, h1, h2, h3⟩ => ⟨⟨some ⟨q1, 0, none⟩, 0, c1⟩, [_], _, fun hlt => ?_, h1, ?_, h3⟩
    · have := ho hlt
      simp only [Nat.zero_mul, Nat.add_zero, ite_self]
      omega
    · exact Acc.some h2 rfl
  · exact r1_TakeE n q o N cp a 0 m hm0 hm xs hx hat hN hbig ho l a1 0 h

theorem r1b_err (n q o N cp at' : Nat) (e : Int) (xs : List UInt8) (hx : xs.length = N) (hat : at' ≤ N) (hN : N ≤ cp) (hbig : N ≤ 90000) (ho : At1 cp at' o) (x : UInt64) (a1 : Nat) (e1 : Int) (h1 : A0 xs at' e = (x, a1, e1)) (he1 : ¬ e1 = 0) : Meets Tryz.prog 137 [ptr n 0] [n] (fun W => BlkOk W (R1B n q (o) N cp (at') (e)) ∧ Bs W q 0 (Aa xs) ∧ q ≠ n) (fun v out => ∃ o1, At1 cp a1 o1 ∧ v = .slice none 0 0 ∧ out = [R1B n q o1 N cp a1 e1]) := by
 intro W hW
 have hla := Bc h1 hx hat
 refine A3 (hp0 := [R1B n q (o) N cp (at') (e)]) Tryz.func137 J 42 Tryz.ntmps137 J (HRep.one hW.1) (G17 ?_)
 refine .callL (L := [R1B n q (o) N cp (at') (e)]) J J J J J Body138 (B4 n q o N cp at' e xs hx hat hN hbig ho x a1 e1 h1) (Ab rM Ad) (Au J) (fun w h => ⟨Af h Z0, Ba h (by simp; exact hW.2.2) hW.2.1, hW.2.2⟩) ?_
 rintro v10 out10 ⟨o1, ho1, rfl, rfl⟩
 refine G6 ?_
 have hfn : (rd1 q o1 N cp a1 e1).fB.n = N - a1 := rfl
 have hfe : (rd1 q o1 N cp a1 e1).fE = e1 := rfl
 have hwn : (Bd ((N - a1 : Nat) : Int)).toNat = N - a1 := by simp only [Bd, UInt64.toNat_ofNat']; omega
 refine G4 ?_
 refine .eqi J J J J (decide_eq_false (he1)) (G12 ?_)
 refine .cond_f J (rfl) (G9 ?_)
 refine .nei J J J J (show (!decide _) = true from congrArg not (decide_eq_false (he1))) (G2 ?_)
 refine .cond_t J (rfl) (G8 ?_)
 refine Ai (out := (R1B n q o1 N cp a1 e1 :: [])) (Ac J J) (Ab rM Ad) ?_
 exact ⟨o1, ho1, rfl, rfl⟩

theorem r1b_more (n q o N cp at' : Nat) (e : Int) (xs : List UInt8) (hx : xs.length = N) (hat : at' ≤ N) (hN : N ≤ cp) (hbig : N ≤ 90000) (ho : At1 cp at' o) (x : UInt64) (a1 : Nat) (e1 : Int) (h1 : A0 xs at' e = (x, a1, e1)) (he1 : e1 = 0) (hk : N < a1 + x.toNat) : Meets Tryz.prog 137 [ptr n 0] [n] (fun W => BlkOk W (R1B n q (o) N cp (at') (e)) ∧ Bs W q 0 (Aa xs) ∧ q ≠ n) (fun v out => v = .slice none 0 0 ∧ out = [R1B n q o N cp at' 5]) := by
 intro W hW
 have hla := Bc h1 hx hat
 refine A3 (hp0 := [R1B n q (o) N cp (at') (e)]) Tryz.func137 J 42 Tryz.ntmps137 J (HRep.one hW.1) (G17 ?_)
 refine .callL (L := [R1B n q (o) N cp (at') (e)]) J J J J J Body138 (B4 n q o N cp at' e xs hx hat hN hbig ho x a1 e1 h1) (Ab rM Ad) (Au J) (fun w h => ⟨Af h Z0, Ba h (by simp; exact hW.2.2) hW.2.1, hW.2.2⟩) ?_
 rintro v10 out10 ⟨o1, ho1, rfl, rfl⟩
 subst he1
 refine G6 ?_
 have hfn : (rd1 q o1 N cp a1 0).fB.n = N - a1 := rfl
 have hfe : (rd1 q o1 N cp a1 0).fE = 0 := rfl
 have hwn : (Bd ((N - a1 : Nat) : Int)).toNat = N - a1 := by simp only [Bd, UInt64.toNat_ofNat']; omega
 refine G4 ?_
 refine .eqi J J J J (decide_eq_true (rfl)) (G6 ?_)
 refine .lenSl (n := N - a1) J J J Y58.h (G1 ?_)
 refine .gtr J J J J (decide_eq_true (by rw [hwn]; omega)) ?_
 refine G3 ?_
 refine .cond_t J (rfl) (G9 ?_)
 refine .s1 J J J J J Sz58 Z0 (by rw [Rdr.length (by exact rd1_ok _ _ _ _ _ _)]; decide) (by exact Rdr.set_fB (by exact rd1_ok _ _ _ _ _ _) _) zU ?_
 refine G9 ?_
 refine .nei J J J J (show (!decide _) = true from congrArg not (decide_eq_false (by show ¬ ((5 : Int) = 0); decide))) ?_
 refine G2 ?_
 refine .cond_t J (rfl) (G8 ?_)
 refine Ai (out := (R1B n q o N cp at' 5 :: [])) (Ac J J) (Ab rM Ad) ?_
 exact ⟨rfl, rfl⟩

theorem r1b_ok (n q o N cp at' : Nat) (e : Int) (xs : List UInt8) (hx : xs.length = N) (hat : at' ≤ N) (hN : N ≤ cp) (hbig : N ≤ 90000) (ho : At1 cp at' o) (x : UInt64) (a1 : Nat) (e1 : Int) (h1 : A0 xs at' e = (x, a1, e1)) (he1 : e1 = 0) (hk : a1 + x.toNat ≤ N) (l : List UInt8) (a2 : Nat) (h2 : takR xs x.toNat a1 0 = (l, a2, 0)) : Meets Tryz.prog 137 [ptr n 0] [n] (fun W => BlkOk W (R1B n q (o) N cp (at') (e)) ∧ Bs W q 0 (Aa xs) ∧ q ≠ n) (fun v out => ∃ s bl o2, At1 cp a2 o2 ∧ v = s.v ∧ Acc s bl (Aa l) 5 l.length 1 ∧ out = bl ++ [R1B n q o2 N cp a2 0]) := by
 intro W hW
 have hla := Bc h1 hx hat
 refine A3 (hp0 := [R1B n q (o) N cp (at') (e)]) Tryz.func137 J 42 Tryz.ntmps137 J (HRep.one hW.1) (G17 ?_)
 refine .callL (L := [R1B n q (o) N cp (at') (e)]) J J J J J Body138 (B4 n q o N cp at' e xs hx hat hN hbig ho x a1 e1 h1) (Ab rM Ad) (Au J) (fun w h => ⟨Af h Z0, Ba h (by simp; exact hW.2.2) hW.2.1, hW.2.2⟩) ?_
 rintro v10 out10 ⟨o1, ho1, rfl, rfl⟩
 subst he1
 refine G6 ?_
 have hfn : (rd1 q o1 N cp a1 0).fB.n = N - a1 := rfl
 have hfe : (rd1 q o1 N cp a1 0).fE = 0 := rfl
 have hwn : (Bd ((N - a1 : Nat) : Int)).toNat = N - a1 := by simp only [Bd, UInt64.toNat_ofNat']; omega
 refine G4 ?_
 refine .eqi J J J J (decide_eq_true (rfl)) (G6 ?_)
 refine .lenSl (n := N - a1) J J J Y58.h (G1 ?_)
 refine .gtr J J J J (decide_eq_false (by rw [hwn]; omega)) ?_
 refine G3 ?_
 refine .cond_f J (rfl) (G9 ?_)
 refine .nei J J J J (show (!decide _) = false from congrArg not (decide_eq_true (rfl))) (G2 ?_)
 refine .cond_f J (rfl) (G6 ?_)
 refine .conv J J J Y48.h Y3.h (cv_u64_i64 oM) (.callL (L := [R1B n q (o1) N cp (a1) (0)]) J J J J J Body216 (r1_TakeA n q o1 N cp a1 0 x.toNat oM xs hx hla hN hbig ho1 l a2 h2) (Ab rM Ad) (Au J) (fun w h => ⟨Af h Z0, Ba h (by simp; exact hW.2.2) hW.2.1, hW.2.2⟩) ?_)
 rintro v41 out41 ⟨s41, bl41, o2, ho2, rfl, hac41, rfl⟩
 simp only [List.append_assoc, List.cons_append, List.nil_append]
 refine G5 ?_
 refine Ai (out := (bl41 ++ (R1B n q o2 N cp a2 0 :: []))) (Ac J J) (Aj sG (Ab rM Ad)) ?_
 exact ⟨s41, bl41, o2, ho2, rfl, hac41, by simp⟩

theorem r1_BlockE (n q o0 N cp a : Nat) (e : Int) (xs : List UInt8) (hx : xs.length = N) (hat : a ≤ N) (hN : N ≤ cp) (hbig : N ≤ 90000) (ho : At1 cp a o0) (o : Option (List UInt8)) (a1 : Nat) (e1 : Int) (h : blkR xs a e = (o, a1, e1)) : Meets Tryz.prog 137 [ptr n 0] [n] (fun W => BlkOk W (R1B n q o0 N cp a e) ∧ Bs W q 0 (Aa xs) ∧ q ≠ n)
    (fun v out => ∃ s bl o2, At1 cp a1 o2 ∧ v = s.v ∧ Acc s bl (Aa (o.getD [])) 5 (o.getD []).length 1 ∧ out = bl ++ [R1B n q o2 N cp a1 e1]) := by
  obtain ⟨x, r, h1⟩ : ∃ l r, A0 xs a e = (l, r) := ⟨_, _, rfl⟩
  obtain ⟨a2, e2⟩ := r
  have hla := Bc h1 hx hat
  unfold blkR at h
  rw [h1] at h
  simp only at h
  by_cases he : e2 = 0
  · subst he
    rw [if_neg sP] at h
    by_cases h2 : xs.length < a2 + x.toNat
    · rw [if_pos h2] at h
      obtain ⟨rfl, rfl, rfl⟩ : none = o ∧ a = a1 ∧ (5 : Int) = e1 := by simpa using h
      exact (r1b_more n q o0 N cp a e xs hx hat hN hbig ho x a2 0 h1 rfl oM).imp (fun w h => h) fun v out ⟨h1, h2⟩ => ⟨Sl.nil, [], o0, ho, h1, Acc.none, h2⟩
    · rw [if_neg h2] at h
      obtain ⟨rfl, rfl, rfl⟩ : some ((xs.drop a2).take x.toNat) = o ∧ a2 + x.toNat = a1 ∧ (0 : Int) = e1 := by simpa using h
      have ht : takR xs x.toNat a2 0 = ((xs.drop a2).take x.toNat, a2 + x.toNat, 0) := by
        unfold takR
        rw [if_neg sP, if_neg h2]
      exact (r1b_ok n q o0 N cp a e xs hx hat hN hbig ho x a2 0 h1 rfl oM _ _ ht).imp (fun w h => h) fun v out h => h
  · rw [if_pos he] at h
    obtain ⟨rfl, ha, rfl⟩ : none = o ∧ a = a1 ∧ e2 = e1 := by simpa using h
    have h3 : a2 = a := numR_stays h1 he
    subst h3
    subst ha
    exact (r1b_err n q o0 N cp a2 e xs hx hat hN hbig ho x a2 e2 h1 he).imp (fun w h => h) fun v out ⟨o1, h1, h2, h3⟩ => ⟨Sl.nil, [], o1, h1, h2, Acc.none, h3⟩
theorem digR_err {xs : List UInt8} {a : Nat} {e : Int} (he : ¬ e = 0) : (Cl xs a e).2.2 = e := by unfold Cl; rw [if_pos he]
theorem digsR_err {xs : List UInt8} {a : Nat} {e : Int} (he : ¬ e = 0) : ∀ j, (As xs j a e).2.2 = e
  | 0 => rfl
  | j + 1 => by
    have h := digsR_err (xs := xs) (a := a) he j
    simp only [As]
    rw [digR_err (by rw [h]; exact he), h]
theorem numR_err {xs : List UInt8} {a : Nat} {e : Int} (he : ¬ e = 0) : (A0 xs a e).2.2 = e := by unfold A0; rw [if_pos he]
theorem blkR_err {xs : List UInt8} {a : Nat} {e : Int} (he : ¬ e = 0) : (blkR xs a e).2.2 = e := by
  have h := numR_err (xs := xs) (a := a) he
  unfold blkR
  rw [if_pos (by rw [h]; exact he), h]
theorem takR_err {xs : List UInt8} {m a : Nat} {e : Int} (he : ¬ e = 0) : (takR xs m a e).2.2 = e := by unfold takR; rw [if_pos he]

end Go.Proofs.YtdifpjmfabhpiaaGreat
end

section
namespace Go.Proofs.YtdifpjmfabhpiaaGreat
open Go Hw


def ByR (e : Int) (l : List UInt8) (v : Value) (out : List Blk) : Prop := ∃ s : Sl, v = .tuple #[s.v, i64 e] ∧ s.n = l.length ∧ (s.p = none → s.n = 0) ∧ ∀ W2, Lies out W2 → SeesP W2 s.p (Aa l)
theorem body_pos (D : DB) : 0 < D.body.length := by
  have := A2 D.seq.toNat
  simp only [DB.body, List.length_append, Am]
  omega

theorem text_off {q c : Nat} {D : DB} {E : TypeId} (hc : (btxt D).length ≤ c) (hl : (btxt D).length = 5 + D.body.length) : AccO ⟨some ⟨q, if c = 5 then 0 else 0 + 5 * 1, none⟩, (btxt D).length - 5, c - 5⟩ [⟨q, Aa (btxt D), E, c * 1⟩] (Aa D.body) E ((btxt D).length - 5) := by
  refine .inr ⟨q, if c = 5 then 0 else 0 + 5 * 1, c - 5, c * 1, Aa (if c = 5 then [] else btag), Aa [], rfl, by omega, by rw [Aa, List.length_map]; omega, ?_, .inl rfl, ?_, ?_⟩
  · split <;> rfl
  · split <;> omega
  · by_cases h5 : c = 5
    · exfalso; have hb : 0 < D.body.length := body_pos D; omega
    · rw [if_neg h5, ← B1, ← B1, List.append_nil]; rfl

theorem r15_Bytes (B : Block) (D : DB) (hB : B.ok) : Meets Tryz.prog 149 [agg B.cells] [] (fun W => BlockIs W B D) (ByR D.check (bytesR D)) := by
 intro W hW
 have hsl := hB.l_fSig
 have hsg := hW.sg
 refine Ak Tryz.func149 J 13 Tryz.ntmps149 J (G3 ?_)
 intro n1 hn1 hf1
 refine G8 ?_
 refine .cV J J J J Body154 (r15_Check B D) (fun w h => hW.ext h J) (G3 ?_)
 refine .condNP J (fun hc0 => ?_) (fun hc0 => ?_)
 ·
  have hq0 : ¬ D.check = 0 := by omega
  refine G9 ?_
  refine Ai (out := []) (A7 J J J) Ad ?_
  rw [dcheck_2 hq0]
  exact ⟨Sl.nil, rfl, by rw [show bytesR D = [] from if_neg hq0]; rfl, fun _ => rfl, fun W2 _ => by rw [show bytesR D = [] from if_neg hq0]; exact SeesP.nil⟩
 have hq0 : D.check = 0 := by omega
 obtain ⟨h1, h2⟩ := D.head_small hq0
 have hvn : (btxt D).length ≤ 4005 := DB.body_small hW.dok oM oM
 have hbl5 : (btxt D).length = 5 + D.body.length := by rw [btxt, List.length_append]; rfl
 refine G3 ?_
 refine .draw [(1, 0), (0, 3), (0, 4), (3, 1), (0, 2), (4, 5), (0, 6), (0, 7)] Be zK (G3 ?_)
 refine .call J J J J Body219 (r15_Text B D hB oM oM) (FreshRow.loose _ _ _ _) (fun w h => hW.ext h J) ?_
 rintro v8 out8 ⟨q8, c8, rfl, hc8, rfl⟩
 refine .sliceLoN 5 J J J J J oM oM Y58.h Sz5 (.appendO (z := u8 0) (by' := 1) (Aa B.fSig) J J J J J Y58.h Y58.h Sz5 Zr5 (by unfold By; kernel_rfl) J (text_off hc8 hbl5) sG (fun w h => SeesP.of (sees_part h Z1 (Block.see_fSig hB))) dE (fun e => by cases e) (Ay _) oM oM (by simp [hsl]) ?_)
 intro s12 bl12 hac12
 refine G6 ?_
 refine Ai (out := (bl12 ++ [])) (A7 J J J) (Aj sG Ad) ?_
 rw [hq0, show bytesR D = D.body ++ D.sg from if_pos hq0, ← hsg, List.append_nil]
 refine ⟨s12, rfl, by rw [hac12.num, List.length_append, hsl]; omega, fun e => by have := hac12.nilc e; have := hac12.cap; omega, fun W2 h2 => ?_⟩
 rw [B1]
 exact hac12.see h2
end Go.Proofs.YtdifpjmfabhpiaaGreat
end

section
namespace Go.Proofs.YtdifpjmfabhpiaaGreat
open Go Hw


def RowsR (L : List (List UInt8)) (v : Value) (out : List Blk) : Prop := ∃ s : Sl, v = s.v ∧ s.n = L.length ∧ ∀ W2, Lies out W2 → SeesP W2 s.p (Bt L)
theorem RowsR.loose {L : List (List UInt8)} (hr : ∀ l ∈ L, l.length = 32) : Loose (RowsR L) := fun l hl => by
  obtain ⟨v, out, ⟨q, c, h1, h2, h3⟩, h4⟩ := FreshRow.loose (Bt L) 50 L.length 32 l hl
  exact ⟨v, out, ⟨⟨some ⟨q, 0, none⟩, L.length, c⟩, h1, rfl, fun W2 h => by subst h3; exact (Acc.some (E := 50) h2 (Bk hr)).see h⟩, h4⟩
theorem check_many {D : DB} (h : 16 < D.ls.length) : ¬ D.check = 0 := fun e => by have := D.head_small e; omega
theorem endR_err {N a : Nat} {e : Int} (h : ¬ e = 0) : ¬ endR N a e = 0 := by unfold endR; rw [if_neg h]; exact h

theorem r15_Read_e (pa : Option Addr) (n c : Nat) (xs : List UInt8) (hl : xs.length = n) (hp : pa = none → n = 0) (hn : n ≤ 90000) (l1 : List UInt8) (a1 : Nat) (e1 : Int) (x2 : UInt64) (a2 : Nat) (e2 : Int) (l3 : List UInt8) (a3 : Nat) (e3 : Int) (x4 : UInt64) (a4 : Nat) (e4 : Int) (ls : List (List UInt8)) (a5 : Nat) (e5 : Int) (o : Option (List UInt8)) (a6 : Nat) (e6 : Int) (l7 : List UInt8) (a7 : Nat) (e7 : Int) (h1 : Cl xs 0 0 = (l1, a1, e1)) (h2 : A0 xs a1 e1 = (x2, a2, e2)) (h3 : Cl xs a2 e2 = (l3, a3, e3)) (h4 : A0 xs a3 e3 = (x4, a4, e4)) (h5 : As xs (min x4.toNat 17) a4 e4 = (ls, a5, e5)) (h6 : blkR xs a5 e5 = (o, a6, e6)) (h7 : takR xs 64 a6 e6 = (l7, a7, e7)) (he4 : ¬ e4 = 0) : Meets Tryz.prog 153 [.slice pa n c] [] (fun W => SeesP W pa (Aa xs)) (fun v out => ∃ B : Block, B.ok ∧ v = .tuple #[agg B.cells, i64 (readD xs).2] ∧ ∀ W2, Lies out W2 → BlockIs W2 B (readD xs).1) := by
 intro W hW
 have hrp : readP xs = ((⟨l1, x2, l3, ls, o.getD [], l7 ++ (List.replicate 64 0).drop l7.length⟩ : DB), a7, e7) := by simp only [readP, h1, h2, h3, h4, h5, h6, h7]
 have hd1 := Ci h1 hl (Nat.zero_le _)
 have hd2 := Bc h2 hl hd1.1
 have hd3 := Ci h3 hl hd2
 have hd4 := Bc h4 hl hd3.1
 have hd5 := digsR_at (e := e4) hl hd4 (min x4.toNat 17)
 rw [h5] at hd5
 have hd6 := blkE_le h6 hl hd5.1
 have hd7 := takE_le h7 hl hd6.1
 have hs64 : (l7 ++ Block.zero.fSig.drop l7.length).length = 64 := by rcases hd7.2 with h | h <;> simp [h, Block.zero]
 have hlen7 : l7.length ≤ 64 := by rcases hd7.2 with h | h <;> simp [h]
 have ok1 : ({ Block.zero with fWriter := l1 } : Block).ok := ⟨hd1.2, rfl, rfl⟩
 have ok2 : ({ Block.zero with fWriter := l1, fSeq := x2 } : Block).ok := ⟨hd1.2, rfl, rfl⟩
 have okL : ∀ s, ({ Block.zero with fWriter := l1, fSeq := x2, fPrev := l3, fLinks := s } : Block).ok := fun s => ⟨hd1.2, hd3.2, rfl⟩
 have okD : ∀ s d, ({ Block.zero with fWriter := l1, fSeq := x2, fPrev := l3, fLinks := s, fData := d } : Block).ok := fun s d => ⟨hd1.2, hd3.2, rfl⟩
 have okX : ∀ s2 s3, ({ Block.zero with fWriter := l1, fSeq := x2, fPrev := l3, fLinks := s2, fData := s3, fSig := l7 ++ Block.zero.fSig.drop l7.length } : Block).ok := fun s2 s3 => ⟨hd1.2, hd3.2, hs64⟩
 have hbad : ¬ (endR xs.length a7 e7 = 0 ∧ ((⟨l1, x2, l3, ls, o.getD [], l7 ++ (List.replicate 64 0).drop l7.length⟩ : DB)).check = 0) := by
  have g5 : e5 = e4 := by have := digsR_err (xs := xs) (a := a4) he4 (min x4.toNat 17); rwa [h5] at this
  have g6 : e6 = e5 := by have := blkR_err (xs := xs) (a := a5) (e := e5) (by rw [g5]; exact he4); rwa [h6] at this
  have g7 : e7 = e6 := by have := takR_err (xs := xs) (m := 64) (a := a6) (e := e6) (by rw [g6, g5]; exact he4); rwa [h7] at this
  exact fun h => endR_err (by rw [g7, g6, g5]; exact he4) h.1
 refine Ak Tryz.func153 J 62 Tryz.ntmps153 J (G2 ?_)
 refine .alloc (cs := Block.zero.cells) J Block.zr J ?_
 intro n2 hn2 hf2
 refine G6 ?_
 refine .call4 J J J J J Body135 (r1_Read pa n c xs hl hp hn) (fun w h => Ao h J hW) ?_
 rintro v9 out9 ⟨n9, q9, cp9, rfl, hcp9, rfl⟩
 refine .nd (fun hnd => ?_)
 have hne : q9 ≠ n9 := by intro e; simp [R1B, e] at hnd
 clear hnd
 refine G5 ?_
 refine .alloc (cs := Block.zero.cells) J Block.zr J ?_
 intro n5 hn5 hf5
 refine G5 ?_
 refine .callL (L := [R1B n9 q9 (0) n cp9 (0) (0)]) J J J J J Body215 (r1_DigestE n9 q9 0 n cp9 0 0 xs hl (Nat.zero_le _) hcp9 oM (fun _ => rfl) l1 a1 e1 h1) (Ab rM Ad) (Au J) (fun w h => ⟨Af h Z1, Ah h Z2, hne⟩) ?_
 rintro v11 out11 ⟨o11, ho11, rfl, rfl⟩
 refine G1 ?_
 refine .storeN (Aa _) J J J J J zE Sz75 (by simp [hd1.2]) Z1 (by rw [Block.length (by exact Block.zero_ok)]; simp [hd1.2]) (Block.upd_fWriter (by exact Block.zero_ok) _ (by simp [hd1.2])) zV ?_
 refine G5 ?_
 refine .callL (L := [R1B n9 q9 (o11) n cp9 (a1) (e1)]) J J J J J Body138 (B4 n9 q9 o11 n cp9 a1 e1 xs hl hd1.1 hcp9 oM ho11 x2 a2 e2 h2) (Ab rM Ad) (Au J) (fun w h => ⟨Af h Z0, Ah h Z2, hne⟩) ?_
 rintro v14 out14 ⟨o14, ho14, rfl, rfl⟩
 refine G7 ?_
 refine .callL (L := [R1B n9 q9 (o14) n cp9 (a2) (e2)]) J J J J J Body215 (r1_DigestE n9 q9 o14 n cp9 a2 e2 xs hl hd2 hcp9 oM ho14 l3 a3 e3 h3) (Ab rM Ad) (Au J) (fun w h => ⟨Af h Z0, Ah h Z2, hne⟩) ?_
 rintro v17 out17 ⟨o17, ho17, rfl, rfl⟩
 refine G1 ?_
 refine .storeN (Aa _) J J J J J zE Sz50 (by simp [hd3.2]) Z1 (by rw [Block.length zA]; simp [hd3.2]) (Block.upd_fPrev zA _ (by simp [hd3.2])) zV ?_
 refine G5 ?_
 refine .callL (L := [R1B n9 q9 (o17) n cp9 (a3) (e3)]) J J J J J Body138 (B4 n9 q9 o17 n cp9 a3 e3 xs hl hd3.1 hcp9 oM ho17 x4 a4 e4 h4) (Ab rM Ad) (Au J) (fun w h => ⟨Af h Z0, Ah h Z2, hne⟩) ?_
 rintro v20 out20 ⟨o20, ho20, rfl, rfl⟩
 refine G10 ?_
 refine .nei J J J J (show (!decide _) = true from congrArg not (decide_eq_false (he4))) (G6 ?_)
 refine .cond_t J (rfl) (G2 ?_)
 refine .build (cs := Block.zero.cells) J J J (fun w => by kernel_rfl) ?_
 refine G7 ?_
 refine Ai (out := []) (Aw J J J Y79.h J Sz79 Z3 (by exact Block.length (by exact Block.zero_ok))) Ad ?_
 exact fin_bad (by rw [hrp]; exact hbad)

theorem r15_Read_m (pa : Option Addr) (n c : Nat) (xs : List UInt8) (hl : xs.length = n) (hp : pa = none → n = 0) (hn : n ≤ 90000) (l1 : List UInt8) (a1 : Nat) (e1 : Int) (x2 : UInt64) (a2 : Nat) (e2 : Int) (l3 : List UInt8) (a3 : Nat) (e3 : Int) (x4 : UInt64) (a4 : Nat) (e4 : Int) (ls : List (List UInt8)) (a5 : Nat) (e5 : Int) (o : Option (List UInt8)) (a6 : Nat) (e6 : Int) (l7 : List UInt8) (a7 : Nat) (e7 : Int) (h1 : Cl xs 0 0 = (l1, a1, e1)) (h2 : A0 xs a1 e1 = (x2, a2, e2)) (h3 : Cl xs a2 e2 = (l3, a3, e3)) (h4 : A0 xs a3 e3 = (x4, a4, e4)) (h5 : As xs (min x4.toNat 17) a4 e4 = (ls, a5, e5)) (h6 : blkR xs a5 e5 = (o, a6, e6)) (h7 : takR xs 64 a6 e6 = (l7, a7, e7)) (he4 : e4 = 0) (hm : 16 < x4.toNat) : Meets Tryz.prog 153 [.slice pa n c] [] (fun W => SeesP W pa (Aa xs)) (fun v out => ∃ B : Block, B.ok ∧ v = .tuple #[agg B.cells, i64 (readD xs).2] ∧ ∀ W2, Lies out W2 → BlockIs W2 B (readD xs).1) := by
 intro W hW
 subst he4
 have hrp : readP xs = ((⟨l1, x2, l3, ls, o.getD [], l7 ++ (List.replicate 64 0).drop l7.length⟩ : DB), a7, e7) := by simp only [readP, h1, h2, h3, h4, h5, h6, h7]
 have hd1 := Ci h1 hl (Nat.zero_le _)
 have hd2 := Bc h2 hl hd1.1
 have hd3 := Ci h3 hl hd2
 have hd4 := Bc h4 hl hd3.1
 have hd5 := digsR_at (e := 0) hl hd4 (min x4.toNat 17)
 rw [h5] at hd5
 have hd6 := blkE_le h6 hl hd5.1
 have hd7 := takE_le h7 hl hd6.1
 have hs64 : (l7 ++ Block.zero.fSig.drop l7.length).length = 64 := by rcases hd7.2 with h | h <;> simp [h, Block.zero]
 have hlen7 : l7.length ≤ 64 := by rcases hd7.2 with h | h <;> simp [h]
 have ok1 : ({ Block.zero with fWriter := l1 } : Block).ok := ⟨hd1.2, rfl, rfl⟩
 have ok2 : ({ Block.zero with fWriter := l1, fSeq := x2 } : Block).ok := ⟨hd1.2, rfl, rfl⟩
 have okL : ∀ s, ({ Block.zero with fWriter := l1, fSeq := x2, fPrev := l3, fLinks := s } : Block).ok := fun s => ⟨hd1.2, hd3.2, rfl⟩
 have okD : ∀ s d, ({ Block.zero with fWriter := l1, fSeq := x2, fPrev := l3, fLinks := s, fData := d } : Block).ok := fun s d => ⟨hd1.2, hd3.2, rfl⟩
 have okX : ∀ s2 s3, ({ Block.zero with fWriter := l1, fSeq := x2, fPrev := l3, fLinks := s2, fData := s3, fSig := l7 ++ Block.zero.fSig.drop l7.length } : Block).ok := fun s2 s3 => ⟨hd1.2, hd3.2, hs64⟩
 have hbad : ¬ (endR xs.length a7 e7 = 0 ∧ ((⟨l1, x2, l3, ls, o.getD [], l7 ++ (List.replicate 64 0).drop l7.length⟩ : DB)).check = 0) := fun h => check_many (by show 16 < ls.length; rw [hd5.2.2]; omega) h.2
 refine Ak Tryz.func153 J 62 Tryz.ntmps153 J (G2 ?_)
 refine .alloc (cs := Block.zero.cells) J Block.zr J ?_
 intro n2 hn2 hf2
 refine G6 ?_
 refine .call4 J J J J J Body135 (r1_Read pa n c xs hl hp hn) (fun w h => Ao h J hW) ?_
 rintro v9 out9 ⟨n9, q9, cp9, rfl, hcp9, rfl⟩
 refine .nd (fun hnd => ?_)
 have hne : q9 ≠ n9 := by intro e; simp [R1B, e] at hnd
 clear hnd
 refine G5 ?_
 refine .alloc (cs := Block.zero.cells) J Block.zr J ?_
 intro n5 hn5 hf5
 refine G5 ?_
 refine .callL (L := [R1B n9 q9 (0) n cp9 (0) (0)]) J J J J J Body215 (r1_DigestE n9 q9 0 n cp9 0 0 xs hl (Nat.zero_le _) hcp9 oM (fun _ => rfl) l1 a1 e1 h1) (Ab rM Ad) (Au J) (fun w h => ⟨Af h Z1, Ah h Z2, hne⟩) ?_
 rintro v11 out11 ⟨o11, ho11, rfl, rfl⟩
 refine G1 ?_
 refine .storeN (Aa _) J J J J J zE Sz75 (by simp [hd1.2]) Z1 (by rw [Block.length (by exact Block.zero_ok)]; simp [hd1.2]) (Block.upd_fWriter (by exact Block.zero_ok) _ (by simp [hd1.2])) zV ?_
 refine G5 ?_
 refine .callL (L := [R1B n9 q9 (o11) n cp9 (a1) (e1)]) J J J J J Body138 (B4 n9 q9 o11 n cp9 a1 e1 xs hl hd1.1 hcp9 oM ho11 x2 a2 e2 h2) (Ab rM Ad) (Au J) (fun w h => ⟨Af h Z0, Ah h Z2, hne⟩) ?_
 rintro v14 out14 ⟨o14, ho14, rfl, rfl⟩
 refine G7 ?_
 refine .callL (L := [R1B n9 q9 (o14) n cp9 (a2) (e2)]) J J J J J Body215 (r1_DigestE n9 q9 o14 n cp9 a2 e2 xs hl hd2 hcp9 oM ho14 l3 a3 e3 h3) (Ab rM Ad) (Au J) (fun w h => ⟨Af h Z0, Ah h Z2, hne⟩) ?_
 rintro v17 out17 ⟨o17, ho17, rfl, rfl⟩
 refine G1 ?_
 refine .storeN (Aa _) J J J J J zE Sz50 (by simp [hd3.2]) Z1 (by rw [Block.length zA]; simp [hd3.2]) (Block.upd_fPrev zA _ (by simp [hd3.2])) zV ?_
 refine G5 ?_
 refine .callL (L := [R1B n9 q9 (o17) n cp9 (a3) (e3)]) J J J J J Body138 (B4 n9 q9 o17 n cp9 a3 e3 xs hl hd3.1 hcp9 oM ho17 x4 a4 0 h4) (Ab rM Ad) (Au J) (fun w h => ⟨Af h Z0, Ah h Z2, hne⟩) ?_
 rintro v20 out20 ⟨o20, ho20, rfl, rfl⟩
 refine G10 ?_
 refine .nei J J J J (show (!decide _) = false from congrArg not (decide_eq_true (rfl))) (G2 ?_)
 refine .gtr J J J J (decide_eq_true oM) (G3 ?_)
 refine .cond_t J (rfl) (G2 ?_)
 refine .build (cs := Block.zero.cells) J J J (fun w => by kernel_rfl) ?_
 refine G7 ?_
 refine Ai (out := []) (Aw J J J Y79.h J Sz79 Z3 (by exact Block.length (by exact Block.zero_ok))) Ad ?_
 exact fin_bad (by rw [hrp]; exact hbad)

theorem r15_Read_k (pa : Option Addr) (n c : Nat) (xs : List UInt8) (hl : xs.length = n) (hp : pa = none → n = 0) (hn : n ≤ 90000) (l1 : List UInt8) (a1 : Nat) (e1 : Int) (x2 : UInt64) (a2 : Nat) (e2 : Int) (l3 : List UInt8) (a3 : Nat) (e3 : Int) (x4 : UInt64) (a4 : Nat) (e4 : Int) (ls : List (List UInt8)) (a5 : Nat) (e5 : Int) (o : Option (List UInt8)) (a6 : Nat) (e6 : Int) (l7 : List UInt8) (a7 : Nat) (e7 : Int) (h1 : Cl xs 0 0 = (l1, a1, e1)) (h2 : A0 xs a1 e1 = (x2, a2, e2)) (h3 : Cl xs a2 e2 = (l3, a3, e3)) (h4 : A0 xs a3 e3 = (x4, a4, e4)) (h5 : As xs (min x4.toNat 17) a4 e4 = (ls, a5, e5)) (h6 : blkR xs a5 e5 = (o, a6, e6)) (h7 : takR xs 64 a6 e6 = (l7, a7, e7)) (he4 : e4 = 0) (hm : x4.toNat ≤ 16) : Meets Tryz.prog 153 [.slice pa n c] [] (fun W => SeesP W pa (Aa xs)) (fun v out => ∃ B : Block, B.ok ∧ v = .tuple #[agg B.cells, i64 (readD xs).2] ∧ ∀ W2, Lies out W2 → BlockIs W2 B (readD xs).1) := by
 intro W hW
 subst he4
 have hrp : readP xs = ((⟨l1, x2, l3, ls, o.getD [], l7 ++ (List.replicate 64 0).drop l7.length⟩ : DB), a7, e7) := by simp only [readP, h1, h2, h3, h4, h5, h6, h7]
 have hd1 := Ci h1 hl (Nat.zero_le _)
 have hd2 := Bc h2 hl hd1.1
 have hd3 := Ci h3 hl hd2
 have hd4 := Bc h4 hl hd3.1
 have hd5 := digsR_at (e := 0) hl hd4 (min x4.toNat 17)
 rw [h5] at hd5
 have hd6 := blkE_le h6 hl hd5.1
 have hd7 := takE_le h7 hl hd6.1
 have hs64 : (l7 ++ Block.zero.fSig.drop l7.length).length = 64 := by rcases hd7.2 with h | h <;> simp [h, Block.zero]
 have hlen7 : l7.length ≤ 64 := by rcases hd7.2 with h | h <;> simp [h]
 have ok1 : ({ Block.zero with fWriter := l1 } : Block).ok := ⟨hd1.2, rfl, rfl⟩
 have ok2 : ({ Block.zero with fWriter := l1, fSeq := x2 } : Block).ok := ⟨hd1.2, rfl, rfl⟩
 have okL : ∀ s, ({ Block.zero with fWriter := l1, fSeq := x2, fPrev := l3, fLinks := s } : Block).ok := fun s => ⟨hd1.2, hd3.2, rfl⟩
 have okD : ∀ s d, ({ Block.zero with fWriter := l1, fSeq := x2, fPrev := l3, fLinks := s, fData := d } : Block).ok := fun s d => ⟨hd1.2, hd3.2, rfl⟩
 have okX : ∀ s2 s3, ({ Block.zero with fWriter := l1, fSeq := x2, fPrev := l3, fLinks := s2, fData := s3, fSig := l7 ++ Block.zero.fSig.drop l7.length } : Block).ok := fun s2 s3 => ⟨hd1.2, hd3.2, hs64⟩
 refine Ak Tryz.func153 J 62 Tryz.ntmps153 J (G2 ?_)
 refine .alloc (cs := Block.zero.cells) J Block.zr J ?_
 intro n2 hn2 hf2
 refine G6 ?_
 refine .call4 J J J J J Body135 (r1_Read pa n c xs hl hp hn) (fun w h => Ao h J hW) ?_
 rintro v9 out9 ⟨n9, q9, cp9, rfl, hcp9, rfl⟩
 refine .nd (fun hnd => ?_)
 have hne : q9 ≠ n9 := by intro e; simp [R1B, e] at hnd
 clear hnd
 refine G5 ?_
 refine .alloc (cs := Block.zero.cells) J Block.zr J ?_
 intro n5 hn5 hf5
 refine G5 ?_
 refine .callL (L := [R1B n9 q9 (0) n cp9 (0) (0)]) J J J J J Body215 (r1_DigestE n9 q9 0 n cp9 0 0 xs hl (Nat.zero_le _) hcp9 oM (fun _ => rfl) l1 a1 e1 h1) (Ab rM Ad) (Au J) (fun w h => ⟨Af h Z1, Ah h Z2, hne⟩) ?_
 rintro v11 out11 ⟨o11, ho11, rfl, rfl⟩
 refine G1 ?_
 refine .storeN (Aa _) J J J J J zE Sz75 (by simp [hd1.2]) Z1 (by rw [Block.length (by exact Block.zero_ok)]; simp [hd1.2]) (Block.upd_fWriter (by exact Block.zero_ok) _ (by simp [hd1.2])) zV ?_
 refine G5 ?_
 refine .callL (L := [R1B n9 q9 (o11) n cp9 (a1) (e1)]) J J J J J Body138 (B4 n9 q9 o11 n cp9 a1 e1 xs hl hd1.1 hcp9 oM ho11 x2 a2 e2 h2) (Ab rM Ad) (Au J) (fun w h => ⟨Af h Z0, Ah h Z2, hne⟩) ?_
 rintro v14 out14 ⟨o14, ho14, rfl, rfl⟩
 refine G7 ?_
 refine .callL (L := [R1B n9 q9 (o14) n cp9 (a2) (e2)]) J J J J J Body215 (r1_DigestE n9 q9 o14 n cp9 a2 e2 xs hl hd2 hcp9 oM ho14 l3 a3 e3 h3) (Ab rM Ad) (Au J) (fun w h => ⟨Af h Z0, Ah h Z2, hne⟩) ?_
 rintro v17 out17 ⟨o17, ho17, rfl, rfl⟩
 refine G1 ?_
 refine .storeN (Aa _) J J J J J zE Sz50 (by simp [hd3.2]) Z1 (by rw [Block.length zA]; simp [hd3.2]) (Block.upd_fPrev zA _ (by simp [hd3.2])) zV ?_
 refine G5 ?_
 refine .callL (L := [R1B n9 q9 (o17) n cp9 (a3) (e3)]) J J J J J Body138 (B4 n9 q9 o17 n cp9 a3 e3 xs hl hd3.1 hcp9 oM ho17 x4 a4 0 h4) (Ab rM Ad) (Au J) (fun w h => ⟨Af h Z0, Ah h Z2, hne⟩) ?_
 rintro v20 out20 ⟨o20, ho20, rfl, rfl⟩
 refine G10 ?_
 refine .nei J J J J (show (!decide _) = false from congrArg not (decide_eq_true (rfl))) (G2 ?_)
 refine .gtr J J J J (decide_eq_false oM) (G3 ?_)
 refine .cond_f J (rfl) (G9 ?_)
 refine .loop (ι := Nat × Nat × Sl × List Blk) (fun p => ⟨[(2, ptr n2 0), (4, ptr n9 0), (5, ptr n5 0), (6, u64 x4), (7, i64 (p.1 : Int))], (R1B n9 q9 p.2.1 n cp9 (As xs p.1 a4 0).2.1 (As xs p.1 a4 0).2.2 :: (⟨q9, Aa xs, 5, cp9 * 1⟩ :: (⟨n5, ({ Block.zero with fWriter := l1, fSeq := x2, fPrev := l3, fLinks := p.2.2.1 } : Block).cells, 79, 131⟩ :: (⟨n2, Block.zero.cells, 79, 131⟩ :: (p.2.2.2 ++ [])))))⟩) (fun p => p.1 ≤ x4.toNat ∧ At1 cp9 (As xs p.1 a4 0).2.1 p.2.1 ∧ Acc p.2.2.1 p.2.2.2 (Bt (As xs p.1 a4 0).1) 50 p.1 32) (fun p => x4.toNat - p.1) ((0, o20, Sl.nil, [])) ?_ ?_ ?_
 · exact ⟨Nat.zero_le _, ho20, Acc.none⟩
 · exact Ae (wk1 rfl (wk1 rfl (wk1 rfl (wk1 rfl (wk1 rfl wk0))))) (Ab rM (Ab rM (Ab rM (Ab rM (Cd Ad)))))
 rintro p ⟨hp1, hop, hac⟩
 have hD := digsR_at (e := 0) hl hd4 p.1
 obtain ⟨l8, r8, hd8⟩ : ∃ l r, Cl xs (As xs p.1 a4 0).2.1 (As xs p.1 a4 0).2.2 = (l, r) := ⟨_, _, rfl⟩
 obtain ⟨a8, e8⟩ := r8
 have hdl := Ci hd8 hl hD.1
 have hs8 := digsR_succ hd8
 refine G5 ?_
 refine .conv J J J Y48.h Y3.h (cv_u64_i64 oM) (G3 ?_)
 refine .condP J (fun hc1 => ?_) (fun hc1 => ?_)
 ·
  have hp3 : p.1 < x4.toNat := by omega
  refine G4 ?_
  refine .drawK (sp_v (sp_v (sp_k (sp_v (sp_x sp_n))))) J [(0, 0), (0, 1), (0, 2), (4, 3), (2, 4), (4, 5), (0, 6)] [(4, 7)] Be zK zK (G1 ?_)
  refine .kload1 J J J Y51.h J Z0 (by exact Block.get_fLinks (by exact okL _)) ?_
  refine G1 ?_
  refine .callL (L := [R1B n9 q9 p.2.1 n cp9 (As xs p.1 a4 0).2.1 (As xs p.1 a4 0).2.2]) J J J J J Body215 (r1_DigestE n9 q9 p.2.1 n cp9 (As xs p.1 a4 0).2.1 (As xs p.1 a4 0).2.2 xs hl hD.1 hcp9 oM hop l8 a8 e8 hd8) (Ab rM Ad) (Au J) (fun w h => ⟨Af h Z0, Ah h Z1, hne⟩) ?_
  rintro v40 out40 ⟨o40, ho40, rfl, rfl⟩
  refine .mkRow2 (z := agg (Aa (List.replicate 32 0))) [agg (Aa l8)] (Aa l8) J J Y51.h Sz50 Zr50 J J (by intro v hv; rw [List.mem_singleton.1 hv]; simp [Value.cells, hdl.2]) dE (by simp [Value.cells]) ?_
  intro q41
  refine .appendAcc (z := agg (Aa (List.replicate 32 0))) (by' := 32) (Aa l8) J J J J J Y51.h Y51.h Sz50 Zr50 (by unfold By; kernel_rfl) J hac sG (fun w h => SeesP.of (Ah h Z0)) (fun e => by cases e) (Ay _) oM oM (by simp [Aa, hdl.2]) ?_
  intro s42 bl42 hac42
  refine G2 ?_
  refine .s1 J J J J J Sz51 Z0 (by rw [Block.length (by exact okL _)]; decide) (by exact Block.set_fLinks (by exact okL _) _) zU ?_
  refine G9 ?_
  refine ⟨(p.1 + 1, o40, s42, bl42), ⟨by simp only []; omega, by simp only [hs8]; exact ho40, ?_⟩, by simp only []; omega, Ae (wk1 J (wk1 J (wk1 J (wk1 J (wk1 (by rw [Int.natCast_add]; rfl) wk0))))) (Cg rM (by simp only [hs8]) J (Ab rM (Ab rM (Ab rM (Aj sG Ad)))))⟩
  simp only [hs8]
  rw [flatB_append]
  simpa [Bt] using hac42
 have hp3 : p.1 = min x4.toNat 17 := by omega
 rw [hp3, h5] at hac hop
 rw [hp3, h5]
 have hlp : ls.length = min x4.toNat 17 := hd5.2.2
 refine G8 ?_
 refine .callL (L := [R1B n9 q9 p.2.1 n cp9 a5 e5]) J J J J J Body137 (r1_BlockE n9 q9 p.2.1 n cp9 a5 e5 xs hl hd5.1 hcp9 oM hop o a6 e6 h6) (Ab rM Ad) (Au J) (fun w h => ⟨Af h Z0, Ah h Z1, hne⟩) ?_
 rintro v45 out45 ⟨s45, bl45, o45, ho45, rfl, hac45, rfl⟩
 simp only [List.append_assoc, List.cons_append, List.nil_append]
 refine G1 ?_
 refine .s1 J J J J J Sz58 mR (by rw [Block.length (by exact okL _)]; decide) (by exact Block.set_fData (by exact okL _) _) uU ?_
 refine G3 ?_
 refine .draw [(0, 0), (0, 1), (0, 2), (4, 3), (4, 4)] Be zK (G3 ?_)
 refine .callL (L := [R1B n9 q9 o45 n cp9 a6 e6]) J J J J J Body216 (r1_TakeE n9 q9 o45 n cp9 a6 e6 64 dE dE xs hl hd6.1 hcp9 oM ho45 l7 a7 e7 h7) (Ab (by repeat (first | exact Aq | apply Bm)) Ad) (Au J) (fun w h => ⟨Af h mR, Ah h mR, hne⟩) ?_
 rintro v50 out50 ⟨s50, bl50, o50, ho50, rfl, hac50, rfl⟩
 simp only [List.append_assoc, List.cons_append, List.nil_append]
 refine .copyP (Aa l7) l7.length J J J J J Y58.h Sz5 (fun w h => hac50.see (Lies.of h (by repeat (exact Ar)))) (fun e => hac50.nil e) (by simp [Aa, hac50.num]) (by rw [hac50.num]; omega) (List.take_of_length_le (by simp [Aa])) (Ay _) mR (by rw [Block.length (okD _ _)]; show 67 + l7.length ≤ 131; omega) (upd_sig (okD _ _) hd7.2) uU ?_
 refine G6 ?_
 refine .cV J J J J Body140 (r1_End n9 q9 o50 n cp9 a7 e7 hd7.1 oM) (fun w h => Af h mR) ?_
 refine two (fun r hr k => Tr.nei J J J J hr k) (fun hs15_20 => ?_) (fun hs15_20 => ?_)
 ·
  have hs15_2 := nd_t hs15_20
  refine G7 ?_
  refine .cond_t J J (G2 ?_)
  refine .build (cs := Block.zero.cells) J J J (fun w => by kernel_rfl) ?_
  refine G7 ?_
  refine Ai (out := (p.2.2.2 ++ (bl45 ++ []))) (Aw J J J Y79.h J Sz79 mR (by exact Block.length (by exact Block.zero_ok))) (Aj sG (Aj sG Ad)) ?_
  first
   | exact fin_bad (by rw [hrp, hl]; exact fun h => hs15_2 h.1)
   | exact fin_bad (by rw [hrp, ← bcheck_D (B := ({ Block.zero with fWriter := l1, fSeq := x2, fPrev := l3, fLinks := p.2.2.1, fData := s45, fSig := l7 ++ Block.zero.fSig.drop l7.length } : Block)) rfl rfl (by rw [hac.num]; exact hlp.symm) hac45.num]; exact fun h => hc2 h.2)
   | exact fin_ok (by rw [hrp, hl, ← bcheck_D (B := ({ Block.zero with fWriter := l1, fSeq := x2, fPrev := l3, fLinks := p.2.2.1, fData := s45, fSig := l7 ++ Block.zero.fSig.drop l7.length } : Block)) rfl rfl (by rw [hac.num]; exact hlp.symm) hac45.num]; exact ⟨hs15_2, hc2⟩) (okX _ _) (fun W2 h2 => by
     rw [hrp]
     exact ⟨okX _ _, rfl, rfl, rfl, Ch hac (h2.sub Ar) hd5.2.1 hlp oM, acc_bytes hac45 (h2.sub (Bn Ar)) rfl (by have := hd6.2; omega), rfl⟩)
 have hs15_2 := nd_f hs15_20
 refine G1 ?_
 refine .lA J J J Y79.h J Sz79 mR (Block.length (by exact okX _ _)) ?_
 refine .cV J J J J Body154 (r15_check ({ Block.zero with fWriter := l1, fSeq := x2, fPrev := l3, fLinks := p.2.2.1, fData := s45, fSig := l7 ++ Block.zero.fSig.drop l7.length } : Block) (okX _ _) ls) (fun w h => Ch hac (Lies.of h (by repeat (first | exact Ar | refine B0 ?_ | refine Bn ?_))) hd5.2.1 hlp oM) ?_
 refine G4 ?_
 refine .condNP J (fun hc2 => ?_) (fun hc2 => ?_)
 ·
  refine G2 ?_
  refine .build (cs := Block.zero.cells) J J J (fun w => by kernel_rfl) ?_
  refine G7 ?_
  refine Ai (out := (p.2.2.2 ++ (bl45 ++ []))) (Aw J J J Y79.h J Sz79 mR (by exact Block.length (by exact Block.zero_ok))) (Aj sG (Aj sG Ad)) ?_
  first
   | exact fin_bad (by rw [hrp, hl]; exact fun h => hs15_2 h.1)
   | exact fin_bad (by rw [hrp, ← bcheck_D (B := ({ Block.zero with fWriter := l1, fSeq := x2, fPrev := l3, fLinks := p.2.2.1, fData := s45, fSig := l7 ++ Block.zero.fSig.drop l7.length } : Block)) rfl rfl (by rw [hac.num]; exact hlp.symm) hac45.num]; exact fun h => hc2 h.2)
   | exact fin_ok (by rw [hrp, hl, ← bcheck_D (B := ({ Block.zero with fWriter := l1, fSeq := x2, fPrev := l3, fLinks := p.2.2.1, fData := s45, fSig := l7 ++ Block.zero.fSig.drop l7.length } : Block)) rfl rfl (by rw [hac.num]; exact hlp.symm) hac45.num]; exact ⟨hs15_2, hc2⟩) (okX _ _) (fun W2 h2 => by
     rw [hrp]
     exact ⟨okX _ _, rfl, rfl, rfl, Ch hac (h2.sub Ar) hd5.2.1 hlp oM, acc_bytes hac45 (h2.sub (Bn Ar)) rfl (by have := hd6.2; omega), rfl⟩)
 refine G4 ?_
 refine .lA J J J Y79.h J Sz79 mR (Block.length (by exact okX _ _)) ?_
 refine .sA J J J J (Block.isCell (by exact okX _ _)) Sz79 (Block.length (by exact okX _ _)) mR (Block.length (by exact Block.zero_ok)) uU ?_
 refine G5 ?_
 refine Ai (out := (p.2.2.2 ++ (bl45 ++ []))) (Aw J J J Y79.h J Sz79 mR (by exact Block.length (by exact okX _ _))) (Aj sG (Aj sG Ad)) ?_
 first
  | exact fin_bad (by rw [hrp, hl]; exact fun h => hs15_2 h.1)
  | exact fin_bad (by rw [hrp, ← bcheck_D (B := ({ Block.zero with fWriter := l1, fSeq := x2, fPrev := l3, fLinks := p.2.2.1, fData := s45, fSig := l7 ++ Block.zero.fSig.drop l7.length } : Block)) rfl rfl (by rw [hac.num]; exact hlp.symm) hac45.num]; exact fun h => hc2 h.2)
  | exact fin_ok (by rw [hrp, hl, ← bcheck_D (B := ({ Block.zero with fWriter := l1, fSeq := x2, fPrev := l3, fLinks := p.2.2.1, fData := s45, fSig := l7 ++ Block.zero.fSig.drop l7.length } : Block)) rfl rfl (by rw [hac.num]; exact hlp.symm) hac45.num]; exact ⟨hs15_2, hc2⟩) (okX _ _) (fun W2 h2 => by
    rw [hrp]
    exact ⟨okX _ _, rfl, rfl, rfl, Ch hac (h2.sub Ar) hd5.2.1 hlp oM, acc_bytes hac45 (h2.sub (Bn Ar)) rfl (by have := hd6.2; omega), rfl⟩)
theorem r15_Read (p : Option Addr) (n c : Nat) (xs : List UInt8) (hl : xs.length = n) (hp : p = none → n = 0) (hn : n ≤ 90000) : Meets Tryz.prog 153 [.slice p n c] [] (fun W => SeesP W p (Aa xs)) (fun v out => ∃ B : Block, B.ok ∧ v = .tuple #[agg B.cells, i64 (readD xs).2] ∧ ∀ W2, Lies out W2 → BlockIs W2 B (readD xs).1) := by
  obtain ⟨l1, r1, h1⟩ : ∃ l r, Cl xs 0 0 = (l, r) := ⟨_, _, rfl⟩
  obtain ⟨a1, e1⟩ := r1
  obtain ⟨x2, r2, h2⟩ : ∃ l r, A0 xs a1 e1 = (l, r) := ⟨_, _, rfl⟩
  obtain ⟨a2, e2⟩ := r2
  obtain ⟨l3, r3, h3⟩ : ∃ l r, Cl xs a2 e2 = (l, r) := ⟨_, _, rfl⟩
  obtain ⟨a3, e3⟩ := r3
  obtain ⟨x4, r4, h4⟩ : ∃ l r, A0 xs a3 e3 = (l, r) := ⟨_, _, rfl⟩
  obtain ⟨a4, e4⟩ := r4
  obtain ⟨ls, r5, h5⟩ : ∃ l r, As xs (min x4.toNat 17) a4 e4 = (l, r) := ⟨_, _, rfl⟩
  obtain ⟨a5, e5⟩ := r5
  obtain ⟨o, r6, h6⟩ : ∃ l r, blkR xs a5 e5 = (l, r) := ⟨_, _, rfl⟩
  obtain ⟨a6, e6⟩ := r6
  obtain ⟨l7, r7, h7⟩ : ∃ l r, takR xs 64 a6 e6 = (l, r) := ⟨_, _, rfl⟩
  obtain ⟨a7, e7⟩ := r7
  by_cases he : e4 = 0
  · rcases Nat.lt_or_ge 16 x4.toNat with h | h
    · exact r15_Read_m p n c xs hl hp hn l1 a1 e1 x2 a2 e2 l3 a3 e3 x4 a4 e4 ls a5 e5 o a6 e6 l7 a7 e7 h1 h2 h3 h4 h5 h6 h7 he h
    · exact r15_Read_k p n c xs hl hp hn l1 a1 e1 x2 a2 e2 l3 a3 e3 x4 a4 e4 ls a5 e5 o a6 e6 l7 a7 e7 h1 h2 h3 h4 h5 h6 h7 he h
  · exact r15_Read_e p n c xs hl hp hn l1 a1 e1 x2 a2 e2 l3 a3 e3 x4 a4 e4 ls a5 e5 o a6 e6 l7 a7 e7 h1 h2 h3 h4 h5 h6 h7 he

end Go.Proofs.YtdifpjmfabhpiaaGreat
end

section
namespace Go.Proofs.YtdifpjmfabhpiaaGreat
open Go Hw

theorem cmpB_ge0 : ∀ (a : List UInt8) (n : Nat), a.length = n → 0 ≤ cmpB a (List.replicate n 0)
  | [], n, h => by
    obtain rfl : n = 0 := by simpa using h.symm
    simp [cmpB, Go.Lib.compareBytes]
  | x :: a, 0, h => by simp at h
  | x :: a, n + 1, h => by
    rw [List.replicate_succ]
    by_cases hx : x = 0
    · subst hx
      rw [cmpB_same]
      exact cmpB_ge0 a n (by simpa using h)
    · rw [cmpB_other hx]
      unfold cmpI
      have : (0 : UInt8).toNat = 0 := rfl
      split
      · omega
      · split <;> omega
theorem cmpB_lt0 : ∀ (b : List UInt8) (n : Nat), b.length = n → ¬ b = List.replicate n 0 → cmpB (List.replicate n 0) b < 0
  | [], n, h, hz => by
    obtain rfl : n = 0 := by simpa using h.symm
    exact absurd rfl hz
  | x :: b, 0, h, _ => by simp at h
  | x :: b, n + 1, h, hz => by
    rw [List.replicate_succ] at hz ⊢
    by_cases hx : x = 0
    · subst hx
      rw [cmpB_same]
      exact cmpB_lt0 b n (by simpa using h) (fun e => hz (by rw [e]))
    · rw [cmpB_other (Ne.symm hx)]
      unfold cmpI
      have h0 : (0 : UInt8).toNat = 0 := rfl
      have h1 : x.toNat ≠ 0 := fun e => hx (UInt8.toNat_inj.1 (by rw [e]; rfl))
      rw [if_pos oM]
      decide
theorem head_zero {ls : List (List UInt8)} {k : Nat} (hl : ∀ l ∈ ls, l.length = 32) (hk : k < ls.length) (h : ls.getD k [] = List.replicate 32 0) : headBad ls k = true := by
  unfold headBad
  rw [h]
  exact decide_eq_true (cmpB_ge0 _ 32 (lastH_length hl oM))
theorem head_first {ls : List (List UInt8)} (hl : ∀ l ∈ ls, l.length = 32) (hk : 0 < ls.length) (h : ¬ ls.getD 0 [] = List.replicate 32 0) : headBad ls 0 = false := by
  unfold headBad
  have e : lastH ls 0 = List.replicate 32 0 := if_pos rfl
  rw [e]
  have := cmpB_lt0 (ls.getD 0 []) 32 (Bh hl hk) h
  exact decide_eq_false oM
theorem head_next {ls : List (List UInt8)} {k : Nat} (hk : 0 < k) : headBad ls k = decide ((0 : Int) ≤ cmpB (ls.getD (k - 1) []) (ls.getD k [])) := by
  unfold headBad
  have e : lastH ls k = ls.getD (k - 1) [] := if_neg oM
  rw [e]

theorem r19_Check (C : Cut) (D : DCut) : Meets Tryz.prog 141 [agg C.cells] [] (fun W => CutIs W C D) (fun v out => v = i64 D.check ∧ out = []) := by
 intro W hW
 have hB := hW.ok
 have hcx : C.fHeads.n ≤ maxLen := hW.fHeads.max
 simp only [maxLen] at hcx
 have hcn := hW.fHeads.cap
 have hll := hW.fHeads.len
 have eH := hW.fHeight
 have eP := hW.fPrev
 refine Ak Tryz.func141 J 68 Tryz.ntmps141 J (G3 ?_)
 intro n1 hn1 hf1
 refine G5 ?_
 refine .alloc (cs := (Aa (List.replicate 32 0))) J Zr50 J ?_
 intro n3 hn3 hf3
 refine G4 ?_
 refine .draw [(0, 0), (1, 1), (0, 2), (0, 3), (0, 4), (1, 5), (0, 6), (0, 7), (0, 8), (0, 9), (1, 10), (1, 11), (0, 12), (0, 13), (1, 14), (0, 15), (0, 16), (0, 17), (0, 18), (0, 19), (1, 20), (0, 21), (0, 22), (0, 23), (0, 24), (0, 25), (1, 26), (0, 27), (0, 28), (0, 29)] Be zK (G2 ?_)
 refine two (fun r hr k => Tr.lss J J J J hr k) (fun hs2_20 => ?_) (fun hs2_20 => ?_)
 ·
  have hs2_2 := of_decide_eq_true hs2_20
  refine G29 ?_
  refine .cond_t J J (G8 ?_)
  refine ⟨_, [], Ac J J, sP, sP, ?_, rfl⟩
  exact congrArg i64 (cut_bad1 (by unfold cheadB; simp_all; try omega)).symm
 have hs2_2 := of_decide_eq_false hs2_20
 refine G3 ?_
 refine two (fun r hr k => Tr.geq J J J J hr k) (fun hs2_60 => ?_) (fun hs2_60 => ?_)
 ·
  have hs2_6 := of_decide_eq_true hs2_60
  refine G25 ?_
  refine .cond_t J J (G8 ?_)
  refine ⟨_, [], Ac J J, sP, sP, ?_, rfl⟩
  exact congrArg i64 (cut_bad1 (by unfold cheadB; simp_all; try omega)).symm
 have hs2_6 := of_decide_eq_false hs2_60
 refine G3 ?_
 refine .lN (Aa _) J J J Y50.h J Sz50 Z1 (Cut.row_fPrev zA) (Cut.rl_fPrev zA) ?_
 refine .lA J J J Y50.h J Sz50 Z0 sP ?_
 refine .eql_bytes J J J J Tryz.eqGuardType50 Y50.h Y5.h Sz5 (by (simp [hB.l_fPrev]; done)) sP J ?_
 refine G3 ?_
 refine two (fun r hr k => Tr.neb J J J J Y4 hr k) (fun hs2_160 => ?_) (fun hs2_160 => ?_)
 ·
  have hs2_16 := nd_t hs2_160
  refine G15 ?_
  refine .cond_t J J (G8 ?_)
  refine ⟨_, [], Ac J J, sP, sP, ?_, rfl⟩
  exact congrArg i64 (cut_bad1 (by unfold cheadB; simp_all; try omega)).symm
 have hs2_16 := nd_f hs2_160
 refine G5 ?_
 refine two (fun r hr k => Tr.lss J J J J hr k) (fun hs2_220 => ?_) (fun hs2_220 => ?_)
 ·
  have hs2_22 := of_decide_eq_true hs2_220
  refine G9 ?_
  refine .cond_t J J (G8 ?_)
  refine ⟨_, [], Ac J J, sP, sP, ?_, rfl⟩
  exact congrArg i64 (cut_bad1 (by unfold cheadB; simp_all; try omega)).symm
 have hs2_22 := of_decide_eq_false hs2_220
 refine G9 ?_
 refine .condP J (fun hc0 => ?_) (fun hc0 => ?_)
 ·
  refine G8 ?_
  refine ⟨_, [], Ac J J, sP, sP, ?_, rfl⟩
  exact congrArg i64 (cut_bad1 (by unfold cheadB; simp_all; try omega)).symm
 have hnb : ¬ cheadB D.dHeight D.dPrev D.dHeads.length = true := by unfold cheadB; simp_all; try omega
 refine G9 ?_
 refine .loop (ι := Nat) (fun k => ⟨[(1, ptr n1 0), (3, ptr n3 0), (4, i64 (k : Int))], [⟨n3, Aa (List.replicate 32 0), 50, 32⟩, ⟨n1, C.cells, 53, C.cells.length⟩]⟩) (fun k => k ≤ C.fHeads.n ∧ ∀ j, j < k → headBad D.dHeads j = false) (fun k => C.fHeads.n - k) (0) ?_ ?_ ?_
 · exact ⟨by omega, fun j hj => by omega⟩
 · exact Ag (wk1 rfl (wk1 rfl (wk1 rfl wk0))) (wh1 Z0 (wh1 Z1 wh0)) nD
 rintro k ⟨hk, hg⟩
 refine G10 ?_
 refine .condP J (fun hc1 => ?_) (fun hc1 => ?_)
 ·
  have hk2 : k < C.fHeads.n := by omega
  obtain ⟨b, o, hbp, hbs⟩ := hW.fHeads.see.at (by rw [Bk hW.fHeads.row]; omega)
  have hr0 : (D.dHeads.getD k []).length = 32 := Bh hW.fHeads.row oM
  have hr1 : (D.dHeads.getD (k - 1) []).length = 32 := Bh hW.fHeads.row oM
  refine G2 ?_
  refine .join (ι := Unit) (fun _u => ⟨[(1, ptr n1 0), (3, ptr n3 0), (4, i64 (k : Int))], [⟨n3, Aa (List.replicate 32 0), 50, 32⟩, ⟨n1, C.cells, 53, C.cells.length⟩]⟩) (fun _u => headBad D.dHeads k = false) ?_ ?_
  ·
   refine G2 ?_
   refine .draw [(0, 0), (1, 1), (0, 2), (0, 3), (1, 4), (1, 5), (0, 6), (0, 7), (0, 8), (0, 9), (0, 10), (0, 11), (1, 12), (0, 13), (0, 14), (0, 15), (1, 16), (0, 17), (1, 18), (0, 19), (0, 20), (1, 21), (3, 22), (0, 23), (0, 24), (0, 25)] Be zK (G3 ?_)
   refine .idxSlP 32 J J J hbp J Y51.h Sz50 k J oM (.loadEN (Aa (D.dHeads.getD (k) [])) J J J Y50.h J Sz50 sP (by rw [Aa, List.length_map]; exact Bh hW.fHeads.row (by rw [hW.fHeads.len]; omega)) (Cq hW.fHeads.row hbs (by rw [hW.fHeads.len]; omega)) ?_)
   refine .lA J J J Y50.h J Sz50 Z0 sP ?_
   refine two (fun r hr k => Tr.eql_bytes J J J J Tryz.eqGuardType50 Y50.h Y5.h Sz5 zA sP hr k) (fun hs7_60 => ?_) (fun hs7_60 => ?_)
   ·
    have hs7_6 := of_decide_eq_true hs7_60
    refine G21 ?_
    refine .cond_t J J (G12 ?_)
    refine ⟨_, [], Ac J J, sP, sP, ?_, rfl⟩
    exact congrArg i64 (cut_bad2 hnb (headsBad_at (k := k) oM (head_zero hW.fHeads.row oM zA))).symm
   have hs7_6 := of_decide_eq_false hs7_60
   refine G2 ?_
   refine two (fun r hr k => Tr.gtr J J J J hr k) (fun hs7_90 => ?_) (fun hs7_90 => ?_)
   ·
    have hs7_9 := of_decide_eq_true hs7_90
    refine G5 ?_
    refine .idxSlP 32 J J J hbp J Y51.h Sz50 (k - 1) oM oM (.loadEN (Aa (D.dHeads.getD (k - 1) [])) J J J Y50.h J Sz50 sP (by rw [Aa, List.length_map]; exact Bh hW.fHeads.row (by rw [hW.fHeads.len]; omega)) (Cq hW.fHeads.row hbs (by rw [hW.fHeads.len]; omega)) ?_)
    refine G3 ?_
    refine .idxSlP 32 J J J hbp J Y51.h Sz50 k J oM (.loadEN (Aa (D.dHeads.getD (k) [])) J J J Y50.h J Sz50 sP (by rw [Aa, List.length_map]; exact Bh hW.fHeads.row (by rw [hW.fHeads.len]; omega)) (Cq hW.fHeads.row hbs (by rw [hW.fHeads.len]; omega)) ?_)
    refine .cV J J J J Body144 (r15_cmp _ _ hr1 hr0) tV (G5 ?_)
    refine .condP J (fun hc2 => ?_) (fun hc2 => ?_)
    ·
     refine G12 ?_
     refine ⟨_, [], Ac J J, sP, sP, ?_, rfl⟩
     exact congrArg i64 (cut_bad2 hnb (headsBad_at (k := k) oM ((head_next oM).trans (decide_eq_true oM)))).symm
    refine G3 ?_
    refine ⟨(), by exact (head_next oM).trans (decide_eq_false oM), Ag (wk1 J (wk1 J (wk1 J wk0))) (wh1 Z0 (wh1 Z1 wh0)) nD⟩
   have hs7_9 := of_decide_eq_false hs7_90
   refine G18 ?_
   refine .cond_f J J (G3 ?_)
   refine ⟨(), by (obtain rfl := (show k = 0 by omega); exact head_first hW.fHeads.row oM hs7_6), Ag (wk1 J (wk1 J (wk1 J wk0))) (wh1 Z0 (wh1 Z1 wh0)) nD⟩
  intro _u hj
  have hgk := hj
  refine G6 ?_
  exact ⟨k + 1, ⟨by omega, fun j hj => by rcases Nat.lt_succ_iff_lt_or_eq.1 hj with h | rfl; exact hg j h; exact hgk⟩, by omega, Ag (wk1 rfl (wk1 rfl (wk1 (by rw [Int.natCast_add]; rfl) wk0))) (wh1 Z0 (wh1 Z1 wh0)) nD⟩
 obtain rfl : k = C.fHeads.n := by omega
 refine G12 ?_
 refine ⟨_, [], Ac J J, sP, sP, ?_, rfl⟩
 exact congrArg i64 (cut_good hnb (headsBad_not (by rw [hll]; exact hg))).symm
theorem cut_two {D : DCut} (h : ¬ D.check = 0) : D.check = 2 := by
  unfold DCut.check at h ⊢
  split
  · rfl
  · split
    · rfl
    · rename_i h1 h2; rw [if_neg h1, if_neg h2] at h; exact absurd rfl h

theorem r19_Bytes (C : Cut) (D : DCut) : Meets Tryz.prog 131 [agg C.cells] [] (fun W => CutIs W C D) (fun v out => ∃ s, v = .tuple #[s.v, i64 D.check] ∧ Hw.Acc s out (Aa (Br D)) 5 (Br D).length 1) := by
 intro W hW
 have hB := hW.ok
 have hll := hW.fHeads.len
 have hz1 := A2 C.fHeight.toNat
 have hz2 := A2 (UInt64.ofNat C.fHeads.n).toNat
 have hz3 := A2 D.dHeight.toNat
 have hz4 := A2 (UInt64.ofNat D.dHeads.length).toNat
 have hb0 := DCut.body_len (hW.fPrev ▸ hB.l_fPrev) hW.fHeads.row (Nat.zero_le _)
 refine Ak Tryz.func131 J 36 Tryz.ntmps131 J (G3 ?_)
 intro n1 hn1 hf1
 refine G8 ?_
 refine .cV J J J J Body141 (r19_Check C D) (fun w h => hW.ext h J) (G3 ?_)
 refine .condNP J (fun hc0 => ?_) (fun hc0 => ?_)
 ·
  refine G9 ?_
  refine Ai (out := []) (A7 J J J) Ad ?_
  exact ⟨Sl.nil, by rw [cut_two hc0]; rfl, by rw [show Br D = [] from if_neg hc0]; exact Acc.none⟩
 have hc : D.check = 0 := by omega
 have hsm := D.small hc
 refine G3 ?_
 refine .draw [(0, 0), (1, 1), (0, 3), (0, 4), (4, 2), (4, 5), (0, 6)] Be zK (G4 ?_)
 refine .call4 J J J J J Body132 (Cr none 0 0 [] C.fHeight J (fun _ => rfl) dE) (fun _ _ => SeesP.nil) ?_
 rintro v11 out11 ⟨q11, c11, rfl, hc11, rfl⟩
 refine .appendAcc (z := u8 0) (by' := 1) (Aa C.fPrev) J J J J J Y58.h Y58.h Sz5 Zr5 (by unfold By; kernel_rfl) J (Acc.some (cells := Aa ([] ++ Ap C.fHeight)) hc11 (by simp [Am])) sG (fun W2 W2h => SeesP.of (sees_part W2h Z1 (Cut.see_fPrev hB))) (fun e => by cases e) (Ay _) oM oM (by simp [hB.l_fPrev]) ?_
 intro s14 bl14 hac14
 refine G10 ?_
 have hn14 := hac14.num
 rw [Cf (n := C.fHeads.n) oM]
 refine .call4 J J J J J Body132 (Cr s14.p s14.n s14.c ([] ++ Ap C.fHeight ++ C.fPrev) (UInt64.ofNat C.fHeads.n) (by rw [hn14, List.length_append, hB.l_fPrev]; simp [Am]) (fun e => hac14.nil e) oM) (fun w h => by have := hac14.see (Lies.of h (by repeat (exact Ar))); rwa [← B1] at this) ?_
 rintro v20 out20 ⟨q20, c20, rfl, hc20, rfl⟩
 rw [show s14.n + szN (UInt64.ofNat C.fHeads.n).toNat = szN D.dHeight.toNat + 32 + szN (UInt64.ofNat D.dHeads.length).toNat + 0 * 32 by rw [hn14, ← hW.fHeight, hll]; omega] at hc20 ⊢
 rw [show [] ++ Ap C.fHeight ++ C.fPrev ++ Ap (UInt64.ofNat C.fHeads.n) = D.body 0 by rw [DCut.body, hW.fHeight, hW.fPrev, hll]; simp]
 refine G10 ?_
 refine .loop (ι := Nat × Sl × List Blk) (fun p => ⟨[(1, ptr n1 0), (4, p.2.1.v), (5, i64 (p.1 : Int))], (p.2.2 ++ (⟨n1, C.cells, 53, C.cells.length⟩ :: []))⟩) (fun p => p.1 ≤ C.fHeads.n ∧ Hw.Acc p.2.1 p.2.2 (Aa (D.body p.1)) 5 (szN D.dHeight.toNat + 32 + szN (UInt64.ofNat D.dHeads.length).toNat + p.1 * 32) 1) (fun p => C.fHeads.n - p.1) ((0, ⟨some ⟨q20, 0, none⟩, szN D.dHeight.toNat + 32 + szN (UInt64.ofNat D.dHeads.length).toNat + 0 * 32, c20⟩, [⟨q20, Aa (D.body 0), 5, c20 * 1⟩])) ?_ ?_ ?_
 · exact ⟨Nat.zero_le _, Acc.some hc20 (by rw [Aa, List.length_map, hb0, Nat.mul_one])⟩
 · exact Ae (wk1 rfl (wk1 rfl (wk1 rfl wk0))) (pm_one (Ab rM (Ab (by repeat (first | exact Aq | apply Bm)) Ad)))
 rintro p ⟨hp1, hap⟩
 refine G10 ?_
 refine .condP J (fun hc1 => ?_) (fun hc1 => ?_)
 ·
  have hk2 : p.1 < C.fHeads.n := by omega
  obtain ⟨b, o, hbp, hbs⟩ := hW.fHeads.see.at (by rw [Bk hW.fHeads.row]; omega)
  have hr0 : (D.dHeads.getD p.1 []).length = 32 := Bh hW.fHeads.row oM
  refine G9 ?_
  refine .idxSlP 32 J J J hbp J Y51.h Sz50 p.1 J oM (G1 ?_)
  refine .appendAcc (z := u8 0) (by' := 1) (Aa (D.dHeads.getD p.1 [])) J J J J J Y58.h Y58.h Sz5 Zr5 (by unfold By; kernel_rfl) J hap sG (fun w h => Ao h J (SeesP.of (Cq hW.fHeads.row hbs (by rw [hll]; omega)))) (fun e => by cases e) (Ay _) oM oM (by rw [Aa, List.length_map, hr0]) ?_
  intro s34 bl34 hac34
  refine G10 ?_
  refine ⟨(p.1 + 1, s34, bl34), ⟨by simp only []; omega, ?_⟩, by simp only []; omega, Ae (wk1 J (wk1 J (wk1 (by rw [Int.natCast_add]; rfl) wk0))) (Aj sG (Ab rM Ad))⟩
  rw [show (szN D.dHeight.toNat + 32 + szN (UInt64.ofNat D.dHeads.length).toNat + (p.1 + 1) * 32) = (szN D.dHeight.toNat + 32 + szN (UInt64.ofNat D.dHeads.length).toNat + p.1 * 32) + 32 by omega, DCut.body_step oM, B1]
  exact hac34
 have hpe : p.1 = C.fHeads.n := by omega
 refine G14 ?_
 refine Ai (out := (p.2.2 ++ [])) (A7 J J J) (Aj sG Ad) ?_
 refine ⟨p.2.1, by rw [hc], ?_⟩
 rw [show Br D = D.bytes from if_pos hc]
 rw [hpe, ← hll] at hap
 rw [show D.bytes.length = szN D.dHeight.toNat + 32 + szN (UInt64.ofNat D.dHeads.length).toNat + D.dHeads.length * 32 from DCut.body_len (hW.fPrev ▸ hB.l_fPrev) hW.fHeads.row (Nat.le_refl _), List.append_nil]
 exact hap
theorem cons_of' {α : Type} {l : List α} {n : Nat} (h : l.length = n + 1) : ∃ a l', l = a :: l' ∧ l'.length = n := by
  cases l with
  | nil => simp at h
  | cons a l => exact ⟨a, l, rfl, by simpa using h⟩
theorem build_cut (x : UInt64) {l : List UInt8} (h : l.length = 32) (w : World) : (Instr.build 53 #[(0, u64 x), (1, agg (Aa l))]).run Tryz.prog w = .ok (agg ({ Cut.zero with fHeight := x, fPrev := l } : Cut).cells) w := by
  iterate 32 (obtain ⟨a, l, e, h2⟩ := cons_of' h; clear h; subst e; have h := h2; clear h2)
  obtain rfl := List.eq_nil_of_length_eq_zero h
  (refine Eq.trans ?_ rfl; kernel_rfl)
theorem digs_pos {xs : List UInt8} {a k : Nat} {e : Int} (ha : a ≤ xs.length) (h : (As xs k a e).2.2 = 0) : (As xs k a e).2.1 = a + 32 * k ∧ a + 32 * k ≤ xs.length := by
  obtain ⟨ls, p, hd⟩ : ∃ ls p, As xs k a e = (ls, p) := ⟨_, _, rfl⟩
  obtain ⟨a1, e1⟩ := p
  have hat := digsR_at (xs := xs) (a := a) (N := xs.length) (e := e) rfl ha k
  rw [hd] at h hat ⊢
  simp only at h hat ⊢
  subst h
  obtain ⟨_, h2, h3⟩ := digs_bwd _ _ _ hd
  have h4 := congrArg List.length h3
  rw [List.length_append, List.length_drop, List.length_drop, flat32 hat.2.1, h2] at h4
  omega
theorem digs_more {xs : List UInt8} {a : Nat} {e : Int} (k : Nat) : ∀ m, ¬ (As xs k a e).2.2 = 0 → ¬ (As xs (k + m) a e).2.2 = 0
  | 0, h => h
  | m + 1, h => by
    have ih := digs_more k m h
    rw [← Nat.add_assoc, As]
    unfold Cl
    rw [if_pos ih]
    exact ih
theorem cutRd_many {xs : List UInt8} (h : ¬ ((cutP xs).2.2 = 0 ∧ (cutP xs).1.dHeads.length ≤ 32)) : B8 xs = (DCut.zero, 4) := by
  refine if_neg fun hg => h ⟨?_, (cutP xs).1.small hg.2⟩
  have he := hg.1
  unfold endR at he
  split at he
  · assumption
  · rename_i h1; exact absurd he h1

theorem r19_Name (C : Cut) (D : DCut) : Meets Tryz.prog 142 [agg C.cells] [] (fun W => CutIs W C D) (fun v out => v = agg (Aa (cnameD D)) ∧ out = []) := by
 intro W hW
 have hok := hW.ok
 obtain ⟨k, hk⟩ : ∃ k, Hid (kW = k) := ⟨_, ⟨rfl⟩⟩
 obtain ⟨s0, hs0⟩ : ∃ s0, Hid (xorUp 8 = s0) := ⟨_, ⟨rfl⟩⟩
 obtain ⟨G, hG⟩ : ∃ G, Hid (shaTag = G) := ⟨_, ⟨rfl⟩⟩
 obtain ⟨i0, hi0⟩ : ∃ i0, Hid (allW k s0 G = i0) := ⟨_, ⟨rfl⟩⟩
 have hk80 : k.length = 80 := by rw [← hk.out]; rfl
 have hs8 : s0.length = 8 := by rw [← hs0.out]; exact xorUp_length 8
 have hGl : G.length = 11 := by rw [← hG.out]; rfl
 have hi8 : i0.length = 8 := by rw [← hi0.out, allW_length]; exact hs8
 obtain ⟨r, hr⟩ : ∃ r, Hid (allW k i0 (D.bytes) = r) := ⟨_, ⟨rfl⟩⟩
 obtain ⟨s, hs⟩ : ∃ s, Hid (sumUp r 64 = s) := ⟨_, ⟨rfl⟩⟩
 have hsd : Hid (s.take 32 = sha256 (D.bytes)) := ⟨by rw [← hs.out, ← hr.out, ← hi0.out, ← hG.out, ← hs0.out, ← hk.out]; rfl⟩
 have hs64 : s.length = 64 := by rw [← hs.out]; exact Co r 64
 have hs32 : (s.take 32).length = 32 := by rw [List.length_take, hs64]; rfl
 refine Ak Tryz.func142 J 16 Tryz.ntmps142 J (G3 ?_)
 intro n1 hn1 hf1
 refine .alloc (cs := (Aa (List.replicate 32 0))) J Zr50 J ?_
 intro n2 hn2 hf2
 refine G5 ?_
 refine .call4 J J J J J Body131 (r19_Bytes C D) (fun w h => hW.ext h J) ?_
 rintro v7 out7 ⟨s7, rfl, hac7⟩
 refine G11 ?_
 refine two (fun r hr k => Tr.nei J J J J hr k) (fun hs2_10 => ?_) (fun hs2_10 => ?_)
 ·
  have hs2_1 := nd_t hs2_10
  skip
  refine G2 ?_
  refine .cond_t J J (G2 ?_)
  refine .build (cs := Aa (List.replicate 32 0)) J J J (fun w => by kernel_rfl) ?_
  refine .sA J J J J zE Sz50 sP mR sP (by (repeat (first | exact upd0 | apply Upd.seg))) ?_
  refine G5 ?_
  refine ⟨_, [], B2 J J Y50.h J Sz50 mR sP, sP, sP, ?_, rfl⟩
  (rw [cnameD, if_neg hs2_1]; done)
 have hs2_1 := nd_f hs2_10
 have h0 : D.check = 0 := by omega
 have hb7 : Br D = D.bytes := if_pos h0
 refine G2 ?_
 refine .cond_f J J (G5 ?_)
 refine .mkRow (z := .slice none 0 0) [s7.v] [s7.v] rfl J J Y250.h Sz58 Zr58 J J (by intro v hv; rw [List.mem_singleton.1 hv]; rfl) dE J ?_
 intro q14
 refine .cV J J J J Body217 (r2_Sum k s0 i0 G hk hk80 hs0 hs8 hG hGl hi0 hi8 (some ⟨q14, 0, none⟩) 1 1 [s7] [D.bytes] rfl J (fun j hj => (by obtain rfl : j = 0 := oM; exact ⟨by simp [hac7.num, hb7], fun e => hac7.nil e⟩)) D.bytes sP (by have := D.bytes_small h0 (hW.fPrev ▸ hW.ok.l_fPrev) hW.fHeads.row; omega) dE r hr s hs) (fun w h => ⟨SeesP.of (Ah h Z0), fun j hj => (by obtain rfl : j = 0 := oM; exact (by have := hac7.see (Lies.of h (by repeat (first | exact Ar | refine B0 ?_))); rw [hb7] at this; exact this))⟩) ?_
 refine .sA J J J J zE Sz50 (by (simp [hs64]; done)) mR sP uU ?_
 refine G4 ?_
 refine ⟨_, [], B2 J J Y50.h J Sz50 mR (by simp [hs64]), sP, sP, ?_, rfl⟩
 (rw [cnameD, if_pos h0, hsd.out]; done)
theorem digs_len (xs : List UInt8) : ∀ (k a : Nat) (e : Int), (As xs k a e).1.length = k
  | 0, a, e => rfl
  | k + 1, a, e => by
    have := digs_len xs k a e
    simp [As, this]

theorem endR_zero {n a : Nat} {e : Int} (h : endR n a e = 0) : e = 0 := by
  unfold endR at h
  split at h
  · assumption
  · rename_i h1; exact absurd h h1
section
variable {xs : List UInt8} {x1 x3 : UInt64} {l2 : List UInt8} {a3 k : Nat} {e3 : Int} {out : List Blk} {C : Cut}
theorem r19_same (hcp : cutP xs = (⟨x1, l2, (As xs (min x3.toNat 33) a3 e3).1⟩, (As xs (min x3.toNat 33) a3 e3).2)) (hf : k = x3.toNat ∨ ¬ (As xs k a3 e3).2.2 = 0) (hk : k ≤ x3.toNat) :
    (B8 xs = (DCut.zero, 4) ∧ (¬ endR xs.length (As xs k a3 e3).2.1 (As xs k a3 e3).2.2 = 0 ∨ ¬ (⟨x1, l2, (As xs k a3 e3).1⟩ : DCut).check = 0)) ∨ k = min x3.toNat 33 := by
  by_cases hm : k = min x3.toNat 33
  · exact .inr hm
  · refine .inl ?_
    by_cases he : (As xs k a3 e3).2.2 = 0
    · have hk2 : k = x3.toNat := by
        rcases hf with h | h
        · exact h
        · exact absurd he h
      have h33 : min x3.toNat 33 = 33 := by omega
      have hl33 : (As xs 33 a3 e3).1.length = 33 := digs_len xs 33 a3 e3
      refine ⟨cutRd_many ?_, .inr fun hc => ?_⟩
      · rw [hcp, h33]
        simp only [hl33]
        omega
      · have := DCut.small hc
        have hlk : (As xs k a3 e3).1.length = k := digs_len xs k a3 e3
        simp only [hlk] at this
        omega
    · refine ⟨cutRd_many ?_, .inl fun h => he (endR_zero h)⟩
      rw [hcp]
      simp only
      rintro ⟨h1, h2⟩
      rw [digs_len] at h2
      have hle : k ≤ min x3.toNat 33 := by omega
      have := digs_more (xs := xs) (a := a3) (e := e3) k (min x3.toNat 33 - k) he
      rw [show k + (min x3.toNat 33 - k) = min x3.toNat 33 by omega] at this
      exact this h1
theorem r19_fin1 (hcp : cutP xs = (⟨x1, l2, (As xs (min x3.toNat 33) a3 e3).1⟩, (As xs (min x3.toNat 33) a3 e3).2)) (hf : k = x3.toNat ∨ ¬ (As xs k a3 e3).2.2 = 0) (hk : k ≤ x3.toNat) (hb : ¬ (endR xs.length (As xs k a3 e3).2.1 (As xs k a3 e3).2.2 = 0 ∧ (⟨x1, l2, (As xs k a3 e3).1⟩ : DCut).check = 0)) : CutRead xs (.tuple #[agg Cut.zero.cells, i64 4]) out := by
  rcases r19_same hcp hf hk with ⟨h, _⟩ | h
  · exact ⟨Cut.zero, Cut.zero_ok, by rw [h], fun W2 _ => by rw [h]; exact cutz_is W2⟩
  · refine cut_bad ?_
    rw [hcp, ← h]
    exact hb
theorem r19_fin3 (hcp : cutP xs = (⟨x1, l2, (As xs (min x3.toNat 33) a3 e3).1⟩, (As xs (min x3.toNat 33) a3 e3).2)) (hf : k = x3.toNat ∨ ¬ (As xs k a3 e3).2.2 = 0) (hk : k ≤ x3.toNat) (h1 : endR xs.length (As xs k a3 e3).2.1 (As xs k a3 e3).2.2 = 0) (h2 : (⟨x1, l2, (As xs k a3 e3).1⟩ : DCut).check = 0) (hok : C.ok) (hC : ∀ W2, Lies out W2 → CutIs W2 C ⟨x1, l2, (As xs k a3 e3).1⟩) : CutRead xs (.tuple #[agg C.cells, i64 0]) out := by
  rcases r19_same hcp hf hk with ⟨_, h | h⟩ | h
  · exact absurd h1 h
  · exact absurd h2 h
  · refine cut_ok (by rw [hcp, ← h]; exact ⟨h1, h2⟩) hok (fun W2 hl => by rw [hcp, ← h]; exact hC W2 hl)
end

theorem r19_Read (pa : Option Addr) (n c : Nat) (xs : List UInt8) (hl : xs.length = n) (hp : pa = none → n = 0) (hn : n ≤ 90000) : Meets Tryz.prog 136 [.slice pa n c] [] (fun W => SeesP W pa (Aa xs)) (CutRead xs) := by
 intro W hW
 obtain ⟨x1, r1, h1⟩ : ∃ l r, A0 xs 0 0 = (l, r) := ⟨_, _, rfl⟩
 obtain ⟨a1, e1⟩ := r1
 obtain ⟨l2, r2, h2⟩ : ∃ l r, Cl xs a1 e1 = (l, r) := ⟨_, _, rfl⟩
 obtain ⟨a2, e2⟩ := r2
 obtain ⟨x3, r3, h3⟩ : ∃ l r, A0 xs a2 e2 = (l, r) := ⟨_, _, rfl⟩
 obtain ⟨a3, e3⟩ := r3
 have hcp : cutP xs = (⟨x1, l2, (As xs (min x3.toNat 33) a3 e3).1⟩, (As xs (min x3.toNat 33) a3 e3).2) := by simp only [cutP, h1, h2, h3]
 have hd1 := Bc h1 hl (Nat.zero_le _)
 have hd2 := Ci h2 hl hd1
 have hd3 := Bc h3 hl hd2.1
 have ok1 : ({ Cut.zero with fHeight := x1, fPrev := l2 } : Cut).ok := ⟨hd2.2⟩
 have okX : ∀ s, ({ Cut.zero with fHeight := x1, fPrev := l2, fHeads := s } : Cut).ok := fun s => ⟨hd2.2⟩
 refine Ak Tryz.func136 J 46 Tryz.ntmps136 J (G2 ?_)
 refine .alloc (cs := Cut.zero.cells) J Cut.zr J ?_
 intro n2 hn2 hf2
 refine G6 ?_
 refine .call4 J J J J J Body135 (r1_Read pa n c xs hl hp hn) (fun w h => Ao h J hW) ?_
 rintro v9 out9 ⟨n9, q9, cp9, rfl, hcp9, rfl⟩
 refine .nd (fun hnd => ?_)
 have hne : q9 ≠ n9 := by intro e; simp [R1B, e] at hnd
 clear hnd
 refine G6 ?_
 refine .callL (L := [R1B n9 q9 (0) n cp9 (0) (0)]) J J J J J Body138 (B4 n9 q9 0 n cp9 0 0 xs hl (Nat.zero_le _) hcp9 oM (fun _ => rfl) x1 a1 e1 h1) (Ab rM Ad) (Au J) (fun w h => ⟨Af h Z0, Ah h Z1, hne⟩) ?_
 rintro v11 out11 ⟨o11, ho11, rfl, rfl⟩
 refine G1 ?_
 refine .callL (L := [R1B n9 q9 (o11) n cp9 (a1) (e1)]) J J J J J Body215 (r1_DigestE n9 q9 o11 n cp9 a1 e1 xs hl hd1 hcp9 oM ho11 l2 a2 e2 h2) (Ab rM Ad) (Au J) (fun w h => ⟨Af h Z0, Ah h Z1, hne⟩) ?_
 rintro v13 out13 ⟨o13, ho13, rfl, rfl⟩
 refine .build (cs := ({ Cut.zero with fHeight := x1, fPrev := l2 } : Cut).cells) J J J (fun w => by exact build_cut x1 hd2.2 w) ?_
 refine .alloc (cs := Cut.zero.cells) J Cut.zr J ?_
 intro n5 hn5 hf5
 refine G6 ?_
 refine .callL (L := [R1B n9 q9 (o13) n cp9 (a2) (e2)]) J J J J J Body138 (B4 n9 q9 o13 n cp9 a2 e2 xs hl hd2.1 hcp9 oM ho13 x3 a3 e3 h3) (Ab rM Ad) (Au J) (fun w h => ⟨Af h Z1, Ah h Z2, hne⟩) ?_
 rintro v16 out16 ⟨o16, ho16, rfl, rfl⟩
 refine G6 ?_
 refine .a J J (show Al _ _ = some (u64 0) from rfl) (G3 ?_)
 refine .loop (ι := Nat × Nat × Sl × List Blk) (fun p => ⟨[(2, ptr n2 0), (3, i64 0), (4, ptr n9 0), (5, ptr n5 0), (6, u64 x3), (7, u64 (UInt64.ofNat p.1))], (R1B n9 q9 p.2.1 n cp9 (As xs p.1 a3 e3).2.1 (As xs p.1 a3 e3).2.2 :: (⟨q9, Aa xs, 5, cp9 * 1⟩ :: (⟨n5, ({ Cut.zero with fHeight := x1, fPrev := l2, fHeads := p.2.2.1 } : Cut).cells, 53, 34⟩ :: (⟨n2, Cut.zero.cells, 53, 34⟩ :: (p.2.2.2 ++ [])))))⟩) (fun p => p.1 ≤ x3.toNat ∧ At1 cp9 (As xs p.1 a3 e3).2.1 p.2.1 ∧ Hw.Acc p.2.2.1 p.2.2.2 (Bt (As xs p.1 a3 e3).1) 50 p.1 32 ∧ p.1 ≤ 2900) (fun p => x3.toNat - p.1) ((0, o16, Sl.nil, [])) ?_ ?_ ?_
 · exact ⟨Nat.zero_le _, ho16, Acc.none, Nat.zero_le _⟩
 · exact Ae (wk1 rfl (wk1 rfl (wk1 rfl (wk1 rfl (wk1 rfl (wk1 rfl wk0)))))) (Ab rM (Ab rM (Ab rM (Ab rM (Cd Ad)))))
 rintro p ⟨hp1, hop, hac, hk9⟩
 have hk6 : p.1 ≤ 1000000 := by omega
 have hj64 : (UInt64.ofNat p.1).toNat = p.1 := A6 oM
 have hD := digsR_at (e := e3) hl hd3 p.1
 obtain ⟨l8, r8, hd8⟩ : ∃ l r, Cl xs (As xs p.1 a3 e3).2.1 (As xs p.1 a3 e3).2.2 = (l, r) := ⟨_, _, rfl⟩
 obtain ⟨a8, e8⟩ := r8
 have hdl := Ci hd8 hl hD.1
 have hs8 := digsR_succ hd8
 refine G5 ?_
 refine two (fun r hr k => Tr.lss J J J J hr k) (fun hs5_20 => ?_) (fun hs5_20 => ?_)
 ·
  have hs5_2 := of_decide_eq_true hs5_20
  refine G5 ?_
  refine two (fun r hr k => Tr.eqi J J J J hr k) (fun hs5_80 => ?_) (fun hs5_80 => ?_)
  ·
   have hs5_8 := of_decide_eq_true hs5_80
   refine G3 ?_
   refine .cond_t J J (G4 ?_)
   refine .drawK (sp_v (sp_v (sp_k (sp_v (sp_x sp_n))))) J [(0, 0), (0, 1), (0, 2), (4, 3), (2, 4), (4, 5), (0, 6)] [(4, 7)] Be zK zK (G1 ?_)
   refine .kload1 J J J Y51.h J Z0 (by exact Cut.get_fHeads (by exact okX _)) ?_
   refine G1 ?_
   refine .callL (L := [R1B n9 q9 p.2.1 n cp9 (As xs p.1 a3 e3).2.1 (As xs p.1 a3 e3).2.2]) J J J J J Body215 (r1_DigestE n9 q9 p.2.1 n cp9 (As xs p.1 a3 e3).2.1 (As xs p.1 a3 e3).2.2 xs hl hD.1 hcp9 oM hop l8 a8 e8 hd8) (Ab rM Ad) (Au J) (fun w h => ⟨Af h Z0, Ah h Z1, hne⟩) ?_
   rintro v40 out40 ⟨o40, ho40, rfl, rfl⟩
   refine .mkRow2 (z := agg (Aa (List.replicate 32 0))) [agg (Aa l8)] (Aa l8) J J Y51.h Sz50 Zr50 J J (by intro v hv; rw [List.mem_singleton.1 hv]; simp [Value.cells, hdl.2]) dE (by simp [Value.cells]) ?_
   intro q41
   refine .appendAcc (z := agg (Aa (List.replicate 32 0))) (by' := 32) (Aa l8) J J J J J Y51.h Y51.h Sz50 Zr50 (by unfold By; kernel_rfl) J hac sG (fun w h => SeesP.of (Ah h Z0)) (fun e => by cases e) (Ay _) oM oM (by simp [Aa, hdl.2]) ?_
   intro s42 bl42 hac42
   refine G2 ?_
   refine .s1 J J J J J Sz51 Z0 (by rw [Cut.length (by exact okX _)]; decide) (by exact Cut.set_fHeads (by exact okX _) _) zU ?_
   refine G5 ?_
   refine .add_u64 J J J (show Al _ _ = some (u64 1) from rfl) (G3 ?_)
   refine ⟨(p.1 + 1, o40, s42, bl42), ⟨by simp only []; omega, by simp only [hs8]; exact ho40, ?_, by have := (digs_pos oM hs5_8).2; simp only []; omega⟩, by simp only []; omega, Ae (wk1 J (wk1 J (wk1 J (wk1 J (wk1 J (wk1 (congrArg (fun z => some (u64 z)) (ofNat_step _)) wk0)))))) (Cg rM (by simp only [hs8]) J (Ab rM (Ab rM (Ab rM (Aj sG Ad)))))⟩
   simp only [hs8]
   rw [flatB_append]
   simpa [Bt] using hac42
  have hs5_8 := of_decide_eq_false hs5_80
  refine G3 ?_
  refine .cond_f J J (G9 ?_)
  refine .cV J J J J Body140 (r1_End n9 q9 p.2.1 n cp9 (As xs p.1 a3 e3).2.1 (As xs p.1 a3 e3).2.2 hD.1 oM) (fun w h => Af h Z0) ?_
  refine two (fun r hr k => Tr.nei J J J J hr k) (fun hs8_20 => ?_) (fun hs8_20 => ?_)
  ·
   have hs8_2 := nd_t hs8_20
   refine G7 ?_
   refine .cond_t J J (G2 ?_)
   refine .build (cs := Cut.zero.cells) J J J (fun w => by kernel_rfl) ?_
   refine G7 ?_
   refine Ai (out := (p.2.2.2 ++ [])) (Aw J J J Y53.h J Sz53 Z3 (by exact Cut.length (by exact Cut.zero_ok))) (Aj sG Ad) ?_
   have hfin : (p.1 = x3.toNat ∨ ¬ (As xs p.1 a3 e3).2.2 = 0) := by (right; assumption)
   exact r19_fin1 hcp hfin hp1 (by rw [hl]; exact fun h => hs8_2 h.1)
  have hs8_2 := nd_f hs8_20
  refine G2 ?_
  refine .cV J J J J Body141 (r19_Check ({ Cut.zero with fHeight := x1, fPrev := l2, fHeads := p.2.2.1 } : Cut) ⟨x1, l2, (As xs p.1 a3 e3).1⟩) (fun w h => ⟨okX _, rfl, rfl, Ch hac (Lies.of h (by repeat (first | exact Ar | refine B0 ?_))) hD.2.1 hD.2.2 hk6⟩) ?_
  refine G4 ?_
  refine .condNP J (fun hc1 => ?_) (fun hc1 => ?_)
  ·
   refine G2 ?_
   refine .build (cs := Cut.zero.cells) J J J (fun w => by kernel_rfl) ?_
   refine G7 ?_
   refine Ai (out := (p.2.2.2 ++ [])) (Aw J J J Y53.h J Sz53 Z3 (by exact Cut.length (by exact Cut.zero_ok))) (Aj sG Ad) ?_
   have hfin : (p.1 = x3.toNat ∨ ¬ (As xs p.1 a3 e3).2.2 = 0) := by (right; assumption)
   exact r19_fin1 hcp hfin hp1 (by rw [hl]; exact fun h => hc1 h.2)
  refine G11 ?_
  refine Ai (out := (p.2.2.2 ++ [])) (Aw J J J Y53.h J Sz53 Z3 (by exact Cut.length (by exact okX _))) (Aj sG Ad) ?_
  have hfin : (p.1 = x3.toNat ∨ ¬ (As xs p.1 a3 e3).2.2 = 0) := by (right; assumption)
  exact r19_fin3 hcp hfin hp1 (by rw [hl]; exact hs8_2) hc1 (okX _) (fun W2 h2 => ⟨okX _, rfl, rfl, Ch hac (h2.sub Ar) hD.2.1 hD.2.2 hk6⟩)
 have hs5_2 := of_decide_eq_false hs5_20
 refine G9 ?_
 refine .cond_f J J (G9 ?_)
 refine .cV J J J J Body140 (r1_End n9 q9 p.2.1 n cp9 (As xs p.1 a3 e3).2.1 (As xs p.1 a3 e3).2.2 hD.1 oM) (fun w h => Af h Z0) ?_
 refine two (fun r hr k => Tr.nei J J J J hr k) (fun hs8_20 => ?_) (fun hs8_20 => ?_)
 ·
  have hs8_2 := nd_t hs8_20
  refine G7 ?_
  refine .cond_t J J (G2 ?_)
  refine .build (cs := Cut.zero.cells) J J J (fun w => by kernel_rfl) ?_
  refine G7 ?_
  refine Ai (out := (p.2.2.2 ++ [])) (Aw J J J Y53.h J Sz53 Z3 (by exact Cut.length (by exact Cut.zero_ok))) (Aj sG Ad) ?_
  have hfin : (p.1 = x3.toNat ∨ ¬ (As xs p.1 a3 e3).2.2 = 0) := by (left; omega)
  exact r19_fin1 hcp hfin hp1 (by rw [hl]; exact fun h => hs8_2 h.1)
 have hs8_2 := nd_f hs8_20
 refine G2 ?_
 refine .cV J J J J Body141 (r19_Check ({ Cut.zero with fHeight := x1, fPrev := l2, fHeads := p.2.2.1 } : Cut) ⟨x1, l2, (As xs p.1 a3 e3).1⟩) (fun w h => ⟨okX _, rfl, rfl, Ch hac (Lies.of h (by repeat (first | exact Ar | refine B0 ?_))) hD.2.1 hD.2.2 hk6⟩) ?_
 refine G4 ?_
 refine .condNP J (fun hc1 => ?_) (fun hc1 => ?_)
 ·
  refine G2 ?_
  refine .build (cs := Cut.zero.cells) J J J (fun w => by kernel_rfl) ?_
  refine G7 ?_
  refine Ai (out := (p.2.2.2 ++ [])) (Aw J J J Y53.h J Sz53 Z3 (by exact Cut.length (by exact Cut.zero_ok))) (Aj sG Ad) ?_
  have hfin : (p.1 = x3.toNat ∨ ¬ (As xs p.1 a3 e3).2.2 = 0) := by (left; omega)
  exact r19_fin1 hcp hfin hp1 (by rw [hl]; exact fun h => hc1 h.2)
 refine G11 ?_
 refine Ai (out := (p.2.2.2 ++ [])) (Aw J J J Y53.h J Sz53 Z3 (by exact Cut.length (by exact okX _))) (Aj sG Ad) ?_
 have hfin : (p.1 = x3.toNat ∨ ¬ (As xs p.1 a3 e3).2.2 = 0) := by (left; omega)
 exact r19_fin3 hcp hfin hp1 (by rw [hl]; exact hs8_2) hc1 (okX _) (fun W2 h2 => ⟨okX _, rfl, rfl, Ch hac (h2.sub Ar) hD.2.1 hD.2.2 hk6⟩)
end Go.Proofs.YtdifpjmfabhpiaaGreat
end

section
namespace Go.Proofs.YtdifpjmfabhpiaaGreat
open Go Hw

theorem r25_CheckCert (C : Cert) (D : DCert) : Meets Tryz.prog 42 [agg C.cells] [] (fun W => CertIs W C D) (fun v out => v = i64 D.check ∧ out = []) := by
 intro W hW
 obtain ⟨rs, hV⟩ := hW.fVotes
 have hok := hW.ok
 have hmax := hV.max
 simp only [maxLen] at hmax
 have hcap := hV.cap
 have hnd := hV.nd
 have ehh := hW.fCut.fHeight
 refine Ak Tryz.func42 J 86 Tryz.ntmps42 J (G3 ?_)
 intro n1 hn1 hf1
 refine G7 ?_
 refine .lN (Cut.cells _) J J J Y53.h J Sz53 Z0 (Cert.row_fCut zA) (Cert.rl_fCut zA) ?_
 refine .cV J J J J Body141 (r19_Check C.fCut D.dCut) (fun w h => hW.fCut.ext h J) (two (fun r hr k => Tr.nei J J J J hr k) (fun hs1_30 => ?_) (fun hs1_30 => ?_))
 ·
  have hs1_3 := nd_t hs1_30
  refine G14 ?_
  refine .cond_t J J (G8 ?_)
  refine ⟨_, [], Ac J J, sP, sP, ?_, rfl⟩
  exact congrArg i64 (B7 (by simp only [DCert.head, hnd, Bool.or_eq_true, Bool.not_eq_true', decide_eq_true_eq, decide_eq_false_iff_not]; omega)).symm
 have hs1_3 := nd_f hs1_30
 refine G4 ?_
 refine two (fun r hr k => Tr.lss J J J J hr k) (fun hs1_80 => ?_) (fun hs1_80 => ?_)
 ·
  have hs1_8 := of_decide_eq_true hs1_80
  refine G9 ?_
  refine .cond_t J J (G8 ?_)
  refine ⟨_, [], Ac J J, sP, sP, ?_, rfl⟩
  exact congrArg i64 (B7 (by simp only [DCert.head, hnd, Bool.or_eq_true, Bool.not_eq_true', decide_eq_true_eq, decide_eq_false_iff_not]; omega)).symm
 have hs1_8 := of_decide_eq_false hs1_80
 refine G9 ?_
 refine .condP J (fun hc0 => ?_) (fun hc0 => ?_)
 ·
  refine G8 ?_
  refine ⟨_, [], Ac J J, sP, sP, ?_, rfl⟩
  exact congrArg i64 (B7 (by simp only [DCert.head, hnd, Bool.or_eq_true, Bool.not_eq_true', decide_eq_true_eq, decide_eq_false_iff_not]; omega)).symm
 have hnb : ¬ D.head = true := by simp only [DCert.head, hnd, Bool.or_eq_true, Bool.not_eq_true', decide_eq_true_eq, decide_eq_false_iff_not]; omega
 refine G5 ?_
 refine .lN (Cut.cells _) J J J Y53.h J Sz53 Z0 (Cert.row_fCut zA) (Cert.rl_fCut zA) ?_
 refine .cV J J J J Body142 (r19_Name C.fCut D.dCut) (fun w h => hW.fCut.ext h J) (.alloc (cs := (Aa (List.replicate 32 0))) J Zr50 J ?_)
 intro n3 hn3 hf3
 refine .sA J J J J zE Sz50 (by (simp [cnameD_length]; done)) Z0 sP zU ?_
 refine G9 ?_
 refine .loop (ι := Nat) (fun k => ⟨[(1, ptr n1 0), (3, ptr n3 0), (4, i64 (k : Int))], [⟨n3, Aa (cnameD D.dCut), 50, 32⟩, ⟨n1, C.cells, 55, C.cells.length⟩]⟩) (fun k => k ≤ C.fVotes.n ∧ ∀ j, j < k → ¬ D.bad j) (fun k => C.fVotes.n - k) (0) ?_ ?_ ?_
 · exact ⟨by omega, fun j hj => by omega⟩
 · exact Ag (wk1 rfl (wk1 rfl (wk1 rfl wk0))) (wh1 Z0 (wh1 Z1 wh0)) nD
 rintro k ⟨hk, hg⟩
 refine G10 ?_
 refine .condP J (fun hc1 => ?_) (fun hc1 => ?_)
 ·
  have hk2 : k < C.fVotes.n := by omega
  obtain ⟨b, o, Vk, d, hsp, hr, hd, his, hlen, hsee⟩ := hV.at dE hk2
  obtain rfl := his.eq
  have hVk := his.ok
  have hlv := hVk.l_fValue
  obtain ⟨b0, o0, V0, d0, hsp0, hr0, hd0, his0, hlen0, hsee0⟩ := hV.at dE (show 0 < C.fVotes.n by omega)
  obtain rfl := his0.eq
  have hV0 := his0.ok
  have hvk := vote_is hd
  have hv0 := vote_is hd0
  refine G9 ?_
  refine .idxSlP 132 J J J hsp J Y24.h Sz81 (k) oM oM (.loadEN Vk.cells J J J Y81.h J Sz81 sP hlen hsee (.alloc (cs := Vote.zero.cells) J Vote.zr J ?_))
  intro n5 hn5 hf5
  refine G4 ?_
  refine .draw [(1, 0), (3, 1), (0, 2), (0, 3), (0, 4), (1, 5), (0, 6), (0, 7), (1, 8), (0, 9), (0, 10), (0, 11), (0, 12), (1, 13), (0, 14), (0, 15), (0, 16), (0, 17), (1, 18), (1, 19), (0, 20), (0, 21), (0, 22), (0, 23), (1, 24), (0, 25), (1, 26), (0, 27), (0, 28), (1, 29), (0, 30), (0, 31), (0, 32), (0, 33), (0, 34), (0, 35), (0, 36), (1, 37), (0, 38), (0, 39), (0, 40), (0, 41), (1, 42), (0, 43), (1, 44), (3, 45), (0, 46), (0, 47), (0, 48)] Be zK (G1 ?_)
  refine .cV J J J J Body143 (r20_Check Vk hVk) tV (two (fun r hr k => Tr.nei J J J J hr k) (fun hs8_20 => ?_) (fun hs8_20 => ?_))
  ·
   have hs8_2 := nd_t hs8_20
   refine G48 ?_
   refine .cond_t J J (G12 ?_)
   refine ⟨_, [], Ac J J, sP, sP, ?_, rfl⟩
   exact congrArg i64 (Cc (k := k) oM (by
      simp only [DCert.bad, hvk, hv0, ← ehh]
      exact .inl ‹_›)).symm
  have hs8_2 := nd_f hs8_20
  refine G5 ?_
  refine .load1 J J J Y48.h J Z2 (Cert.see_fCut hok 0 _ (Cut.get_fHeight hok.o_fCut)) ?_
  refine two (fun r hr k => Tr.nei J J J J hr k) (fun hs8_90 => ?_) (fun hs8_90 => ?_)
  ·
   have hs8_9 := nd_t hs8_90
   refine G41 ?_
   refine .cond_t J J (G12 ?_)
   refine ⟨_, [], Ac J J, sP, sP, ?_, rfl⟩
   exact congrArg i64 (Cc (k := k) oM (by
      simp only [DCert.bad, hvk, hv0, ← ehh]
      exact .inr (.inr (.inl ‹_›)))).symm
  have hs8_9 := nd_f hs8_90
  refine G4 ?_
  refine two (fun r hr k => Tr.nei J J J J hr k) (fun hs8_140 => ?_) (fun hs8_140 => ?_)
  ·
   have hs8_14 := nd_t hs8_140
   refine G36 ?_
   refine .cond_t J J (G12 ?_)
   refine ⟨_, [], Ac J J, sP, sP, ?_, rfl⟩
   exact congrArg i64 (Cc (k := k) oM (by
      simp only [DCert.bad, hvk, hv0, ← ehh]
      exact .inr (.inl ‹_›))).symm
  have hs8_14 := nd_f hs8_140
  refine G3 ?_
  refine .lN (Aa _) J J J Y50.h J Sz50 Z0 (Vote.row_fValue zA) (Vote.rl_fValue zA) ?_
  refine .lA J J J Y50.h J Sz50 Z1 (by (simp [cnameD_length]; done)) ?_
  refine two (fun r hr k => Tr.neq_bytes J J J J Tryz.eqGuardType50 Y50.h Y5.h Sz5 zA (by (simp [cnameD_length]; done)) hr k) (fun hs8_200 => ?_) (fun hs8_200 => ?_)
  ·
   have hs8_20 := nd_t hs8_200
   refine G30 ?_
   refine .cond_t J J (G12 ?_)
   refine ⟨_, [], Ac J J, sP, sP, ?_, rfl⟩
   exact congrArg i64 (Cc (k := k) oM (by
      simp only [DCert.bad, hvk, hv0, ← ehh]
      exact .inr (.inr (.inr (.inl ‹_›))))).symm
  have hs8_20 := nd_f hs8_200
  refine G6 ?_
  refine .idxSlP 132 J J J hsp0 J Y24.h Sz81 (0) oM oM (G1 ?_)
  refine .loadE J J J Y48.h J sP (hsee0 1 _ (Vote.get_fRound hV0)) (two (fun r hr k => Tr.nei J J J J hr k) (fun hs8_300 => ?_) (fun hs8_300 => ?_))
  ·
   have hs8_30 := nd_t hs8_300
   refine G20 ?_
   refine .cond_t J J (G12 ?_)
   refine ⟨_, [], Ac J J, sP, sP, ?_, rfl⟩
   exact congrArg i64 (Cc (k := k) oM (by
      simp only [DCert.bad, hvk, hv0, ← ehh]
      exact .inr (.inr (.inr (.inr (.inl ‹_›)))))).symm
  have hs8_30 := nd_f hs8_300
  refine G3 ?_
  refine two (fun r hr k => Tr.gtr J J J J hr k) (fun hs8_340 => ?_) (fun hs8_340 => ?_)
  ·
   have hs8_34 := of_decide_eq_true hs8_340
   obtain ⟨bp, op, Vp, dp, hspp, hrp, hdp, hisp, hlenp, hseep⟩ := hV.at dE (show k - 1 < C.fVotes.n by omega)
   obtain rfl := hisp.eq
   have hVp := hisp.ok
   refine G5 ?_
   refine .idxSlP 132 J J J hspp J Y24.h Sz81 (k - 1) oM oM (G1 ?_)
   refine .loadEN (Aa Vp.fVoter) J J J (by rfl) J (by rfl) sP (by rw [Aa, List.length_map]; exact hVp.l_fVoter) (sees_sub hseep (Vote.see_fVoter hVp)) ?_
   refine G1 ?_
   refine .lN (Aa _) J J J Y75.h J Sz75 Z0 (Vote.row_fVoter zA) (Vote.rl_fVoter zA) ?_
   refine .cV J J J J Body144 (r15_cmp _ _ hVp.l_fVoter hVk.l_fVoter) tV (G5 ?_)
   refine .condP J (fun hc2 => ?_) (fun hc2 => ?_)
   ·
    refine G12 ?_
    refine ⟨_, [], Ac J J, sP, sP, ?_, rfl⟩
    exact congrArg i64 (Cc (k := k) oM (by
       simp only [DCert.bad, hvk, hv0, ← ehh]
       (rw [vote_is hdp]; exact .inr (.inr (.inr (.inr (.inr ⟨by omega, by omega⟩))))))).symm
   refine G9 ?_
   exact ⟨k + 1, ⟨by omega, fun j hj => by rcases Nat.lt_succ_iff_lt_or_eq.1 hj with h | rfl; exact hg j h; exact (by
    simp only [DCert.bad, hvk, hv0, ← ehh]
    rintro (h | h | h | h | h | ⟨h1, h2⟩) <;> first | exact h ‹_› | (rw [vote_is hdp] at h2; omega))⟩, by omega, Ag (wk1 rfl (wk1 rfl (wk1 rfl wk0))) (wh1 Z1 (wh1 Z2 wh0)) nD⟩
  have hs8_34 := of_decide_eq_false hs8_340
  skip
  refine G16 ?_
  refine .cond_f J J (G9 ?_)
  exact ⟨k + 1, ⟨by omega, fun j hj => by rcases Nat.lt_succ_iff_lt_or_eq.1 hj with h | rfl; exact hg j h; exact (by
   simp only [DCert.bad, hvk, hv0, ← ehh]
   rintro (h | h | h | h | h | ⟨h1, h2⟩) <;> first | exact h ‹_› | omega)⟩, by omega, Ag (wk1 rfl (wk1 rfl (wk1 rfl wk0))) (wh1 Z1 (wh1 Z2 wh0)) nD⟩
 obtain rfl : k = C.fVotes.n := by omega
 refine G12 ?_
 refine ⟨_, [], Ac J J, sP, sP, ?_, rfl⟩
 exact congrArg i64 (Cb hnb (by rw [hnd]; exact hg)).symm

theorem cert_two {D : DCert} (h : ¬ D.check = 0) : D.check = 2 := by
  unfold DCert.check at h ⊢
  split
  · rfl
  · rename_i h1; rw [if_neg h1] at h; exact absurd rfl h

theorem r25_CertBytes (C : Cert) (D : DCert) : Meets Tryz.prog 40 [agg C.cells] [] (fun W => CertIs W C D) (fun v out => ∃ s, v = .tuple #[s.v, i64 D.check] ∧ Hw.Acc s out (Aa (Bg D)) 5 (Bg D).length 1) := by
 intro W hW
 obtain ⟨rs, hvs⟩ := hW.fVotes
 have hcl := cutR_le hW.fCut
 have hvok := seqv_ok hvs
 have hvn := hvs.nd
 have hz := A2 (Br D.dCut).length
 refine Ak Tryz.func40 J 44 Tryz.ntmps40 J (G3 ?_)
 intro n1 hn1 hf1
 refine G7 ?_
 refine .lA J J J Y55.h J Sz55 Z0 (Cert.length (by exact hW.ok)) ?_
 refine .cV J J J J Body42 (r25_CheckCert C D) (fun w h => hW.ext h J) (G3 ?_)
 refine .condNP J (fun hc0 => ?_) (fun hc0 => ?_)
 ·
  refine G9 ?_
  refine Ai (out := []) (A7 J J J) Ad ?_
  exact ⟨Sl.nil, by rw [cert_two hc0]; rfl, by rw [show Bg D = [] from if_neg hc0]; exact Acc.none⟩
 have hck : D.check = 0 := by omega
 obtain ⟨hk1, hk2, hk3⟩ := DCert.facts hck
 have hle : ∀ k, (blkB (Br D.dCut) ++ Ap (UInt64.ofNat C.fVotes.n) ++ Av A4 (D.dVotes.take k)).length ≤ 40000 := fun k => by
  have h1 := listB_take_le A4 164 oM D.dVotes (fun d hd => voteBy_le (hvok d hd)) k
  have h2 : D.dVotes.length * (164 + 9) ≤ 16 * (164 + 9) := Nat.mul_le_mul_right _ hk3
  have h3 := (A2 (UInt64.ofNat C.fVotes.n).toNat).2
  simp only [List.length_append, Am, blkB_length (show (Br D.dCut).length ≤ 1000000 by omega)]
  omega
 refine G5 ?_
 refine .lN (Cut.cells _) J J J Y53.h J Sz53 Z0 (Cert.row_fCut (by exact hW.ok)) (Cert.rl_fCut (by exact hW.ok)) ?_
 refine .call4 J J J J J Body131 (r19_Bytes C.fCut D.dCut) (fun w h => hW.fCut.ext h J) ?_
 rintro v14 out14 ⟨s14, rfl, hac14⟩
 have hn14 := hac14.num
 refine G8 ?_
 refine .withK (sp_x (sp_k sp_n)) J (.draw [(0, 0), (0, 2), (0, 3), (0, 4), (0, 5), (4, 1), (4, 6), (0, 7)] Be zK (G2 ?_))
 refine .kload1 J J J Y24.h J Z0 (by exact Cert.get_fVotes (by exact hW.ok)) ?_
 refine G2 ?_
 refine .call4 J J J J J Body133 (r1_Block none s14.p 0 0 s14.n s14.c [] (Br D.dCut) J hn14.symm (fun _ => rfl) (fun e => hac14.nil e) dE oM) (fun w h => ⟨SeesP.nil, hac14.see (Lies.of h (by repeat (exact Ar)))⟩) ?_
 rintro v18 out18 ⟨q18, c18, rfl, hc18, rfl⟩
 have hb18 : [] ++ Ap (UInt64.ofNat s14.n) ++ Br D.dCut = blkB (Br D.dCut) := by rw [blkB, hn14]; rfl
 rw [hb18]
 rw [Cf (n := C.fVotes.n) oM]
 refine .call4 J J J J J Body132 (Cr (some ⟨q18, 0, none⟩) (0 + szN s14.n + s14.n) c18 (blkB (Br D.dCut)) (UInt64.ofNat C.fVotes.n) (by rw [blkB_length oM, hn14]; omega) (fun e => by cases e) (by have := A2 s14.n; omega)) (fun w h => SeesP.of (Ah (cs := Aa (blkB (Br D.dCut))) h Z0)) ?_
 rintro v23 out23 ⟨q23, c23, rfl, hc23, rfl⟩
 have e23 : 0 + szN s14.n + s14.n + szN (UInt64.ofNat C.fVotes.n).toNat = (blkB (Br D.dCut) ++ Ap (UInt64.ofNat C.fVotes.n) ++ Av A4 (D.dVotes.take 0)).length := by simp only [List.length_append, List.take_zero, Av, List.map_nil, List.flatten_nil, List.length_nil, Am, blkB_length (show (Br D.dCut).length ≤ 1000000 by omega), hn14]; omega
 rw [e23] at hc23 ⊢
 refine G10 ?_
 refine .loop (ι := Nat × Nat × Nat) (fun p => ⟨[(1, ptr n1 0), (6, .slice (some ⟨p.2.1, 0, none⟩) (blkB (Br D.dCut) ++ Ap (UInt64.ofNat C.fVotes.n) ++ Av A4 (D.dVotes.take p.1)).length p.2.2), (7, i64 (p.1 : Int))], [⟨p.2.1, Aa (blkB (Br D.dCut) ++ Ap (UInt64.ofNat C.fVotes.n) ++ Av A4 (D.dVotes.take p.1)), 5, p.2.2 * 1⟩, ⟨n1, C.cells, 55, C.cells.length⟩]⟩) (fun p => p.1 ≤ C.fVotes.n ∧ (blkB (Br D.dCut) ++ Ap (UInt64.ofNat C.fVotes.n) ++ Av A4 (D.dVotes.take p.1)).length ≤ p.2.2) (fun p => C.fVotes.n - p.1) ((0, q23, c23)) ?_ ?_ ?_
 · exact ⟨Nat.zero_le _, hc23⟩
 · exact Ae (wk1 rfl (wk1 rfl (wk1 rfl wk0))) (Cg rM (by simp only [List.take_zero, Av, List.map_nil, List.flatten_nil, List.append_nil]) rfl (Ab rM Ad))
 rintro p ⟨hp1, hp2⟩
 refine G5 ?_
 refine .load1 J J J Y24.h J Z1 (by exact Cert.get_fVotes (by exact hW.ok)) ?_
 refine G4 ?_
 refine .condP J (fun hc1 => ?_) (fun hc1 => ?_)
 ·
  have hk4 : p.1 < C.fVotes.n := by omega
  obtain ⟨b, o, r, d, hsp, hr, hd, his, hlen, hsee⟩ := hvs.at dE hk4
  refine G7 ?_
  refine .load1 J J J Y24.h J Z1 (by exact Cert.get_fVotes (by exact hW.ok)) ?_
  refine G1 ?_
  refine .idxSlP 132 J J J hsp J Y24.h Sz81 p.1 J oM (.loadEN r.cells J J J Y81.h J Sz81 sP hlen hsee ?_)
  obtain rfl := his.eq
  refine .call4 J J J J J Body134 (r20_Bytes r his.ok) tV ?_
  rintro v37 out37 ⟨s37, rfl, hac37⟩
  have hn37 := hac37.num
  have hle37 := voteBy_le (hvok r (List.mem_of_getElem? hd))
  refine G9 ?_
  refine .call4 J J J J J Body133 (r1_Block (some ⟨p.2.1, 0, none⟩) s37.p (blkB (Br D.dCut) ++ Ap (UInt64.ofNat C.fVotes.n) ++ Av A4 (D.dVotes.take p.1)).length p.2.2 s37.n s37.c (blkB (Br D.dCut) ++ Ap (UInt64.ofNat C.fVotes.n) ++ Av A4 (D.dVotes.take p.1)) (A4 r) J hn37.symm (fun e => by cases e) (fun e => hac37.nil e) (hle _) oM) (fun w h => ⟨SeesP.of (Ah h mR), hac37.see (Lies.of h (by repeat (exact Ar)))⟩) ?_
  rintro v42 out42 ⟨q42, c42, rfl, hc42, rfl⟩
  have hb42 : blkB (Br D.dCut) ++ Ap (UInt64.ofNat C.fVotes.n) ++ Av A4 (D.dVotes.take p.1) ++ Ap (UInt64.ofNat s37.n) ++ A4 r = blkB (Br D.dCut) ++ Ap (UInt64.ofNat C.fVotes.n) ++ Av A4 (D.dVotes.take (p.1 + 1)) := by rw [listB_step A4 hd, hn37]; simp only [blkB, List.append_assoc]
  rw [hb42]
  have he42 : (blkB (Br D.dCut) ++ Ap (UInt64.ofNat C.fVotes.n) ++ Av A4 (D.dVotes.take p.1)).length + szN s37.n + s37.n = (blkB (Br D.dCut) ++ Ap (UInt64.ofNat C.fVotes.n) ++ Av A4 (D.dVotes.take (p.1 + 1))).length := by rw [← hb42]; simp only [List.length_append, Am, A6 (n := s37.n) oM]; omega
  rw [he42] at hc42 ⊢
  refine G10 ?_
  exact ⟨(p.1 + 1, q42, c42), ⟨by simp only []; omega, hc42⟩, by simp only []; omega, Ae (wk1 rfl (wk1 rfl (wk1 rfl wk0))) (Ab rM (Ab rM Ad))⟩
 have hpe : p.1 = C.fVotes.n := by omega
 have hds : D.dVotes.take p.1 = D.dVotes := List.take_of_length_le oM
 refine G14 ?_
 refine Ai (out := (⟨p.2.1, Aa (blkB (Br D.dCut) ++ Ap (UInt64.ofNat C.fVotes.n) ++ Av A4 (D.dVotes.take p.1)), 5, p.2.2 * 1⟩ :: [])) (A7 J J J) (Ab rM Ad) ?_
 refine ⟨⟨some ⟨p.2.1, 0, none⟩, (blkB (Br D.dCut) ++ Ap (UInt64.ofNat C.fVotes.n) ++ Av A4 (D.dVotes.take p.1)).length, p.2.2⟩, (by rw [hck]; try rfl), ?_⟩
 rw [show Bg D = D.bytes from if_pos hck, DCert.bytes, hvn]
 rw [hds] at hp2 ⊢
 exact Acc.some hp2 (by rw [Aa, List.length_map, Nat.mul_one])

theorem hd_1 {D : DMsg} (h : D.dKind = 1) : D.hd ↔ (D.dHeight.toNat < 4294967296 ∧ D.dHeads.length ≤ 32 ∧ D.dWant.length + D.dBlocks.length + D.dVotes.length + D.dCuts.length + D.dCerts.length = 0) := by
  unfold DMsg.hd
  rw [h]
  generalize D.dHeight.toNat = x1
  generalize D.dHeads.length = x2
  generalize D.dWant.length = x3
  generalize D.dBlocks.length = x4
  generalize D.dVotes.length = x5
  generalize D.dCuts.length = x6
  generalize D.dCerts.length = x7
  simp
  omega
theorem hd_2 {D : DMsg} (h : D.dKind = 2) : D.hd ↔ (D.dHeight.toNat = 0 ∧ D.dHeads.length ≤ 32 ∧ D.dWant.length ≤ 32 ∧ D.dBlocks.length + D.dVotes.length + D.dCuts.length + D.dCerts.length = 0) := by
  unfold DMsg.hd
  rw [h]
  generalize D.dHeight.toNat = x1
  generalize D.dHeads.length = x2
  generalize D.dWant.length = x3
  generalize D.dBlocks.length = x4
  generalize D.dVotes.length = x5
  generalize D.dCuts.length = x6
  generalize D.dCerts.length = x7
  simp
  omega
theorem hd_3 {D : DMsg} (h : D.dKind = 3) : D.hd ↔ (D.dHeight.toNat = 0 ∧ D.dHeads.length + D.dWant.length + D.dVotes.length + D.dCuts.length + D.dCerts.length = 0 ∧ 1 ≤ D.dBlocks.length ∧ D.dBlocks.length ≤ 8) := by
  unfold DMsg.hd
  rw [h]
  generalize D.dHeight.toNat = x1
  generalize D.dHeads.length = x2
  generalize D.dWant.length = x3
  generalize D.dBlocks.length = x4
  generalize D.dVotes.length = x5
  generalize D.dCuts.length = x6
  generalize D.dCerts.length = x7
  simp
  omega
theorem hd_4 {D : DMsg} (h : D.dKind = 4) : D.hd ↔ (D.dHeight.toNat = 0 ∧ D.dHeads.length + D.dWant.length + D.dBlocks.length + D.dCerts.length = 0 ∧ D.dVotes.length ≤ 20 ∧ D.dCuts.length ≤ 4 ∧ 1 ≤ D.dVotes.length + D.dCuts.length) := by
  unfold DMsg.hd
  rw [h]
  generalize D.dHeight.toNat = x1
  generalize D.dHeads.length = x2
  generalize D.dWant.length = x3
  generalize D.dBlocks.length = x4
  generalize D.dVotes.length = x5
  generalize D.dCuts.length = x6
  generalize D.dCerts.length = x7
  simp
  omega
theorem hd_5 {D : DMsg} (h : D.dKind = 5) : D.hd ↔ (D.dHeight.toNat = 0 ∧ D.dHeads.length + D.dWant.length + D.dBlocks.length + D.dVotes.length + D.dCuts.length = 0 ∧ 1 ≤ D.dCerts.length ∧ D.dCerts.length ≤ 2) := by
  unfold DMsg.hd
  rw [h]
  generalize D.dHeight.toNat = x1
  generalize D.dHeads.length = x2
  generalize D.dWant.length = x3
  generalize D.dBlocks.length = x4
  generalize D.dVotes.length = x5
  generalize D.dCuts.length = x6
  generalize D.dCerts.length = x7
  simp
  omega
theorem hd_6 {D : DMsg} (h : D.dKind = 6) : D.hd ↔ (1 ≤ D.dHeight.toNat ∧ D.dHeight.toNat < 4294967296 ∧ D.dHeads.length + D.dWant.length + D.dBlocks.length + D.dVotes.length + D.dCuts.length + D.dCerts.length = 0) := by
  unfold DMsg.hd
  rw [h]
  generalize D.dHeight.toNat = x1
  generalize D.dHeads.length = x2
  generalize D.dWant.length = x3
  generalize D.dBlocks.length = x4
  generalize D.dVotes.length = x5
  generalize D.dCuts.length = x6
  generalize D.dCerts.length = x7
  simp
  omega
structure DMsg.Few (D : DMsg) : Prop where
  h : D.dHeads.length ≤ 100000
  w : D.dWant.length ≤ 100000
  b : D.dBlocks.length ≤ 100000
  v : D.dVotes.length ≤ 100000
  c : D.dCuts.length ≤ 100000
  x : D.dCerts.length ≤ 100000
theorem hd_out {D : DMsg} (h : ¬ (1 ≤ D.dKind ∧ D.dKind ≤ 6)) : ¬ D.hd := fun e => h e.1
theorem all_step {α : Type} {P : α → Prop} {ds : List α} {k : Nat} {d : α} (h : ds[k]? = some d) : (∀ x ∈ ds.take (k + 1), P x) ↔ (∀ x ∈ ds.take k, P x) ∧ P d := by
  rw [take_snoc h]
  simp only [List.mem_append, List.mem_singleton]
  exact ⟨fun e => ⟨fun x hx => e x (.inl hx), e d (.inr rfl)⟩, fun e x hx => hx.elim (e.1 x) fun he => he ▸ e.2⟩
theorem all_end {α : Type} {P : α → Prop} {A : Prop} {ds : List α} {k : Nat} {q : Bool} (h : q = true ↔ A ∧ ∀ x ∈ ds.take k, P x) (hk : ds.length ≤ k ∨ q = false) : q = true ↔ A ∧ ∀ x ∈ ds, P x := by
  rcases hk with hk | hk
  · rwa [List.take_of_length_le hk] at h
  · subst hk
    refine ⟨(fun e => Bool.noConfusion e), fun e => ?_⟩
    exact h.2 ⟨e.1, fun x hx => e.2 x (List.mem_of_mem_take hx)⟩
theorem msg_two {D : DMsg} (h : ¬ D.check = 0) : D.check = 2 := by
  unfold DMsg.check at h ⊢
  split
  · rfl
  · rename_i h1; rw [if_neg h1] at h; exact absurd rfl h
theorem valid_all (D : DMsg) : D.check = 0 ↔ (((D.hd ∧ ∀ d ∈ D.dBlocks, d.check = 0) ∧ ∀ d ∈ D.dVotes, A5 d = 0) ∧ ∀ d ∈ D.dCuts, d.check = 0) ∧ ∀ d ∈ D.dCerts, d.check = 0 := by
  rw [valid_iff]
  constructor
  · rintro ⟨h, e⟩
    obtain ⟨b, v, c, x⟩ := e
    rw [List.all_eq_true] at b v c x
    exact ⟨⟨⟨⟨h, fun d hd => of_decide_eq_true (b d hd)⟩, fun d hd => of_decide_eq_true (v d hd)⟩, fun d hd => of_decide_eq_true (c d hd)⟩, fun d hd => of_decide_eq_true (x d hd)⟩
  · rintro ⟨⟨⟨⟨h, b⟩, v⟩, c⟩, x⟩
    exact ⟨h, List.all_eq_true.2 fun d hd => decide_eq_true (b d hd), List.all_eq_true.2 fun d hd => decide_eq_true (v d hd), List.all_eq_true.2 fun d hd => decide_eq_true (c d hd), List.all_eq_true.2 fun d hd => decide_eq_true (x d hd)⟩

theorem r25_Check (m : Msg) (D : DMsg) (few : D.Few) : Meets Tryz.prog 46 [agg m.cells] [] (fun W => MsgIs W m D) (fun v out => v = i64 D.check ∧ out = []) := by
 intro W hW
 have hok := hW.ok
 have hl := hW.len
 have eK := hW.fKind
 have eH := hW.fHeight
 obtain ⟨rsB, hsB⟩ := hW.fBlocks
 obtain ⟨rsV, hsV⟩ := hW.fVotes
 obtain ⟨rsC, hsC⟩ := hW.fCuts
 obtain ⟨rsX, hsX⟩ := hW.fCerts
 obtain ⟨m1, m2, m3, m4, m5, m6⟩ := few
 have l1 := hl.heads
 have l2 := hl.want
 have l3 := hl.blocks
 have l4 := hl.votes
 have l5 := hl.cuts
 have l6 := hl.certs
 have eH2 : (m.fHeight.toNat : Int) = (D.dHeight.toNat : Int) := by rw [eH]
 refine Ak Tryz.func46 J 243 Tryz.ntmps46 J (G3 ?_)
 intro n1 hn1 hf1
 refine G4 ?_
 refine .draw [(0, 0), (1, 1), (0, 2), (0, 3), (1, 4), (0, 5), (0, 6), (1, 7), (0, 8), (0, 9), (1, 10), (0, 11), (0, 12), (1, 13), (0, 14), (0, 15), (1, 16), (0, 17), (0, 18), (0, 19), (0, 20), (0, 21), (0, 22), (0, 23)] Be zK (G31 ?_)
 refine .join (ι := Bool) (fun g0 => ⟨[(1, ptr n1 0), (5, i64 (m.fBlocks.n : Int)), (6, i64 (m.fVotes.n : Int)), (7, i64 (m.fCuts.n : Int)), (8, i64 (m.fCerts.n : Int)), (9, .bool g0)], [⟨n1, m.cells, 57, m.cells.length⟩]⟩) (fun g0 => g0 = true ↔ D.hd) ?_ ?_
 ·
  refine G13 ?_
  refine .condP J (fun hc0 => ?_) (fun hc0 => ?_)
  ·
   refine G3 ?_
   refine two (fun r hr k => Tr.lss J J J J hr k) (fun hs5_20 => ?_) (fun hs5_20 => ?_)
   ·
    have hs5_2 := of_decide_eq_true hs5_20
    refine G2 ?_
    refine two (fun r hr k => Tr.leq J J J J hr k) (fun hs5_50 => ?_) (fun hs5_50 => ?_)
    ·
     have hs5_5 := of_decide_eq_true hs5_50
     refine G17 ?_
     refine ⟨_, ?_, Ag (wk1 J (wk1 J (wk1 J (wk1 J (wk1 J (wk1 J wk0)))))) (wh1 Z0 wh0) nD⟩
     (rw [hd_1 oM]; simp only [decide_eq_true_eq, Bool.false_eq_true, true_iff, false_iff]; omega)
    have hs5_5 := of_decide_eq_false hs5_50
    refine G17 ?_
    refine ⟨_, ?_, Ag (wk1 J (wk1 J (wk1 J (wk1 J (wk1 J (wk1 J wk0)))))) (wh1 Z0 wh0) nD⟩
    (rw [hd_1 oM]; simp only [decide_eq_true_eq, Bool.false_eq_true, true_iff, false_iff]; omega)
   have hs5_2 := of_decide_eq_false hs5_20
   refine G20 ?_
   refine ⟨_, ?_, Ag (wk1 J (wk1 J (wk1 J (wk1 J (wk1 J (wk1 J wk0)))))) (wh1 Z0 wh0) nD⟩
   (rw [hd_1 oM]; simp only [decide_eq_true_eq, Bool.false_eq_true, true_iff, false_iff]; omega)
  refine G6 ?_
  refine .condP J (fun hc1 => ?_) (fun hc1 => ?_)
  ·
   refine G3 ?_
   refine two (fun r hr k => Tr.eqi J J J J hr k) (fun hs7_20 => ?_) (fun hs7_20 => ?_)
   ·
    have hs7_2 := of_decide_eq_true hs7_20
    refine G2 ?_
    refine two (fun r hr k => Tr.leq J J J J hr k) (fun hs7_50 => ?_) (fun hs7_50 => ?_)
    ·
     have hs7_5 := of_decide_eq_true hs7_50
     refine G3 ?_
     refine two (fun r hr k => Tr.leq J J J J hr k) (fun hs7_90 => ?_) (fun hs7_90 => ?_)
     ·
      have hs7_9 := of_decide_eq_true hs7_90
      refine G15 ?_
      refine ⟨_, ?_, Ag (wk1 J (wk1 J (wk1 J (wk1 J (wk1 J (wk1 J wk0)))))) (wh1 Z0 wh0) nD⟩
      (rw [hd_2 oM]; simp only [decide_eq_true_eq, Bool.false_eq_true, true_iff, false_iff]; omega)
     have hs7_9 := of_decide_eq_false hs7_90
     refine G15 ?_
     refine ⟨_, ?_, Ag (wk1 J (wk1 J (wk1 J (wk1 J (wk1 J (wk1 J wk0)))))) (wh1 Z0 wh0) nD⟩
     (rw [hd_2 oM]; simp only [decide_eq_true_eq, Bool.false_eq_true, true_iff, false_iff]; omega)
    have hs7_5 := of_decide_eq_false hs7_50
    refine G19 ?_
    refine ⟨_, ?_, Ag (wk1 J (wk1 J (wk1 J (wk1 J (wk1 J (wk1 J wk0)))))) (wh1 Z0 wh0) nD⟩
    (rw [hd_2 oM]; simp only [decide_eq_true_eq, Bool.false_eq_true, true_iff, false_iff]; omega)
   have hs7_2 := of_decide_eq_false hs7_20
   refine G22 ?_
   refine ⟨_, ?_, Ag (wk1 J (wk1 J (wk1 J (wk1 J (wk1 J (wk1 J wk0)))))) (wh1 Z0 wh0) nD⟩
   (rw [hd_2 oM]; simp only [decide_eq_true_eq, Bool.false_eq_true, true_iff, false_iff]; omega)
  refine G6 ?_
  refine .condP J (fun hc2 => ?_) (fun hc2 => ?_)
  ·
   refine G3 ?_
   refine two (fun r hr k => Tr.eqi J J J J hr k) (fun hs9_20 => ?_) (fun hs9_20 => ?_)
   ·
    have hs9_2 := of_decide_eq_true hs9_20
    refine G10 ?_
    refine two (fun r hr k => Tr.eqi J J J J hr k) (fun hs9_130 => ?_) (fun hs9_130 => ?_)
    ·
     have hs9_13 := of_decide_eq_true hs9_130
     refine G3 ?_
     refine two (fun r hr k => Tr.geq J J J J hr k) (fun hs9_170 => ?_) (fun hs9_170 => ?_)
     ·
      have hs9_17 := of_decide_eq_true hs9_170
      refine G9 ?_
      refine ⟨_, ?_, Ag (wk1 J (wk1 J (wk1 J (wk1 J (wk1 J (wk1 J wk0)))))) (wh1 Z0 wh0) nD⟩
      (rw [hd_3 oM]; simp only [decide_eq_true_eq, Bool.false_eq_true, true_iff, false_iff]; omega)
     have hs9_17 := of_decide_eq_false hs9_170
     refine G9 ?_
     refine ⟨_, ?_, Ag (wk1 J (wk1 J (wk1 J (wk1 J (wk1 J (wk1 J wk0)))))) (wh1 Z0 wh0) nD⟩
     (rw [hd_3 oM]; simp only [decide_eq_true_eq, Bool.false_eq_true, true_iff, false_iff]; omega)
    have hs9_13 := of_decide_eq_false hs9_130
    refine G13 ?_
    refine ⟨_, ?_, Ag (wk1 J (wk1 J (wk1 J (wk1 J (wk1 J (wk1 J wk0)))))) (wh1 Z0 wh0) nD⟩
    (rw [hd_3 oM]; simp only [decide_eq_true_eq, Bool.false_eq_true, true_iff, false_iff]; omega)
   have hs9_2 := of_decide_eq_false hs9_20
   refine G24 ?_
   refine ⟨_, ?_, Ag (wk1 J (wk1 J (wk1 J (wk1 J (wk1 J (wk1 J wk0)))))) (wh1 Z0 wh0) nD⟩
   (rw [hd_3 oM]; simp only [decide_eq_true_eq, Bool.false_eq_true, true_iff, false_iff]; omega)
  refine G6 ?_
  refine .condP J (fun hc3 => ?_) (fun hc3 => ?_)
  ·
   refine G3 ?_
   refine two (fun r hr k => Tr.eqi J J J J hr k) (fun hs11_20 => ?_) (fun hs11_20 => ?_)
   ·
    have hs11_2 := of_decide_eq_true hs11_20
    refine G8 ?_
    refine two (fun r hr k => Tr.eqi J J J J hr k) (fun hs11_110 => ?_) (fun hs11_110 => ?_)
    ·
     have hs11_11 := of_decide_eq_true hs11_110
     refine G3 ?_
     refine two (fun r hr k => Tr.leq J J J J hr k) (fun hs11_150 => ?_) (fun hs11_150 => ?_)
     ·
      have hs11_15 := of_decide_eq_true hs11_150
      refine G3 ?_
      refine two (fun r hr k => Tr.leq J J J J hr k) (fun hs11_190 => ?_) (fun hs11_190 => ?_)
      ·
       have hs11_19 := of_decide_eq_true hs11_190
       refine G11 ?_
       refine ⟨_, ?_, Ag (wk1 J (wk1 J (wk1 J (wk1 J (wk1 J (wk1 J wk0)))))) (wh1 Z0 wh0) nD⟩
       (rw [hd_4 oM]; simp only [decide_eq_true_eq, Bool.false_eq_true, true_iff, false_iff]; omega)
      have hs11_19 := of_decide_eq_false hs11_190
      refine G11 ?_
      refine ⟨_, ?_, Ag (wk1 J (wk1 J (wk1 J (wk1 J (wk1 J (wk1 J wk0)))))) (wh1 Z0 wh0) nD⟩
      (rw [hd_4 oM]; simp only [decide_eq_true_eq, Bool.false_eq_true, true_iff, false_iff]; omega)
     have hs11_15 := of_decide_eq_false hs11_150
     refine G15 ?_
     refine ⟨_, ?_, Ag (wk1 J (wk1 J (wk1 J (wk1 J (wk1 J (wk1 J wk0)))))) (wh1 Z0 wh0) nD⟩
     (rw [hd_4 oM]; simp only [decide_eq_true_eq, Bool.false_eq_true, true_iff, false_iff]; omega)
    have hs11_11 := of_decide_eq_false hs11_110
    refine G19 ?_
    refine ⟨_, ?_, Ag (wk1 J (wk1 J (wk1 J (wk1 J (wk1 J (wk1 J wk0)))))) (wh1 Z0 wh0) nD⟩
    (rw [hd_4 oM]; simp only [decide_eq_true_eq, Bool.false_eq_true, true_iff, false_iff]; omega)
   have hs11_2 := of_decide_eq_false hs11_20
   refine G28 ?_
   refine ⟨_, ?_, Ag (wk1 J (wk1 J (wk1 J (wk1 J (wk1 J (wk1 J wk0)))))) (wh1 Z0 wh0) nD⟩
   (rw [hd_4 oM]; simp only [decide_eq_true_eq, Bool.false_eq_true, true_iff, false_iff]; omega)
  refine G6 ?_
  refine .condP J (fun hc4 => ?_) (fun hc4 => ?_)
  ·
   refine G3 ?_
   refine two (fun r hr k => Tr.eqi J J J J hr k) (fun hs13_20 => ?_) (fun hs13_20 => ?_)
   ·
    have hs13_2 := of_decide_eq_true hs13_20
    refine G10 ?_
    refine two (fun r hr k => Tr.eqi J J J J hr k) (fun hs13_130 => ?_) (fun hs13_130 => ?_)
    ·
     have hs13_13 := of_decide_eq_true hs13_130
     refine G3 ?_
     refine two (fun r hr k => Tr.geq J J J J hr k) (fun hs13_170 => ?_) (fun hs13_170 => ?_)
     ·
      have hs13_17 := of_decide_eq_true hs13_170
      refine G9 ?_
      refine ⟨_, ?_, Ag (wk1 J (wk1 J (wk1 J (wk1 J (wk1 J (wk1 J wk0)))))) (wh1 Z0 wh0) nD⟩
      (rw [hd_5 oM]; simp only [decide_eq_true_eq, Bool.false_eq_true, true_iff, false_iff]; omega)
     have hs13_17 := of_decide_eq_false hs13_170
     refine G9 ?_
     refine ⟨_, ?_, Ag (wk1 J (wk1 J (wk1 J (wk1 J (wk1 J (wk1 J wk0)))))) (wh1 Z0 wh0) nD⟩
     (rw [hd_5 oM]; simp only [decide_eq_true_eq, Bool.false_eq_true, true_iff, false_iff]; omega)
    have hs13_13 := of_decide_eq_false hs13_130
    refine G13 ?_
    refine ⟨_, ?_, Ag (wk1 J (wk1 J (wk1 J (wk1 J (wk1 J (wk1 J wk0)))))) (wh1 Z0 wh0) nD⟩
    (rw [hd_5 oM]; simp only [decide_eq_true_eq, Bool.false_eq_true, true_iff, false_iff]; omega)
   have hs13_2 := of_decide_eq_false hs13_20
   refine G24 ?_
   refine ⟨_, ?_, Ag (wk1 J (wk1 J (wk1 J (wk1 J (wk1 J (wk1 J wk0)))))) (wh1 Z0 wh0) nD⟩
   (rw [hd_5 oM]; simp only [decide_eq_true_eq, Bool.false_eq_true, true_iff, false_iff]; omega)
  refine G6 ?_
  refine .condP J (fun hc5 => ?_) (fun hc5 => ?_)
  ·
   refine G3 ?_
   refine two (fun r hr k => Tr.geq J J J J hr k) (fun hs15_20 => ?_) (fun hs15_20 => ?_)
   ·
    have hs15_2 := of_decide_eq_true hs15_20
    refine G3 ?_
    refine two (fun r hr k => Tr.lss J J J J hr k) (fun hs15_60 => ?_) (fun hs15_60 => ?_)
    ·
     have hs15_6 := of_decide_eq_true hs15_60
     refine G19 ?_
     refine ⟨_, ?_, Ag (wk1 J (wk1 J (wk1 J (wk1 J (wk1 J (wk1 J wk0)))))) (wh1 Z0 wh0) nD⟩
     (rw [hd_6 oM]; simp only [decide_eq_true_eq, Bool.false_eq_true, true_iff, false_iff]; omega)
    have hs15_6 := of_decide_eq_false hs15_60
    refine G19 ?_
    refine ⟨_, ?_, Ag (wk1 J (wk1 J (wk1 J (wk1 J (wk1 J (wk1 J wk0)))))) (wh1 Z0 wh0) nD⟩
    (rw [hd_6 oM]; simp only [decide_eq_true_eq, Bool.false_eq_true, true_iff, false_iff]; omega)
   have hs15_2 := of_decide_eq_false hs15_20
   refine G23 ?_
   refine ⟨_, ?_, Ag (wk1 J (wk1 J (wk1 J (wk1 J (wk1 J (wk1 J wk0)))))) (wh1 Z0 wh0) nD⟩
   (rw [hd_6 oM]; simp only [decide_eq_true_eq, Bool.false_eq_true, true_iff, false_iff]; omega)
  refine G3 ?_
  refine ⟨_, ?_, Ag (wk1 J (wk1 J (wk1 J (wk1 J (wk1 J (wk1 J wk0)))))) (wh1 Z0 wh0) nD⟩
  (simp only [Bool.false_eq_true, false_iff]; exact hd_out oM)
 intro g0 hj
 have hg0 := hj
 refine .join (ι := Bool) (fun g1 => ⟨[(1, ptr n1 0), (5, i64 (m.fBlocks.n : Int)), (6, i64 (m.fVotes.n : Int)), (7, i64 (m.fCuts.n : Int)), (8, i64 (m.fCerts.n : Int)), (9, .bool g1)], [⟨n1, m.cells, 57, m.cells.length⟩]⟩) (fun g1 => g1 = true ↔ (D.hd ∧ ∀ d ∈ D.dBlocks, d.check = 0)) ?_ ?_
 ·
  refine G6 ?_
  refine .loop (ι := Nat × Bool) (fun p => ⟨[(1, ptr n1 0), (5, i64 (m.fBlocks.n : Int)), (6, i64 (m.fVotes.n : Int)), (7, i64 (m.fCuts.n : Int)), (8, i64 (m.fCerts.n : Int)), (9, .bool p.2), (10, i64 (p.1 : Int))], [⟨n1, m.cells, 57, m.cells.length⟩]⟩) (fun p => p.1 ≤ m.fBlocks.n ∧ (p.2 = true ↔ D.hd ∧ ∀ d ∈ D.dBlocks.take p.1, d.check = 0)) (fun p => m.fBlocks.n - p.1) ((0, g0)) ?_ ?_ ?_
  · exact ⟨Nat.zero_le _, by simp only [List.take_zero, List.not_mem_nil, false_implies, implies_true, and_true]; exact hg0⟩
  · exact Ag (wk1 rfl (wk1 rfl (wk1 rfl (wk1 rfl (wk1 rfl (wk1 rfl (wk1 rfl wk0))))))) (wh1 Z0 wh0) nD
  rintro p ⟨hp1, hp2⟩
  refine G5 ?_
  refine two (fun r hr k => Tr.lss J J J J hr k) (fun hs17_20 => ?_) (fun hs17_20 => ?_)
  ·
   have hs17_2 := of_decide_eq_true hs17_20
   refine G5 ?_
   refine .cond J (fun hc6 => ?_) (fun hc6 => ?_)
   ·
    obtain ⟨b, o, r, d, hsp, hr, hd, his, hlen, hsee⟩ := hsB.at dE (show p.1 < m.fBlocks.n by omega)
    refine G8 ?_
    refine .idxSlP 131 J J J hsp J Y22.h Sz79 p.1 J oM (.loadEN r.cells J J J Y79.h J Sz79 sP hlen hsee (.cV J J J J Body154 (r15_Check r d) (fun w h => his.ext h J) (G11 ?_)))
    exact ⟨(p.1 + 1, decide (d.check = 0)), ⟨by simp only []; omega, by simp only []; rw [all_step hd, decide_eq_true_eq]; exact ⟨fun h => ⟨(hp2.1 hc6).1, (hp2.1 hc6).2, h⟩, fun h => h.2.2⟩⟩, by simp only []; omega, Ag (wk1 rfl (wk1 rfl (wk1 rfl (wk1 rfl (wk1 rfl (wk1 rfl (wk1 rfl wk0))))))) (wh1 Z0 wh0) nD⟩
   refine G5 ?_
   exact ⟨p.2, all_end hp2 (by rw [← hl.blocks]; (right; assumption)), Ag (wk1 rfl (wk1 rfl (wk1 rfl (wk1 rfl (wk1 rfl (wk1 rfl wk0)))))) (wh1 Z0 wh0) nD⟩
  have hs17_2 := of_decide_eq_false hs17_20
  refine G5 ?_
  refine .cond_f J J (G5 ?_)
  exact ⟨p.2, all_end hp2 (by rw [← hl.blocks]; (left; omega)), Ag (wk1 rfl (wk1 rfl (wk1 rfl (wk1 rfl (wk1 rfl (wk1 rfl wk0)))))) (wh1 Z0 wh0) nD⟩
 intro g1 hj
 have hg1 := hj
 refine .join (ι := Bool) (fun g2 => ⟨[(1, ptr n1 0), (5, i64 (m.fBlocks.n : Int)), (6, i64 (m.fVotes.n : Int)), (7, i64 (m.fCuts.n : Int)), (8, i64 (m.fCerts.n : Int)), (9, .bool g2)], [⟨n1, m.cells, 57, m.cells.length⟩]⟩) (fun g2 => g2 = true ↔ ((D.hd ∧ ∀ d ∈ D.dBlocks, d.check = 0) ∧ ∀ d ∈ D.dVotes, A5 d = 0)) ?_ ?_
 ·
  refine G6 ?_
  refine .loop (ι := Nat × Bool) (fun p => ⟨[(1, ptr n1 0), (5, i64 (m.fBlocks.n : Int)), (6, i64 (m.fVotes.n : Int)), (7, i64 (m.fCuts.n : Int)), (8, i64 (m.fCerts.n : Int)), (9, .bool p.2), (11, i64 (p.1 : Int))], [⟨n1, m.cells, 57, m.cells.length⟩]⟩) (fun p => p.1 ≤ m.fVotes.n ∧ (p.2 = true ↔ (D.hd ∧ ∀ d ∈ D.dBlocks, d.check = 0) ∧ ∀ d ∈ D.dVotes.take p.1, A5 d = 0)) (fun p => m.fVotes.n - p.1) ((0, g1)) ?_ ?_ ?_
  · exact ⟨Nat.zero_le _, by simp only [List.take_zero, List.not_mem_nil, false_implies, implies_true, and_true]; exact hg1⟩
  · exact Ag (wk1 rfl (wk1 rfl (wk1 rfl (wk1 rfl (wk1 rfl (wk1 rfl (wk1 rfl wk0))))))) (wh1 Z0 wh0) nD
  rintro p ⟨hp1, hp2⟩
  refine G5 ?_
  refine two (fun r hr k => Tr.lss J J J J hr k) (fun hs21_20 => ?_) (fun hs21_20 => ?_)
  ·
   have hs21_2 := of_decide_eq_true hs21_20
   refine G5 ?_
   refine .cond J (fun hc7 => ?_) (fun hc7 => ?_)
   ·
    obtain ⟨b, o, r, d, hsp, hr, hd, his, hlen, hsee⟩ := hsV.at dE (show p.1 < m.fVotes.n by omega)
    obtain rfl := his.eq
    refine G8 ?_
    refine .idxSlP 132 J J J hsp J Y24.h Sz81 p.1 J oM (.loadEN r.cells J J J Y81.h J Sz81 sP hlen hsee (.cV J J J J Body143 (r20_Check r his.ok) tV (G11 ?_)))
    exact ⟨(p.1 + 1, decide (A5 r = 0)), ⟨by simp only []; omega, by simp only []; rw [all_step hd, decide_eq_true_eq]; exact ⟨fun h => ⟨(hp2.1 hc7).1, (hp2.1 hc7).2, h⟩, fun h => h.2.2⟩⟩, by simp only []; omega, Ag (wk1 rfl (wk1 rfl (wk1 rfl (wk1 rfl (wk1 rfl (wk1 rfl (wk1 rfl wk0))))))) (wh1 Z0 wh0) nD⟩
   refine G5 ?_
   exact ⟨p.2, all_end hp2 (by rw [← hl.votes]; (right; assumption)), Ag (wk1 rfl (wk1 rfl (wk1 rfl (wk1 rfl (wk1 rfl (wk1 rfl wk0)))))) (wh1 Z0 wh0) nD⟩
  have hs21_2 := of_decide_eq_false hs21_20
  refine G5 ?_
  refine .cond_f J J (G5 ?_)
  exact ⟨p.2, all_end hp2 (by rw [← hl.votes]; (left; omega)), Ag (wk1 rfl (wk1 rfl (wk1 rfl (wk1 rfl (wk1 rfl (wk1 rfl wk0)))))) (wh1 Z0 wh0) nD⟩
 intro g2 hj
 have hg2 := hj
 refine .join (ι := Bool) (fun g3 => ⟨[(1, ptr n1 0), (5, i64 (m.fBlocks.n : Int)), (6, i64 (m.fVotes.n : Int)), (7, i64 (m.fCuts.n : Int)), (8, i64 (m.fCerts.n : Int)), (9, .bool g3)], [⟨n1, m.cells, 57, m.cells.length⟩]⟩) (fun g3 => g3 = true ↔ (((D.hd ∧ ∀ d ∈ D.dBlocks, d.check = 0) ∧ ∀ d ∈ D.dVotes, A5 d = 0) ∧ ∀ d ∈ D.dCuts, d.check = 0)) ?_ ?_
 ·
  refine G6 ?_
  refine .loop (ι := Nat × Bool) (fun p => ⟨[(1, ptr n1 0), (5, i64 (m.fBlocks.n : Int)), (6, i64 (m.fVotes.n : Int)), (7, i64 (m.fCuts.n : Int)), (8, i64 (m.fCerts.n : Int)), (9, .bool p.2), (12, i64 (p.1 : Int))], [⟨n1, m.cells, 57, m.cells.length⟩]⟩) (fun p => p.1 ≤ m.fCuts.n ∧ (p.2 = true ↔ ((D.hd ∧ ∀ d ∈ D.dBlocks, d.check = 0) ∧ ∀ d ∈ D.dVotes, A5 d = 0) ∧ ∀ d ∈ D.dCuts.take p.1, d.check = 0)) (fun p => m.fCuts.n - p.1) ((0, g2)) ?_ ?_ ?_
  · exact ⟨Nat.zero_le _, by simp only [List.take_zero, List.not_mem_nil, false_implies, implies_true, and_true]; exact hg2⟩
  · exact Ag (wk1 rfl (wk1 rfl (wk1 rfl (wk1 rfl (wk1 rfl (wk1 rfl (wk1 rfl wk0))))))) (wh1 Z0 wh0) nD
  rintro p ⟨hp1, hp2⟩
  refine G5 ?_
  refine two (fun r hr k => Tr.lss J J J J hr k) (fun hs25_20 => ?_) (fun hs25_20 => ?_)
  ·
   have hs25_2 := of_decide_eq_true hs25_20
   refine G5 ?_
   refine .cond J (fun hc8 => ?_) (fun hc8 => ?_)
   ·
    obtain ⟨b, o, r, d, hsp, hr, hd, his, hlen, hsee⟩ := hsC.at dE (show p.1 < m.fCuts.n by omega)
    refine G8 ?_
    refine .idxSlP 34 J J J hsp J Y25.h Sz53 p.1 J oM (.loadEN r.cells J J J Y53.h J Sz53 sP hlen hsee (.cV J J J J Body141 (r19_Check r d) (fun w h => his.ext h J) (G11 ?_)))
    exact ⟨(p.1 + 1, decide (d.check = 0)), ⟨by simp only []; omega, by simp only []; rw [all_step hd, decide_eq_true_eq]; exact ⟨fun h => ⟨(hp2.1 hc8).1, (hp2.1 hc8).2, h⟩, fun h => h.2.2⟩⟩, by simp only []; omega, Ag (wk1 rfl (wk1 rfl (wk1 rfl (wk1 rfl (wk1 rfl (wk1 rfl (wk1 rfl wk0))))))) (wh1 Z0 wh0) nD⟩
   refine G5 ?_
   exact ⟨p.2, all_end hp2 (by rw [← hl.cuts]; (right; assumption)), Ag (wk1 rfl (wk1 rfl (wk1 rfl (wk1 rfl (wk1 rfl (wk1 rfl wk0)))))) (wh1 Z0 wh0) nD⟩
  have hs25_2 := of_decide_eq_false hs25_20
  refine G5 ?_
  refine .cond_f J J (G5 ?_)
  exact ⟨p.2, all_end hp2 (by rw [← hl.cuts]; (left; omega)), Ag (wk1 rfl (wk1 rfl (wk1 rfl (wk1 rfl (wk1 rfl (wk1 rfl wk0)))))) (wh1 Z0 wh0) nD⟩
 intro g3 hj
 have hg3 := hj
 refine .join (ι := Bool) (fun g4 => ⟨[(1, ptr n1 0), (5, i64 (m.fBlocks.n : Int)), (6, i64 (m.fVotes.n : Int)), (7, i64 (m.fCuts.n : Int)), (8, i64 (m.fCerts.n : Int)), (9, .bool g4)], [⟨n1, m.cells, 57, m.cells.length⟩]⟩) (fun g4 => g4 = true ↔ ((((D.hd ∧ ∀ d ∈ D.dBlocks, d.check = 0) ∧ ∀ d ∈ D.dVotes, A5 d = 0) ∧ ∀ d ∈ D.dCuts, d.check = 0) ∧ ∀ d ∈ D.dCerts, d.check = 0)) ?_ ?_
 ·
  refine G6 ?_
  refine .loop (ι := Nat × Bool) (fun p => ⟨[(1, ptr n1 0), (5, i64 (m.fBlocks.n : Int)), (6, i64 (m.fVotes.n : Int)), (7, i64 (m.fCuts.n : Int)), (8, i64 (m.fCerts.n : Int)), (9, .bool p.2), (13, i64 (p.1 : Int))], [⟨n1, m.cells, 57, m.cells.length⟩]⟩) (fun p => p.1 ≤ m.fCerts.n ∧ (p.2 = true ↔ (((D.hd ∧ ∀ d ∈ D.dBlocks, d.check = 0) ∧ ∀ d ∈ D.dVotes, A5 d = 0) ∧ ∀ d ∈ D.dCuts, d.check = 0) ∧ ∀ d ∈ D.dCerts.take p.1, d.check = 0)) (fun p => m.fCerts.n - p.1) ((0, g3)) ?_ ?_ ?_
  · exact ⟨Nat.zero_le _, by simp only [List.take_zero, List.not_mem_nil, false_implies, implies_true, and_true]; exact hg3⟩
  · exact Ag (wk1 rfl (wk1 rfl (wk1 rfl (wk1 rfl (wk1 rfl (wk1 rfl (wk1 rfl wk0))))))) (wh1 Z0 wh0) nD
  rintro p ⟨hp1, hp2⟩
  refine G5 ?_
  refine two (fun r hr k => Tr.lss J J J J hr k) (fun hs29_20 => ?_) (fun hs29_20 => ?_)
  ·
   have hs29_2 := of_decide_eq_true hs29_20
   refine G5 ?_
   refine .cond J (fun hc9 => ?_) (fun hc9 => ?_)
   ·
    obtain ⟨b, o, r, d, hsp, hr, hd, his, hlen, hsee⟩ := hsX.at dE (show p.1 < m.fCerts.n by omega)
    refine G8 ?_
    refine .idxSlP 35 J J J hsp J Y23.h Sz55 p.1 J oM (.loadEN r.cells J J J Y55.h J Sz55 sP hlen hsee (.cV J J J J Body42 (r25_CheckCert r d) (fun w h => his.ext h J) (G11 ?_)))
    exact ⟨(p.1 + 1, decide (d.check = 0)), ⟨by simp only []; omega, by simp only []; rw [all_step hd, decide_eq_true_eq]; exact ⟨fun h => ⟨(hp2.1 hc9).1, (hp2.1 hc9).2, h⟩, fun h => h.2.2⟩⟩, by simp only []; omega, Ag (wk1 rfl (wk1 rfl (wk1 rfl (wk1 rfl (wk1 rfl (wk1 rfl (wk1 rfl wk0))))))) (wh1 Z0 wh0) nD⟩
   refine G5 ?_
   exact ⟨p.2, all_end hp2 (by rw [← hl.certs]; (right; assumption)), Ag (wk1 rfl (wk1 rfl (wk1 rfl (wk1 rfl (wk1 rfl (wk1 rfl wk0)))))) (wh1 Z0 wh0) nD⟩
  have hs29_2 := of_decide_eq_false hs29_20
  refine G5 ?_
  refine .cond_f J J (G5 ?_)
  exact ⟨p.2, all_end hp2 (by rw [← hl.certs]; (left; omega)), Ag (wk1 rfl (wk1 rfl (wk1 rfl (wk1 rfl (wk1 rfl (wk1 rfl wk0)))))) (wh1 Z0 wh0) nD⟩
 intro g4 hj
 have hg4 := hj
 refine G7 ?_
 refine .cond J (fun hc10 => ?_) (fun hc10 => ?_)
 ·
  refine G8 ?_
  refine ⟨_, [], Ac J J, sP, sP, ?_, rfl⟩
  exact congrArg i64 (msg_two fun h => by have := hg4.2 ((valid_all D).1 h); simp_all).symm
 refine G9 ?_
 refine ⟨_, [], Ac J J, sP, sP, ?_, rfl⟩
 exact congrArg i64 ((valid_all D).2 (hg4.1 (by simpa using hc10))).symm

theorem r25_digests (a : Option Addr) (n c : Nat) (l : List UInt8) (s : Sl) (ls : List (List UInt8)) (hl : l.length = n) (hp : a = none → n = 0) (hn : n ≤ 50000) (hs : ls.length ≤ 1000) : Meets Tryz.prog 148 [.slice a n c, s.v] [] (fun W => SeesP W a (Aa l) ∧ RowsAt W s 32 ls) (fun v out => ∃ s2, v = s2.v ∧ Hw.Acc s2 out (Aa (l ++ Ap (UInt64.ofNat ls.length) ++ ls.flatten)) 5 (l ++ Ap (UInt64.ofNat ls.length) ++ ls.flatten).length 1) := by
 intro W hW
 have hll := hW.2.len
 have hz := A2 ls.length
 have hon := A6 (n := ls.length) oM
 subst hl
 refine Ak Tryz.func148 J 24 Tryz.ntmps148 J (G11 ?_)
 rw [Cf (n := s.n) oM, ← hll]
 refine .call4 J J J J J Body132 (Cr a l.length c l (UInt64.ofNat ls.length) J hp oM) (fun w h => Ao h J hW.1) ?_
 rintro v10 out10 ⟨q10, c10, rfl, hc10, rfl⟩
 rw [hon] at hc10 ⊢
 refine G10 ?_
 refine .loop (ι := Nat × Sl × List Blk) (fun p => ⟨[(0, p.2.1.v), (1, s.v), (5, i64 (p.1 : Int))], (p.2.2 ++ [])⟩) (fun p => p.1 ≤ s.n ∧ Hw.Acc p.2.1 p.2.2 (Aa (l ++ Ap (UInt64.ofNat ls.length) ++ (ls.take (p.1)).flatten)) 5 (l.length + szN ls.length + p.1 * 32) 1) (fun p => s.n - p.1) ((0, ⟨some ⟨q10, 0, none⟩, l.length + szN ls.length, c10⟩, [⟨q10, Aa (l ++ Ap (UInt64.ofNat ls.length)), 5, c10 * 1⟩])) ?_ ?_ ?_
 · exact ⟨Nat.zero_le _, by simp only [List.take_zero, List.flatten_nil, List.append_nil, Nat.zero_mul, Nat.add_zero]; exact Acc.some hc10 (by rw [Aa, List.length_map, List.length_append, Am, hon, Nat.mul_one])⟩
 · exact Ae (wk1 rfl (wk1 rfl (wk1 rfl wk0))) (pm_one (Ab rM Ad))
 rintro p ⟨hp1, hap⟩
 refine G9 ?_
 refine .condP J (fun hc0 => ?_) (fun hc0 => ?_)
 ·
  have hk2 : p.1 < s.n := by omega
  obtain ⟨b, o, hbp, hbs⟩ := hW.2.see.at (by rw [Bk hW.2.row]; omega)
  have hr0 : (ls.getD p.1 []).length = 32 := Bh hW.2.row oM
  refine G8 ?_
  refine .idxSlP 32 J J J hbp J Y51.h Sz50 p.1 J oM (G1 ?_)
  refine .appendAcc (z := u8 0) (by' := 1) (Aa (ls.getD p.1 [])) J J J J J Y58.h Y58.h Sz5 Zr5 (by unfold By; kernel_rfl) J hap sG (fun w h => Ao h J (SeesP.of (Cq hW.2.row hbs (by rw [hll]; omega)))) (fun e => by cases e) (Ay _) oM oM (by rw [Aa, List.length_map, hr0]) ?_
  intro s22 bl22 hac22
  refine G10 ?_
  refine ⟨(p.1 + 1, s22, bl22), ⟨by simp only []; omega, ?_⟩, by simp only []; omega, Ae (wk1 J (wk1 J (wk1 (by rw [Int.natCast_add]; rfl) wk0))) (Aj sG Ad)⟩
  rw [show (l.length + szN ls.length + (p.1 + 1) * 32) = (l.length + szN ls.length + p.1 * 32) + 32 by omega, flatten_take_step oM, ← List.append_assoc, B1]
  exact hac22
 have hpe : p.1 = s.n := by omega
 refine G13 ?_
 refine Ai (out := (p.2.2 ++ [])) (Ac J J) (Aj sG Ad) ?_
 refine ⟨p.2.1, rfl, ?_⟩
 rw [hpe, ← hll, List.take_length] at hap
 rw [show (l ++ Ap (UInt64.ofNat ls.length) ++ ls.flatten).length = l.length + szN ls.length + ls.length * 32 by rw [List.length_append, List.length_append, Am, hon, flat32 hW.2.row]]
 rw [List.append_nil]
 exact hap
theorem msgB_1 {D : DMsg} (h : D.dKind = 1) : msgB D = [Hw.Ax D.dKind] ++ Ap D.dHeight ++ Ap (UInt64.ofNat D.dHeads.length) ++ D.dHeads.flatten := by
  have h1 : D.has 1 := by unfold DMsg.has; rw [h]; decide
  have h2 : D.has 2 := by unfold DMsg.has; rw [h]; decide
  have h4 : ¬ D.has 4 := by unfold DMsg.has; rw [h]; decide
  have h8 : ¬ D.has 8 := by unfold DMsg.has; rw [h]; decide
  have h16 : ¬ D.has 16 := by unfold DMsg.has; rw [h]; decide
  have h32 : ¬ D.has 32 := by unfold DMsg.has; rw [h]; decide
  have h64 : ¬ D.has 64 := by unfold DMsg.has; rw [h]; decide
  rw [msgB, if_neg h64, mB6, if_neg h32, mB5, if_neg h16, mB4, if_neg h8, mB3, if_neg h4, mB2, if_pos h2, mB1, if_pos h1]
theorem msgB_2 {D : DMsg} (h : D.dKind = 2) : msgB D = [Hw.Ax D.dKind] ++ Ap (UInt64.ofNat D.dHeads.length) ++ D.dHeads.flatten ++ Ap (UInt64.ofNat D.dWant.length) ++ D.dWant.flatten := by
  have h1 : ¬ D.has 1 := by unfold DMsg.has; rw [h]; decide
  have h2 : D.has 2 := by unfold DMsg.has; rw [h]; decide
  have h4 : D.has 4 := by unfold DMsg.has; rw [h]; decide
  have h8 : ¬ D.has 8 := by unfold DMsg.has; rw [h]; decide
  have h16 : ¬ D.has 16 := by unfold DMsg.has; rw [h]; decide
  have h32 : ¬ D.has 32 := by unfold DMsg.has; rw [h]; decide
  have h64 : ¬ D.has 64 := by unfold DMsg.has; rw [h]; decide
  rw [msgB, if_neg h64, mB6, if_neg h32, mB5, if_neg h16, mB4, if_neg h8, mB3, if_pos h4, mB2, if_pos h2, mB1, if_neg h1]
theorem msgB_3 {D : DMsg} (h : D.dKind = 3) : msgB D = [Hw.Ax D.dKind] ++ Ap (UInt64.ofNat D.dBlocks.length) ++ Av A9 D.dBlocks := by
  have h1 : ¬ D.has 1 := by unfold DMsg.has; rw [h]; decide
  have h2 : ¬ D.has 2 := by unfold DMsg.has; rw [h]; decide
  have h4 : ¬ D.has 4 := by unfold DMsg.has; rw [h]; decide
  have h8 : D.has 8 := by unfold DMsg.has; rw [h]; decide
  have h16 : ¬ D.has 16 := by unfold DMsg.has; rw [h]; decide
  have h32 : ¬ D.has 32 := by unfold DMsg.has; rw [h]; decide
  have h64 : ¬ D.has 64 := by unfold DMsg.has; rw [h]; decide
  rw [msgB, if_neg h64, mB6, if_neg h32, mB5, if_neg h16, mB4, if_pos h8, mB3, if_neg h4, mB2, if_neg h2, mB1, if_neg h1]
theorem msgB_4 {D : DMsg} (h : D.dKind = 4) : msgB D = [Hw.Ax D.dKind] ++ Ap (UInt64.ofNat D.dVotes.length) ++ Av A4 D.dVotes ++ Ap (UInt64.ofNat D.dCuts.length) ++ Av Br D.dCuts := by
  have h1 : ¬ D.has 1 := by unfold DMsg.has; rw [h]; decide
  have h2 : ¬ D.has 2 := by unfold DMsg.has; rw [h]; decide
  have h4 : ¬ D.has 4 := by unfold DMsg.has; rw [h]; decide
  have h8 : ¬ D.has 8 := by unfold DMsg.has; rw [h]; decide
  have h16 : D.has 16 := by unfold DMsg.has; rw [h]; decide
  have h32 : D.has 32 := by unfold DMsg.has; rw [h]; decide
  have h64 : ¬ D.has 64 := by unfold DMsg.has; rw [h]; decide
  rw [msgB, if_neg h64, mB6, if_pos h32, mB5, if_pos h16, mB4, if_neg h8, mB3, if_neg h4, mB2, if_neg h2, mB1, if_neg h1]
theorem msgB_5 {D : DMsg} (h : D.dKind = 5) : msgB D = [Hw.Ax D.dKind] ++ Ap (UInt64.ofNat D.dCerts.length) ++ Av Bg D.dCerts := by
  have h1 : ¬ D.has 1 := by unfold DMsg.has; rw [h]; decide
  have h2 : ¬ D.has 2 := by unfold DMsg.has; rw [h]; decide
  have h4 : ¬ D.has 4 := by unfold DMsg.has; rw [h]; decide
  have h8 : ¬ D.has 8 := by unfold DMsg.has; rw [h]; decide
  have h16 : ¬ D.has 16 := by unfold DMsg.has; rw [h]; decide
  have h32 : ¬ D.has 32 := by unfold DMsg.has; rw [h]; decide
  have h64 : D.has 64 := by unfold DMsg.has; rw [h]; decide
  rw [msgB, if_pos h64, mB6, if_neg h32, mB5, if_neg h16, mB4, if_neg h8, mB3, if_neg h4, mB2, if_neg h2, mB1, if_neg h1]
theorem msgB_6 {D : DMsg} (h : D.dKind = 6) : msgB D = [Hw.Ax D.dKind] ++ Ap D.dHeight := by
  have h1 : D.has 1 := by unfold DMsg.has; rw [h]; decide
  have h2 : ¬ D.has 2 := by unfold DMsg.has; rw [h]; decide
  have h4 : ¬ D.has 4 := by unfold DMsg.has; rw [h]; decide
  have h8 : ¬ D.has 8 := by unfold DMsg.has; rw [h]; decide
  have h16 : ¬ D.has 16 := by unfold DMsg.has; rw [h]; decide
  have h32 : ¬ D.has 32 := by unfold DMsg.has; rw [h]; decide
  have h64 : ¬ D.has 64 := by unfold DMsg.has; rw [h]; decide
  rw [msgB, if_neg h64, mB6, if_neg h32, mB5, if_neg h16, mB4, if_neg h8, mB3, if_neg h4, mB2, if_neg h2, mB1, if_pos h1]
theorem listB_take_len {α : Type} (f : α → List UInt8) (ds : List α) (k : Nat) : (Av f (ds.take k)).length ≤ (Av f ds).length := by
  have e : Av f ds = Av f (ds.take k) ++ Av f (ds.drop k) := by unfold Av; rw [← List.flatten_append, ← List.map_append, List.take_append_drop]
  rw [e, List.length_append]; omega


theorem r25_Bytes (m : Msg) (D : DMsg) (few : D.Few) : Meets Tryz.prog 44 [agg m.cells] [] (fun W => MsgIs W m D) (fun v out => ∃ s, v = .tuple #[s.v, i64 D.check] ∧ Hw.Acc s out (Aa (msgR D)) 5 (msgR D).length 1) := by
  intro W hW
  have hok := hW.ok
  have hl := hW.len
  have hoks := msg_oks hW
  have eK := hW.fKind
  obtain ⟨rsB, hsB⟩ := hW.fBlocks
  obtain ⟨rsV, hsV⟩ := hW.fVotes
  obtain ⟨rsC, hsC⟩ := hW.fCuts
  obtain ⟨rsX, hsX⟩ := hW.fCerts
  refine Ak Tryz.func44 J 157 Tryz.ntmps44 J (G3 ?_)
  intro n1 hn1 hf1
  refine G8 ?_
  refine .cV J J J J Body46 (r25_Check m D few) (fun w h => hW.ext h J) (G3 ?_)
  refine .condNP J (fun hc0 => ?_) (fun hc0 => ?_)
  ·
    refine G9 ?_
    refine Ai (out := []) (A7 J J J) Ad ?_
    exact ⟨Sl.nil, by rw [msg_two hc0]; rfl, by rw [show msgR D = [] from if_neg hc0]; exact Acc.none⟩
  have hz := msg_sizes hc0
  have hbz := msg_bsz hz hoks
  have hz7 := hbz.b7
  clear hbz
  have y1 := hz.h
  have y2 := hz.w
  have y3 := hz.b
  have y4 := hz.v
  have y5 := hz.c
  have y6 := hz.e
  have k1 := hl.heads
  have k2 := hl.want
  have k3 := hl.blocks
  have k4 := hl.votes
  have k5 := hl.cuts
  have k6 := hl.certs
  have hkd := ((valid_iff D).1 hc0).1.1
  refine G7 ?_
  rw [hW.fKind]
  refine .mkRow (z := u8 0) [u8 (Hw.Ax D.dKind)] (Aa [Hw.Ax D.dKind]) J J J Y58.h Sz5 Zr5 J J (by intro v hv; rw [List.mem_singleton.1 hv]; rfl) dE J ?_
  intro q23
  refine G3 ?_
  refine .join (ι := Sl × List Blk) (fun j => ⟨[(1, ptr n1 0), (4, j.1.v)], (j.2 ++ (⟨n1, m.cells, 57, m.cells.length⟩ :: []))⟩) (fun j => Hw.Acc j.1 j.2 (Aa (msgB D)) 5 (msgB D).length 1) ?_ ?_
  ·
    refine G13 ?_
    refine .condP J (fun hc1 => ?_) (fun hc1 => ?_)
    ·
      refine .withK (sp_v (sp_k sp_n)) J (.draw [(0, 0), (0, 1), (0, 2), (0, 4), (0, 5), (4, 3), (4, 6), (0, 7)] Be zK (G2 ?_))
      refine .kload1 J J J Y48.h J Z0 (by exact Msg.get_fHeight zA) ?_
      refine G1 ?_
      refine .kload1 J J J Y51.h J Z0 (by exact Msg.get_fHeads zA) ?_
      refine .call4 J J J J J Body132 (Cr (some ⟨q23, 0, none⟩) 1 1 [Hw.Ax D.dKind] m.fHeight J (fun e => by cases e) dE) (fun w h => SeesP.of (Ah (cs := Aa ([Hw.Ax D.dKind])) h Z0)) ?_
      rintro v31 out31 ⟨q31, c31, rfl, hc31, rfl⟩
      rw [hW.fHeight] at hc31 ⊢
      rw [show 1 + szN D.dHeight.toNat = ([Hw.Ax D.dKind] ++ Ap D.dHeight).length by simp only [List.length_append, Am, List.length_singleton]] at hc31 ⊢
      refine .call4 J J J J J Body148 (r25_digests (some ⟨q31, 0, none⟩) ([Hw.Ax D.dKind] ++ Ap D.dHeight).length c31 ([Hw.Ax D.dKind] ++ Ap D.dHeight) m.fHeads D.dHeads J (fun e => by cases e) (by have := (A2 D.dHeight.toNat).2; simp only [List.length_append, Am, List.length_singleton]; omega) oM) (fun w h => ⟨SeesP.of (Ah (cs := Aa ([Hw.Ax D.dKind] ++ Ap D.dHeight)) h Z0), rows_ext h J hW.fHeads⟩) ?_
      rintro v34 out34 ⟨s34, rfl, hac34⟩
      have hn34 := hac34.num
      refine G4 ?_
      first
        | (try simp only [@List.append_assoc Blk, @List.cons_append Blk, @List.nil_append Blk]
           refine ⟨(s34, out34), ?_, Ae (wk1 J (wk1 J wk0)) (Aj sG (Ab rM Ad))⟩
           rw [msgB_1 oM]
           exact hac34)
    refine G6 ?_
    refine .condP J (fun hc2 => ?_) (fun hc2 => ?_)
    ·
      refine .withK (sp_v (sp_k sp_n)) J (.draw [(0, 0), (0, 1), (0, 2), (0, 4), (0, 5), (4, 3), (4, 6), (0, 7)] Be zK (G2 ?_))
      refine .kload1 J J J Y51.h J Z0 (by exact Msg.get_fHeads zA) ?_
      refine G1 ?_
      refine .kload1 J J J Y51.h J Z0 (by exact Msg.get_fWant zA) ?_
      refine .call4 J J J J J Body148 (r25_digests (some ⟨q23, 0, none⟩) 1 1 ([Hw.Ax D.dKind]) m.fHeads D.dHeads J (fun e => by cases e) dE oM) (fun w h => ⟨SeesP.of (Ah (cs := Aa ([Hw.Ax D.dKind])) h Z0), rows_ext h J hW.fHeads⟩) ?_
      rintro v40 out40 ⟨s40, rfl, hac40⟩
      have hn40 := hac40.num
      refine .call4 J J J J J Body148 (r25_digests s40.p s40.n s40.c ([Hw.Ax D.dKind] ++ Ap (UInt64.ofNat D.dHeads.length) ++ D.dHeads.flatten) m.fWant D.dWant hn40.symm (fun e => hac40.nil e) (by have := nb_le D.dHeads.length oM; have := flat32 hoks.h; simp only [List.length_append, List.length_singleton] at hn40 ⊢; omega) oM) (fun w h => ⟨hac40.see (Lies.of h (by repeat (exact Ar))), rows_ext h J hW.fWant⟩) ?_
      rintro v43 out43 ⟨s43, rfl, hac43⟩
      have hn43 := hac43.num
      refine G4 ?_
      first
        | (try simp only [@List.append_assoc Blk, @List.cons_append Blk, @List.nil_append Blk]
           refine ⟨(s43, out43), ?_, Ae (wk1 J (wk1 J wk0)) (Aj sG (Ab rM Ad))⟩
           rw [msgB_2 oM]
           exact hac43)
    refine G6 ?_
    refine .condP J (fun hc3 => ?_) (fun hc3 => ?_)
    ·
      refine G7 ?_
      rw [Cf (n := m.fBlocks.n) oM, hl.blocks]
      refine .call4 J J J J J Body132 (Cr (some ⟨q23, 0, none⟩) 1 1 ([Hw.Ax D.dKind]) (UInt64.ofNat D.dBlocks.length) J (fun e => by cases e) oM) (fun w h => SeesP.of (Ah (cs := Aa ([Hw.Ax D.dKind])) h Z0)) ?_
      rintro v51 out51 ⟨q51, c51, rfl, hc51, rfl⟩
      have e51 : 1 + szN (UInt64.ofNat D.dBlocks.length).toNat = ([Hw.Ax D.dKind] ++ Ap (UInt64.ofNat D.dBlocks.length) ++ Av A9 (D.dBlocks.take 0)).length := by simp only [List.length_append, List.take_zero, Av, List.map_nil, List.flatten_nil, List.length_nil, List.length_singleton, Am, Nat.add_zero]
      rw [e51] at hc51 ⊢
      refine G9 ?_
      refine .loop (ι := Nat × Nat × Nat) (fun p => ⟨[(1, ptr n1 0), (4, .slice (some ⟨p.2.1, 0, none⟩) ([Hw.Ax D.dKind] ++ Ap (UInt64.ofNat D.dBlocks.length) ++ Av A9 (D.dBlocks.take p.1)).length p.2.2), (5, i64 (p.1 : Int))], [⟨p.2.1, Aa ([Hw.Ax D.dKind] ++ Ap (UInt64.ofNat D.dBlocks.length) ++ Av A9 (D.dBlocks.take p.1)), 5, p.2.2 * 1⟩, ⟨n1, m.cells, 57, m.cells.length⟩]⟩) (fun p => p.1 ≤ m.fBlocks.n ∧ ([Hw.Ax D.dKind] ++ Ap (UInt64.ofNat D.dBlocks.length) ++ Av A9 (D.dBlocks.take p.1)).length ≤ p.2.2) (fun p => m.fBlocks.n - p.1) ((0, q51, c51)) ?_ ?_ ?_
      · exact ⟨Nat.zero_le _, hc51⟩
      · exact Ae (wk1 rfl (wk1 rfl (wk1 rfl wk0))) (Cg rM (by simp only [List.take_zero, Av, List.map_nil, List.flatten_nil, List.append_nil]) rfl (Ab rM Ad))
      rintro p ⟨hp1, hp2⟩
      have hle : ∀ k, ([Hw.Ax D.dKind] ++ Ap (UInt64.ofNat D.dBlocks.length) ++ Av A9 (D.dBlocks.take k)).length ≤ 40000 := fun k => by
        have h1 := listB_take_len A9 D.dBlocks k
        have h2 := hz7
        rw [msgB_3 oM] at h2
        simp only [List.length_append] at h1 h2 ⊢
        omega
      refine G10 ?_
      refine .condP J (fun hc4 => ?_) (fun hc4 => ?_)
      ·
        obtain ⟨b, o, r, d, hsp, hr, hd, his, hlen, hsee⟩ := hsB.at dE (show p.1 < m.fBlocks.n by omega)
        refine G9 ?_
        refine .idxSlP 131 J J J hsp J Y22.h Sz79 p.1 J oM (.loadEN r.cells J J J Y79.h J Sz79 sP hlen hsee (.call4 J J J J J Body149 (r15_Bytes r d his.ok) (fun w h => his.ext h J) ?_))
        rintro v65 out65 ⟨s65, rfl, hn65, hz65, hv65⟩
        rw [show bytesR d = A9 d from rfl] at hn65 hv65
        refine G10 ?_
        refine .call4 J J J J J Body133 (r1_Block (some ⟨p.2.1, 0, none⟩) s65.p ([Hw.Ax D.dKind] ++ Ap (UInt64.ofNat D.dBlocks.length) ++ Av A9 (D.dBlocks.take p.1)).length p.2.2 s65.n s65.c ([Hw.Ax D.dKind] ++ Ap (UInt64.ofNat D.dBlocks.length) ++ Av A9 (D.dBlocks.take p.1)) (A9 d) J hn65.symm (fun e => by cases e) (fun x => hz65 x) (hle _) (by have := blockBy_tight (hoks.b d (List.mem_of_getElem? hd)); omega)) (fun w h => ⟨SeesP.of (Ah h mR), hv65 _ (Lies.of h (by repeat (exact Ar)))⟩) ?_
        rintro v70 out70 ⟨q70, c70, rfl, hc70, rfl⟩
        have hle70 := blockBy_tight (hoks.b d (List.mem_of_getElem? hd))
        have hb70 : [Hw.Ax D.dKind] ++ Ap (UInt64.ofNat D.dBlocks.length) ++ Av A9 (D.dBlocks.take p.1) ++ Ap (UInt64.ofNat s65.n) ++ A9 d = [Hw.Ax D.dKind] ++ Ap (UInt64.ofNat D.dBlocks.length) ++ Av A9 (D.dBlocks.take (p.1 + 1)) := by rw [listB_step A9 hd, hn65]; simp only [blkB, List.append_assoc]
        rw [hb70]
        have he70 : ([Hw.Ax D.dKind] ++ Ap (UInt64.ofNat D.dBlocks.length) ++ Av A9 (D.dBlocks.take p.1)).length + szN s65.n + s65.n = ([Hw.Ax D.dKind] ++ Ap (UInt64.ofNat D.dBlocks.length) ++ Av A9 (D.dBlocks.take (p.1 + 1))).length := by rw [← hb70]; simp only [List.length_append, Am, A6 (n := s65.n) oM]; omega
        rw [he70] at hc70 ⊢
        refine G10 ?_
        exact ⟨(p.1 + 1, q70, c70), ⟨by simp only []; omega, hc70⟩, by simp only []; omega, Ae (wk1 rfl (wk1 rfl (wk1 rfl wk0))) (Ab rM (Ab rM Ad))⟩
      have hpe : p.1 = m.fBlocks.n := by omega
      have hds : D.dBlocks.take p.1 = D.dBlocks := List.take_of_length_le oM
      rw [hds] at hp2
      rw [hds]
      refine G6 ?_
      first
        | (try simp only [@List.append_assoc Blk, @List.cons_append Blk, @List.nil_append Blk]
           refine ⟨(⟨some ⟨p.2.1, 0, none⟩, ([Hw.Ax D.dKind] ++ Ap (UInt64.ofNat D.dBlocks.length) ++ Av A9 D.dBlocks).length, p.2.2⟩, [⟨p.2.1, Aa ([Hw.Ax D.dKind] ++ Ap (UInt64.ofNat D.dBlocks.length) ++ Av A9 D.dBlocks), 5, p.2.2 * 1⟩]), ?_, Ae (wk1 J (wk1 J wk0)) (pm_one (Ab rM (Ab rM Ad)))⟩
           rw [msgB_3 oM]
           exact Acc.some hp2 (by rw [Aa, List.length_map, Nat.mul_one]))
    refine G6 ?_
    refine .condP J (fun hc5 => ?_) (fun hc5 => ?_)
    ·
      refine G7 ?_
      rw [Cf (n := m.fVotes.n) oM, hl.votes]
      refine .call4 J J J J J Body132 (Cr (some ⟨q23, 0, none⟩) 1 1 ([Hw.Ax D.dKind]) (UInt64.ofNat D.dVotes.length) J (fun e => by cases e) oM) (fun w h => SeesP.of (Ah (cs := Aa ([Hw.Ax D.dKind])) h Z0)) ?_
      rintro v78 out78 ⟨q78, c78, rfl, hc78, rfl⟩
      have e78 : 1 + szN (UInt64.ofNat D.dVotes.length).toNat = ([Hw.Ax D.dKind] ++ Ap (UInt64.ofNat D.dVotes.length) ++ Av A4 (D.dVotes.take 0)).length := by simp only [List.length_append, List.take_zero, Av, List.map_nil, List.flatten_nil, List.length_nil, List.length_singleton, Am, Nat.add_zero]
      rw [e78] at hc78 ⊢
      refine G10 ?_
      refine .loop (ι := Nat × Nat × Nat) (fun p => ⟨[(1, ptr n1 0), (4, .slice (some ⟨p.2.1, 0, none⟩) ([Hw.Ax D.dKind] ++ Ap (UInt64.ofNat D.dVotes.length) ++ Av A4 (D.dVotes.take p.1)).length p.2.2), (8, i64 (p.1 : Int))], [⟨p.2.1, Aa ([Hw.Ax D.dKind] ++ Ap (UInt64.ofNat D.dVotes.length) ++ Av A4 (D.dVotes.take p.1)), 5, p.2.2 * 1⟩, ⟨n1, m.cells, 57, m.cells.length⟩]⟩) (fun p => p.1 ≤ m.fVotes.n ∧ ([Hw.Ax D.dKind] ++ Ap (UInt64.ofNat D.dVotes.length) ++ Av A4 (D.dVotes.take p.1)).length ≤ p.2.2) (fun p => m.fVotes.n - p.1) ((0, q78, c78)) ?_ ?_ ?_
      · exact ⟨Nat.zero_le _, hc78⟩
      · exact Ae (wk1 rfl (wk1 rfl (wk1 rfl wk0))) (Cg rM (by simp only [List.take_zero, Av, List.map_nil, List.flatten_nil, List.append_nil]) rfl (Ab rM Ad))
      rintro p ⟨hp1, hp2⟩
      have hle : ∀ k, ([Hw.Ax D.dKind] ++ Ap (UInt64.ofNat D.dVotes.length) ++ Av A4 (D.dVotes.take k)).length ≤ 40000 := fun k => by
        have h1 := listB_take_len A4 D.dVotes k
        have h2 := hz7
        rw [msgB_4 oM] at h2
        simp only [List.length_append] at h1 h2 ⊢
        omega
      refine G10 ?_
      refine .condP J (fun hc6 => ?_) (fun hc6 => ?_)
      ·
        obtain ⟨b, o, r, d, hsp, hr, hd, his, hlen, hsee⟩ := hsV.at dE (show p.1 < m.fVotes.n by omega)
        obtain rfl := his.eq
        refine G9 ?_
        refine .idxSlP 132 J J J hsp J Y24.h Sz81 p.1 J oM (.loadEN r.cells J J J Y81.h J Sz81 sP hlen hsee (.call4 J J J J J Body134 (r20_Bytes r his.ok) tV ?_))
        rintro v92 out92 ⟨s92, rfl, hac92⟩
        have hn92 := hac92.num
        have hz92 := fun e => hac92.nil e
        have hv92 := fun (W2 : World) (hw : Lies _ W2) => hac92.see hw
        refine G10 ?_
        refine .call4 J J J J J Body133 (r1_Block (some ⟨p.2.1, 0, none⟩) s92.p ([Hw.Ax D.dKind] ++ Ap (UInt64.ofNat D.dVotes.length) ++ Av A4 (D.dVotes.take p.1)).length p.2.2 s92.n s92.c ([Hw.Ax D.dKind] ++ Ap (UInt64.ofNat D.dVotes.length) ++ Av A4 (D.dVotes.take p.1)) (A4 r) J hn92.symm (fun e => by cases e) (fun x => hz92 x) (hle _) (by have := voteBy_le (hoks.v r (List.mem_of_getElem? hd)); omega)) (fun w h => ⟨SeesP.of (Ah h mR), hv92 _ (Lies.of h (by repeat (exact Ar)))⟩) ?_
        rintro v97 out97 ⟨q97, c97, rfl, hc97, rfl⟩
        have hle97 := voteBy_le (hoks.v r (List.mem_of_getElem? hd))
        have hb97 : [Hw.Ax D.dKind] ++ Ap (UInt64.ofNat D.dVotes.length) ++ Av A4 (D.dVotes.take p.1) ++ Ap (UInt64.ofNat s92.n) ++ A4 r = [Hw.Ax D.dKind] ++ Ap (UInt64.ofNat D.dVotes.length) ++ Av A4 (D.dVotes.take (p.1 + 1)) := by rw [listB_step A4 hd, hn92]; simp only [blkB, List.append_assoc]
        rw [hb97]
        have he97 : ([Hw.Ax D.dKind] ++ Ap (UInt64.ofNat D.dVotes.length) ++ Av A4 (D.dVotes.take p.1)).length + szN s92.n + s92.n = ([Hw.Ax D.dKind] ++ Ap (UInt64.ofNat D.dVotes.length) ++ Av A4 (D.dVotes.take (p.1 + 1))).length := by rw [← hb97]; simp only [List.length_append, Am, A6 (n := s92.n) oM]; omega
        rw [he97] at hc97 ⊢
        refine G10 ?_
        exact ⟨(p.1 + 1, q97, c97), ⟨by simp only []; omega, hc97⟩, by simp only []; omega, Ae (wk1 rfl (wk1 rfl (wk1 rfl wk0))) (Ab rM (Ab rM Ad))⟩
      have hpe : p.1 = m.fVotes.n := by omega
      have hds : D.dVotes.take p.1 = D.dVotes := List.take_of_length_le oM
      rw [hds] at hp2
      rw [hds]
      have hz8 := hle p.1
      rw [hds] at hz8
      obtain ⟨pv, hpv⟩ : ∃ x : Nat × Nat × Nat, x = p := ⟨_, rfl⟩
      rw [← hpv] at hp2 ⊢
      refine G12 ?_
      rw [Cf (n := m.fCuts.n) oM, hl.cuts]
      refine .call4 J J J J J Body132 (Cr (some ⟨pv.2.1, 0, none⟩) ([Hw.Ax D.dKind] ++ Ap (UInt64.ofNat D.dVotes.length) ++ Av A4 D.dVotes).length pv.2.2 ([Hw.Ax D.dKind] ++ Ap (UInt64.ofNat D.dVotes.length) ++ Av A4 D.dVotes) (UInt64.ofNat D.dCuts.length) J (fun e => by cases e) oM) (fun w h => SeesP.of (Ah (cs := Aa ([Hw.Ax D.dKind] ++ Ap (UInt64.ofNat D.dVotes.length) ++ Av A4 D.dVotes)) h Z0)) ?_
      rintro v103 out103 ⟨q103, c103, rfl, hc103, rfl⟩
      have e103 : ([Hw.Ax D.dKind] ++ Ap (UInt64.ofNat D.dVotes.length) ++ Av A4 D.dVotes).length + szN (UInt64.ofNat D.dCuts.length).toNat = ([Hw.Ax D.dKind] ++ Ap (UInt64.ofNat D.dVotes.length) ++ Av A4 D.dVotes ++ Ap (UInt64.ofNat D.dCuts.length) ++ Av Br (D.dCuts.take 0)).length := by simp only [List.length_append, List.take_zero, Av, List.map_nil, List.flatten_nil, List.length_nil, List.length_singleton, Am, Nat.add_zero]
      rw [e103] at hc103 ⊢
      refine G9 ?_
      refine .loop (ι := Nat × Nat × Nat) (fun p => ⟨[(1, ptr n1 0), (4, .slice (some ⟨p.2.1, 0, none⟩) ([Hw.Ax D.dKind] ++ Ap (UInt64.ofNat D.dVotes.length) ++ Av A4 D.dVotes ++ Ap (UInt64.ofNat D.dCuts.length) ++ Av Br (D.dCuts.take p.1)).length p.2.2), (11, i64 (p.1 : Int))], [⟨p.2.1, Aa ([Hw.Ax D.dKind] ++ Ap (UInt64.ofNat D.dVotes.length) ++ Av A4 D.dVotes ++ Ap (UInt64.ofNat D.dCuts.length) ++ Av Br (D.dCuts.take p.1)), 5, p.2.2 * 1⟩, ⟨n1, m.cells, 57, m.cells.length⟩]⟩) (fun p => p.1 ≤ m.fCuts.n ∧ ([Hw.Ax D.dKind] ++ Ap (UInt64.ofNat D.dVotes.length) ++ Av A4 D.dVotes ++ Ap (UInt64.ofNat D.dCuts.length) ++ Av Br (D.dCuts.take p.1)).length ≤ p.2.2) (fun p => m.fCuts.n - p.1) ((0, q103, c103)) ?_ ?_ ?_
      · exact ⟨Nat.zero_le _, hc103⟩
      · exact Ae (wk1 rfl (wk1 rfl (wk1 rfl wk0))) (Cg rM (by simp only [List.take_zero, Av, List.map_nil, List.flatten_nil, List.append_nil]) rfl (Ab rM Ad))
      rintro p ⟨hp1, hp2⟩
      have hle : ∀ k, ([Hw.Ax D.dKind] ++ Ap (UInt64.ofNat D.dVotes.length) ++ Av A4 D.dVotes ++ Ap (UInt64.ofNat D.dCuts.length) ++ Av Br (D.dCuts.take k)).length ≤ 40000 := fun k => by
        have h1 := listB_take_len Br D.dCuts k
        have h2 := hz7
        rw [msgB_4 oM] at h2
        simp only [List.length_append] at h1 h2 ⊢
        omega
      refine G10 ?_
      refine .condP J (fun hc7 => ?_) (fun hc7 => ?_)
      ·
        obtain ⟨b, o, r, d, hsp, hr, hd, his, hlen, hsee⟩ := hsC.at dE (show p.1 < m.fCuts.n by omega)
        refine G9 ?_
        refine .idxSlP 34 J J J hsp J Y25.h Sz53 p.1 J oM (.loadEN r.cells J J J Y53.h J Sz53 sP hlen hsee (.call4 J J J J J Body131 (r19_Bytes r d) (fun w h => his.ext h J) ?_))
        rintro v117 out117 ⟨s117, rfl, hac117⟩
        have hn117 := hac117.num
        have hz117 := fun e => hac117.nil e
        have hv117 := fun (W2 : World) (hw : Lies _ W2) => hac117.see hw
        refine G10 ?_
        refine .call4 J J J J J Body133 (r1_Block (some ⟨p.2.1, 0, none⟩) s117.p ([Hw.Ax D.dKind] ++ Ap (UInt64.ofNat D.dVotes.length) ++ Av A4 D.dVotes ++ Ap (UInt64.ofNat D.dCuts.length) ++ Av Br (D.dCuts.take p.1)).length p.2.2 s117.n s117.c ([Hw.Ax D.dKind] ++ Ap (UInt64.ofNat D.dVotes.length) ++ Av A4 D.dVotes ++ Ap (UInt64.ofNat D.dCuts.length) ++ Av Br (D.dCuts.take p.1)) (Br d) J hn117.symm (fun e => by cases e) (fun x => hz117 x) (hle _) (by have := cutR_tight (hoks.c d (List.mem_of_getElem? hd)); omega)) (fun w h => ⟨SeesP.of (Ah h mR), hv117 _ (Lies.of h (by repeat (exact Ar)))⟩) ?_
        rintro v122 out122 ⟨q122, c122, rfl, hc122, rfl⟩
        have hle122 := cutR_tight (hoks.c d (List.mem_of_getElem? hd))
        have hb122 : [Hw.Ax D.dKind] ++ Ap (UInt64.ofNat D.dVotes.length) ++ Av A4 D.dVotes ++ Ap (UInt64.ofNat D.dCuts.length) ++ Av Br (D.dCuts.take p.1) ++ Ap (UInt64.ofNat s117.n) ++ Br d = [Hw.Ax D.dKind] ++ Ap (UInt64.ofNat D.dVotes.length) ++ Av A4 D.dVotes ++ Ap (UInt64.ofNat D.dCuts.length) ++ Av Br (D.dCuts.take (p.1 + 1)) := by rw [listB_step Br hd, hn117]; simp only [blkB, List.append_assoc]
        rw [hb122]
        have he122 : ([Hw.Ax D.dKind] ++ Ap (UInt64.ofNat D.dVotes.length) ++ Av A4 D.dVotes ++ Ap (UInt64.ofNat D.dCuts.length) ++ Av Br (D.dCuts.take p.1)).length + szN s117.n + s117.n = ([Hw.Ax D.dKind] ++ Ap (UInt64.ofNat D.dVotes.length) ++ Av A4 D.dVotes ++ Ap (UInt64.ofNat D.dCuts.length) ++ Av Br (D.dCuts.take (p.1 + 1))).length := by rw [← hb122]; simp only [List.length_append, Am, A6 (n := s117.n) oM]; omega
        rw [he122] at hc122 ⊢
        refine G10 ?_
        exact ⟨(p.1 + 1, q122, c122), ⟨by simp only []; omega, hc122⟩, by simp only []; omega, Ae (wk1 rfl (wk1 rfl (wk1 rfl wk0))) (Ab rM (Ab rM Ad))⟩
      have hpe : p.1 = m.fCuts.n := by omega
      have hds : D.dCuts.take p.1 = D.dCuts := List.take_of_length_le oM
      rw [hds] at hp2
      rw [hds]
      refine G6 ?_
      first
        | (try simp only [@List.append_assoc Blk, @List.cons_append Blk, @List.nil_append Blk]
           refine ⟨(⟨some ⟨p.2.1, 0, none⟩, ([Hw.Ax D.dKind] ++ Ap (UInt64.ofNat D.dVotes.length) ++ Av A4 D.dVotes ++ Ap (UInt64.ofNat D.dCuts.length) ++ Av Br D.dCuts).length, p.2.2⟩, [⟨p.2.1, Aa ([Hw.Ax D.dKind] ++ Ap (UInt64.ofNat D.dVotes.length) ++ Av A4 D.dVotes ++ Ap (UInt64.ofNat D.dCuts.length) ++ Av Br D.dCuts), 5, p.2.2 * 1⟩]), ?_, Ae (wk1 J (wk1 J wk0)) (pm_one (Ab rM (Ab rM Ad)))⟩
           rw [msgB_4 oM]
           exact Acc.some hp2 (by rw [Aa, List.length_map, Nat.mul_one]))
    refine G6 ?_
    refine .condP J (fun hc8 => ?_) (fun hc8 => ?_)
    ·
      refine G7 ?_
      rw [Cf (n := m.fCerts.n) oM, hl.certs]
      refine .call4 J J J J J Body132 (Cr (some ⟨q23, 0, none⟩) 1 1 ([Hw.Ax D.dKind]) (UInt64.ofNat D.dCerts.length) J (fun e => by cases e) oM) (fun w h => SeesP.of (Ah (cs := Aa ([Hw.Ax D.dKind])) h Z0)) ?_
      rintro v130 out130 ⟨q130, c130, rfl, hc130, rfl⟩
      have e130 : 1 + szN (UInt64.ofNat D.dCerts.length).toNat = ([Hw.Ax D.dKind] ++ Ap (UInt64.ofNat D.dCerts.length) ++ Av Bg (D.dCerts.take 0)).length := by simp only [List.length_append, List.take_zero, Av, List.map_nil, List.flatten_nil, List.length_nil, List.length_singleton, Am, Nat.add_zero]
      rw [e130] at hc130 ⊢
      refine G9 ?_
      refine .loop (ι := Nat × Nat × Nat) (fun p => ⟨[(1, ptr n1 0), (4, .slice (some ⟨p.2.1, 0, none⟩) ([Hw.Ax D.dKind] ++ Ap (UInt64.ofNat D.dCerts.length) ++ Av Bg (D.dCerts.take p.1)).length p.2.2), (14, i64 (p.1 : Int))], [⟨p.2.1, Aa ([Hw.Ax D.dKind] ++ Ap (UInt64.ofNat D.dCerts.length) ++ Av Bg (D.dCerts.take p.1)), 5, p.2.2 * 1⟩, ⟨n1, m.cells, 57, m.cells.length⟩]⟩) (fun p => p.1 ≤ m.fCerts.n ∧ ([Hw.Ax D.dKind] ++ Ap (UInt64.ofNat D.dCerts.length) ++ Av Bg (D.dCerts.take p.1)).length ≤ p.2.2) (fun p => m.fCerts.n - p.1) ((0, q130, c130)) ?_ ?_ ?_
      · exact ⟨Nat.zero_le _, hc130⟩
      · exact Ae (wk1 rfl (wk1 rfl (wk1 rfl wk0))) (Cg rM (by simp only [List.take_zero, Av, List.map_nil, List.flatten_nil, List.append_nil]) rfl (Ab rM Ad))
      rintro p ⟨hp1, hp2⟩
      have hle : ∀ k, ([Hw.Ax D.dKind] ++ Ap (UInt64.ofNat D.dCerts.length) ++ Av Bg (D.dCerts.take k)).length ≤ 40000 := fun k => by
        have h1 := listB_take_len Bg D.dCerts k
        have h2 := hz7
        rw [msgB_5 oM] at h2
        simp only [List.length_append] at h1 h2 ⊢
        omega
      refine G10 ?_
      refine .condP J (fun hc9 => ?_) (fun hc9 => ?_)
      ·
        obtain ⟨b, o, r, d, hsp, hr, hd, his, hlen, hsee⟩ := hsX.at dE (show p.1 < m.fCerts.n by omega)
        refine G9 ?_
        refine .idxSlP 35 J J J hsp J Y23.h Sz55 p.1 J oM (.loadEN r.cells J J J Y55.h J Sz55 sP hlen hsee (.call4 J J J J J Body40 (r25_CertBytes r d) (fun w h => his.ext h J) ?_))
        rintro v144 out144 ⟨s144, rfl, hac144⟩
        have hn144 := hac144.num
        have hz144 := fun e => hac144.nil e
        have hv144 := fun (W2 : World) (hw : Lies _ W2) => hac144.see hw
        refine G10 ?_
        refine .call4 J J J J J Body133 (r1_Block (some ⟨p.2.1, 0, none⟩) s144.p ([Hw.Ax D.dKind] ++ Ap (UInt64.ofNat D.dCerts.length) ++ Av Bg (D.dCerts.take p.1)).length p.2.2 s144.n s144.c ([Hw.Ax D.dKind] ++ Ap (UInt64.ofNat D.dCerts.length) ++ Av Bg (D.dCerts.take p.1)) (Bg d) J hn144.symm (fun e => by cases e) (fun x => hz144 x) (hle _) (by have := certBy_tight (hoks.e d (List.mem_of_getElem? hd)); omega)) (fun w h => ⟨SeesP.of (Ah h mR), hv144 _ (Lies.of h (by repeat (exact Ar)))⟩) ?_
        rintro v149 out149 ⟨q149, c149, rfl, hc149, rfl⟩
        have hle149 := certBy_tight (hoks.e d (List.mem_of_getElem? hd))
        have hb149 : [Hw.Ax D.dKind] ++ Ap (UInt64.ofNat D.dCerts.length) ++ Av Bg (D.dCerts.take p.1) ++ Ap (UInt64.ofNat s144.n) ++ Bg d = [Hw.Ax D.dKind] ++ Ap (UInt64.ofNat D.dCerts.length) ++ Av Bg (D.dCerts.take (p.1 + 1)) := by rw [listB_step Bg hd, hn144]; simp only [blkB, List.append_assoc]
        rw [hb149]
        have he149 : ([Hw.Ax D.dKind] ++ Ap (UInt64.ofNat D.dCerts.length) ++ Av Bg (D.dCerts.take p.1)).length + szN s144.n + s144.n = ([Hw.Ax D.dKind] ++ Ap (UInt64.ofNat D.dCerts.length) ++ Av Bg (D.dCerts.take (p.1 + 1))).length := by rw [← hb149]; simp only [List.length_append, Am, A6 (n := s144.n) oM]; omega
        rw [he149] at hc149 ⊢
        refine G10 ?_
        exact ⟨(p.1 + 1, q149, c149), ⟨by simp only []; omega, hc149⟩, by simp only []; omega, Ae (wk1 rfl (wk1 rfl (wk1 rfl wk0))) (Ab rM (Ab rM Ad))⟩
      have hpe : p.1 = m.fCerts.n := by omega
      have hds : D.dCerts.take p.1 = D.dCerts := List.take_of_length_le oM
      rw [hds] at hp2
      rw [hds]
      refine G6 ?_
      first
        | (try simp only [@List.append_assoc Blk, @List.cons_append Blk, @List.nil_append Blk]
           refine ⟨(⟨some ⟨p.2.1, 0, none⟩, ([Hw.Ax D.dKind] ++ Ap (UInt64.ofNat D.dCerts.length) ++ Av Bg D.dCerts).length, p.2.2⟩, [⟨p.2.1, Aa ([Hw.Ax D.dKind] ++ Ap (UInt64.ofNat D.dCerts.length) ++ Av Bg D.dCerts), 5, p.2.2 * 1⟩]), ?_, Ae (wk1 J (wk1 J wk0)) (pm_one (Ab rM (Ab rM Ad)))⟩
           rw [msgB_5 oM]
           exact Acc.some hp2 (by rw [Aa, List.length_map, Nat.mul_one]))
    refine G6 ?_
    refine .condP J (fun hc10 => ?_) (fun hc10 => ?_)
    ·
      refine G4 ?_
      refine .call4 J J J J J Body132 (Cr (some ⟨q23, 0, none⟩) 1 1 [Hw.Ax D.dKind] m.fHeight J (fun e => by cases e) dE) (fun w h => SeesP.of (Ah (cs := Aa ([Hw.Ax D.dKind])) h Z0)) ?_
      rintro v155 out155 ⟨q155, c155, rfl, hc155, rfl⟩
      rw [hW.fHeight] at hc155 ⊢
      rw [show 1 + szN D.dHeight.toNat = ([Hw.Ax D.dKind] ++ Ap D.dHeight).length by simp only [List.length_append, Am, List.length_singleton]] at hc155 ⊢
      refine G4 ?_
      first
        | (try simp only [@List.append_assoc Blk, @List.cons_append Blk, @List.nil_append Blk]
           refine ⟨(⟨some ⟨q155, 0, none⟩, ([Hw.Ax D.dKind] ++ Ap D.dHeight).length, c155⟩, [⟨q155, Aa ([Hw.Ax D.dKind] ++ Ap D.dHeight), 5, c155 * 1⟩]), ?_, Ae (wk1 J (wk1 J wk0)) (pm_one (Ab rM (Ab rM Ad)))⟩
           rw [msgB_6 oM]
           exact Acc.some hc155 (by rw [Aa, List.length_map, Nat.mul_one]))
    refine G3 ?_
    (exfalso; omega)
  intro j hj
  have hja := hj
  refine G9 ?_
  refine Ai (out := (j.2 ++ [])) (A7 J J J) (Aj sG Ad) ?_
  refine ⟨j.1, (by rw [hc0]; try rfl), ?_⟩
  rw [show msgR D = msgB D from if_pos hc0, List.append_nil]
  exact hja

theorem num_err {xs : List UInt8} {a : Nat} {e : Int} (h : (A0 xs a e).2.2 = 0) : e = 0 := by
  unfold A0 at h
  by_cases he : e = 0
  · exact he
  · rw [if_pos he] at h; exact h
theorem blk_err {xs : List UInt8} {a : Nat} {e : Int} (h : (blkR xs a e).2.2 = 0) : e = 0 := by
  unfold blkR at h
  split at h
  · rename_i h1; exact absurd h h1
  · rename_i h1; exact num_err (Classical.not_not.1 h1)
theorem dig_err {xs : List UInt8} {a : Nat} {e : Int} (h : (Cl xs a e).2.2 = 0) : e = 0 := by
  unfold Cl at h
  by_cases he : e = 0
  · exact he
  · rw [if_pos he] at h; exact h
section
variable {D : Type} {f : List UInt8 → D × Int} {xs : List UInt8}
theorem itR_err : ∀ {k a : Nat} {e : Int} {vs : List D} {a2 : Nat}, itR f xs k a e = some (vs, a2, 0) → e = 0
  | 0, a, e, vs, a2, h => by
    have := congrArg (fun r => (Option.get! r).2.2) h
    simpa [itR] using this
  | k + 1, a, e, vs, a2, h => by
    rw [itR] at h
    obtain ⟨r, hr, h2⟩ := Option.bind_eq_some_iff.1 h
    obtain ⟨v1, a1, e1⟩ := r
    split at h2
    · rename_i hg
      have := blk_err hg.2
      simp only at this
      subst this
      exact itR_err hr
    · cases h2
def ItInv (f : List UInt8 → D × Int) (xs : List UInt8) (a3 : Nat) (e3 ev0 : Int) (k : Nat) (vs : List D) (a : Nat) (e ev : Int) : Prop :=
  vs.length = k ∧ ((ev = ev0 ∧ itR f xs k a3 e3 = some (vs, a, e)) ∨ ((¬ ev = 0 ∨ ¬ e = 0) ∧ ∀ m, k ≤ m → itR f xs m a3 e3 = none))
theorem inv_zero (a3 : Nat) (e3 ev0 : Int) : ItInv f xs a3 e3 ev0 0 [] a3 e3 ev0 := ⟨rfl, .inl ⟨rfl, rfl⟩⟩
theorem inv_step {a3 k a a2 : Nat} {e3 ev0 e ev e2 : Int} {vs : List D} {o : Option (List UInt8)} (h : ItInv f xs a3 e3 ev0 k vs a e ev) (he : e = 0) (hv : ev = 0) (hb : blkR xs a e = (o, a2, e2)) : ItInv f xs a3 e3 ev0 (k + 1) (vs ++ [(f (o.getD [])).1]) a2 e2 (f (o.getD [])).2 := by
  refine ⟨by rw [List.length_append, h.1]; rfl, ?_⟩
  rcases h.2 with ⟨h1, h2⟩ | ⟨h1, h2⟩
  · by_cases hg : (f (o.getD [])).2 = 0 ∧ e2 = 0
    · exact .inl ⟨by rw [hg.1, ← h1, hv], itR_step h2 hb hg.1 hg.2⟩
    · refine .inr ⟨?_, fun m hm => itR_stop h2 hb hg m hm⟩
      by_cases h3 : (f (o.getD [])).2 = 0
      · exact .inr fun h4 => hg ⟨h3, h4⟩
      · exact .inl h3
  · rcases h1 with h1 | h1
    · exact absurd hv h1
    · exact absurd he h1
theorem inv_some {a3 k a N : Nat} {e3 ev0 e ev : Int} {vs : List D} (h : ItInv f xs a3 e3 ev0 k vs a e ev) (hx : k = N ∨ ¬ e = 0 ∨ ¬ ev = 0) (hk : k ≤ N) (h0 : ev0 = 0) {r : List D × Nat × Int} (hr : itR f xs N a3 e3 = some r) (h3 : N ≠ 0 ∨ e3 = 0) : k = N ∧ ev = 0 ∧ r = (vs, a, e) := by
  rcases h.2 with ⟨h1, h2⟩ | ⟨_, h2⟩
  · have hkn : k = N := by
      by_cases hkn : k = N
      · exact hkn
      · exfalso
        have he : ¬ e = 0 := by
          rcases hx with hx | hx | hx
          · exact absurd hx hkn
          · exact hx
          · exact absurd (h1.trans h0) hx
        obtain ⟨o, a4, e4, hb⟩ : ∃ o a4 e4, blkR xs a e = (o, a4, e4) := ⟨_, _, _, rfl⟩
        have h4 : ¬ e4 = 0 := fun h5 => he (blk_err (xs := xs) (a := a) (by rw [hb]; exact h5))
        have := itR_stop (f := f) h2 hb (fun g => h4 g.2) N oM
        rw [hr] at this
        cases this
    subst hkn
    rw [hr] at h2
    exact ⟨rfl, h1.trans h0, Option.some.inj h2⟩
  · rw [h2 N hk] at hr; cases hr
end
theorem cert_fin {xs : List UInt8} {o : Option (List UInt8)} {a1 a3 k a : Nat} {e1 e3 e ev : Int} {x3 : UInt64} {vs : List Vote} (h1 : blkR xs 0 0 = (o, a1, e1)) (h3 : A0 xs a1 e1 = (x3, a3, e3)) (hi : ItInv Bi xs a3 e3 (B8 (o.getD [])).2 k vs a e ev) (hx : k = x3.toNat ∨ k = 17 ∨ ¬ e = 0 ∨ ¬ ev = 0) (hk : k ≤ x3.toNat) :
    (endR xs.length a e = 0 ∧ ev = 0 ∧ (⟨(B8 (o.getD [])).1, vs⟩ : DCert).check = 0 → Bv xs = (⟨(B8 (o.getD [])).1, vs⟩, 0)) ∧ (¬ (endR xs.length a e = 0 ∧ ev = 0 ∧ (⟨(B8 (o.getD [])).1, vs⟩ : DCert).check = 0) → Bv xs = (dcertz, 4)) := by
  have hcr : Bv xs = if (B8 (o.getD [])).2 = 0 then (match readVL xs 16 a1 e1 with | some (vs, a, e) => if endR xs.length a e = 0 ∧ (⟨(B8 (o.getD [])).1, vs⟩ : DCert).check = 0 then ((⟨(B8 (o.getD [])).1, vs⟩ : DCert), (0 : Int)) else (dcertz, (4 : Int)) | none => (dcertz, (4 : Int))) else (dcertz, (4 : Int)) := by simp only [Bv, h1]; rfl
  have hrv : readVL xs 16 a1 e1 = if e3 = 0 ∧ x3.toNat ≤ 16 then itR Bi xs x3.toNat a3 e3 else none := by rw [readVL_is, Cs, h3]
  constructor
  · rintro ⟨g1, g2, g3⟩
    have he : e = 0 := endR_zero g1
    have h16 := (DCert.facts g3).2.2
    simp only [hi.1] at h16
    have hk3 : k = x3.toNat := by
      rcases hx with hx | hx | hx | hx
      · exact hx
      · omega
      · exact absurd he hx
      · exact absurd g2 hx
    have h0 : (B8 (o.getD [])).2 = 0 ∧ itR Bi xs k a3 e3 = some (vs, a, e) := by
      rcases hi.2 with ⟨h4, h5⟩ | ⟨h4, _⟩
      · exact ⟨h4 ▸ g2, h5⟩
      · rcases h4 with h4 | h4
        · exact absurd g2 h4
        · exact absurd he h4
    have he3 : e3 = 0 := by have := h0.2; rw [he] at this; exact itR_err this
    rw [hcr, if_pos h0.1, hrv, if_pos ⟨he3, by omega⟩, ← hk3, h0.2]
    exact if_pos ⟨g1, g3⟩
  · intro g
    rw [hcr]
    by_cases h0 : (B8 (o.getD [])).2 = 0
    · rw [if_pos h0, hrv]
      by_cases h4 : e3 = 0 ∧ x3.toNat ≤ 16
      · rw [if_pos h4]
        cases hr : itR Bi xs x3.toNat a3 e3 with
        | none => rfl
        | some r =>
          obtain ⟨g4, g5, g6⟩ := inv_some (N := x3.toNat) hi (by
            rcases hx with hx | hx | hx
            · exact .inl hx
            · omega
            · exact .inr hx) hk h0 hr (.inr h4.1)
          subst g6
          exact if_neg fun g7 => g ⟨g7.1, g5, g7.2⟩
      · rw [if_neg h4]
    · rw [if_neg h0]

end Go.Proofs.YtdifpjmfabhpiaaGreat
end

section
namespace Go.Proofs.YtdifpjmfabhpiaaGreat
open Go Hw

structure VS9 where
  k : Nat
  ac : Nat
  s : Sl
  bl : List Blk
  vs : List Vote
  a : Nat
  e : Int
  ev : Int
  o : Nat

theorem r25_ReadCert (pa : Option Addr) (n c : Nat) (xs : List UInt8) (hl : xs.length = n) (hp : pa = none → n = 0) (hn : n ≤ 90000) : Meets Tryz.prog 41 [.slice pa n c] [] (fun W => SeesP W pa (Aa xs)) (CertRead xs) := by
  intro W hW
  obtain ⟨o1, r1, h1⟩ : ∃ l r, blkR xs 0 0 = (l, r) := ⟨_, _, rfl⟩
  obtain ⟨a1, e1⟩ := r1
  have hd1 := blkE_le h1 hl (Nat.zero_le _)
  obtain ⟨x3, r3, h3⟩ : ∃ l r, A0 xs a1 e1 = (l, r) := ⟨_, _, rfl⟩
  obtain ⟨a3, e3⟩ := r3
  have hd3 := Bc h3 hl hd1.1
  refine Ak Tryz.func41 J 67 Tryz.ntmps41 J (G2 ?_)
  refine .alloc (cs := Cert.zero.cells) J Cert.zr J ?_
  intro n2 hn2 hf2
  refine G6 ?_
  refine .call4 J J J J J Body135 (r1_Read pa n c xs hl hp hn) (fun w h => Ao h J hW) ?_
  rintro v11 out11 ⟨n11, q11, cp11, rfl, hcp11, rfl⟩
  refine .nd (fun hnd => ?_)
  have hne : q11 ≠ n11 := by intro e; simp [R1B, e] at hnd
  clear hnd
  refine G5 ?_
  refine .alloc (cs := Cert.zero.cells) J Cert.zr J ?_
  intro n5 hn5 hf5
  refine G10 ?_
  refine .callL (L := [R1B n11 q11 (0) n cp11 (0) (0)]) J J J J J Body137 (r1_BlockE n11 q11 0 n cp11 0 0 xs hl (Nat.zero_le _) hcp11 oM (fun _ => rfl) o1 a1 e1 h1) (Ab rM Ad) (Au J) (fun w h => ⟨Af h Z1, Ah h Z2, hne⟩) ?_
  rintro v14 out14 ⟨s14, bl14, o14, ho14, rfl, hac14, rfl⟩
  simp only [List.append_assoc, List.cons_append, List.nil_append]
  have hm14 := hac14.num
  refine .call4 J J J J J Body136 (r19_Read s14.p s14.n s14.c (o1.getD []) hm14.symm (fun e => hac14.nil e) (by rw [hm14]; omega)) (fun w h => hac14.see (Lies.of h (by repeat (exact Ar)))) ?_
  rintro v15 out15 ⟨C15, okC, rfl, hC15⟩
  refine G4 ?_
  refine .storeN C15.cells J J J J J (Cut.isCell okC) Sz53 (Cut.length okC) mR (by rw [Cert.length Cert.zero_ok, Cut.length okC]; decide) (upd_cut Cert.zero_ok okC) uU ?_
  refine G6 ?_
  refine .callL (L := [R1B n11 q11 (o14) n cp11 (a1) (e1)]) J J J J J Body138 (B4 n11 q11 o14 n cp11 a1 e1 xs hl hd1.1 hcp11 oM ho14 x3 a3 e3 h3) (Ab (by repeat (first | exact Aq | apply Bm)) Ad) (Au J) (fun w h => ⟨Af h mR, Ah h mR, hne⟩) ?_
  rintro v20 out20 ⟨o20, ho20, rfl, rfl⟩
  refine G3 ?_
  refine .join (ι := VS9) (fun j => ⟨[(2, ptr n2 0), (3, i64 0), (4, ptr n11 0), (5, ptr n5 0), (6, i64 j.ev), (7, u64 x3), (8, u64 (UInt64.ofNat j.k))], (R1B n11 q11 j.o n cp11 j.a j.e :: (⟨q11, Aa xs, 5, cp11 * 1⟩ :: (⟨n5, ({ Cert.zero with fCut := C15, fVotes := j.s } : Cert).cells, 55, 35⟩ :: (⟨n2, Cert.zero.cells, 55, 35⟩ :: (out15 ++ (j.bl ++ []))))))⟩) (fun j => j.k ≤ x3.toNat ∧ j.k ≤ 17 ∧ j.a ≤ n ∧ At1 cp11 j.a j.o ∧ Hw.Acc j.s j.bl (j.vs.map Vote.cells).flatten 81 j.vs.length 132 ∧ (∀ V ∈ j.vs, Vgood V) ∧ ItInv Bi xs a3 e3 (B8 (o1.getD [])).2 j.k j.vs j.a j.e j.ev ∧ (j.k = x3.toNat ∨ j.k = 17 ∨ ¬ j.e = 0 ∨ ¬ j.ev = 0)) ?_ ?_
  ·
    refine G2 ?_
    refine .a J J (show Al _ _ = some (u64 0) from rfl) (G3 ?_)
    refine .loop (ι := VS9) (fun p => ⟨[(2, ptr n2 0), (3, i64 0), (4, ptr n11 0), (5, ptr n5 0), (6, i64 p.ev), (7, u64 x3), (8, u64 (UInt64.ofNat p.k))], (R1B n11 q11 p.o n cp11 p.a p.e :: (⟨q11, Aa xs, 5, cp11 * 1⟩ :: (⟨n5, ({ Cert.zero with fCut := C15, fVotes := p.s } : Cert).cells, 55, 35⟩ :: (⟨n2, Cert.zero.cells, 55, 35⟩ :: (out15 ++ (p.bl ++ []))))))⟩) (fun p => p.k ≤ x3.toNat ∧ p.k ≤ 17 ∧ p.a ≤ n ∧ At1 cp11 p.a p.o ∧ Hw.Acc p.s p.bl (p.vs.map Vote.cells).flatten 81 p.vs.length 132 ∧ (∀ V ∈ p.vs, Vgood V) ∧ ItInv Bi xs a3 e3 (B8 (o1.getD [])).2 p.k p.vs p.a p.e p.ev) (fun p => 17 - p.k) (⟨0, 0, Sl.nil, [], [], a3, e3, (B8 (o1.getD [])).2, o20⟩) ?_ ?_ ?_
    · exact ⟨Nat.zero_le _, Nat.zero_le _, hd3, ho20, Acc.none, (fun V hV => by cases hV), inv_zero _ _ _⟩
    · exact Ae (wk1 rfl (wk1 rfl (wk1 rfl (wk1 rfl (wk1 rfl (wk1 rfl (wk1 rfl wk0))))))) (Ab rM (Ab rM (Ab (by repeat (first | exact Aq | apply Bm)) (Ab (by repeat (first | exact Aq | apply Bm)) (Aj sG (Cd Ad))))))
    rintro p ⟨hp1, hp17, hpa, hop, hac, hvo, hin⟩
    have hj64 : (UInt64.ofNat p.k).toNat = p.k := A6 oM
    have hvl := hin.1
    obtain ⟨o8, r8, h8⟩ : ∃ l r, blkR xs p.a p.e = (l, r) := ⟨_, _, rfl⟩
    obtain ⟨a8, e8⟩ := r8
    have hd8 := blkE_le h8 hl hpa
    have hvg := voteRd_good (o8.getD [])
    refine G5 ?_
    refine two (fun r hr k => Tr.lss J J J J hr k) (fun hs7_20 => ?_) (fun hs7_20 => ?_)
    ·
      have hs7_2 := of_decide_eq_true hs7_20
      refine G2 ?_
      refine two (fun r hr k => Tr.leq J J J J hr k) (fun hs7_50 => ?_) (fun hs7_50 => ?_)
      ·
        have hs7_5 := of_decide_eq_true hs7_50
        refine G6 ?_
        refine two (fun r hr k => Tr.eqi J J J J hr k) (fun hs7_120 => ?_) (fun hs7_120 => ?_)
        ·
          have hs7_12 := of_decide_eq_true hs7_120
          refine G7 ?_
          refine .condP J (fun hc0 => ?_) (fun hc0 => ?_)
          ·
            refine G6 ?_
            refine .alloc (cs := Vote.zero.cells) J Vote.zr J ?_
            intro n9 hn9 hf9
            refine G5 ?_
            refine .callL (L := [R1B n11 q11 (p.o) n cp11 (p.a) (p.e)]) J J J J J Body137 (r1_BlockE n11 q11 p.o n cp11 p.a p.e xs hl hpa hcp11 oM hop o8 a8 e8 h8) (Ab rM Ad) (Au J) (fun w h => ⟨Af h Z1, Ah h Z2, hne⟩) ?_
            rintro v43 out43 ⟨s43, bl43, o43, ho43, rfl, hac43, rfl⟩
            simp only [List.append_assoc, List.cons_append, List.nil_append]
            have hm43 := hac43.num
            refine .cV J J J J Body139 (r20_Read s43.p s43.n s43.c (o8.getD []) hm43.symm (fun e => hac43.nil e) (by rw [hm43]; omega)) (fun w h => hac43.see (Lies.of h (by repeat (exact Ar)))) ?_
            refine G3 ?_
            refine .sA J J J J (Vote.isCell (by exact hvg.ok)) Sz81 (Vote.length (by exact hvg.ok)) mR (Vote.length zT) uU ?_
            refine G5 ?_
            refine .load1 J J J Y24.h J mR (by exact Cert.get_fVotes (by exact ⟨okC⟩)) ?_
            refine .lA J J J Y81.h J Sz81 mR (Vote.length (by exact hvg.ok)) ?_
            refine .mkRow2 (z := agg Vote.zero.cells) [agg (Bi (o8.getD [])).1.cells] (Bi (o8.getD [])).1.cells J J Y24.h Sz81 Zr81 J J (by intro v hv; rw [List.mem_singleton.1 hv]; simp [Value.cells, Vote.length hvg.ok]) dE (by simp [Value.cells]) ?_
            intro q50
            refine .appendAcc (z := agg Vote.zero.cells) (by' := 160) ((Bi (o8.getD [])).1.cells) J J J J J Y24.h Y24.h Sz81 Zr81 (by unfold By; kernel_rfl) J hac sG (fun w h => SeesP.of (Ah h Z0)) (fun e => by cases e) (Vote.isCell hvg.ok) oM oM (by rw [Vote.length hvg.ok]) ?_
            intro s51 bl51 hac51
            refine G1 ?_
            refine .s1 J J J J J Sz24 mR (by rw [Cert.length (by exact ⟨okC⟩)]; decide) (by exact Cert.set_fVotes (by exact ⟨okC⟩) _) uU ?_
            refine G5 ?_
            refine .add_u64 J J J (show Al _ _ = some (u64 1) from rfl) (G3 ?_)
            refine ⟨⟨p.k + 1, 0, s51, bl51, p.vs ++ [(Bi (o8.getD [])).1], a8, e8, (Bi (o8.getD [])).2, o43⟩, ⟨by simp only []; omega, by simp only []; omega, hd8.1, ho43, ?_, ?_, inv_step hin zA zA h8⟩, by simp only []; omega, Ae (wk1 J (wk1 J (wk1 J (wk1 J (wk1 J (wk1 J (wk1 (congrArg (fun z => some (u64 z)) (ofNat_step _)) wk0))))))) (Ab rM (Ab rM (Ab rM (Ab rM (Aj sG (Aj sG Ad))))))⟩
            · simp only [List.map_append, List.map_cons, List.map_nil, List.flatten_append, List.flatten_cons, List.flatten_nil, List.append_nil, List.length_append, List.length_singleton]
              exact hac51
            · intro V hV
              rcases List.mem_append.1 hV with h | h
              · exact hvo V h
              · rw [List.mem_singleton.1 h]; exact hvg
          refine G5 ?_
          exact ⟨p, ⟨hp1, hp17, hpa, hop, hac, hvo, hin, by (right; right; right; assumption)⟩, Ae (wk1 rfl (wk1 rfl (wk1 rfl (wk1 rfl (wk1 rfl (wk1 rfl (wk1 rfl wk0))))))) (Ab rM (Ab rM (Ab rM (Ab rM (Aj sG (Aj sG Ad))))))⟩
        have hs7_12 := of_decide_eq_false hs7_120
        refine G7 ?_
        refine .cond_f J J (G5 ?_)
        exact ⟨p, ⟨hp1, hp17, hpa, hop, hac, hvo, hin, by (right; right; left; assumption)⟩, Ae (wk1 rfl (wk1 rfl (wk1 rfl (wk1 rfl (wk1 rfl (wk1 rfl (wk1 rfl wk0))))))) (Ab rM (Ab rM (Ab rM (Ab rM (Aj sG (Aj sG Ad))))))⟩
      have hs7_5 := of_decide_eq_false hs7_50
      refine G14 ?_
      refine .cond_f J J (G5 ?_)
      exact ⟨p, ⟨hp1, hp17, hpa, hop, hac, hvo, hin, by (right; left; omega)⟩, Ae (wk1 rfl (wk1 rfl (wk1 rfl (wk1 rfl (wk1 rfl (wk1 rfl (wk1 rfl wk0))))))) (Ab rM (Ab rM (Ab rM (Ab rM (Aj sG (Aj sG Ad))))))⟩
    have hs7_2 := of_decide_eq_false hs7_20
    refine G17 ?_
    refine .cond_f J J (G5 ?_)
    exact ⟨p, ⟨hp1, hp17, hpa, hop, hac, hvo, hin, by (left; omega)⟩, Ae (wk1 rfl (wk1 rfl (wk1 rfl (wk1 rfl (wk1 rfl (wk1 rfl (wk1 rfl wk0))))))) (Ab rM (Ab rM (Ab rM (Ab rM (Aj sG (Aj sG Ad))))))⟩
  intro j hj
  obtain ⟨hp1, hp17, hpa, hop, hac, hvo, hin, hfin⟩ := hj
  have hvl := hin.1
  refine G4 ?_
  refine .cV J J J J Body140 (r1_End n11 q11 j.o n cp11 j.a j.e hpa oM) (fun w h => Af h Z0) ?_
  refine two (fun r hr k => Tr.nei J J J J hr k) (fun hs12_20 => ?_) (fun hs12_20 => ?_)
  ·
    have hs12_2 := nd_t hs12_20
    refine G11 ?_
    refine .cond_t J J (G2 ?_)
    refine .build (cs := Cert.zero.cells) J J J (fun w => by kernel_rfl) ?_
    refine G7 ?_
    refine Ai (out := (out15 ++ (j.bl ++ []))) (Aw J J J Y55.h J Sz55 Z3 (by exact Cert.length (by exact Cert.zero_ok))) (Aj sG (Aj sG Ad)) ?_
    have hF := cert_fin h1 h3 hin hfin hp1
    exact cert_bad (hF.2 (by rw [hl]; exact fun h => hs12_2 h.1))
  have hs12_2 := nd_f hs12_20
  refine G2 ?_
  refine two (fun r hr k => Tr.nei J J J J hr k) (fun hs12_50 => ?_) (fun hs12_50 => ?_)
  ·
    have hs12_5 := nd_t hs12_50
    refine G8 ?_
    refine .cond_t J J (G2 ?_)
    refine .build (cs := Cert.zero.cells) J J J (fun w => by kernel_rfl) ?_
    refine G7 ?_
    refine Ai (out := (out15 ++ (j.bl ++ []))) (Aw J J J Y55.h J Sz55 Z3 (by exact Cert.length (by exact Cert.zero_ok))) (Aj sG (Aj sG Ad)) ?_
    have hF := cert_fin h1 h3 hin hfin hp1
    exact cert_bad (hF.2 (by rw [hl]; exact fun h => hs12_5 h.2.1))
  have hs12_5 := nd_f hs12_50
  refine G2 ?_
  refine .lA J J J Y55.h J Sz55 Z2 (Cert.length (by exact ⟨okC⟩)) ?_
  refine .cV J J J J Body42 (r25_CheckCert ({ Cert.zero with fCut := C15, fVotes := j.s } : Cert) ⟨(B8 (o1.getD [])).1, j.vs⟩) (fun w h => ⟨⟨okC⟩, hC15 w (Lies.of h (by repeat (first | exact Ar | refine B0 ?_))), owned_vs hvo hac oM w (Lies.of h (by repeat (first | exact Ar | refine B0 ?_ | refine Bn ?_)))⟩) ?_
  refine G4 ?_
  refine .condNP J (fun hc1 => ?_) (fun hc1 => ?_)
  ·
    refine G2 ?_
    refine .build (cs := Cert.zero.cells) J J J (fun w => by kernel_rfl) ?_
    refine G7 ?_
    refine Ai (out := (out15 ++ (j.bl ++ []))) (Aw J J J Y55.h J Sz55 Z3 (by exact Cert.length (by exact Cert.zero_ok))) (Aj sG (Aj sG Ad)) ?_
    have hF := cert_fin h1 h3 hin hfin hp1
    exact cert_bad (hF.2 (by rw [hl]; exact fun h => hc1 h.2.2))
  refine G4 ?_
  refine .lA J J J Y55.h J Sz55 Z2 (Cert.length (by exact ⟨okC⟩)) ?_
  refine .sA J J J J (Cert.isCell (by exact ⟨okC⟩)) Sz55 (Cert.length (by exact ⟨okC⟩)) Z3 (Cert.length (by exact Cert.zero_ok)) (by exact upd3) ?_
  refine G5 ?_
  refine Ai (out := (out15 ++ (j.bl ++ []))) (Aw J J J Y55.h J Sz55 Z3 (by exact Cert.length (by exact ⟨okC⟩))) (Aj sG (Aj sG Ad)) ?_
  have hF := cert_fin h1 h3 hin hfin hp1
  exact cert_okR (hF.1 (by rw [hl]; exact ⟨by assumption, by assumption, by assumption⟩)) ⟨okC⟩ (fun W2 h2 => ⟨⟨okC⟩, hC15 W2 (h2.sub (by repeat (exact Ar))), owned_vs hvo hac oM W2 (h2.sub (by repeat (first | exact Ar | refine Bn ?_)))⟩)

theorem r1w_err (n q N cp at' : Nat) (o : Nat) (e : Int) (xs : List UInt8) (hx : xs.length = N) (hat : at' ≤ N) (hN : N ≤ cp) (hbig : N ≤ 90000) (he : ¬ e = 0) : Meets Tryz.prog 150 [ptr n 0, i64 1] [n] (fun W => BlkOk W (R1B n q (o) N cp (at') (e)) ∧ Bs W q 0 (Aa xs) ∧ q ≠ n) (fun v out => v = u64 0 ∧ out = [R1B n q (o) N cp (at') (e)]) := by
 intro W hW
 skip
 refine A3 (hp0 := [R1B n q (o) N cp (at') (e)]) Tryz.func150 J 29 Tryz.ntmps150 J (HRep.one hW.1) (G2 ?_)
 refine .a J J (show Al _ _ = some (u64 0) from rfl) (G6 ?_)
 refine .max2 J J J J (show Value.int .i64 (if (1 : Int) > (1 : Int) then 1 else (1 : Int)) = i64 1 by rfl) ?_
 refine .min2 J J J J (show Value.int .i64 (if (8 : Int) < (1 : Int) then 8 else (1 : Int)) = i64 1 by rfl) ?_
 refine .callL (L := [R1B n q (o) N cp (at') (e)]) J J J J J Body216 (r1t_err n q N cp at' o e 1 dE dE xs hx hat hN hbig he) (Ab rM Ad) (Au J) (fun w h => ⟨Af h Z0, Ba h (by simp; exact hW.2.2) hW.2.1, hW.2.2⟩) ?_
 rintro v12 out12 ⟨rfl, rfl⟩
 refine G5 ?_
 refine .a J J (show Al _ _ = some (u64 0) from rfl) (G12 ?_)
 refine .loop (ι := Unit) (fun j => ⟨[(6, u64 0), (7, i64 (-1))], [R1B n q (o) N cp (at') (e)]⟩) (fun j => True) (fun j => 0) (()) ?_ ?_ ?_
 · trivial
 · exact Ae (wk1 rfl (wk1 rfl wk0)) (Ab rM Ad)
 rintro j hj
 refine G7 ?_
 refine .condP J (fun hc0 => ?_) (fun hc0 => ?_)
 ·
  exfalso; omega
 refine G13 ?_
 refine Ai (out := (R1B n q (o) N cp (at') (e) :: [])) (Ac J J) (Ab rM Ad) ?_
 exact ⟨rfl, rfl⟩
theorem r1w_more (n q N cp at' : Nat) (o : Nat) (xs : List UInt8) (hx : xs.length = N) (hat : at' ≤ N) (hN : N ≤ cp) (hbig : N ≤ 90000) (hk : N < at' + 1) : Meets Tryz.prog 150 [ptr n 0, i64 1] [n] (fun W => BlkOk W (R1B n q (o) N cp (at') (0)) ∧ Bs W q 0 (Aa xs) ∧ q ≠ n) (fun v out => v = u64 0 ∧ out = [R1B n q (o) N cp (at') (5)]) := by
 intro W hW
 skip
 refine A3 (hp0 := [R1B n q (o) N cp (at') (0)]) Tryz.func150 J 29 Tryz.ntmps150 J (HRep.one hW.1) (G2 ?_)
 refine .a J J (show Al _ _ = some (u64 0) from rfl) (G6 ?_)
 refine .max2 J J J J (show Value.int .i64 (if (1 : Int) > (1 : Int) then 1 else (1 : Int)) = i64 1 by rfl) ?_
 refine .min2 J J J J (show Value.int .i64 (if (8 : Int) < (1 : Int) then 8 else (1 : Int)) = i64 1 by rfl) ?_
 refine .callL (L := [R1B n q (o) N cp (at') (0)]) J J J J J Body216 (r1t_more n q N cp at' o 1 dE dE xs hx hat hN hbig hk) (Ab rM Ad) (Au J) (fun w h => ⟨Af h Z0, Ba h (by simp; exact hW.2.2) hW.2.1, hW.2.2⟩) ?_
 rintro v12 out12 ⟨rfl, rfl⟩
 refine G5 ?_
 refine .a J J (show Al _ _ = some (u64 0) from rfl) (G12 ?_)
 refine .loop (ι := Unit) (fun j => ⟨[(6, u64 0), (7, i64 (-1))], [R1B n q (o) N cp (at') (5)]⟩) (fun j => True) (fun j => 0) (()) ?_ ?_ ?_
 · trivial
 · exact Ae (wk1 rfl (wk1 rfl wk0)) (Ab rM Ad)
 rintro j hj
 refine G7 ?_
 refine .condP J (fun hc0 => ?_) (fun hc0 => ?_)
 ·
  exfalso; omega
 refine G13 ?_
 refine Ai (out := (R1B n q (o) N cp (at') (5) :: [])) (Ac J J) (Ab rM Ad) ?_
 exact ⟨rfl, rfl⟩
theorem r1w_ok (n q N cp at' : Nat) (xs : List UInt8) (hx : xs.length = N) (hat : at' ≤ N) (hN : N ≤ cp) (hbig : N ≤ 90000) (hk : at' + 1 ≤ N) : Meets Tryz.prog 150 [ptr n 0, i64 1] [n] (fun W => BlkOk W (R1B n q (at') N cp (at') (0)) ∧ Bs W q 0 (Aa xs) ∧ q ≠ n) (fun v out => v = u64 (((xs.drop at').take 1).getD 0 0).toUInt64 ∧ out = [R1B n q (if cp - at' = 1 then at' else at' + 1 * 1) N cp (at' + 1) (0)]) := by
 intro W hW
 have h1l : ((xs.drop at').take 1).length = 1 := by simp; omega
 refine A3 (hp0 := [R1B n q (at') N cp (at') (0)]) Tryz.func150 J 29 Tryz.ntmps150 J (HRep.one hW.1) (G2 ?_)
 refine .a J J (show Al _ _ = some (u64 0) from rfl) (G6 ?_)
 refine .max2 J J J J (show Value.int .i64 (if (1 : Int) > (1 : Int) then 1 else (1 : Int)) = i64 1 by rfl) ?_
 refine .min2 J J J J (show Value.int .i64 (if (8 : Int) < (1 : Int) then 8 else (1 : Int)) = i64 1 by rfl) ?_
 refine .callL (L := [R1B n q (at') N cp (at') (0)]) J J J J J Body216 (r1t_ok n q N cp at' 1 dE dE xs hx hat hN hbig hk) (Ab rM Ad) (Au J) (fun w h => ⟨Af h Z0, Ba h (by simp; exact hW.2.2) hW.2.1, hW.2.2⟩) ?_
 rintro v12 out12 ⟨q12, c12, rfl, hc12, rfl⟩
 refine G5 ?_
 refine .a J J (show Al _ _ = some (u64 0) from rfl) (G12 ?_)
 refine .loop (ι := Nat) (fun j => ⟨[(5, .slice (some ⟨q12, 0, none⟩) 1 c12), (6, u64 (if j = 0 then 0 else (((xs.drop at').take 1).getD 0 0).toUInt64)), (7, i64 (0 - (j : Int)))], [⟨q12, Aa ((xs.drop at').take 1), 5, c12 * 1⟩, R1B n q (if cp - at' = 1 then at' else at' + 1 * 1) N cp (at' + 1) (0)]⟩) (fun j => j ≤ 1) (fun j => 1 - j) (0) ?_ ?_ ?_
 · exact Nat.zero_le _
 · exact Ae (wk1 rfl (wk1 rfl (wk1 rfl wk0))) (Ab rM (Ab rM Ad))
 rintro j hj
 refine G7 ?_
 refine .condP J (fun hc0 => ?_) (fun hc0 => ?_)
 ·
  refine G6 ?_
  refine .mul_u64 J J J (show Al _ _ = some (u64 256) from rfl) (G2 ?_)
  refine .idxSl1 J J J J Y58.h Sz5 0 oM oM (G13 ?_)
  exact ⟨j + 1, by omega, by omega, Ae (wk1 rfl (wk1 (congrArg (fun z => some (u64 z)) (by obtain rfl := (show j = 0 by omega); simp)) (wk1 (congrArg (fun z => some (i64 z)) oM) wk0))) (Ab rM (Ab rM Ad))⟩
 obtain rfl : j = 1 := by omega
 refine G13 ?_
 refine Ai (out := (R1B n q (if cp - at' = 1 then at' else at' + 1 * 1) N cp (at' + 1) (0) :: [])) (Ac J J) (Ab rM Ad) ?_
 exact ⟨rfl, rfl⟩
theorem r1_Word1 (n q o N cp a : Nat) (e : Int) (xs : List UInt8) (hx : xs.length = N) (hat : a ≤ N) (hN : N ≤ cp) (hbig : N ≤ 90000) (ho : At1 cp a o) (x : UInt64) (a1 : Nat) (e1 : Int) (h : wordR xs a e = (x, a1, e1)) : Meets Tryz.prog 150 [ptr n 0, i64 1] [n] (fun W => BlkOk W (R1B n q o N cp a e) ∧ Bs W q 0 (Aa xs) ∧ q ≠ n)
    (fun v out => ∃ o1, At1 cp a1 o1 ∧ v = u64 x ∧ out = [R1B n q o1 N cp a1 e1]) := by
  unfold wordR at h
  by_cases he : e = 0
  · subst he
    rw [if_neg sP] at h
    by_cases h1 : xs.length < a + 1
    · rw [if_pos h1] at h
      cases h
      exact (r1w_more n q N cp a o xs hx hat hN hbig oM).imp (fun w h => h) fun v out ⟨h1, h2⟩ => ⟨o, ho, h1, h2⟩
    · rw [if_neg h1] at h
      cases h
      obtain rfl : o = a := ho oM
      refine (r1w_ok n q N cp o xs hx hat hN hbig oM).imp (fun w h => h) fun v out ⟨h1, h2⟩ => ⟨_, at1_move oM, ?_, h2⟩
      rw [h1]
      have : ((xs.drop o).take 1).getD 0 0 = xs.getD o 0 := by
        rw [List.getD_eq_getElem?_getD, List.getD_eq_getElem?_getD, List.getElem?_take_of_lt dE, List.getElem?_drop, Nat.add_zero]
      rw [this]
  · rw [if_pos he] at h
    cases h
    exact (r1w_err n q N cp a o e xs hx hat hN hbig he).imp (fun w h => h) fun v out ⟨h1, h2⟩ => ⟨o, ho, h1, h2⟩

end Go.Proofs.YtdifpjmfabhpiaaGreat
end
