/- Contracts of functions of the loaded program, and the lemmas that they need (part 3). It proves no statement by itself; it has no conditions. -/
import Derived.WalkKit
import Derived.Orders
import Derived.Deep.LoopGhost
import Derived.IntWalk
import Derived.Laws.StructEq
import Derived.ArgAppend
import Derived.Deep.AppendSrc
import Derived.Lib.Bytealg
import Derived.Lib.BytesEntry
import Derived.Laws.IdiomStrings
import Derived.WideKeyArr2
import Derived.ProofKit
import Derived.OpenShut
import Derived.Deep.Slices
import Derived.Laws.Pointers
import Derived.Laws.Cover3
import Derived.LaidEqlPtr
import Derived.LoopN
import Derived.RangeFuncLeaves
import Derived.RangeFuncSeq
import Derived.OrdersIn
import Derived.Test.YtdifpjmfabhpiaaGreatRows
import Derived.KernelRfl
import Derived.Laws.Externs
import Derived.Defers
import Derived.Laws.MathBits
import Derived.ChangeOld
import Derived.Below
import Derived.Test.YtdifpjmfabhpiaaGreatKClD2
set_option maxRecDepth 100000
set_option maxHeartbeats 8000000
set_option linter.unusedVariables false
set_option linter.unusedSimpArgs false
section
namespace Go.Proofs.YtdifpjmfabhpiaaGreat
open Go Hw

def BB (b : Nat) (X : Block) : Blk := ⟨b, X.cells, 79, 131⟩
theorem rd_DigestE (n q N cp a : Nat) (e : Int) (xs : List UInt8) (hx : xs.length = N) (hat : a ≤ N) (hN : N ≤ cp) (hbig : N ≤ 1000000) (l : List UInt8) (a1 : Nat) (e1 : Int) (h : Cf xs a e = (l, a1, e1)) : Meets Tryz.prog 173 [ptr n 0] [n] (fun W => BlkOk W (RB n q N cp a e) ∧ B8 W q 0 (Aa xs) ∧ q ≠ n)
    (fun v out => v = agg (Aa l) ∧ out = [RB n q N cp a1 e1]) := by
  have := rd_Digest n q N cp a e xs hx hat hN hbig
  rw [h] at this
  exact this
theorem rd_NumberE (n q N cp a : Nat) (e : Int) (xs : List UInt8) (hx : xs.length = N) (hat : a ≤ N) (hN : N ≤ cp) (hbig : N ≤ 1000000) (l : UInt64) (a1 : Nat) (e1 : Int) (h : A5 xs a e = (l, a1, e1)) : Meets Tryz.prog 94 [ptr n 0] [n] (fun W => BlkOk W (RB n q N cp a e) ∧ B8 W q 0 (Aa xs) ∧ q ≠ n)
    (fun v out => v = u64 l ∧ out = [RB n q N cp a1 e1]) := by
  have := rd_Number n q N cp a e xs hx hat hN hbig
  rw [h] at this
  exact this
theorem Cc {xs l : List UInt8} {a a1 N : Nat} {e e1 : Int} (h : Cf xs a e = (l, a1, e1)) (hx : xs.length = N) (hat : a ≤ N) : a1 ≤ N ∧ l.length = 32 := by
  have := digR_at xs a e oM
  rw [h] at this
  exact ⟨by have := this.1; simp only at this; omega, this.2⟩
theorem Bm {xs : List UInt8} {l : UInt64} {a a1 N : Nat} {e e1 : Int} (h : A5 xs a e = (l, a1, e1)) (hx : xs.length = N) (hat : a ≤ N) : a1 ≤ N := by
  have := numR_at xs a e oM
  rw [h] at this
  simp only at this; omega

theorem opt_head (b c n q N cp at' : Nat) (e : Int) (X : Block) (hX : X.ok) (xs : List UInt8) (hx : xs.length = N) (hat : at' ≤ N) (hN : N ≤ cp) (hbig : N ≤ 90000) (hbn : b ≠ n) (hcb : c ≠ b) (hcn : c ≠ n) (hqb : q ≠ b) (hqn : q ≠ n) (l1 : List UInt8) (a1 : Nat) (e1 : Int) (x2 : UInt64) (a2 : Nat) (e2 : Int) (l3 : List UInt8) (a3 : Nat) (e3 : Int) (h1 : Cf xs at' e = (l1, a1, e1)) (h2 : A5 xs a1 e1 = (x2, a2, e2)) (h3 : Cf xs a2 e2 = (l3, a3, e3)) : Meets Tryz.prog 225 [ptr b 0, ptr c 0] [b, n] (fun W => BlkOk W (BB b X) ∧ BlkOk W (RB n q N cp at' e) ∧ W.cell? ⟨c, 0, none⟩ = some (ptr n 0) ∧ B8 W q 0 (Aa xs)) (fun v out => v = .tuple #[] ∧ out = [BB b ({ X with fWriter := l1, fSeq := x2, fPrev := l3 } : Block), RB n q N cp a3 e3]) := by
 intro W hW
 have hd1 := Cc h1 hx hat
 have hd2 := Bm h2 hx hd1.1
 have hd3 := Cc h3 hx hd2
 have ok1 : ({ X with fWriter := l1 } : Block).ok := ⟨hd1.2, hX.l_fPrev, hX.l_fSig⟩
 have ok2 : ({ X with fWriter := l1, fSeq := x2 } : Block).ok := ⟨hd1.2, hX.l_fPrev, hX.l_fSig⟩
 refine A3 (hp0 := [BB b X, RB n q N cp at' e]) Tryz.func225 J 18 Tryz.ntmps225 J (HRep.two hW.1 hW.2.1 hbn) (G3 ?_)
 refine .loadE J J J Y129 J (by (simp; omega)) (hW.2.2.1) ?_
 refine .callL (L := [RB n q N cp (at') (e)]) J J J J J Body173 (rd_DigestE n q N cp at' e xs hx hat hN oM l1 a1 e1 h1) (rem_there Az) (Ay J) (fun w h => ⟨Ak h Z1, Bt h (by simp; omega) hW.2.2.2, hqn⟩) ?_
 rintro v2 out2 ⟨rfl, rfl⟩
 refine G2 ?_
 refine .storeN (Aa _) J J J J J zE Sz75 (by simp [hd1.2]) Z1 (by rw [Block.length zA]; simp [hd1.2]) (Block.upd_fWriter zA _ (by simp [hd1.2])) zV ?_
 refine G5 ?_
 refine .loadE J J J Y129 J (by (simp; omega)) (hW.2.2.1) ?_
 refine .callL (L := [RB n q N cp (a1) (e1)]) J J J J J Body94 (rd_NumberE n q N cp a1 e1 xs hx hd1.1 hN oM x2 a2 e2 h2) Az (Ay J) (fun w h => ⟨Ak h Z0, Bt h (by simp; omega) hW.2.2.2, hqn⟩) ?_
 rintro v2 out2 ⟨rfl, rfl⟩
 refine G7 ?_
 refine .loadE J J J Y129 J (by (simp; omega)) (hW.2.2.1) ?_
 refine .callL (L := [RB n q N cp (a2) (e2)]) J J J J J Body173 (rd_DigestE n q N cp a2 e2 xs hx hd2 hN oM l3 a3 e3 h3) Az (Ay J) (fun w h => ⟨Ak h Z0, Bt h (by simp; omega) hW.2.2.2, hqn⟩) ?_
 rintro v2 out2 ⟨rfl, rfl⟩
 refine G2 ?_
 refine .storeN (Aa _) J J J J J zE Sz50 (by simp [hd3.2]) Z1 (by rw [Block.length zA]; simp [hd3.2]) (Block.upd_fPrev zA _ (by simp [hd3.2])) zV ?_
 refine G2 ?_
 refine Ah (out := (BB b ({ X with fWriter := l1, fSeq := x2, fPrev := l3 } : Block) :: (RB n q N cp a3 e3 :: []))) (res_none J) (Ac rM (Ac rM Ae)) ?_
 exact ⟨rfl, rfl⟩

def takR (xs : List UInt8) (m a : Nat) (e : Int) : List UInt8 × Nat × Int :=
  if ¬ e = 0 then ([], a, e) else if xs.length < a + m then ([], a, 5) else ((xs.drop a).take m, a + m, 0)
theorem rd_TakeE (n q N cp a : Nat) (e : Int) (m : Nat) (hm0 : 0 < m) (hm : m ≤ 90000) (xs : List UInt8) (hx : xs.length = N) (hat : a ≤ N) (hN : N ≤ cp) (hbig : N ≤ 90000) (l : List UInt8) (a1 : Nat) (e1 : Int) (h : takR xs m a e = (l, a1, e1)) : Meets Tryz.prog 174 [ptr n 0, i64 (m : Int)] [n] (fun W => BlkOk W (RB n q N cp a e) ∧ B8 W q 0 (Aa xs) ∧ q ≠ n)
    (fun v out => ∃ s bl, v = s.v ∧ Acc s bl (Aa l) 5 l.length 1 ∧ out = bl ++ [RB n q N cp a1 e1]) := by
  unfold takR at h
  by_cases he : e = 0
  · subst he
    rw [if_neg sP] at h
    by_cases h1 : xs.length < a + m
    · rw [if_pos h1] at h
      obtain ⟨rfl, rfl, rfl⟩ : [] = l ∧ a = a1 ∧ (5 : Int) = e1 := by simpa using h
      exact (rd_take64_more n q N cp a m hm0 hm xs hx hat hN oM oM).imp (fun w h => h) fun v out ⟨h1, h2⟩ => ⟨Sl.nil, [], h1, Acc.none, h2⟩
    · rw [if_neg h1] at h
      obtain ⟨rfl, rfl, rfl⟩ : (xs.drop a).take m = l ∧ a + m = a1 ∧ (0 : Int) = e1 := by simpa using h
      refine (rd_take64_ok n q N cp a m hm0 hm xs hx hat hN oM oM hbig).imp (fun w h => h) fun v out ⟨q1, c1, h1, h2, h3⟩ => ?_
      have hl : ((xs.drop a).take m).length = m := by simp; omega
      refine ⟨⟨some ⟨q1, 0, none⟩, m, c1⟩, [_], h1, ?_, h3⟩
      rw [hl]
      exact Acc.some h2 (by simp [hl]; omega)
  · rw [if_pos he] at h
    obtain ⟨rfl, rfl, rfl⟩ : [] = l ∧ a = a1 ∧ e = e1 := by simpa using h
    exact (rd_take64_err n q N cp a e m hm0 hm xs hx hat hN oM he).imp (fun w h => h) fun v out ⟨h1, h2⟩ => ⟨Sl.nil, [], h1, Acc.none, h2⟩
theorem takE_le {xs l : List UInt8} {a a1 m N : Nat} {e e1 : Int} (h : takR xs m a e = (l, a1, e1)) (hx : xs.length = N) (hat : a ≤ N) : a1 ≤ N ∧ (l = [] ∨ l.length = m) := by
  unfold takR at h
  split at h
  · obtain ⟨rfl, rfl, rfl⟩ : [] = l ∧ a = a1 ∧ e = e1 := by simpa using h
    exact ⟨hat, .inl rfl⟩
  split at h
  · obtain ⟨rfl, rfl, rfl⟩ : [] = l ∧ a = a1 ∧ (5 : Int) = e1 := by simpa using h
    exact ⟨hat, .inl rfl⟩
  · obtain ⟨rfl, rfl, rfl⟩ : (xs.drop a).take m = l ∧ a + m = a1 ∧ (0 : Int) = e1 := by simpa using h
    exact ⟨by omega, .inr (by simp; omega)⟩
theorem rd_BlockE (n q N cp a : Nat) (e : Int) (xs : List UInt8) (hx : xs.length = N) (hat : a ≤ N) (hN : N ≤ cp) (hbig : N ≤ 90000) (o : Option (List UInt8)) (a1 : Nat) (e1 : Int) (h : blkR xs a e = (o, a1, e1)) : Meets Tryz.prog 120 [ptr n 0] [n] (fun W => BlkOk W (RB n q N cp a e) ∧ B8 W q 0 (Aa xs) ∧ q ≠ n)
    (fun v out => ∃ s bl, v = s.v ∧ Acc s bl (Aa (o.getD [])) 5 (o.getD []).length 1 ∧ out = bl ++ [RB n q N cp a1 e1]) := by
  unfold blkR at h
  by_cases he : (A5 xs a e).2.2 = 0
  · rw [if_neg (by simp [he])] at h
    by_cases h1 : xs.length < (A5 xs a e).2.1 + (A5 xs a e).1.toNat
    · rw [if_pos h1] at h
      obtain ⟨rfl, rfl, rfl⟩ : none = o ∧ a = a1 ∧ (5 : Int) = e1 := by simpa using h
      exact (rd_blk_more n q N cp a e xs hx hat hN oM he oM hbig).imp (fun w h => h) fun v out ⟨h1, h2⟩ => ⟨Sl.nil, [], h1, Acc.none, h2⟩
    · rw [if_neg h1] at h
      obtain ⟨rfl, rfl, rfl⟩ : some ((xs.drop (A5 xs a e).2.1).take (A5 xs a e).1.toNat) = o ∧ (A5 xs a e).2.1 + (A5 xs a e).1.toNat = a1 ∧ (0 : Int) = e1 := by simpa using h
      refine (rd_blk_ok n q N cp a e xs hx hat hN oM he oM hbig).imp (fun w h => h) fun v out ⟨q1, c1, h1, h2, h3⟩ => ?_
      have hl : ((xs.drop (A5 xs a e).2.1).take (A5 xs a e).1.toNat).length = (A5 xs a e).1.toNat := by simp; omega
      refine ⟨⟨some ⟨q1, 0, none⟩, (A5 xs a e).1.toNat, c1⟩, [_], h1, ?_, h3⟩
      simp only [Option.getD_some]
      rw [hl]
      exact Acc.some h2 (by simp only [Aa, List.length_map, hl]; omega)
  · rw [if_pos he] at h
    obtain ⟨rfl, rfl, rfl⟩ : none = o ∧ a = a1 ∧ (A5 xs a e).2.2 = e1 := by simpa using h
    exact (rd_blk_err n q N cp a e xs hx hat hN oM he hbig).imp (fun w h => h) fun v out ⟨h1, h2⟩ => ⟨Sl.nil, [], h1, Acc.none, h2⟩
theorem blkE_le {xs : List UInt8} {o : Option (List UInt8)} {a a1 N : Nat} {e e1 : Int} (h : blkR xs a e = (o, a1, e1)) (hx : xs.length = N) (hat : a ≤ N) : a1 ≤ N ∧ (o.getD []).length ≤ N := by
  unfold blkR at h
  split at h
  · obtain ⟨rfl, rfl, rfl⟩ : none = o ∧ a = a1 ∧ (A5 xs a e).2.2 = e1 := by simpa using h
    exact ⟨hat, by simp⟩
  split at h
  · obtain ⟨rfl, rfl, rfl⟩ : none = o ∧ a = a1 ∧ (5 : Int) = e1 := by simpa using h
    exact ⟨hat, by simp⟩
  · obtain ⟨rfl, rfl, rfl⟩ : some ((xs.drop (A5 xs a e).2.1).take (A5 xs a e).1.toNat) = o ∧ (A5 xs a e).2.1 + (A5 xs a e).1.toNat = a1 ∧ (0 : Int) = e1 := by simpa using h
    exact ⟨by omega, by simp; omega⟩
def Av (xs : List UInt8) : Nat → Nat → Int → List (List UInt8) × Nat × Int
  | 0, a, e => ([], a, e)
  | j + 1, a, e => ((Av xs j a e).1 ++ [(Cf xs (Av xs j a e).2.1 (Av xs j a e).2.2).1], (Cf xs (Av xs j a e).2.1 (Av xs j a e).2.2).2)
theorem digsR_succ {xs l : List UInt8} {j a a1 : Nat} {e e1 : Int} (h : Cf xs (Av xs j a e).2.1 (Av xs j a e).2.2 = (l, a1, e1)) : Av xs (j + 1) a e = ((Av xs j a e).1 ++ [l], a1, e1) := by rw [Av, h]
theorem digsR_at {xs : List UInt8} {a N : Nat} {e : Int} (hx : xs.length = N) (hat : a ≤ N) : ∀ j, (Av xs j a e).2.1 ≤ N ∧ (∀ l ∈ (Av xs j a e).1, l.length = 32) ∧ (Av xs j a e).1.length = j
  | 0 => ⟨hat, fun l hl => by simp [Av] at hl, rfl⟩
  | j + 1 => by
    obtain ⟨h1, h2, h3⟩ := digsR_at (e := e) hx hat j
    have h4 := digR_at xs (Av xs j a e).2.1 (Av xs j a e).2.2 oM
    refine ⟨by simp only [Av]; omega, fun l hl => ?_, by simp [Av, h3]⟩
    simp only [Av, List.mem_append, List.mem_singleton] at hl
    rcases hl with hl | rfl
    · exact h2 l hl
    · exact h4.2
theorem ofNat_step (j : Nat) : UInt64.ofNat j + 1 = UInt64.ofNat (j + 1) := by rw [UInt64.ofNat_add]; rfl

theorem opt_links (b c n q N cp at' : Nat) (e : Int) (X : Block) (hX : X.ok) (xs : List UInt8) (hx : xs.length = N) (hat : at' ≤ N) (hN : N ≤ cp) (hbig : N ≤ 90000) (hbn : b ≠ n) (hcb : c ≠ b) (hcn : c ≠ n) (hqb : q ≠ b) (hqn : q ≠ n) (hXl : X.fLinks = Sl.nil) (x1 : UInt64) (a1 : Nat) (e1 : Int) (h1 : A5 xs at' e = (x1, a1, e1)) : Meets Tryz.prog 226 [ptr b 0, ptr c 0] [b, n] (fun W => BlkOk W (BB b X) ∧ BlkOk W (RB n q N cp at' e) ∧ W.cell? ⟨c, 0, none⟩ = some (ptr n 0) ∧ B8 W q 0 (Aa xs)) (fun v out => ∃ s bl, v = .tuple #[] ∧ Acc s bl (Bs (Av xs (min x1.toNat 17) a1 e1).1) 50 (min x1.toNat 17) 32 ∧ out = RB n q N cp (Av xs (min x1.toNat 17) a1 e1).2.1 (Av xs (min x1.toNat 17) a1 e1).2.2 :: BB b ({ X with fLinks := s } : Block) :: bl) := by
 intro W hW
 have ha1 := Bm h1 hx hat
 have okL : ∀ s : Sl, ({ X with fLinks := s } : Block).ok := fun s => ⟨hX.l_fWriter, hX.l_fPrev, hX.l_fSig⟩
 refine A3 (hp0 := [BB b X, RB n q N cp at' e]) Tryz.func226 J 20 Tryz.ntmps226 J (HRep.two hW.1 hW.2.1 hbn) (G2 ?_)
 refine .loadE J J J Y129 J (by (simp; omega)) (hW.2.2.1) ?_
 refine .callL (L := [RB n q N cp (at') (e)]) J J J J J Body94 (rd_NumberE n q N cp at' e xs hx hat hN oM x1 a1 e1 h1) (rem_there Az) (Ay J) (fun w h => ⟨Ak h Z1, Bt h (by simp; omega) hW.2.2.2, hqn⟩) ?_
 rintro v2 out2 ⟨rfl, rfl⟩
 refine .min2 J J J J (show Value.int .u64 (if (17 : Int) < (x1.toNat : Int) then 17 else (x1.toNat : Int)) = .int .u64 ((min x1.toNat 17 : Nat) : Int) from by congr 1; split <;> omega) ?_
 refine G4 ?_
 refine .loop (ι := Nat × Sl × List Blk) (fun p => ⟨[(0, ptr b 0), (1, ptr c 0), (5, .int .u64 ((min x1.toNat 17 : Nat) : Int)), (6, u64 (UInt64.ofNat p.1))], (RB n q N cp (Av xs p.1 a1 e1).2.1 (Av xs p.1 a1 e1).2.2 :: (BB b ({ X with fLinks := p.2.1 } : Block) :: (p.2.2 ++ [])))⟩) (fun p => p.1 ≤ min x1.toNat 17 ∧ Acc p.2.1 p.2.2 (Bs (Av xs p.1 a1 e1).1) 50 p.1 32) (fun p => min x1.toNat 17 - p.1) ((0, Sl.nil, [])) ?_ ?_ ?_
 · exact ⟨Nat.zero_le _, Acc.none⟩
 · exact Af (wk1 rfl (wk1 rfl (wk1 rfl (wk1 rfl wk0)))) (Ac rM (pm_consE rM (by rw [← hXl]) rfl (Bh Ae)))
 rintro p ⟨hp1, hac⟩
 have hD := digsR_at (e := e1) hx ha1 p.1
 obtain ⟨l2, r2, hd⟩ : ∃ l r, Cf xs (Av xs p.1 a1 e1).2.1 (Av xs p.1 a1 e1).2.2 = (l, r) := ⟨_, _, rfl⟩
 obtain ⟨a2, e2⟩ := r2
 have hdl := Cc hd hx hD.1
 have hs := digsR_succ hd
 have hj64 : (UInt64.ofNat p.1).toNat = p.1 := Bc oM
 refine G6 ?_
 refine .condP J (fun hc0 => ?_) (fun hc0 => ?_)
 ·
  have hp3 : p.1 < min x1.toNat 17 := by omega
  refine G4 ?_
  refine .drawK (sp_v (sp_k (sp_x sp_n))) J [(0, 0), (0, 1), (0, 2), (0, 3), (0, 4), (0, 5), (4, 6), (4, 7), (4, 8), (0, 9), (0, 10)] [(4, 11)] Ba zK zK (G4 ?_)
  refine .kload1 J J J Y51.h J Z0 (by exact Block.get_fLinks (by exact okL _)) ?_
  refine .kloadE J J J Y129 J (by (simp [Cx.with]; omega)) (hW.2.2.1) ?_
  refine .callL (L := [RB n q N cp ((Av xs p.1 a1 e1).2.1) ((Av xs p.1 a1 e1).2.2)]) J J J J J Body173 (rd_DigestE n q N cp (Av xs p.1 a1 e1).2.1 (Av xs p.1 a1 e1).2.2 xs hx hD.1 hN oM l2 a2 e2 hd) Az (Ay J) (fun w h => ⟨Ak h Z0, Bt h (by simp [Cx.with]; omega) hW.2.2.2, hqn⟩) ?_
  rintro v2 out2 ⟨rfl, rfl⟩
  refine .mkRow (z := agg (Aa (List.replicate 32 0))) [agg (Aa l2)] (Aa l2) J J J Y51.h Sz50 Zr50 J J (by intro v hv; rw [List.mem_singleton.1 hv]; simp [Value.cells, hdl.2]) dE (by simp [Value.cells]) ?_
  intro q7
  refine .appendAcc (z := agg (Aa (List.replicate 32 0))) (by' := 32) (Aa l2) J J J J J Y51.h Y51.h Sz50 Zr50 (by unfold By; kernel_rfl) J hac sG (fun w h => SeesP.of (Aj h Z0)) (fun e => by cases e) (As _) oM oM (by simp [Aa, hdl.2]) ?_
  intro s8 bl8 hac8
  refine G3 ?_
  refine .s1 J J J J J Sz51 Z0 (by rw [Block.length (by exact okL _)]; decide) (by exact Block.set_fLinks (by exact okL _) _) zU ?_
  refine G4 ?_
  refine .add_u64 J J J (show Al _ _ = some (u64 1) from rfl) (G3 ?_)
  refine ⟨(p.1 + 1, s8, bl8), ⟨by simp only []; omega, ?_⟩, by simp only []; omega, Af (wk1 J (wk1 J (wk1 J (wk1 (congrArg (fun z => some (u64 z)) (ofNat_step _)) wk0)))) (pm_consE rM (by simp only [hs]) J (Ac rM (Ab sG Ae)))⟩
  simp only [hs]
  rw [flatB_append]
  simpa [Bs] using hac8
 have hp3 : p.1 = min x1.toNat 17 := by omega
 refine G5 ?_
 refine Ah (out := (RB n q N cp (Av xs p.1 a1 e1).2.1 (Av xs p.1 a1 e1).2.2 :: (BB b ({ X with fLinks := p.2.1 } : Block) :: (p.2.2 ++ [])))) (res_none J) (Ac rM (Ac rM (Ab sG Ae))) ?_
 rw [← hp3]; exact ⟨p.2.1, p.2.2, rfl, hac, by simp⟩
theorem upd_nil (cs : List Value) (o : Nat) : upd cs o [] = cs := by simp [upd]
theorem upd_sig {X : Block} (h : X.ok) {l : List UInt8} (hl : l = [] ∨ l.length = 64) : upd X.cells 67 (Aa l) = ({ X with fSig := l ++ X.fSig.drop l.length } : Block).cells := by
  rcases hl with rfl | hl
  · exact upd_nil _ _
  · rw [Block.upd_fSig h l hl, hl, List.drop_of_length_le (by rw [h.l_fSig]; exact Nat.le_refl _), List.append_nil]

theorem opt_tail (b c n q N cp at' : Nat) (e : Int) (X : Block) (hX : X.ok) (xs : List UInt8) (hx : xs.length = N) (hat : at' ≤ N) (hN : N ≤ cp) (hbig : N ≤ 90000) (hbn : b ≠ n) (hcb : c ≠ b) (hcn : c ≠ n) (hqb : q ≠ b) (hqn : q ≠ n) (o : Option (List UInt8)) (a1 : Nat) (e1 : Int) (l : List UInt8) (a2 : Nat) (e2 : Int) (h1 : blkR xs at' e = (o, a1, e1)) (h2 : takR xs 64 a1 e1 = (l, a2, e2)) : Meets Tryz.prog 227 [ptr b 0, ptr c 0] [b, n] (fun W => BlkOk W (BB b X) ∧ BlkOk W (RB n q N cp at' e) ∧ W.cell? ⟨c, 0, none⟩ = some (ptr n 0) ∧ B8 W q 0 (Aa xs)) (fun v out => ∃ s2 bl, v = .tuple #[] ∧ Acc s2 bl (Aa (o.getD [])) 5 (o.getD []).length 1 ∧ out = RB n q N cp a2 e2 :: BB b ({ X with fData := s2, fSig := l ++ X.fSig.drop l.length } : Block) :: bl) := by
 intro W hW
 have hb1 := blkE_le h1 hx hat
 have ht1 := takE_le h2 hx hb1.1
 have okD : ∀ s : Sl, ({ X with fData := s } : Block).ok := fun s => ⟨hX.l_fWriter, hX.l_fPrev, hX.l_fSig⟩
 have hlen : l.length ≤ 64 := by rcases ht1.2 with h | h <;> simp [h]
 refine A3 (hp0 := [BB b X, RB n q N cp at' e]) Tryz.func227 J 15 Tryz.ntmps227 J (HRep.two hW.1 hW.2.1 hbn) (G3 ?_)
 refine .loadE J J J Y129 J (by (simp; omega)) (hW.2.2.1) ?_
 refine .callL (L := [RB n q N cp (at') (e)]) J J J J J Body120 (rd_BlockE n q N cp at' e xs hx hat hN hbig o a1 e1 h1) (rem_there Az) (Ay J) (fun w h => ⟨Ak h Z1, Bt h (by simp; omega) hW.2.2.2, hqn⟩) ?_
 rintro v2 out2 ⟨s2, bl2, rfl, hac2, rfl⟩
 simp only [List.append_assoc, List.cons_append, List.nil_append]
 refine G2 ?_
 refine .s1 J J J J J Sz58 mR (by rw [Block.length zA]; decide) (by exact Block.set_fData zA _) uU ?_
 refine G2 ?_
 refine .draw [(0, 0), (0, 1), (0, 2), (0, 3), (1, 4), (4, 5), (4, 6)] Ba zK (G4 ?_)
 refine .loadE J J J Y129 J (by (simp; omega)) (hW.2.2.1) ?_
 refine .callL (L := [RB n q N cp (a1) (e1)]) J J J J J Body174 (rd_TakeE n q N cp a1 e1 64 dE dE xs hx hb1.1 hN hbig l a2 e2 h2) (by repeat (first | exact Az | apply rem_seg)) (Ay J) (fun w h => ⟨Ak h mR, Bt h (by simp; omega) hW.2.2.2, hqn⟩) ?_
 rintro v3 out3 ⟨s3, bl3, rfl, hac3, rfl⟩
 simp only [List.append_assoc, List.cons_append, List.nil_append]
 refine .copyP (Aa l) l.length J J J J J Y58.h Sz5 (fun w h => hac3.see (Lies.of h (by repeat (exact Aq)))) (fun e => hac3.nil e) (by simp [Aa, hac3.num]) (by rw [hac3.num]; omega) (List.take_of_length_le (by simp [Aa])) (As _) mR (by rw [Block.length (okD _)]; show 67 + l.length ≤ 131; omega) (upd_sig (okD _) ht1.2) uU ?_
 refine G2 ?_
 refine Ah (out := (RB n q N cp a2 e2 :: (BB b ({ X with fData := s2, fSig := l ++ X.fSig.drop l.length } : Block) :: (bl2 ++ [])))) (res_none J) (Ac (by repeat (first | exact Az | apply rem_seg)) (Ac (by repeat (first | exact Az | apply rem_seg)) (Ab (by repeat (first | exact sg_here | apply sg_seg)) Ae))) ?_
 exact ⟨s2, bl2, rfl, hac2, by simp⟩

theorem mk_head (n : Nat) : Meets Tryz.prog 170 [ptr n 0] [] (fun _ => True) (fun v out => ∃ c, v = .func (.func 225) #[] #[ptr c 0] ∧ out = [⟨c, [ptr n 0], 129, 1⟩]) := by
 intro W hW
 refine Ag Tryz.func170 J 4 Tryz.ntmps170 J (G2 ?_)
 refine .box1 J J J ?_
 intro n1 hn1 hf1
 refine G11 ?_
 refine Ah (out := (⟨n1, [ptr n 0], 129, 1⟩ :: [])) (Ad J J) (Ac rM Ae) ?_
 exact ⟨n1, rfl, by simp⟩

theorem mk_links (n : Nat) : Meets Tryz.prog 171 [ptr n 0] [] (fun _ => True) (fun v out => ∃ c, v = .func (.func 226) #[] #[ptr c 0] ∧ out = [⟨c, [ptr n 0], 129, 1⟩]) := by
 intro W hW
 refine Ag Tryz.func171 J 4 Tryz.ntmps171 J (G2 ?_)
 refine .box1 J J J ?_
 intro n1 hn1 hf1
 refine G11 ?_
 refine Ah (out := (⟨n1, [ptr n 0], 129, 1⟩ :: [])) (Ad J J) (Ac rM Ae) ?_
 exact ⟨n1, rfl, by simp⟩

theorem mk_tail (n : Nat) : Meets Tryz.prog 172 [ptr n 0] [] (fun _ => True) (fun v out => ∃ c, v = .func (.func 227) #[] #[ptr c 0] ∧ out = [⟨c, [ptr n 0], 129, 1⟩]) := by
 intro W hW
 refine Ag Tryz.func172 J 4 Tryz.ntmps172 J (G2 ?_)
 refine .box1 J J J ?_
 intro n1 hn1 hf1
 refine G11 ?_
 refine Ah (out := (⟨n1, [ptr n 0], 129, 1⟩ :: [])) (Ad J J) (Ac rM Ae) ?_
 exact ⟨n1, rfl, by simp⟩

theorem opt_linksE (b c n q N cp at' : Nat) (e : Int) (X : Block) (hX : X.ok) (xs : List UInt8) (hx : xs.length = N) (hat : at' ≤ N) (hN : N ≤ cp) (hbig : N ≤ 90000) (hbn : b ≠ n) (hcb : c ≠ b) (hcn : c ≠ n) (hqb : q ≠ b) (hqn : q ≠ n)  (hXl : X.fLinks = Sl.nil) (x1 : UInt64) (a1 : Nat) (e1 : Int) (h1 : A5 xs at' e = (x1, a1, e1)) (ls : List (List UInt8)) (a5 : Nat) (e5 : Int) (h5 : Av xs (min x1.toNat 17) a1 e1 = (ls, a5, e5)) : Meets Tryz.prog 226 [ptr b 0, ptr c 0] [b, n] (fun W => BlkOk W (BB b X) ∧ BlkOk W (RB n q N cp at' e) ∧ W.cell? ⟨c, 0, none⟩ = some (ptr n 0) ∧ B8 W q 0 (Aa xs))
    (fun v out => ∃ s bl, v = .tuple #[] ∧ Acc s bl (Bs ls) 50 (min x1.toNat 17) 32 ∧ out = RB n q N cp a5 e5 :: BB b ({ X with fLinks := s } : Block) :: bl) := by
  have := opt_links b c n q N cp at' e X hX xs hx hat hN hbig hbn hcb hcn hqb hqn hXl x1 a1 e1 h1
  rw [h5] at this
  exact this
theorem cell_lt {w : World} {c o : Nat} {v : Value} (h : w.cell? ⟨c, o, none⟩ = some v) : c < w.heap.size := by
  rcases Nat.lt_or_ge c w.heap.size with h1 | h1
  · exact h1
  · simp [World.cell?, Array.getElem?_eq_none h1] at h

theorem block_build (r n q N cp c1 c2 c3 : Nat) (xs : List UInt8) (hx : xs.length = N) (hN : N ≤ cp) (hbig : N ≤ 90000) (hr : r ≠ n) (hc1 : c1 ≠ n) (hc2 : c2 ≠ n) (hc3 : c3 ≠ n) (hqn : q ≠ n) (l1 : List UInt8) (a1 : Nat) (e1 : Int) (x2 : UInt64) (a2 : Nat) (e2 : Int) (l3 : List UInt8) (a3 : Nat) (e3 : Int) (h1 : Cf xs 0 0 = (l1, a1, e1)) (h2 : A5 xs a1 e1 = (x2, a2, e2)) (h3 : Cf xs a2 e2 = (l3, a3, e3)) (x4 : UInt64) (a4 : Nat) (e4 : Int) (h4 : A5 xs a3 e3 = (x4, a4, e4)) (ls : List (List UInt8)) (a5 : Nat) (e5 : Int) (h5 : Av xs (min x4.toNat 17) a4 e4 = (ls, a5, e5)) (o : Option (List UInt8)) (a6 : Nat) (e6 : Int) (h6 : blkR xs a5 e5 = (o, a6, e6)) (l7 : List UInt8) (a7 : Nat) (e7 : Int) (h7 : takR xs 64 a6 e6 = (l7, a7, e7))  : Meets Tryz.prog 169 [.slice (some ⟨r, 0, none⟩) 3 3] [n] (fun W => BlkOk W (RB n q N cp 0 0) ∧ B8 W q 0 (Aa xs) ∧ (W.cell? ⟨r, 0, none⟩ = some (.func (.func 225) #[] #[ptr c1 0]) ∧ W.cell? ⟨r, 1, none⟩ = some (.func (.func 226) #[] #[ptr c2 0]) ∧ W.cell? ⟨r, 2, none⟩ = some (.func (.func 227) #[] #[ptr c3 0])) ∧ W.cell? ⟨c1, 0, none⟩ = some (ptr n 0) ∧ W.cell? ⟨c2, 0, none⟩ = some (ptr n 0) ∧ W.cell? ⟨c3, 0, none⟩ = some (ptr n 0) ∧ q < W.heap.size) (fun v out => ∃ s2 bl2 s3 bl3, v = agg ({ Block.zero with fWriter := l1, fSeq := x2, fPrev := l3, fLinks := s2, fData := s3, fSig := l7 ++ Block.zero.fSig.drop l7.length } : Block).cells ∧ Acc s2 bl2 (Bs ls) 50 (min x4.toNat 17) 32 ∧ Acc s3 bl3 (Aa (o.getD [])) 5 (o.getD []).length 1 ∧ out = RB n q N cp a7 e7 :: (bl2 ++ bl3)) := by
 intro W hW
 have hd1 := Cc h1 hx (Nat.zero_le _)
 have hd2 := Bm h2 hx hd1.1
 have hd3 := Cc h3 hx hd2
 have hd4 := Bm h4 hx hd3.1
 have hd5 := digsR_at (e := e4) hx hd4 (min x4.toNat 17)
 rw [h5] at hd5
 have hd6 := blkE_le h6 hx hd5.1
 have hd7 := takE_le h7 hx hd6.1
 have hqlt := hW.2.1
 have hs64 : (l7 ++ Block.zero.fSig.drop l7.length).length = 64 := by rcases hd7.2 with h | h <;> simp [h, Block.zero]
 have okX : ∀ s2 s3, ({ Block.zero with fWriter := l1, fSeq := x2, fPrev := l3, fLinks := s2, fData := s3, fSig := l7 ++ Block.zero.fSig.drop l7.length } : Block).ok := fun s2 s3 => ⟨hd1.2, hd3.2, hs64⟩
 refine A3 (hp0 := [RB n q N cp 0 0]) Tryz.func169 J 16 Tryz.ntmps169 J (HRep.one hW.1) (G2 ?_)
 refine .alloc (cs := Block.zero.cells) J Block.zr J ?_
 intro n2 hn2 hf2
 refine G4 ?_
 refine .alloc (cs := Block.zero.cells) J Block.zr J ?_
 intro n3 hn3 hf3
 refine G5 ?_
 have hS : n3 ≠ n ∧ c1 ≠ n3 ∧ q ≠ n3 := by
  have hl1 := cell_lt hW.2.2.2.1
  have hl2 := hW.2.2.2.2.2.2
  have hl3 : W.heap.size ≤ n3 := hn3
  exact ⟨fun e => hf3 (RB n q N cp 0 0) sP e.symm, by omega, by omega⟩
 have hS2 : c2 ≠ n3 := by
  have hl1 := cell_lt hW.2.2.2.2.1
  have hl3 : W.heap.size ≤ n3 := hn3
  omega
 have hS3 : c3 ≠ n3 := by
  have hl1 := cell_lt hW.2.2.2.2.2.1
  have hl3 : W.heap.size ≤ n3 := hn3
  omega
 refine G6 ?_
 refine .rounds 4 (SRounds.more (G6 ?_))
 refine .cond_t J (rfl) (G6 ?_)
 refine .idxSl1 J J J J Y243.h Sz204 0 J oM (.loadE J J J Tryz.underlying204 J (by (simp; omega)) (hW.2.2.1.1) ?_)
 refine G5 ?_
 refine .callCL (L := [BB n3 Block.zero, RB n q N cp (0) (0)]) J J J J J J Body225 (opt_head n3 c1 n q N cp 0 0 Block.zero Block.zero_ok xs hx (Nat.zero_le _) hN hbig hS.1 hS.2.1 hc1 hS.2.2 hqn l1 a1 e1 x2 a2 e2 l3 a3 e3 h1 h2 h3) (pm_consE rM J J (Ac rM Ae)) (Ay J) (fun w h => ⟨Ak h Z0, Ak h Z2, h.keeps.cell (by simp; omega) hW.2.2.2.1, Bt h (by simp; omega) hW.2.1⟩) ?_
 rintro v5 out5 ⟨rfl, rfl⟩
 refine G7 ?_
 refine at_n (SRounds.more (G6 ?_))
 refine .cond_t J (rfl) (G6 ?_)
 refine .idxSl1 J J J J Y243.h Sz204 1 J oM (.loadE J J J Tryz.underlying204 J (by (simp; omega)) (hW.2.2.1.2.1) ?_)
 refine G5 ?_
 refine .callCL (L := [BB n3 ({ Block.zero with fWriter := l1, fSeq := x2, fPrev := l3 } : Block), RB n q N cp (a3) (e3)]) J J J J J J Body226 (opt_linksE n3 c2 n q N cp a3 e3 ({ Block.zero with fWriter := l1, fSeq := x2, fPrev := l3 } : Block) ⟨hd1.2, hd3.2, rfl⟩ xs hx hd3.1 hN hbig hS.1 hS2 hc2 hS.2.2 hqn J x4 a4 e4 h4 ls a5 e5 h5) (pm_consE rM J J (Ac rM Ae)) (Ay J) (fun w h => ⟨Ak h Z0, Ak h Z1, h.keeps.cell (by simp; omega) hW.2.2.2.2.1, Bt h (by simp; omega) hW.2.1⟩) ?_
 rintro v6 out6 ⟨s2, bl2, rfl, hac2, rfl⟩
 refine G7 ?_
 refine at_n (SRounds.more (G6 ?_))
 refine .cond_t J (rfl) (G6 ?_)
 refine .idxSl1 J J J J Y243.h Sz204 2 J oM (.loadE J J J Tryz.underlying204 J (by (simp; omega)) (hW.2.2.1.2.2) ?_)
 refine G5 ?_
 refine .callCL (L := [BB n3 ({ Block.zero with fWriter := l1, fSeq := x2, fPrev := l3, fLinks := s2 } : Block), RB n q N cp (a5) (e5)]) J J J J J J Body227 (opt_tail n3 c3 n q N cp a5 e5 ({ Block.zero with fWriter := l1, fSeq := x2, fPrev := l3, fLinks := s2 } : Block) ⟨hd1.2, hd3.2, rfl⟩ xs hx hd5.1 hN hbig hS.1 hS3 hc3 hS.2.2 hqn o a6 e6 l7 a7 e7 h6 h7) (pm_consE rM J J (Ac rM Ae)) (Ay J) (fun w h => ⟨Ak h Z1, Ak h Z0, h.keeps.cell (by simp; omega) hW.2.2.2.2.2.1, Bt h (by simp; omega) hW.2.1⟩) ?_
 rintro v7 out7 ⟨s3, bl3, rfl, hac3, rfl⟩
 refine G7 ?_
 refine at_n (SRounds.more (G6 ?_))
 refine .cond_f J (rfl) (G7 ?_)
 refine .lA J J J Y79.h J Sz79 Z1 (Block.length (by exact okX _ _)) ?_
 refine .sA J J J J (Block.isCell (by exact okX _ _)) Sz79 (Block.length (by exact okX _ _)) mR (Block.length (by exact Block.zero_ok)) uU ?_
 refine G4 ?_
 refine Ah (out := (RB n q N cp a7 e7 :: (bl2 ++ (bl3 ++ [])))) (Bo J J Y79.h J Sz79 mR (by exact Block.length (by exact okX _ _))) (Ac rM (Ab sG (Ab sG Ae))) ?_
 exact ⟨s2, bl2, s3, bl3, rfl, hac2, hac3, by simp⟩


structure DB where
  w : List UInt8
  seq : UInt64
  prev : List UInt8
  ls : List (List UInt8)
  ds : List UInt8
  sg : List UInt8
deriving DecidableEq
def DB.zero : DB := ⟨List.replicate 32 0, 0, List.replicate 32 0, [], [], List.replicate 64 0⟩
def DB.head (D : DB) : Bool := decide ((4294967295 : Int) < (D.seq.toNat : Int)) || (!decide (decide (D.prev = List.replicate 32 0) = decide ((D.seq.toNat : Int) = 0)) || (decide ((16 : Int) < (D.ls.length : Int)) || decide ((512 : Int) < (D.ds.length : Int))))
def DB.check (D : DB) : Int := if D.head = true then 2 else (if linksBad D.prev D.ls = true then 2 else 0)
def DB.body (D : DB) : List UInt8 := D.w ++ A6 D.seq ++ D.prev ++ A6 (UInt64.ofNat D.ls.length) ++ D.ls.flatten ++ (A6 (UInt64.ofNat D.ds.length) ++ D.ds)
def DB.bytes (D : DB) : List UInt8 := D.body ++ D.sg
structure DB.ok (D : DB) : Prop where
  w : D.w.length = 32
  prev : D.prev.length = 32
  sg : D.sg.length = 64
  ls : ∀ l ∈ D.ls, l.length = 32
structure BlockIs (W : World) (B : Block) (D : DB) : Prop where
  ok : B.ok
  w : B.fWriter = D.w
  seq : B.fSeq = D.seq
  prev : B.fPrev = D.prev
  ls : RowsAt W B.fLinks 32 D.ls
  ds : BytesAt W B.fData D.ds
  sg : B.fSig = D.sg
theorem BlockIs.dok {W : World} {B : Block} {D : DB} (h : BlockIs W B D) : D.ok := ⟨by rw [← h.w]; exact h.ok.l_fWriter, by rw [← h.prev]; exact h.ok.l_fPrev, by rw [← h.sg]; exact h.ok.l_fSig, h.ls.row⟩
theorem BlockIs.check {W : World} {B : Block} {D : DB} (h : BlockIs W B D) : bcheck B D.ls = D.check := by
  simp only [bcheck, bheadB, DB.check, DB.head, h.seq, h.prev, h.ls.len, h.ds.len]
theorem BlockIs.body {W : World} {B : Block} {D : DB} (h : BlockIs W B D) : bodyB B D.ls D.ds = D.body := by
  simp only [bodyB, DB.body, h.w, h.seq, h.prev, h.ls.len, h.ds.len]
theorem BlockIs.bytes {W : World} {B : Block} {D : DB} (h : BlockIs W B D) : bytesB B D.ls D.ds = D.bytes := by
  simp only [bytesB, DB.bytes, h.body, h.sg]
theorem acc_rows {s : Sl} {bl : List Blk} {ls : List (List UInt8)} {E : TypeId} {n : Nat} {w : World} (h : Acc s bl (Bs ls) E n 32) (hl : Lies bl w) (hr : ∀ l ∈ ls, l.length = 32) (hn : ls.length = n) (hm : n ≤ 1000000) : RowsAt w s 32 ls :=
  ⟨by rw [h.num, hn], hr, h.cap, h.see hl, by rw [h.num]; unfold maxLen; omega, h.nilc⟩
theorem Ci {s : Sl} {bl : List Blk} {l : List UInt8} {E : TypeId} {n : Nat} {w : World} (h : Acc s bl (Aa l) E n 1) (hl : Lies bl w) (hn : l.length = n) (hm : n ≤ 1000000) : BytesAt w s l :=
  ⟨by rw [h.num, hn], h.cap, h.see hl, by rw [h.num]; unfold maxLen; omega, h.nilc⟩
def Cm (xs : List UInt8) : DB × Nat × Int :=
  let r1 := Cf xs 0 0
  let r2 := A5 xs r1.2.1 r1.2.2
  let r3 := Cf xs r2.2.1 r2.2.2
  let r4 := A5 xs r3.2.1 r3.2.2
  let r5 := Av xs (min r4.1.toNat 17) r4.2.1 r4.2.2
  let r6 := blkR xs r5.2.1 r5.2.2
  let r7 := takR xs 64 r6.2.1 r6.2.2
  (⟨r1.1, r2.1, r3.1, r5.1, r6.1.getD [], r7.1 ++ (List.replicate 64 0).drop r7.1.length⟩, r7.2)
def B3 (xs : List UInt8) : DB × Int :=
  if endR xs.length (Cm xs).2.1 (Cm xs).2.2 = 0 ∧ (Cm xs).1.check = 0 then ((Cm xs).1, 0) else (DB.zero, 4)
theorem readD_bad {xs : List UInt8} (h : ¬ (endR xs.length (Cm xs).2.1 (Cm xs).2.2 = 0 ∧ (Cm xs).1.check = 0)) : B3 xs = (DB.zero, 4) := if_neg h
theorem readD_ok {xs : List UInt8} (h : endR xs.length (Cm xs).2.1 (Cm xs).2.2 = 0 ∧ (Cm xs).1.check = 0) : B3 xs = ((Cm xs).1, 0) := if_pos h
theorem bcheck_D {B : Block} {D : DB} (h1 : B.fSeq = D.seq) (h2 : B.fPrev = D.prev) (h3 : B.fLinks.n = D.ls.length) (h4 : B.fData.n = D.ds.length) : bcheck B D.ls = D.check := by
  have e : bheadB B = D.head := by
    unfold bheadB DB.head
    rw [h1, h2, h3, h4]
  unfold bcheck DB.check
  rw [e, h2]
theorem zero_is (W : World) : BlockIs W Block.zero DB.zero := ⟨Block.zero_ok, rfl, rfl, rfl, ⟨rfl, fun l hl => (by cases hl), Nat.le_refl _, SeesP.nil, Nat.zero_le _, fun _ => rfl⟩, ⟨rfl, Nat.le_refl _, SeesP.nil, Nat.zero_le _, fun _ => rfl⟩, rfl⟩
theorem fin_bad {xs : List UInt8} {out : List Blk} (h : ¬ (endR xs.length (Cm xs).2.1 (Cm xs).2.2 = 0 ∧ (Cm xs).1.check = 0)) : ∃ B : Block, B.ok ∧ Value.tuple #[agg Block.zero.cells, i64 4] = .tuple #[agg B.cells, i64 (B3 xs).2] ∧ ∀ W2, Lies out W2 → BlockIs W2 B (B3 xs).1 := by
  rw [readD_bad h]
  exact ⟨Block.zero, Block.zero_ok, rfl, fun W2 _ => zero_is W2⟩
theorem fin_ok {xs : List UInt8} {out : List Blk} {B : Block} (h : endR xs.length (Cm xs).2.1 (Cm xs).2.2 = 0 ∧ (Cm xs).1.check = 0) (hok : B.ok) (hB : ∀ W2, Lies out W2 → BlockIs W2 B (Cm xs).1) : ∃ B' : Block, B'.ok ∧ Value.tuple #[agg B.cells, i64 0] = .tuple #[agg B'.cells, i64 (B3 xs).2] ∧ ∀ W2, Lies out W2 → BlockIs W2 B' (B3 xs).1 := by
  rw [readD_ok h]
  exact ⟨B, hok, rfl, hB⟩

theorem block_read (p : Option Addr) (n c : Nat) (xs : List UInt8) (hl : xs.length = n) (hp : p = none → n = 0) (hn : n ≤ 90000) : Meets Tryz.prog 74 [.slice p n c] [] (fun W => SeesP W p (Aa xs)) (fun v out => ∃ B : Block, B.ok ∧ v = .tuple #[agg B.cells, i64 (B3 xs).2] ∧ ∀ W2, Lies out W2 → BlockIs W2 B (B3 xs).1) := by
 intro W hW
 obtain ⟨l1, r1, h1⟩ : ∃ l r, Cf xs 0 0 = (l, r) := ⟨_, _, rfl⟩
 obtain ⟨a1, e1⟩ := r1
 obtain ⟨x2, r2, h2⟩ : ∃ l r, A5 xs a1 e1 = (l, r) := ⟨_, _, rfl⟩
 obtain ⟨a2, e2⟩ := r2
 obtain ⟨l3, r3, h3⟩ : ∃ l r, Cf xs a2 e2 = (l, r) := ⟨_, _, rfl⟩
 obtain ⟨a3, e3⟩ := r3
 obtain ⟨x4, r4, h4⟩ : ∃ l r, A5 xs a3 e3 = (l, r) := ⟨_, _, rfl⟩
 obtain ⟨a4, e4⟩ := r4
 obtain ⟨ls, r5, h5⟩ : ∃ l r, Av xs (min x4.toNat 17) a4 e4 = (l, r) := ⟨_, _, rfl⟩
 obtain ⟨a5, e5⟩ := r5
 obtain ⟨o, r6, h6⟩ : ∃ l r, blkR xs a5 e5 = (l, r) := ⟨_, _, rfl⟩
 obtain ⟨a6, e6⟩ := r6
 obtain ⟨l7, r7, h7⟩ : ∃ l r, takR xs 64 a6 e6 = (l, r) := ⟨_, _, rfl⟩
 obtain ⟨a7, e7⟩ := r7
 have hrp : Cm xs = ((⟨l1, x2, l3, ls, o.getD [], l7 ++ (List.replicate 64 0).drop l7.length⟩ : DB), a7, e7) := by simp only [Cm, h1, h2, h3, h4, h5, h6, h7]
 have hd1 := Cc h1 hl (Nat.zero_le _)
 have hd2 := Bm h2 hl hd1.1
 have hd3 := Cc h3 hl hd2
 have hd4 := Bm h4 hl hd3.1
 have hd5 := digsR_at (e := e4) hl hd4 (min x4.toNat 17)
 rw [h5] at hd5
 have hd6 := blkE_le h6 hl hd5.1
 have hd7 := takE_le h7 hl hd6.1
 have hs64 : (l7 ++ (List.replicate 64 0).drop l7.length).length = 64 := by rcases hd7.2 with h | h <;> simp [h]
 have okX : ∀ s2 s3, ({ Block.zero with fWriter := l1, fSeq := x2, fPrev := l3, fLinks := s2, fData := s3, fSig := l7 ++ Block.zero.fSig.drop l7.length } : Block).ok := fun s2 s3 => ⟨hd1.2, hd3.2, hs64⟩
 refine Ag Tryz.func74 J 26 Tryz.ntmps74 J (G2 ?_)
 refine .alloc (cs := Block.zero.cells) J Block.zr J ?_
 intro n2 hn2 hf2
 refine G6 ?_
 refine .call4 J J J J J Body91 (oct_Read p n c xs hl hp hn) (fun w h => Ao h J hW) ?_
 rintro v7 out7 ⟨n4, q4, cp4, rfl, hcp, rfl⟩
 refine G6 ?_
 refine .call4 J J J J J Body170 (mk_head n4) tV ?_
 rintro v9 out9 ⟨c1, rfl, rfl⟩
 refine G1 ?_
 refine .call4 J J J J J Body171 (mk_links n4) tV ?_
 rintro v11 out11 ⟨c2, rfl, rfl⟩
 refine G1 ?_
 refine .call4 J J J J J Body172 (mk_tail n4) tV ?_
 rintro v13 out13 ⟨c3, rfl, rfl⟩
 refine .mkRow (z := .nilFunc) [.func (.func 225) #[] #[ptr c1 0], .func (.func 226) #[] #[ptr c2 0], .func (.func 227) #[] #[ptr c3 0]] [.func (.func 225) #[] #[ptr c1 0], .func (.func 226) #[] #[ptr c2 0], .func (.func 227) #[] #[ptr c3 0]] rfl J J Y243.h Sz204 Zr204 J J (by intro v hv; simp only [List.mem_cons, List.not_mem_nil, or_false] at hv; rcases hv with rfl | rfl | rfl <;> rfl) dE J ?_
 intro r14
 refine .nd (fun hnd => ?_)
 simp only [RB, blk, List.map_cons, List.map_nil, List.map_append, List.cons_append, List.nil_append, List.nodup_cons, List.mem_cons, List.not_mem_nil, or_false] at hnd
 have hne : Hid (r14 ≠ n4 ∧ c1 ≠ n4 ∧ c2 ≠ n4 ∧ c3 ≠ n4 ∧ q4 ≠ n4) := ⟨by refine ⟨?_, ?_, ?_, ?_, ?_⟩ <;> (intro e; simp [e] at hnd)⟩
 clear hnd
 refine .callL (L := [RB n4 q4 n cp4 0 0]) J J J J J Body169 (block_build r14 n4 q4 n cp4 c1 c2 c3 xs hl hcp hn hne.out.1 hne.out.2.1 hne.out.2.2.1 hne.out.2.2.2.1 hne.out.2.2.2.2 l1 a1 e1 x2 a2 e2 l3 a3 e3 h1 h2 h3 x4 a4 e4 h4 ls a5 e5 h5 o a6 e6 h6 l7 a7 e7 h7) (Ac rM Ae) (Ay J) (fun w h => ⟨Ak h Z4, Aj h (by exact mem5), ⟨(Ak h Z0).cell (o := 0) J, (Ak (B := ⟨r14, [.func (.func 225) #[] #[ptr c1 0], .func (.func 226) #[] #[ptr c2 0], .func (.func 227) #[] #[ptr c3 0]], _, _⟩) h Z0).cell (o := 1) J, (Ak (B := ⟨r14, [.func (.func 225) #[] #[ptr c1 0], .func (.func 226) #[] #[ptr c2 0], .func (.func 227) #[] #[ptr c3 0]], _, _⟩) h Z0).cell (o := 2) J⟩, (Ak (B := ⟨c1, _, _, _⟩) h Z3).cell (o := 0) J, (Ak (B := ⟨c2, _, _, _⟩) h Z2).cell (o := 0) J, (Ak (B := ⟨c3, _, _, _⟩) h Z1).cell (o := 0) J, (Ak (B := ⟨q4, Aa xs, _, _⟩) h (by exact mem5)).lt⟩) ?_
 rintro v15 out15 ⟨s2, bl2, s3, bl3, rfl, hac2, hac3, rfl⟩
 simp only [List.append_assoc, List.cons_append, List.nil_append]
 refine .alloc (cs := Block.zero.cells) J Block.zr J ?_
 intro n5 hn5 hf5
 refine .sA J J J J (Block.isCell (by exact okX _ _)) Sz79 (Block.length (by exact okX _ _)) Z0 (Block.length (by exact Block.zero_ok)) zU ?_
 refine G6 ?_
 refine .cV J J J J Body105 (rd_End n4 q4 n cp4 a7 e7 hd7.1 oM) (fun w h => Ak h Z1) ?_
 refine two (fun r hr k => Tr.nei J J J J hr k) (fun hs3_20 => ?_) (fun hs3_20 => ?_)
 ·
  have hs3_2 := nd_t hs3_20
  refine G7 ?_
  refine .cond_t J J (G2 ?_)
  refine .build (cs := Block.zero.cells) J J J (fun w => by kernel_rfl) ?_
  refine G7 ?_
  refine Ah (out := (bl2 ++ (bl3 ++ []))) (Am J J J Y79.h J Sz79 mR (by exact Block.length (by exact Block.zero_ok))) (Ab sG (Ab sG Ae)) ?_
  first
   | exact fin_bad (by rw [hrp, hl]; exact fun h => hs3_2 h.1)
   | exact fin_bad (by rw [hrp, ← bcheck_D (B := ({ Block.zero with fWriter := l1, fSeq := x2, fPrev := l3, fLinks := s2, fData := s3, fSig := l7 ++ Block.zero.fSig.drop l7.length } : Block)) rfl rfl (by rw [hac2.num]; exact hd5.2.2.symm) hac3.num]; exact fun h => hc0 h.2)
   | exact fin_ok (by rw [hrp, hl, ← bcheck_D (B := ({ Block.zero with fWriter := l1, fSeq := x2, fPrev := l3, fLinks := s2, fData := s3, fSig := l7 ++ Block.zero.fSig.drop l7.length } : Block)) rfl rfl (by rw [hac2.num]; exact hd5.2.2.symm) hac3.num]; exact ⟨hs3_2, hc0⟩) (okX _ _) (fun W2 h2 => by
     rw [hrp]
     exact ⟨okX _ _, rfl, rfl, rfl, acc_rows hac2 (h2.sub Aq) hd5.2.1 hd5.2.2 oM, Ci hac3 (h2.sub (Ce Aq)) rfl (by have := hd6.2; omega), rfl⟩)
 have hs3_2 := nd_f hs3_20
 refine G1 ?_
 refine .lA J J J Y79.h J Sz79 Z0 (Block.length (by exact okX _ _)) ?_
 refine .cV J J J J Body82 (block_check ({ Block.zero with fWriter := l1, fSeq := x2, fPrev := l3, fLinks := s2, fData := s3, fSig := l7 ++ Block.zero.fSig.drop l7.length } : Block) (okX _ _) ls) (fun w h => acc_rows hac2 (Lies.of h (by repeat (first | exact Aq | refine in_there ?_))) hd5.2.1 hd5.2.2 oM) ?_
 refine G4 ?_
 refine .condNP J (fun hc0 => ?_) (fun hc0 => ?_)
 ·
  refine G2 ?_
  refine .build (cs := Block.zero.cells) J J J (fun w => by kernel_rfl) ?_
  refine G7 ?_
  refine Ah (out := (bl2 ++ (bl3 ++ []))) (Am J J J Y79.h J Sz79 mR (by exact Block.length (by exact Block.zero_ok))) (Ab sG (Ab sG Ae)) ?_
  first
   | exact fin_bad (by rw [hrp, hl]; exact fun h => hs3_2 h.1)
   | exact fin_bad (by rw [hrp, ← bcheck_D (B := ({ Block.zero with fWriter := l1, fSeq := x2, fPrev := l3, fLinks := s2, fData := s3, fSig := l7 ++ Block.zero.fSig.drop l7.length } : Block)) rfl rfl (by rw [hac2.num]; exact hd5.2.2.symm) hac3.num]; exact fun h => hc0 h.2)
   | exact fin_ok (by rw [hrp, hl, ← bcheck_D (B := ({ Block.zero with fWriter := l1, fSeq := x2, fPrev := l3, fLinks := s2, fData := s3, fSig := l7 ++ Block.zero.fSig.drop l7.length } : Block)) rfl rfl (by rw [hac2.num]; exact hd5.2.2.symm) hac3.num]; exact ⟨hs3_2, hc0⟩) (okX _ _) (fun W2 h2 => by
     rw [hrp]
     exact ⟨okX _ _, rfl, rfl, rfl, acc_rows hac2 (h2.sub Aq) hd5.2.1 hd5.2.2 oM, Ci hac3 (h2.sub (Ce Aq)) rfl (by have := hd6.2; omega), rfl⟩)
 refine G4 ?_
 refine .lA J J J Y79.h J Sz79 Z0 (Block.length (by exact okX _ _)) ?_
 refine .sA J J J J (Block.isCell (by exact okX _ _)) Sz79 (Block.length (by exact okX _ _)) mR (Block.length (by exact Block.zero_ok)) uU ?_
 refine G5 ?_
 refine Ah (out := (bl2 ++ (bl3 ++ []))) (Am J J J Y79.h J Sz79 mR (by exact Block.length (by exact okX _ _))) (Ab sG (Ab sG Ae)) ?_
 first
  | exact fin_bad (by rw [hrp, hl]; exact fun h => hs3_2 h.1)
  | exact fin_bad (by rw [hrp, ← bcheck_D (B := ({ Block.zero with fWriter := l1, fSeq := x2, fPrev := l3, fLinks := s2, fData := s3, fSig := l7 ++ Block.zero.fSig.drop l7.length } : Block)) rfl rfl (by rw [hac2.num]; exact hd5.2.2.symm) hac3.num]; exact fun h => hc0 h.2)
  | exact fin_ok (by rw [hrp, hl, ← bcheck_D (B := ({ Block.zero with fWriter := l1, fSeq := x2, fPrev := l3, fLinks := s2, fData := s3, fSig := l7 ++ Block.zero.fSig.drop l7.length } : Block)) rfl rfl (by rw [hac2.num]; exact hd5.2.2.symm) hac3.num]; exact ⟨hs3_2, hc0⟩) (okX _ _) (fun W2 h2 => by
    rw [hrp]
    exact ⟨okX _ _, rfl, rfl, rfl, acc_rows hac2 (h2.sub Aq) hd5.2.1 hd5.2.2 oM, Ci hac3 (h2.sub (Ce Aq)) rfl (by have := hd6.2; omega), rfl⟩)

def kW : List UInt64 := [4794697086780616226, 8158064640168781261, 13096744586834688815, 16840607885511220156, 4131703408338449720, 6480981068601479193, 10538285296894168987, 12329834152419229976, 15566598209576043074, 1334009975649890238, 2608012711638119052, 6128411473006802146, 8268148722764581231, 9286055187155687089, 11230858885718282805, 13951009754708518548, 16472876342353939154, 17275323862435702243, 1135362057144423861, 2597628984639134821, 3308224258029322869, 5365058923640841347, 6679025012923562964, 8573033837759648693, 10970295158949994411, 12119686244451234320, 12683024718118986047, 13788192230050041572, 14330467153632333762, 15395433587784984357, 489312712824947311, 1452737877330783856, 2861767655752347644, 3322285676063803686, 5560940570517711597, 5996557281743188959, 7280758554555802590, 8532644243296465576, 9350256976987008742, 10552545826968843579, 11727347734174303076, 12113106623233404929, 14000437183269869457, 14369950271660146224, 15101387698204529176, 15463397548674623760, 17586052441742319658, 1182934255886127544, 1847814050463011016, 2177327727835720531, 2830643537854262169, 3796741975233480872, 4115178125766777443, 5681478168544905931, 6601373596472566643, 7507060721942968483, 8399075790359081724, 8693463985226723168, 9568029438360202098, 10144078919501101548, 10430055236837252648, 11840083180663258601, 13761210420658862357, 14299343276471374635, 14566680578165727644, 15097957966210449927, 16922976911328602910, 17689382322260857208, 500013540394364858, 748580250866718886, 1242879168328830382, 1977374033974150939, 2944078676154940804, 3659926193048069267, 4368137639120453308, 4836135668995329356, 5532061633213252278, 6448918945643986474, 6902733635092675308, 7801388544844847127]
def startW : List UInt64 := [7640891576956012808, 13503953896175478587, 4354685564936845355, 11912009170470909681, 5840696475078001361, 11170449401992604703, 2270897969802886507, 6620516959819538809]

theorem sha_K  : Meets Tryz.prog 253 [] [] (fun _ => True) (fun v out => v = agg (Aw kW) ∧ out = []) := by
 intro W hW
 refine Ag Tryz.func253 J 2 Tryz.ntmps253 J (G2 ?_)
 refine .alloc (cs := (Aw (List.replicate 80 0))) J Zr267 J ?_
 intro n0 hn0 hf0
 refine G4 ?_
 refine .build (cs := Aw kW) J J J (fun w => by kernel_rfl) ?_
 refine .sA J J J J zB Sz267 (by (simp [kW]; done)) Z0 sP zU ?_
 refine G4 ?_
 refine ⟨_, [], Bo J J Y267 J Sz267 Z0 (by simp [kW]), sP, sP, ?_, rfl⟩
 rfl

theorem sha_Start  : Meets Tryz.prog 246 [] [] (fun _ => True) (fun v out => v = agg (Aw startW) ∧ out = []) := by
 intro W hW
 refine Ag Tryz.func246 J 2 Tryz.ntmps246 J (G2 ?_)
 refine .alloc (cs := (Aw (List.replicate 8 0))) J Zr252 J ?_
 intro n0 hn0 hf0
 refine G4 ?_
 refine .build (cs := Aw startW) J J J (fun w => by kernel_rfl) ?_
 refine .sA J J J J zB Sz252 (by (simp [startW]; done)) Z0 sP zU ?_
 refine G4 ?_
 refine ⟨_, [], Bo J J Y252 J Sz252 Z0 (by simp [startW]), sP, sP, ?_, rfl⟩
 rfl

theorem bits_rol (x : UInt64) (k : Int) (s : Nat) (hk : -64 ≤ k ∧ k ≤ 64) (hs : (A8 k &&& 63).toNat = s) (hs2 : s ≤ 63) : Meets Tryz.prog 254 [u64 x, i64 k] [] (fun _ => True) (fun v out => v = u64 (rolW x s) ∧ out = []) := by
 intro W hW
 have h64 : ((64 : UInt64) - (A8 k &&& 63)).toNat = 64 - s := by rw [UInt64.toNat_sub_of_le _ _ (by rw [UInt64.le_iff_toNat_le, hs]; show s ≤ 64; omega), hs]; rfl
 refine Ag Tryz.func254 J 17 Tryz.ntmps254 J (G2 ?_)
 refine .a J J (show Al _ _ = some (u64 0) from rfl) (G6 ?_)
 refine .and_u64 J J J (show Al _ _ = some (u64 63) from rfl) (G7 ?_)
 refine .shl_u64 J J J J s oM oM (G2 ?_)
 refine .sub_u64 J J (show Al _ _ = some (u64 64) from rfl) J (.shr_u64 J J J J (64 - s) oM oM (G6 ?_))
 refine ⟨_, [], Ad J J, sP, sP, ?_, rfl⟩
 rfl

theorem sha_schedule (p : List UInt8) (hp : p.length = 128) (A w : List UInt64) (hA : Hid (schA p 128 = A)) (hwp : Hid (schB A 64 = w)) : Meets Tryz.prog 252 [agg (Aa p)] [] (fun _ => True) (fun v out => v = agg (Aw w) ∧ out = []) := by
 intro W hW
 have hA80 : A.length = 80 := by rw [← hA.out]; exact schA_length p 128
 have hw80 : w.length = 80 := by rw [← hwp.out, schB_length]; exact hA80
 refine Ag Tryz.func252 J 72 Tryz.ntmps252 J (G3 ?_)
 intro n1 hn1 hf1
 refine .alloc (cs := (Aw (List.replicate 80 0))) J Zr267 J ?_
 intro n2 hn2 hf2
 refine G4 ?_
 refine .alloc (cs := (Aw (List.replicate 80 0))) J Zr267 J ?_
 intro n3 hn3 hf3
 refine G5 ?_
 refine .lA J J J Tryz.underlying262 J Sz262 Z2 (by (simp [hp]; done)) ?_
 refine G4 ?_
 refine .loop (ι := Nat) (fun k => ⟨[(3, ptr n3 0), (2, ptr n2 0), (11, agg (Aa p)), (12, i64 (k : Int))], [⟨n3, Aw (schA p k), 267, 80⟩, ⟨n2, Aw (List.replicate 80 0), 267, 80⟩]⟩) (fun k => k ≤ 128) (fun k => 128 - k) (0) ?_ ?_ ?_
 · omega
 · exact Ai (wk1 rfl (wk1 rfl (wk1 rfl (wk1 rfl wk0)))) (wh1 Z0 (wh1 Z1 wh0)) nD
 rintro k hi
 have hlk := schA_length p k
 refine G6 ?_
 refine .condP J (fun hc0 => ?_) (fun hc0 => ?_)
 ·
  refine G7 ?_
  refine .idxA1 J J J J Tryz.underlying262 Sz5 Y5.h J _ J oM zG ?_
  refine G6 ?_
  refine .quo_i64 J J J J oM (G1 ?_)
  refine .quo_i64 J J J J oM (.i1 J J J J Y267 Sz48 (k / 8) oM oM (G1 ?_))
  refine .shl_u64 J J J J 8 J dE (G3 ?_)
  refine .i1 J J J J Y267 Sz48 (k / 8) oM oM (.s1 J J J J J Sz48 Z0 (by (simp [schA_length]; omega)) (by exact set_words _ _ _) zU ?_)
  refine G8 ?_
  exact ⟨k + 1, by omega, by omega, Ai (wk1 rfl (wk1 rfl (wk1 rfl (wk1 rfl wk0)))) (wh1 Z0 (wh1 Z1 wh0)) nD⟩
 obtain rfl : k = 128 := by omega
 rw [hA.out]
 clear hlk
 refine G12 ?_
 refine .loop (ι := Nat) (fun j => ⟨[(3, ptr n3 0), (2, ptr n2 0), (6, i64 (16 + (j : Int)))], [⟨n3, Aw (schB A j), 267, 80⟩, ⟨n2, Aw (List.replicate 80 0), 267, 80⟩]⟩) (fun j => j ≤ 64) (fun j => 64 - j) (0) ?_ ?_ ?_
 · omega
 · exact Ai (wk1 rfl (wk1 rfl (wk1 rfl wk0))) (wh1 Z0 (wh1 Z1 wh0)) nD
 rintro j hi
 have hlj := schB_length A j
 refine G7 ?_
 refine .condP J (fun hc1 => ?_) (fun hc1 => ?_)
 ·
  refine G5 ?_
  refine .draw [(0, 0), (0, 1), (0, 2), (1, 3), (0, 4), (0, 5), (0, 6), (1, 7), (0, 8), (0, 9)] Ba zK (G2 ?_)
  refine .i1 J J J J Y267 Sz48 (j + 1) oM oM (G3 ?_)
  refine .i1 J J J J Y267 Sz48 (j + 14) oM oM (G8 ?_)
  refine .cV J J J J Body254 (bits_rol _ (-1) 63 dE dE dE) tV (G1 ?_)
  refine .cV J J J J Body254 (bits_rol _ (-8) 56 dE dE dE) tV (G2 ?_)
  refine .shr_u64 J J J J 7 J dE (G7 ?_)
  refine .cV J J J J Body254 (bits_rol _ (-19) 45 dE dE dE) tV (G1 ?_)
  refine .cV J J J J Body254 (bits_rol _ (-61) 3 dE dE dE) tV (G2 ?_)
  refine .shr_u64 J J J J 6 J dE (G4 ?_)
  refine .draw [(0, 0), (0, 1), (0, 2), (0, 3), (1, 4), (0, 5), (0, 6), (0, 7), (0, 8), (0, 9), (1, 10), (0, 11), (0, 12), (0, 13), (0, 14), (4, 15)] Ba zK (G3 ?_)
  refine .i1 J J J J Y267 Sz48 j oM oM (G5 ?_)
  refine .i1 J J J J Y267 Sz48 (j + 9) oM oM (G4 ?_)
  refine .i1 J J J J Y267 Sz48 (16 + j) oM oM (.s1 J J J J J Sz48 Z0 (by (simp [schB_length, hA80]; omega)) (by exact set_words _ _ _) zU ?_)
  refine G9 ?_
  exact ⟨j + 1, by omega, by omega, Ai (wk1 rfl (wk1 rfl (wk1 (congrArg (fun z => some (i64 z)) oM) wk0))) (wh1 Z0 (wh1 Z1 wh0)) nD⟩
 obtain rfl : j = 64 := by omega
 rw [hwp.out]
 clear hlj
 refine G7 ?_
 refine .lA J J J Y267 J Sz267 Z0 (by (simp [hw80]; done)) ?_
 refine .sA J J J J zB Sz267 (by (simp [hw80]; done)) Z1 sP zV ?_
 refine G4 ?_
 refine ⟨_, [], Bo J J Y267 J Sz267 Z1 (by simp [hw80]), sP, sP, ?_, rfl⟩
 rfl
theorem sha_Kk (k : List UInt64) (hk : Hid (kW = k)) : Meets Tryz.prog 253 [] [] (fun _ => True) (fun v out => v = agg (Aw k) ∧ out = []) := by
  rw [← hk.out]; exact sha_K
theorem W8.l_length (R : W8) : R.l.length = 8 := rfl

theorem sha_Piece (st : List UInt64) (hst : st.length = 8) (p : List UInt8) (hp : p.length = 128) (A w k : List UInt64) (R : W8) (hA : Hid (schA p 128 = A)) (hwp : Hid (schB A 64 = w)) (hw : w.length = 80) (hk : Hid (kW = k)) (hk80 : k.length = 80) (hR : Hid (rnds k w (W8.of st) 80 = R)) : Meets Tryz.prog 245 [agg (Aw st), agg (Aa p)] [] (fun _ => True) (fun v out => v = agg (Aw (addUp st R.l 8)) ∧ out = []) := by
 intro W hW
 refine Ag Tryz.func245 J 127 Tryz.ntmps245 J (G3 ?_)
 intro n2 hn2 hf2
 refine G1 ?_
 intro n3 hn3 hf3
 refine .alloc (cs := (Aw (List.replicate 8 0))) J Zr252 J ?_
 intro n4 hn4 hf4
 refine G4 ?_
 refine .lA J J J Tryz.underlying262 J Sz262 Z1 (by (simp [hp]; done)) ?_
 refine .cV J J J J Body252 (sha_schedule p hp A w hA hwp) tV (.cV J J J J Body253 (sha_Kk k hk) tV (.alloc (cs := (Aw (List.replicate 80 0))) J Zr267 J ?_))
 intro n5 hn5 hf5
 refine .alloc (cs := (Aw (List.replicate 80 0))) J Zr267 J ?_
 intro n6 hn6 hf6
 refine .sA J J J J zB Sz267 (by (simp [hw]; done)) Z1 sP zV ?_
 refine .sA J J J J zB Sz267 (by (simp [hk80]; done)) Z0 sP zU ?_
 refine G3 ?_
 refine .draw [(0, 0), (1, 1), (0, 2), (1, 3), (0, 4), (1, 5), (0, 6), (1, 7), (0, 8), (0, 9), (0, 10), (0, 11)] Ba zK (.i1 J J J J Y252 Sz48 0 J dE (G1 ?_))
 refine .i1 J J J J Y252 Sz48 1 J dE (G1 ?_)
 refine .i1 J J J J Y252 Sz48 2 J dE (G1 ?_)
 refine .i1 J J J J Y252 Sz48 3 J dE (G8 ?_)
 refine .draw [(0, 0), (1, 1), (0, 2), (1, 3), (0, 4), (1, 5), (0, 6), (1, 7), (0, 8), (0, 9), (0, 10), (0, 11)] Ba zK (.i1 J J J J Y252 Sz48 4 J dE (G1 ?_))
 refine .i1 J J J J Y252 Sz48 5 J dE (G1 ?_)
 refine .i1 J J J J Y252 Sz48 6 J dE (G1 ?_)
 refine .i1 J J J J Y252 Sz48 7 J dE (G14 ?_)
 refine .loop (ι := Nat) (fun t => ⟨[(2, ptr n2 0), (4, ptr n4 0), (5, ptr n5 0), (6, ptr n6 0), (7, u64 (rnds k w (W8.of st) t).a), (8, u64 (rnds k w (W8.of st) t).b), (9, u64 (rnds k w (W8.of st) t).c), (10, u64 (rnds k w (W8.of st) t).d), (11, u64 (rnds k w (W8.of st) t).e), (12, u64 (rnds k w (W8.of st) t).f), (13, u64 (rnds k w (W8.of st) t).g), (14, u64 (rnds k w (W8.of st) t).h), (41, i64 (t : Int))], [⟨n6, Aw k, 267, 80⟩, ⟨n5, Aw w, 267, 80⟩, ⟨n4, Aw (List.replicate 8 0), 252, 8⟩, ⟨n2, Aw st, 252, (Aw st).length⟩]⟩) (fun t => t ≤ 80) (fun t => 80 - t) (0) ?_ ?_ ?_
 · omega
 · exact Ai (wk1 rfl (wk1 rfl (wk1 rfl (wk1 rfl (wk1 rfl (wk1 rfl (wk1 rfl (wk1 rfl (wk1 rfl (wk1 rfl (wk1 rfl (wk1 rfl (wk1 rfl wk0))))))))))))) (wh1 Z0 (wh1 Z1 (wh1 Z2 (wh1 Z4 wh0)))) nD
 rintro t hi
 refine G6 ?_
 refine .condP J (fun hc0 => ?_) (fun hc0 => ?_)
 ·
  refine G13 ?_
  refine .cV J J J J Body254 (bits_rol _ (-14) 50 dE dE dE) tV (G1 ?_)
  refine .cV J J J J Body254 (bits_rol _ (-18) 46 dE dE dE) tV (G2 ?_)
  refine .cV J J J J Body254 (bits_rol _ (-41) 23 dE dE dE) tV (G5 ?_)
  refine .draw [(0, 0), (0, 1), (0, 2), (0, 3), (0, 4), (0, 5), (0, 6), (0, 7), (0, 8), (0, 9), (0, 10), (0, 11), (0, 12), (0, 13), (1, 14), (0, 15), (0, 16), (0, 17), (1, 18), (0, 19), (0, 20)] Ba zK (G7 ?_)
  refine .not_u64 J J J (G5 ?_)
  refine .i1 J J J J Y267 Sz48 _ J oM (G3 ?_)
  refine .i1 J J J J Y267 Sz48 _ J oM (G8 ?_)
  refine .cV J J J J Body254 (bits_rol _ (-28) 36 dE dE dE) tV (G1 ?_)
  refine .cV J J J J Body254 (bits_rol _ (-34) 30 dE dE dE) tV (G2 ?_)
  refine .cV J J J J Body254 (bits_rol _ (-39) 25 dE dE dE) tV (G51 ?_)
  exact ⟨t + 1, by omega, by omega, Ai (wk1 rfl (wk1 rfl (wk1 rfl (wk1 rfl (wk1 rfl (wk1 rfl (wk1 rfl (wk1 rfl (wk1 rfl (wk1 rfl (wk1 rfl (wk1 rfl (wk1 rfl wk0))))))))))))) (wh1 Z0 (wh1 Z1 (wh1 Z2 (wh1 Z3 wh0)))) nD⟩
 obtain rfl : t = 80 := by omega
 rw [hR.out]
 refine G16 ?_
 refine .build (cs := Aw R.l) J J J (fun w => by kernel_rfl) ?_
 refine G4 ?_
 refine .loop (ι := Nat) (fun i => ⟨[(2, ptr n2 0), (4, ptr n4 0), (114, agg (Aw R.l)), (115, i64 (i : Int))], [⟨n4, Aw (List.replicate 8 0), 252, 8⟩, ⟨n2, Aw (addUp st R.l i), 252, (Aw st).length⟩]⟩) (fun i => i ≤ 8) (fun i => 8 - i) (0) ?_ ?_ ?_
 · omega
 · exact Ai (wk1 rfl (wk1 rfl (wk1 rfl (wk1 rfl wk0)))) (wh1 Z2 (wh1 Z3 wh0)) nD
 rintro i hi
 have hli := Bq st R.l i
 have hRl := W8.l_length R
 refine G6 ?_
 refine .condP J (fun hc1 => ?_) (fun hc1 => ?_)
 ·
  refine G7 ?_
  refine .idxA1 J J J J Y252 Sz48 Y48.h J _ J oM (by exact get_words oM) ?_
  refine G6 ?_
  refine .i1 J J J J Y252 Sz48 _ J oM (G3 ?_)
  refine .i1 J J J J Y252 Sz48 _ J oM (.s1 J J J J J Sz48 Z1 (by (simp [hst, Bq]; omega)) (by exact set_words _ _ _) zV ?_)
  refine G8 ?_
  exact ⟨i + 1, by omega, by omega, Ai (wk1 rfl (wk1 rfl (wk1 rfl (wk1 rfl wk0)))) (wh1 Z0 (wh1 Z1 wh0)) nD⟩
 obtain rfl : i = 8 := by omega
 refine G7 ?_
 refine .lA J J J Y252 J Sz252 Z1 (by (simp [hst, Bq]; done)) ?_
 refine .sA J J J J zB Sz252 (by (simp [hst, Bq]; done)) Z0 sP zU ?_
 refine G4 ?_
 refine ⟨_, [], Bo J J Y252 J Sz252 Z0 (by simp [hst, Bq]), sP, sP, ?_, rfl⟩
 rfl
theorem sha_sum (st : List UInt64) (hst : st.length = 8) (s : List UInt8) (hs : Hid (sumUp st 64 = s)) : Meets Tryz.prog 235 [agg (Aw st)] [] (fun _ => True) (fun v out => v = agg (Aa s) ∧ out = []) := by
 intro W hW
 have hs64 : s.length = 64 := by rw [← hs.out]; exact Ca st 64
 refine Ag Tryz.func235 J 22 Tryz.ntmps235 J (G3 ?_)
 intro n1 hn1 hf1
 refine .alloc (cs := (Aa (List.replicate 64 0))) J Zr76 J ?_
 intro n2 hn2 hf2
 refine G4 ?_
 refine .alloc (cs := (Aa (List.replicate 64 0))) J Zr76 J ?_
 intro n3 hn3 hf3
 refine G9 ?_
 refine .loop (ι := Nat) (fun k => ⟨[(1, ptr n1 0), (2, ptr n2 0), (3, ptr n3 0), (5, i64 (k : Int))], [⟨n3, Aa (sumUp st k), 76, 64⟩, ⟨n2, Aa (List.replicate 64 0), 76, 64⟩, ⟨n1, Aw st, 252, (Aw st).length⟩]⟩) (fun k => k ≤ 64) (fun k => 64 - k) (0) ?_ ?_ ?_
 · omega
 · exact Ai (wk1 rfl (wk1 rfl (wk1 rfl (wk1 rfl wk0)))) (wh1 Z0 (wh1 Z1 (wh1 Z2 wh0))) nD
 rintro k hi
 have hlk := Ca st k
 refine G6 ?_
 refine .condP J (fun hc0 => ?_) (fun hc0 => ?_)
 ·
  refine G13 ?_
  refine .quo_i64 J J J J oM (.i1 J J J J Y252 Sz48 (k / 8) oM oM (G2 ?_))
  refine .rem_i64 J J J J oM (.mul_i64 J J J J oM (G1 ?_))
  refine .shr_u64 J J J J (56 - 8 * (k % 8)) oM oM (G1 ?_)
  refine .i1 J J J J Y76 Sz5 _ J oM (.s1 J J J J J Sz5 Z0 (by (simp [Ca]; omega)) (by exact set_bytes _ _ _) zU ?_)
  refine G8 ?_
  exact ⟨k + 1, by omega, by omega, Ai (wk1 rfl (wk1 rfl (wk1 rfl (wk1 rfl wk0)))) (wh1 Z0 (wh1 Z1 (wh1 Z2 wh0))) nD⟩
 obtain rfl : k = 64 := by omega
 rw [hs.out]
 clear hlk
 refine G7 ?_
 refine .lA J J J Y76 J Sz76 Z0 (by (simp [hs64]; done)) ?_
 refine .sA J J J J zE Sz76 (by (simp [hs64]; done)) Z1 sP zV ?_
 refine G4 ?_
 refine ⟨_, [], Bo J J Y76 J Sz76 Z1 (by simp [hs64]), sP, sP, ?_, rfl⟩
 rfl

theorem and_low {x : UInt64} (h : x.toNat < 4294967296) : x &&& 4294967295 = x := by
  apply UInt64.toNat_inj.1
  rw [UInt64.toNat_and]
  show x.toNat &&& (2 ^ 32 - 1) = x.toNat
  rw [Nat.and_two_pow_sub_one_eq_mod, Nat.mod_eq_of_lt oM]
theorem shr_small {x : UInt64} {n : Nat} (h : x.toNat < 2 ^ n) : Bz x n = 0 := by
  apply UInt64.toNat_inj.1
  rw [shr64_nat, Nat.div_eq_of_lt h]; rfl
theorem mul8_nat {x : UInt64} (h : x.toNat < 536870912) : (x * 8).toNat = x.toNat * 8 := by
  rw [UInt64.toNat_mul]; show x.toNat * 8 % 18446744073709551616 = _; omega

theorem bits_mul8 (x : UInt64) (hx : x.toNat < 536870912) : Meets Tryz.prog 251 [u64 x, u64 8] [] (fun _ => True) (fun v out => v = .tuple #[u64 0, u64 (x * 8)] ∧ out = []) := by
 intro W hW
 have h1 := and_low (x := x) oM
 have h2 := shr_small (x := x) (n := 32) oM
 have h3 := mul8_nat hx
 have h4 := shr_small (x := x * 8) (n := 32) oM
 refine Ag Tryz.func251 J 51 Tryz.ntmps251 J (G2 ?_)
 refine .a J J (show Al _ _ = some (u64 0) from rfl) (.a J J (show Al _ _ = some (u64 0) from rfl) (G5 ?_))
 refine .and_u64 J J J (show Al _ _ = some (u64 4294967295) from rfl) (G6 ?_)
 refine .shr_u64 J J J J 32 oM oM (G6 ?_)
 refine .and_u64 J J J (show Al _ _ = some (u64 4294967295) from rfl) (G6 ?_)
 refine .shr_u64 J J (show Al _ _ = some (u64 8) from rfl) J 32 oM oM (G17 ?_)
 refine .shr_u64 J J J J 32 J dE (G7 ?_)
 refine .and_u64 J J J (show Al _ _ = some (u64 4294967295) from rfl) (G6 ?_)
 refine .shr_u64 J J J J 32 J dE (G21 ?_)
 refine .shr_u64 J J J J 32 J dE (G14 ?_)
 refine ⟨_, [], A9 J J J, sP, sP, ?_, rfl⟩
 simp only [h1, h2, show Bz 8 32 = 0 from rfl, show (8 : UInt64) &&& 4294967295 = 8 from rfl]
 rw [h4, UInt64.mul_zero (a := x)]
 rfl

theorem Bx (a b : List UInt8) : Aa (a ++ b) = Aa a ++ Aa b := List.map_append
theorem sl_get {ss : List Sl} {j : Nat} (h : j < ss.length) : (ss.map Sl.v)[j]? = some (ss.getD j Sl.nil).v := by simp [List.getElem?_eq_getElem h, List.getD]
theorem take_flat {ls : List (List UInt8)} {j : Nat} (h : j < ls.length) : (ls.take (j + 1)).flatten = (ls.take j).flatten ++ ls.getD j [] := by
  rw [List.take_succ_eq_append_getElem h, List.flatten_append]
  simp [List.getD, h]
theorem take_flat_le (ls : List (List UInt8)) (j : Nat) : (ls.take j).flatten.length ≤ ls.flatten.length := by
  have : ls.flatten = (ls.take j).flatten ++ (ls.drop j).flatten := by rw [← List.flatten_append, List.take_append_drop]
  rw [this, List.length_append]; omega

theorem sha_padded (p : Option Addr) (n c : Nat) (ss : List Sl) (ls : List (List UInt8)) (hss : ss.length = n) (hls : ls.length = n) (hsl : ∀ j, j < n → (ss.getD j Sl.nil).n = (ls.getD j []).length ∧ ((ss.getD j Sl.nil).p = none → (ss.getD j Sl.nil).n = 0)) (F : List UInt8) (hF : ls.flatten = F) (htot : F.length ≤ 90000) (hn : n ≤ 1000000) : Meets Tryz.prog 244 [.slice p n c] [] (fun W => SeesP W p (ss.map Sl.v) ∧ ∀ j, j < n → SeesP W (ss.getD j Sl.nil).p (Aa (ls.getD j []))) (fun v out => ∃ s, v = s.v ∧ Acc s out (Aa (padB F)) 5 (padB F).length 1) := by
 intro W hW
 have hz := padZ_lt F.length
 have hle := take_flat_le ls
 rw [hF] at hle
 refine Ag Tryz.func244 J 76 Tryz.ntmps244 J (G19 ?_)
 refine .loop (ι := Nat) (fun k => ⟨[(0, .slice p n c), (3, i64 ((ls.take k).flatten.length : Int)), (14, .slice p n c), (15, i64 (n : Int)), (16, i64 (k : Int))], []⟩) (fun k => k ≤ n) (fun k => n - k) (0) ?_ ?_ ?_
 · omega
 · exact Af (wk1 rfl (wk1 rfl (wk1 rfl (wk1 rfl (wk1 rfl wk0))))) Ae
 rintro k hi
 refine G6 ?_
 refine .condP J (fun hc0 => ?_) (fun hc0 => ?_)
 ·
  have hk3 : k < n := by omega
  obtain ⟨b, o, hbp, hbs⟩ := hW.1.at (by rw [List.length_map]; omega)
  have hv : W.cell? ⟨b, o + k * 1, none⟩ = some (ss.getD k Sl.nil).v := by rw [Nat.mul_one]; exact hbs k _ (sl_get oM)
  have hstep := hle (k + 1)
  rw [take_flat oM, List.length_append, ← (hsl k oM).1] at hstep
  refine G6 ?_
  refine .idxSlP 1 J J J hbp J Y250.h Sz58 k J oM (.loadE J J J Y58.h J sP (hv) (G17 ?_))
  exact ⟨k + 1, by omega, by omega, Af (wk1 rfl (wk1 (congrArg (fun z => some (i64 z)) (by rw [take_flat oM, List.length_append, (hsl k oM).1]; simp)) (wk1 rfl (wk1 rfl (wk1 rfl wk0))))) Ae⟩
 have hk3 : k = n := by omega
 rw [hk3, List.take_of_length_le oM, hF]
 refine G9 ?_
 refine .quo_i64 J J J J oM (.mul_i64 J J J J oM (G1 ?_))
 refine .mkRoom (z := u8 0) (by' := 1) ((F.length + 16) / 128 * 128 + 128) J J J J oM Y58.h Sz5 Zr5 (by unfold By; kernel_rfl) J oM oM ?_
 intro q30
 refine G12 ?_
 refine .loop (ι := Nat × Sl × List Blk) (fun x => ⟨[(3, i64 (F.length : Int)), (6, x.2.1.v), (31, .slice p n c), (32, i64 (n : Int)), (33, i64 (x.1 : Int))], (x.2.2 ++ [])⟩) (fun x => x.1 ≤ n ∧ Acc x.2.1 x.2.2 (Aa (ls.take x.1).flatten) 5 (ls.take x.1).flatten.length 1) (fun x => n - x.1) ((0, ⟨some ⟨q30, 0, none⟩, 0, (F.length + 16) / 128 * 128 + 128⟩, [⟨q30, [], 5, ((F.length + 16) / 128 * 128 + 128) * 1⟩])) ?_ ?_ ?_
 · exact ⟨Nat.zero_le _, Acc.some (Nat.zero_le _) rfl⟩
 · exact Af (wk1 rfl (wk1 rfl (wk1 rfl (wk1 rfl (wk1 rfl wk0))))) (pm_consE rM rfl (Nat.mul_one _).symm Ae)
 rintro x ⟨hx, hax⟩
 refine G6 ?_
 refine .condP J (fun hc1 => ?_) (fun hc1 => ?_)
 ·
  have hx3 : x.1 < n := by omega
  obtain ⟨b, o, hbp, hbs⟩ := hW.1.at (by rw [List.length_map]; omega)
  have hv : W.cell? ⟨b, o + x.1 * 1, none⟩ = some (ss.getD x.1 Sl.nil).v := by rw [Nat.mul_one]; exact hbs x.1 _ (sl_get oM)
  have hstep := hle (x.1 + 1)
  rw [take_flat oM, List.length_append, ← (hsl x.1 oM).1] at hstep
  refine G6 ?_
  refine .idxSlP 1 J J J hbp J Y250.h Sz58 x.1 J oM (.loadE J J J Y58.h J sP (hv) (G6 ?_))
  refine .appendAcc (z := u8 0) (by' := 1) (Aa (ls.getD x.1 [])) J J J J J Y58.h Y58.h Sz5 Zr5 (by unfold By; kernel_rfl) J hax sG (fun w h => Ao h J (hW.2 x.1 oM)) (hsl x.1 oM).2 (As _) oM oM (by rw [Aa, List.length_map, Nat.mul_one]; exact (hsl x.1 oM).1.symm) ?_
  intro s39 bl39 hac39
  refine G9 ?_
  refine ⟨(x.1 + 1, s39, bl39), ⟨by simp only []; omega, ?_⟩, by simp only []; omega, Af (wk1 J (wk1 J (wk1 J (wk1 J (wk1 J wk0))))) (Ab sG Ae)⟩
  rw [take_flat oM, List.length_append, ← (hsl x.1 oM).1]
  simpa [Aa] using hac39
 have hx3 : x.1 = n := by omega
 rw [hx3, List.take_of_length_le oM, hF] at hax
 refine G8 ?_
 refine .mkRow (z := u8 0) [u8 (128)] (Aa [128]) J J J Y58.h Sz5 Zr5 J J (by intro v hv; rw [List.mem_singleton.1 hv]; rfl) dE J ?_
 intro q42
 refine .appendAcc (z := u8 0) (by' := 1) (Aa [128]) J J J J J Y58.h Y58.h Sz5 Zr5 (by unfold By; kernel_rfl) J hax sG (fun w h => SeesP.of (Aj h Z0)) (fun e => by cases e) (As _) oM oM (by rfl) ?_
 intro s43 bl43 hac43
 refine G5 ?_
 refine .loop (ι := Nat × Sl × List Blk) (fun z => ⟨[(3, i64 (F.length : Int)), (6, z.2.1.v)], (z.2.2 ++ [])⟩) (fun z => z.1 ≤ padZ F.length ∧ Acc z.2.1 z.2.2 (Aa (F ++ [128] ++ List.replicate z.1 0)) 5 (F.length + 1 + z.1) 1) (fun z => padZ F.length - z.1) ((0, s43, bl43)) ?_ ?_ ?_
 · exact ⟨Nat.zero_le _, by simpa [Aa] using hac43⟩
 · exact Af (wk1 rfl (wk1 rfl wk0)) (Ab sG Ae)
 rintro z ⟨hz1, haz⟩
 have hzn := haz.num
 have hpz := padZ_at F.length z.1 hz1
 refine G5 ?_
 refine .rem_i64 J J J J oM (G3 ?_)
 refine .condNP J (fun hc2 => ?_) (fun hc2 => ?_)
 ·
  have hz3 : z.1 < padZ F.length := by omega
  refine G5 ?_
  refine .mkRow (z := u8 0) [u8 (0)] (Aa [0]) J J J Y58.h Sz5 Zr5 J J (by intro v hv; rw [List.mem_singleton.1 hv]; rfl) dE J ?_
  intro q49
  refine .appendAcc (z := u8 0) (by' := 1) (Aa [0]) J J J J J Y58.h Y58.h Sz5 Zr5 (by unfold By; kernel_rfl) J haz sG (fun w h => SeesP.of (Aj h Z0)) (fun e => by cases e) (As _) oM oM (by rfl) ?_
  intro s50 bl50 hac50
  refine G4 ?_
  refine ⟨(z.1 + 1, s50, bl50), ⟨by simp only []; omega, ?_⟩, by simp only []; omega, Af (wk1 J (wk1 J wk0)) (Ab sG Ae)⟩
  rw [List.replicate_succ', ← List.append_assoc]
  simpa [Aa, Nat.add_assoc] using hac50
 have hz3 : z.1 = padZ F.length := by omega
 rw [hz3] at haz
 refine G9 ?_
 rw [word_nat (n := F.length) oM]
 refine .cV J J J J Body251 (bits_mul8 (UInt64.ofNat F.length) (by rw [Bc oM]; omega)) tV ?_
 refine G12 ?_
 refine .build (cs := [u64 0, u64 (UInt64.ofNat F.length * 8)]) J J J (fun w => by kernel_rfl) ?_
 refine G4 ?_
 refine .rounds 3 (SRounds.more (G6 ?_))
 refine .cond_t J (rfl) (G6 ?_)
 refine .idxA1 J J J J Tryz.underlying266 Sz48 Y48.h J 0 J oM J (G9 ?_)
 refine .loop (ι := Nat × Sl × List Blk) (fun y => ⟨[(3, i64 (F.length : Int)), (6, y.2.1.v), (12, u64 (0)), (13, i64 (56 - 8 * (y.1 : Int))), (59, agg [u64 0, u64 (UInt64.ofNat F.length * 8)]), (60, i64 0)], (y.2.2 ++ [])⟩) (fun y => y.1 ≤ 8 ∧ Acc y.2.1 y.2.2 (Aa (F ++ [128] ++ List.replicate (padZ F.length) 0 ++ beUp (0) y.1)) 5 ((F.length + 1 + padZ F.length) + y.1) 1) (fun y => 8 - y.1) ((0, z.2.1, z.2.2)) ?_ ?_ ?_
 · exact ⟨Nat.zero_le _, by simpa [beUp] using haz⟩
 · exact Af (wk1 rfl (wk1 rfl (wk1 rfl (wk1 rfl (wk1 rfl (wk1 rfl wk0)))))) (Ab sG Ae)
 rintro y ⟨hy, hay⟩
 refine G7 ?_
 refine .condP J (fun hc4 => ?_) (fun hc4 => ?_)
 ·
  have hy3 : y.1 ≤ 7 := by omega
  refine G8 ?_
  refine .shr_u64 J J J J (56 - 8 * y.1) oM oM (G1 ?_)
  refine .mkRow (z := u8 0) [u8 ((Bz 0 (56 - 8 * y.1)).toUInt8)] (Aa [(Bz 0 (56 - 8 * y.1)).toUInt8]) J J J Y58.h Sz5 Zr5 J J (by intro v hv; rw [List.mem_singleton.1 hv]; rfl) dE J ?_
  intro q72
  refine .appendAcc (z := u8 0) (by' := 1) (Aa [(Bz 0 (56 - 8 * y.1)).toUInt8]) J J J J J Y58.h Y58.h Sz5 Zr5 (by unfold By; kernel_rfl) J hay sG (fun w h => SeesP.of (Aj h Z0)) (fun e => by cases e) (As _) oM oM (by rfl) ?_
  intro s73 bl73 hac73
  refine G10 ?_
  refine ⟨(y.1 + 1, s73, bl73), ⟨by simp only []; omega, ?_⟩, by simp only []; omega, Af (wk1 J (wk1 J (wk1 J (wk1 (congrArg (fun z => some (i64 z)) oM) (wk1 J (wk1 J wk0)))))) (Ab sG Ae)⟩
  rw [show beUp (0) (y.1 + 1) = beUp (0) y.1 ++ [(Bz (0) (56 - 8 * y.1)).toUInt8] from rfl, ← List.append_assoc, Bx]
  exact hac73
 have hy3 : y.1 = 8 := by omega
 rw [hy3] at hay
 refine G10 ?_
 refine at_n (SRounds.more (G6 ?_))
 refine .cond_t J (rfl) (G6 ?_)
 refine .idxA1 J J J J Tryz.underlying266 Sz48 Y48.h J 1 J oM J (G9 ?_)
 refine .loop (ι := Nat × Sl × List Blk) (fun y => ⟨[(3, i64 (F.length : Int)), (6, y.2.1.v), (12, u64 (UInt64.ofNat F.length * 8)), (13, i64 (56 - 8 * (y.1 : Int))), (59, agg [u64 0, u64 (UInt64.ofNat F.length * 8)]), (60, i64 (0 + 1))], (y.2.2 ++ [])⟩) (fun y => y.1 ≤ 8 ∧ Acc y.2.1 y.2.2 (Aa (F ++ [128] ++ List.replicate (padZ F.length) 0 ++ beUp 0 8 ++ beUp (UInt64.ofNat F.length * 8) y.1)) 5 ((F.length + 1 + padZ F.length + 8) + y.1) 1) (fun y => 8 - y.1) ((0, y.2.1, y.2.2)) ?_ ?_ ?_
 · exact ⟨Nat.zero_le _, by simpa [beUp] using hay⟩
 · exact Af (wk1 rfl (wk1 rfl (wk1 rfl (wk1 rfl (wk1 rfl (wk1 rfl wk0)))))) (Ab sG Ae)
 rintro y ⟨hy, hay⟩
 refine G7 ?_
 refine .condP J (fun hc4 => ?_) (fun hc4 => ?_)
 ·
  have hy3 : y.1 ≤ 7 := by omega
  refine G8 ?_
  refine .shr_u64 J J J J (56 - 8 * y.1) oM oM (G1 ?_)
  refine .mkRow (z := u8 0) [u8 ((Bz (UInt64.ofNat F.length * 8) (56 - 8 * y.1)).toUInt8)] (Aa [(Bz (UInt64.ofNat F.length * 8) (56 - 8 * y.1)).toUInt8]) J J J Y58.h Sz5 Zr5 J J (by intro v hv; rw [List.mem_singleton.1 hv]; rfl) dE J ?_
  intro q72
  refine .appendAcc (z := u8 0) (by' := 1) (Aa [(Bz (UInt64.ofNat F.length * 8) (56 - 8 * y.1)).toUInt8]) J J J J J Y58.h Y58.h Sz5 Zr5 (by unfold By; kernel_rfl) J hay sG (fun w h => SeesP.of (Aj h Z0)) (fun e => by cases e) (As _) oM oM (by rfl) ?_
  intro s73 bl73 hac73
  refine G10 ?_
  refine ⟨(y.1 + 1, s73, bl73), ⟨by simp only []; omega, ?_⟩, by simp only []; omega, Af (wk1 J (wk1 J (wk1 J (wk1 (congrArg (fun z => some (i64 z)) oM) (wk1 J (wk1 J wk0)))))) (Ab sG Ae)⟩
  rw [show beUp (UInt64.ofNat F.length * 8) (y.1 + 1) = beUp (UInt64.ofNat F.length * 8) y.1 ++ [(Bz (UInt64.ofNat F.length * 8) (56 - 8 * y.1)).toUInt8] from rfl, ← List.append_assoc, Bx]
  exact hac73
 have hy3 : y.1 = 8 := by omega
 rw [hy3] at hay
 refine G10 ?_
 refine at_n (SRounds.more (G6 ?_))
 refine .cond_f J (rfl) (G13 ?_)
 refine Ah (out := (y.2.2 ++ [])) (Ad J J) (Ab sG Ae) ?_
 refine ⟨y.2.1, rfl, ?_⟩
 have e8 : UInt64.ofNat F.length * 8 = UInt64.ofNat (8 * F.length) := by
  apply UInt64.toNat_inj.1
  rw [mul8_nat (by rw [Bc oM]; omega), Bc oM, Bc oM]; omega
 rw [e8] at hay
 rw [padB_length, padB]
 simpa [Nat.add_assoc, Nat.add_comm, Nat.add_left_comm] using hay

theorem mk_chunk (p : Option Addr) (n c : Nat) : Meets Tryz.prog 243 [.slice p n c, i64 128] [] (fun _ => True) (fun v out => ∃ b1 b2, v = .func (.func 250) #[] #[ptr b1 0, ptr b2 0] ∧ out = [⟨b1, [.slice p n c], 58, 1⟩, ⟨b2, [i64 128], 3, 1⟩]) := by
 intro W hW
 refine Ag Tryz.func243 J 9 Tryz.ntmps243 J (G2 ?_)
 refine .box1 J J J ?_
 intro n2 hn2 hf2
 refine .box1 J J J ?_
 intro n3 hn3 hf3
 refine G10 ?_
 refine .cond_f J dE (G10 ?_)
 refine Ah (out := (⟨n2, [.slice p n c], 58, 1⟩ :: (⟨n3, [i64 128], 3, 1⟩ :: []))) (Ad J J) (Ac rM (Ac rM Ae)) ?_
 exact ⟨n2, n3, rfl, by simp⟩

def encC (q i : Nat) : Value := .slice (some ⟨q, 128 * i, none⟩) 128 128
theorem encC_eq (q i : Nat) : (.slice (some ⟨q, if 128 * i + 128 = 128 * i then 0 else 0 + 128 * i * 1, none⟩) (128 * i + 128 - 128 * i) (128 * i + 128 - 128 * i) : Value) = encC q i := by
  have e1 : 128 * i + 128 - 128 * i = 128 := by omega
  have e2 : 0 + 128 * i * 1 = 128 * i := by omega
  rw [if_neg oM, e1, e2]; rfl

theorem chunk_iter (l b1 b2 q n c K : Nat) (X : Nat → List Blk) (names : List Nat) (hnk : n = 128 * K) (hnc : n ≤ c) (hbig : n ≤ 1000000) : Meets Tryz.prog 250 [.func (.yield l) #[] #[], ptr b1 0, ptr b2 0] names (fun W => HRep ⟨Tryz.prog, W, 0, names, [], []⟩ (⟨b1, [.slice (some ⟨q, 0, none⟩) n c], 58, 1⟩ :: ⟨b2, [i64 128], 3, 1⟩ :: X 0) W ∧ ∀ i, i < K → ∀ W2, HRep ⟨Tryz.prog, W, 0, names, [], []⟩ (⟨b1, [.slice (some ⟨q, 0, none⟩) n c], 58, 1⟩ :: ⟨b2, [i64 128], 3, 1⟩ :: X i) W2 → YieldAt Fence.wide 0 Tryz.prog l #[encC q i] W2 fun e W3 => e = .returned (.bool true) ∧ HRep ⟨Tryz.prog, W, 0, names, [], []⟩ (⟨b1, [.slice (some ⟨q, 0, none⟩) n c], 58, 1⟩ :: ⟨b2, [i64 128], 3, 1⟩ :: X (i + 1)) W3) (fun v out => v = .tuple #[] ∧ out = ⟨b1, [.slice (some ⟨q, 0, none⟩) n c], 58, 1⟩ :: ⟨b2, [i64 128], 3, 1⟩ :: X K) := by
 intro W hW
 refine A3 (hp0 := ⟨b1, [.slice (some ⟨q, 0, none⟩) n c], 58, 1⟩ :: ⟨b2, [i64 128], 3, 1⟩ :: X 0) Tryz.func250 J 31 Tryz.ntmps250 J (HRep.reN hW.1) (G6 ?_)
 refine .loop (ι := Nat) (fun i => ⟨[(0, .func (.yield l) #[] #[]), (1, ptr b1 0), (2, ptr b2 0), (4, i64 (128 * (i : Int)))], (⟨b1, [.slice (some ⟨q, 0, none⟩) n c], 58, 1⟩ :: (⟨b2, [i64 128], 3, 1⟩ :: (X i ++ [])))⟩) (fun i => i ≤ K) (fun i => K - i) (0) ?_ ?_ ?_
 · exact Nat.zero_le _
 · exact Af (wk1 rfl (wk1 rfl (wk1 rfl (wk1 rfl wk0)))) (Ac rM (Ac rM (Ab (by repeat (exact sg_end)) Ae)))
 rintro i hi
 refine G9 ?_
 refine .condP J (fun hc0 => ?_) (fun hc0 => ?_)
 ·
  have hi3 : i < K := by omega
  refine G5 ?_
  refine .draw [(1, 0), (1, 1), (0, 2), (0, 3), (0, 4), (0, 5), (0, 6)] Ba zK (G3 ?_)
  refine .sliceLoN (128*i) J J J J oM oM oM Y58.h Sz5 (G1 ?_)
  refine .min2 J J J J (show Value.int .i64 (if ((n - 128 * i : Nat) : Int) < (128 : Int) then ((n - 128 * i : Nat) : Int) else (128 : Int)) = i64 128 from by rw [if_neg oM]) ?_
  refine G4 ?_
  refine .regionY 10 J zK (G9 ?_)
  refine .slice3 (128*i) (128*i+128) (128*i+128) J J J J J J oM oM oM oM oM oM Y58.h Sz5 (.nil (yop J J (congrArg some (encC_eq q i)) (fun w h => hW.2 i hi3 w (by rw [List.append_nil] at h; exact h)) ?_))
  refine G3 ?_
  refine .cond_f J (rfl) (G10 ?_)
  exact ⟨i + 1, by omega, by omega, Af (wk1 rfl (wk1 rfl (wk1 rfl (wk1 (congrArg (fun z => some (i64 z)) oM) wk0)))) (Ac rM (Ac rM (Ab (by repeat (exact sg_end)) Ae)))⟩
 have hi3 : i = K := by omega
 refine G5 ?_
 refine Ah (out := (⟨b1, [.slice (some ⟨q, 0, none⟩) n c], 58, 1⟩ :: (⟨b2, [i64 128], 3, 1⟩ :: (X i ++ [])))) (res_none J) (Ac rM (Ac rM (Ab sG Ae))) ?_
 rw [hi3]; exact ⟨rfl, by simp⟩
theorem chunk_seq {l b1 b2 q n c K : Nat} {X : Nat → List Blk} {names : List Nat} (hnk : n = 128 * K) (hnc : n ≤ c) (hbig : n ≤ 1000000) (hnm : ∀ i, (⟨b1, [.slice (some ⟨q, 0, none⟩) n c], 58, 1⟩ :: ⟨b2, [i64 128], 3, 1⟩ :: X i).map (·.n) = names) (w1 : World) (hh : HRep ⟨Tryz.prog, w1, 0, names, [], []⟩ (⟨b1, [.slice (some ⟨q, 0, none⟩) n c], 58, 1⟩ :: ⟨b2, [i64 128], 3, 1⟩ :: X 0) w1)
    (hy : ∀ i, i < K → ∀ W2, HRep ⟨Tryz.prog, w1, 0, names, [], []⟩ (⟨b1, [.slice (some ⟨q, 0, none⟩) n c], 58, 1⟩ :: ⟨b2, [i64 128], 3, 1⟩ :: X i) W2 → YieldAt Fence.wide 0 Tryz.prog l #[encC q i] W2 fun e W3 => e = .returned (.bool true) ∧ HRep ⟨Tryz.prog, w1, 0, names, [], []⟩ (⟨b1, [.slice (some ⟨q, 0, none⟩) n c], 58, 1⟩ :: ⟨b2, [i64 128], 3, 1⟩ :: X (i + 1)) W3) :
    CallsIn Fence.wide 0 Tryz.prog 250 (#[.func (.yield l) #[] #[]] ++ #[ptr b1 0, ptr b2 0]) w1 fun e W' => (∃ v, e = .returned v) ∧ HRep ⟨Tryz.prog, w1, 0, names, [], []⟩ (⟨b1, [.slice (some ⟨q, 0, none⟩) n c], 58, 1⟩ :: ⟨b2, [i64 128], 3, 1⟩ :: X K) W' :=
  callsIn_wide.2 ((chunk_iter l b1 b2 q n c K X names hnk hnc hbig w1 ⟨hh, hy⟩).mono fun e W' ⟨v, out, he, ⟨_, ho⟩, hr⟩ => ⟨⟨v, he⟩, by subst ho; exact HRep.ofRet hr (hnm K)⟩)
theorem take_len {xs : List UInt8} {i K : Nat} (h : xs.length = 128 * K) (hi : i < K) : ((xs.drop (128 * i)).take 128).length = 128 := by simp; omega

theorem sha_whole (st : List UInt64) (hst : st.length = 8) (k : List UInt64) (hk : Hid (kW = k)) (hk80 : k.length = 80) (p : Option Addr) (n c : Nat) (ss : List Sl) (ls : List (List UInt8)) (hss : ss.length = n) (hls : ls.length = n) (hsl : ∀ j, j < n → (ss.getD j Sl.nil).n = (ls.getD j []).length ∧ ((ss.getD j Sl.nil).p = none → (ss.getD j Sl.nil).n = 0)) (F : List UInt8) (hF : ls.flatten = F) (htot : F.length ≤ 90000) (hn : n ≤ 1000000)  : Meets Tryz.prog 236 [agg (Aw st), .slice p n c] [] (fun W => SeesP W p (ss.map Sl.v) ∧ ∀ j, j < n → SeesP W (ss.getD j Sl.nil).p (Aa (ls.getD j []))) (fun v out => v = agg (Aw (allW k st F)) ∧ out = []) := by
  intro W hW
  have hpl := padB_length F
  have hpz := padZ_lt F.length
  have hpm := padB_mod F
  have hst2 : (runW k st (padB F) ((padB F).length / 128)).length = 8 := by rw [runW_length]; exact hst
  refine calls_range Tryz.func236 rfl 16 Tryz.ntmps236 rfl ?_
  refine G2 ?_
  intro n2 hn2 hf2
  refine Tr.alloc (cs := (Aw (List.replicate 8 0))) rfl Zr252 rfl ?_
  intro n4 hn4 hf4
  refine G4 ?_
  refine Tr.call4 rfl rfl rfl rfl rfl Body244 (sha_padded p n c ss ls hss hls hsl F hF htot hn) (fun w h => ⟨Ao h rfl hW.1, fun j hj => Ao h rfl (hW.2 j hj)⟩) ?_
  rintro v7 out7 ⟨s7, rfl, hac7⟩
  obtain ⟨q7, c7, rfl, hc7, rfl⟩ := acc_pos hac7 oM
  refine Tr.call4 rfl rfl rfl rfl rfl Body243 (mk_chunk (some ⟨q7, 0, none⟩) (padB F).length c7) tV ?_
  rintro v8 out8 ⟨b1, b2, rfl, rfl⟩
  refine G2 ?_
  refine ⟨_, _, fun i => ⟨b1, [.slice (some ⟨q7, 0, none⟩) (padB F).length c7], 58, 1⟩ :: ⟨b2, [i64 128], 3, 1⟩ :: [⟨q7, Aa (padB F), 5, c7 * 1⟩, ⟨n4, Aw (List.replicate 8 0), 252, (Aw (List.replicate 8 0)).length⟩, ⟨n2, Aw (runW k st (padB F) i), 252, (Aw st).length⟩], [b1, b2, q7, n4, n2], encC q7, ((padB F).length / 128), fun sl i => (5, encC q7 i) :: (9, encC q7 i) :: sl, rfl, rfl, Body250, dE, fun _ => rfl, ?_, ?_, ?_, ?_⟩
  ·
    intro l w1 hh hy
    exact chunk_seq (X := fun i => [⟨q7, Aa (padB F), 5, c7 * 1⟩, ⟨n4, Aw (List.replicate 8 0), 252, (Aw (List.replicate 8 0)).length⟩, ⟨n2, Aw (runW k st (padB F) i), 252, (Aw st).length⟩]) hpm hc7 oM (fun _ => rfl) w1 hh hy
  ·
    intro i hi l W2 hh
    refine SatI.region zK ?_
    refine G2 ?_
    exact ⟨rfl, rfl⟩
  ·
    intro i hi l W2 hh
    obtain ⟨A, hA⟩ : ∃ A, Hid (schA ((padB F).drop (128 * i) |>.take 128) 128 = A) := ⟨_, ⟨rfl⟩⟩
    obtain ⟨w, hwp⟩ : ∃ w, Hid (schB A 64 = w) := ⟨_, ⟨rfl⟩⟩
    obtain ⟨R, hR⟩ : ∃ R, Hid (rnds k w (W8.of (runW k st (padB F) i)) 80 = R) := ⟨_, ⟨rfl⟩⟩
    have hw : w.length = 80 := by rw [← hwp.out, schB_length, ← hA.out]; exact schA_length _ 128
    have e1 : addUp (runW k st (padB F) i) R.l 8 = runW k st (padB F) (i + 1) := by rw [runW, pieceW, schW, hA.out, hwp.out, hR.out]
    refine SatI.block ?_
    refine SatI.draw [(1, 0), (0, 1), (0, 2), (1, 3), (3, 4), (4, 5)] Ba zK zK ?_
    refine Tr.lA rfl rfl rfl Y252 rfl Sz252 Z4 (by rw [List.length_map, runW_length]; exact hst) ?_
    refine G1 ?_
    refine Tr.s2a rfl rfl rfl Tryz.underlying262 oM ?_
    refine Tr.lN (Aa ((padB F).drop (128 * i) |>.take 128)) rfl rfl rfl Tryz.underlying262 rfl Sz262 Z2 (by rw [← List.map_drop, ← List.map_take]) (by rw [List.length_map]; exact take_len hpm hi) ?_
    refine Tr.cV rfl rfl rfl rfl Body245 (sha_Piece (runW k st (padB F) i) (by rw [runW_length]; exact hst) ((padB F).drop (128 * i) |>.take 128) (take_len hpm hi) A w k R hA hwp hw hk hk80 hR) tV ?_
    refine Tr.sA rfl rfl rfl rfl zB Sz252 (by (rw [List.length_map, Bq, runW_length]; exact hst)) Z4 (by (rw [List.length_map, runW_length]; exact hst)) (by exact upd4) ?_
    refine Tr.nil ?_
    rw [e1]
  intro D W2
  refine G2 ?_
  refine Tr.lA rfl rfl rfl Y252 rfl Sz252 Z4 (by (simp [hst2]; done)) ?_
  refine Tr.sA rfl rfl rfl rfl zB Sz252 (by (simp [hst2]; done)) Z3 sP (by exact upd3) ?_
  refine G3 ?_
  refine enA_r ?_
  refine ⟨_, [], fun W names => Bo rfl rfl Y252 rfl Sz252 Z3 (by simp [hst2]), sP, sP, ?_⟩
  exact ⟨rfl, rfl⟩
theorem startW_length : startW.length = 8 := rfl
def xorUp : Nat → List UInt64
  | 0 => startW
  | i + 1 => (xorUp i).set i ((xorUp i).getD i 0 ^^^ 11936128518282651045)
theorem xorUp_length : ∀ i, (xorUp i).length = 8
  | 0 => rfl
  | i + 1 => by rw [xorUp, List.length_set, xorUp_length i]
def shaTag : List UInt8 := [83, 72, 65, 45, 53, 49, 50, 47, 50, 53, 54]
def shaI : List UInt64 := allW kW (xorUp 8) shaTag
def sha256 (l : List UInt8) : List UInt8 := (sumUp (allW kW shaI l) 64).take 32
theorem sha256_length (l : List UInt8) : (sha256 l).length = 32 := by rw [sha256, List.length_take, Ca]; rfl

theorem sha_StartShort (k s0 i0 : List UInt64) (G : List UInt8) (hk : Hid (kW = k)) (hk80 : k.length = 80) (hs0 : Hid (xorUp 8 = s0)) (hs8 : s0.length = 8) (hG : Hid (shaTag = G)) (hGl : G.length = 11) (hi0 : Hid (allW k s0 G = i0)) (hi8 : i0.length = 8)  : Meets Tryz.prog 237 [] [] (fun _ => True) (fun v out => v = agg (Aw i0) ∧ out = []) := by
 intro W hW
 refine Ag Tryz.func237 J 18 Tryz.ntmps237 J (G2 ?_)
 refine .alloc (cs := (Aw (List.replicate 8 0))) J Zr252 J ?_
 intro n0 hn0 hf0
 refine G4 ?_
 refine .cV J J J J Body246 (sha_Start) tV (.alloc (cs := (Aw (List.replicate 8 0))) J Zr252 J ?_)
 intro n1 hn1 hf1
 refine .sA J J J J zB Sz252 (by (simp [startW_length]; done)) Z0 sP zU ?_
 refine G9 ?_
 refine .loop (ι := Nat) (fun j => ⟨[(0, ptr n0 0), (1, ptr n1 0), (4, i64 (j : Int))], [⟨n1, Aw (xorUp j), 252, 8⟩, ⟨n0, Aw (List.replicate 8 0), 252, 8⟩]⟩) (fun j => j ≤ 8) (fun j => 8 - j) (0) ?_ ?_ ?_
 · omega
 · exact Af (wk1 rfl (wk1 rfl (wk1 rfl wk0))) (Ac rM (Ac rM Ae))
 rintro j hi
 have hlj := xorUp_length j
 refine G6 ?_
 refine .condP J (fun hc0 => ?_) (fun hc0 => ?_)
 ·
  refine G12 ?_
  refine .i1 J J J J Y252 Sz48 _ J oM (G1 ?_)
  refine .xor_u64 J J J (show Al _ _ = some (u64 11936128518282651045) from rfl) (.i1 J J J J Y252 Sz48 _ J oM (.s1 J J J J J Sz48 Z0 (by (simp [xorUp_length]; omega)) (by exact set_words _ _ _) zU ?_))
  refine G8 ?_
  exact ⟨j + 1, by omega, by omega, Af (wk1 rfl (wk1 rfl (wk1 rfl wk0))) (Ac rM (Ac rM Ae))⟩
 obtain rfl : j = 8 := by omega
 rw [hs0.out]
 clear hlj
 refine G7 ?_
 refine .lA J J J Y252 J Sz252 Z0 (by (simp [hs8]; done)) ?_
 refine .mkRow (z := u8 0) [u8 83, u8 72, u8 65, u8 45, u8 53, u8 49, u8 50, u8 47, u8 50, u8 53, u8 54] (Aa shaTag) J J J Y58.h Sz5 Zr5 J J (by intro v hv; simp only [List.mem_cons, List.not_mem_nil, or_false] at hv; rcases hv with rfl | rfl | rfl | rfl | rfl | rfl | rfl | rfl | rfl | rfl | rfl <;> rfl) dE J ?_
 intro q14
 rw [hG.out]
 refine .constB J J J J Y58.h Y5.h Z0 ?_
 refine .mkRow (z := .slice none 0 0) [.slice (some ⟨q14, 0, none⟩) 11 11] [.slice (some ⟨q14, 0, none⟩) 11 11] rfl J J Y250.h Sz58 Zr58 J J (by intro v hv; rw [List.mem_singleton.1 hv]; rfl) dE J ?_
 intro q16
 refine .cV J J J J Body236 (sha_whole s0 hs8 k hk hk80 (some ⟨q16, 0, none⟩) 1 1 [⟨some ⟨q14, 0, none⟩, 11, 11⟩] [G] rfl J (fun j hj => (by obtain rfl : j = 0 := oM; exact ⟨by simp [hGl], fun e => by cases e⟩)) G sP oM dE) (fun w h => ⟨SeesP.of (Aj h Z0), fun j hj => (by obtain rfl : j = 0 := oM; exact SeesP.of (Aj h Z1))⟩) ?_
 rw [hi0.out]
 refine .sA J J J J zB Sz252 (by (simp [hi8]; done)) Z3 sP (by exact upd3) ?_
 refine G4 ?_
 refine ⟨_, [], Bo J J Y252 J Sz252 Z3 (by simp [hi8]), sP, sP, ?_, rfl⟩
 rfl
theorem sha_Sum (k s0 i0 : List UInt64) (G : List UInt8) (hk : Hid (kW = k)) (hk80 : k.length = 80) (hs0 : Hid (xorUp 8 = s0)) (hs8 : s0.length = 8) (hG : Hid (shaTag = G)) (hGl : G.length = 11) (hi0 : Hid (allW k s0 G = i0)) (hi8 : i0.length = 8) (p : Option Addr) (n c : Nat) (ss : List Sl) (ls : List (List UInt8)) (hss : ss.length = n) (hls : ls.length = n) (hsl : ∀ j, j < n → (ss.getD j Sl.nil).n = (ls.getD j []).length ∧ ((ss.getD j Sl.nil).p = none → (ss.getD j Sl.nil).n = 0)) (F : List UInt8) (hF : ls.flatten = F) (htot : F.length ≤ 90000) (hn : n ≤ 1000000) (r : List UInt64) (hr : Hid (allW k i0 F = r)) (s : List UInt8) (hs : Hid (sumUp r 64 = s))  : Meets Tryz.prog 207 [.slice p n c] [] (fun W => SeesP W p (ss.map Sl.v) ∧ ∀ j, j < n → SeesP W (ss.getD j Sl.nil).p (Aa (ls.getD j []))) (fun v out => v = agg (Aa (s.take 32)) ∧ out = []) := by
 intro W hW
 have hr8 : r.length = 8 := by rw [← hr.out, allW_length]; exact hi8
 have hs64 : s.length = 64 := by rw [← hs.out]; exact Ca r 64
 have hs32 : (s.take 32).length = 32 := by rw [List.length_take, hs64]; rfl
 refine Ag Tryz.func207 J 11 Tryz.ntmps207 J (G2 ?_)
 refine .alloc (cs := (Aa (List.replicate 32 0))) J Zr50 J ?_
 intro n2 hn2 hf2
 refine G4 ?_
 refine .cV J J J J Body237 (sha_StartShort k s0 i0 G hk hk80 hs0 hs8 hG hGl hi0 hi8) tV (G1 ?_)
 refine .cV J J J J Body236 (sha_whole i0 hi8 k hk hk80 p n c ss ls hss hls hsl F hF htot hn) (fun w h => ⟨Ao h J hW.1, fun j hj => Ao h J (hW.2 j hj)⟩) ?_
 rw [hr.out]
 refine .cV J J J J Body235 (sha_sum r hr8 s hs) tV (.alloc (cs := (Aa (List.replicate 64 0))) J Zr76 J ?_)
 intro n3 hn3 hf3
 refine .sA J J J J zE Sz76 (by (simp [hs64]; done)) Z0 sP zU ?_
 refine G4 ?_
 refine .sliceArrHi 32 J J J J J dE dE Y76 Sz5 (.s2a J J J Y50.h oM (.lN (Aa (s.take 32)) J J J Y50.h J Sz50 Z0 (by rw [List.drop_zero, ← List.map_take]) (by rw [List.length_map]; exact hs32) ?_))
 refine .sA J J J J zE Sz50 (by (simp [hs64]; done)) Z1 sP zV ?_
 refine G4 ?_
 refine ⟨_, [], Bo J J Y50.h J Sz50 Z1 (by simp [hs64]), sP, sP, ?_, rfl⟩
 rfl


theorem DB.head_small {D : DB} (h : D.check = 0) : D.ls.length ≤ 16 ∧ D.ds.length ≤ 512 := by
  unfold DB.check at h
  by_cases h1 : D.head = true
  · rw [if_pos h1] at h; cases h
  · unfold DB.head at h1
    simp at h1
    omega
theorem DB.bytes_small {D : DB} (h : D.check = 0) (hd : D.ok) : D.bytes.length ≤ 5000 := by
  have hs := D.head_small h
  have hz1 := A2 D.seq.toNat
  have hz2 := A2 (UInt64.ofNat D.ls.length).toNat
  have hz3 := A2 (UInt64.ofNat D.ds.length).toNat
  have hfl := Bn hd.ls (Nat.le_refl D.ls.length)
  rw [List.take_length] at hfl
  simp only [DB.bytes, DB.body, List.length_append, Ax, hd.w, hd.prev, hd.sg, hfl]
  omega
def bytesR (D : DB) : List UInt8 := if D.check = 0 then D.bytes else []
theorem db_check (B : Block) (D : DB) : Meets Tryz.prog 82 [agg B.cells] [] (fun W => BlockIs W B D) (fun v out => v = i64 D.check ∧ out = []) :=
  fun W hW => by rw [← hW.check]; exact block_check B hW.ok D.ls W hW.ls
theorem BlockIs.ext {C : Cx} {hp : List Blk} {w : World} {B : Block} {D : DB} (hh : HRep C hp w) (hl : C.lent = []) (h : BlockIs C.W0 B D) : BlockIs w B D :=
  ⟨h.ok, h.w, h.seq, h.prev, rows_ext hh hl h.ls, bytes_ext hh hl h.ds, h.sg⟩

set_option maxRecDepth 100000
structure VoteIs (W : World) (x : Vote) (d : Vote) : Prop where
  ok : x.ok
  eq : x = d
  wf : (Lit.int .i64 d.fPhase).wf = true
theorem VoteIs.ext {C : Cx} {hp : List Blk} {w : World} {x d : Vote} (h : VoteIs C.W0 x d) (hh : HRep C hp w) (hl : C.lent = []) : VoteIs w x d := ⟨h.ok, h.eq, h.wf⟩
section
variable {H : Type} {enc : TypeId × Value → H} {P : Program} {W : World} {base : Nat} {sp : Nat → Bool} {held : Bool}
end
section
variable {H : Type} {enc : TypeId × Value → H} {W : World} {base : Nat} {sp : Nat → Bool} {held : Bool}
theorem Vote.openD {fuel : Nat} {cs : List Value} {y : DataW H × List MemPlace} (h : DataW.trod enc Tryz.prog W base sp held fuel 81 cs = some y) : ∃ (x : Vote) (d : Vote), cs = x.cells ∧ VoteIs W x d := by
  obtain ⟨x, h1, h2, h3⟩ := Vote.openT h
  exact ⟨x, x, h2, h1, rfl, h3⟩
theorem Block.openD {fuel : Nat} {cs : List Value} {y : DataW H × List MemPlace} (h : DataW.trod enc Tryz.prog W base sp held fuel 79 cs = some y) : ∃ (x : Block) (d : DB), cs = x.cells ∧ BlockIs W x d := by
  obtain ⟨x, h1, h2, ⟨ls, h3⟩, ⟨l, h4⟩⟩ := Block.openT h
  exact ⟨x, ⟨x.fWriter, x.fSeq, x.fPrev, ls, l, x.fSig⟩, h2, h1, rfl, rfl, rfl, h3, h4, rfl⟩
end
section
variable {H : Type} {enc : TypeId × Value → H} {W : World} {base : Nat} {sp : Nat → Bool} {held : Bool}
theorem Vote.openW {r : Reach} {b0 : Nat} {v : Value} {d : DataW H} {ps : List MemPlace} (hval : Value.okWide Tryz.prog W r b0 81 v) (hd : DataW.Trod enc Tryz.prog W base sp held 81 v d ps) : ∃ (x : Vote) (D : Vote), v = agg x.cells ∧ VoteIs W x D := by
  simp only [Value.okWide, Y81.h] at hval
  obtain ⟨cs, rfl, _⟩ := hval
  obtain ⟨fuel, hf⟩ := hd
  obtain ⟨x, D, h2, h3⟩ := Vote.openD hf
  refine ⟨x, D, ?_, h3⟩
  simp only [Value.cells] at h2
  rw [agg, ← h2]
end
def VotesAt (W : World) (s : Sl) (ds : List Vote) : Prop := ∃ rs, SeqIs Vote.cells 132 VoteIs W s rs ds
theorem Cj {C : Cx} {hp : List Blk} {w : World} {s : Sl} {ds : List Vote} (hh : HRep C hp w) (hl : C.lent = []) (h : VotesAt C.W0 s ds) : VotesAt w s ds := by
  obtain ⟨rs, h⟩ := h
  exact ⟨rs, h.ext hh hl fun r d hd => hd.ext hh hl⟩
section
variable {H : Type} {enc : TypeId × Value → H} {W : World} {base : Nat} {sp : Nat → Bool} {held : Bool}
theorem Vote.openS {t : TypeId} (hu : Tryz.prog.underlying t = some (.slice 81)) (hc : Tryz.prog.cellsOf 81 = 132) {fuel : Nat} {cs : List Value} {y : DataW H × List MemPlace} (h : DataW.trod enc Tryz.prog W base sp held fuel t cs = some y) : ∃ s ds, cs = [Sl.v s] ∧ VotesAt W s ds := by
  obtain ⟨s, rs, ds, e, hs⟩ := open_seqS (cells := Vote.cells) (Is := VoteIs) hu hc dE (fun ht => by
    obtain ⟨r, d, e, hi⟩ := Vote.openD ht
    exact ⟨r, d, e, hi, Vote.length hi.ok⟩) h
  exact ⟨s, ds, e, rs, hs⟩
end
section
variable {H : Type} {enc : TypeId × Value → H} {W : World} {base : Nat} {sp : Nat → Bool} {held : Bool}
theorem Block.openW {r : Reach} {b0 : Nat} {v : Value} {d : DataW H} {ps : List MemPlace} (hval : Value.okWide Tryz.prog W r b0 79 v) (hd : DataW.Trod enc Tryz.prog W base sp held 79 v d ps) : ∃ (x : Block) (D : DB), v = agg x.cells ∧ BlockIs W x D := by
  simp only [Value.okWide, Y79.h] at hval
  obtain ⟨cs, rfl, _⟩ := hval
  obtain ⟨fuel, hf⟩ := hd
  obtain ⟨x, D, h2, h3⟩ := Block.openD hf
  refine ⟨x, D, ?_, h3⟩
  simp only [Value.cells] at h2
  rw [agg, ← h2]
end
def BlocksAt (W : World) (s : Sl) (ds : List DB) : Prop := ∃ rs, SeqIs Block.cells 131 BlockIs W s rs ds
theorem Blocks_ext {C : Cx} {hp : List Blk} {w : World} {s : Sl} {ds : List DB} (hh : HRep C hp w) (hl : C.lent = []) (h : BlocksAt C.W0 s ds) : BlocksAt w s ds := by
  obtain ⟨rs, h⟩ := h
  exact ⟨rs, h.ext hh hl fun r d hd => hd.ext hh hl⟩
section
variable {H : Type} {enc : TypeId × Value → H} {W : World} {base : Nat} {sp : Nat → Bool} {held : Bool}
theorem Block.openS {t : TypeId} (hu : Tryz.prog.underlying t = some (.slice 79)) (hc : Tryz.prog.cellsOf 79 = 131) {fuel : Nat} {cs : List Value} {y : DataW H × List MemPlace} (h : DataW.trod enc Tryz.prog W base sp held fuel t cs = some y) : ∃ s ds, cs = [Sl.v s] ∧ BlocksAt W s ds := by
  obtain ⟨s, rs, ds, e, hs⟩ := open_seqS (cells := Block.cells) (Is := BlockIs) hu hc dE (fun ht => by
    obtain ⟨r, d, e, hi⟩ := Block.openD ht
    exact ⟨r, d, e, hi, Block.length hi.ok⟩) h
  exact ⟨s, ds, e, rs, hs⟩
end
structure DCut where
  dHeight : UInt64
  dPrev : List UInt8
  dHeads : List (List UInt8)
structure CutIs (W : World) (x : Cut) (d : DCut) : Prop where
  ok : x.ok
  fHeight : x.fHeight = d.dHeight
  fPrev : x.fPrev = d.dPrev
  fHeads : RowsAt W x.fHeads 32 d.dHeads
theorem CutIs.ext {C : Cx} {hp : List Blk} {w : World} {x : Cut} {d : DCut} (h : CutIs C.W0 x d) (hh : HRep C hp w) (hl : C.lent = []) : CutIs w x d := ⟨h.ok, h.fHeight, h.fPrev, rows_ext hh hl h.fHeads⟩
section
variable {H : Type} {enc : TypeId × Value → H} {W : World} {base : Nat} {sp : Nat → Bool} {held : Bool}
theorem Cut.openD {fuel : Nat} {cs : List Value} {y : DataW H × List MemPlace} (h : DataW.trod enc Tryz.prog W base sp held fuel 53 cs = some y) : ∃ (x : Cut) (d : DCut), cs = x.cells ∧ CutIs W x d := by
  obtain ⟨xs, n, _, _, h4, h5, h6⟩ := DataW.trod_struct Y53.h h
  rw [show Tryz.prog.cellsOf 53 = 34 by kernel_rfl] at h4
  have c0 : Tryz.prog.cellsOf 48 = 1 := by kernel_rfl
  have c1 : Tryz.prog.cellsOf 50 = 32 := by kernel_rfl
  have c2 : Tryz.prog.cellsOf 51 = 1 := by kernel_rfl
  have g0 : DataW.trod enc Tryz.prog W base sp held n 48 ((cs.drop 0).take (Tryz.prog.cellsOf 48)) = some (xs[0]'(by rw [h5]; decide)) := by rw [← List.getElem?_eq_getElem]; exact h6 0 _ rfl
  rw [c0] at g0
  obtain ⟨a0, e0, _, w0⟩ := DataW.trod_int Y48.h g0
  obtain ⟨v0, rfl⟩ := Hw.u64_back w0
  have g1 : DataW.trod enc Tryz.prog W base sp held n 50 ((cs.drop 1).take (Tryz.prog.cellsOf 50)) = some (xs[1]'(by rw [h5]; decide)) := by rw [← List.getElem?_eq_getElem]; exact h6 1 _ rfl
  rw [c1] at g1
  obtain ⟨v1, e1, l1⟩ := Hw.open_bytesT Y50.h Y5.h zK zK g1
  have g2 : DataW.trod enc Tryz.prog W base sp held n 51 ((cs.drop 33).take (Tryz.prog.cellsOf 51)) = some (xs[2]'(by rw [h5]; decide)) := by rw [← List.getElem?_eq_getElem]; exact h6 2 _ rfl
  rw [c2] at g2
  obtain ⟨v2, b2, e2, q2⟩ := Hw.open_rowsS Y51.h Y50.h Y5.h zK zK dE g2
  refine ⟨⟨v0, v1, v2⟩, ⟨v0, v1, b2⟩, ?_, ⟨⟨l1⟩, rfl, rfl, q2⟩⟩
  rw [← List.drop_zero (l := cs)]
  exact (Hw.cat 1 e0 rfl (Hw.cat 33 e1 rfl (Hw.cat_last e2 h4)))
end
section
variable {H : Type} {enc : TypeId × Value → H} {W : World} {base : Nat} {sp : Nat → Bool} {held : Bool}
theorem Cut.openW {r : Reach} {b0 : Nat} {v : Value} {d : DataW H} {ps : List MemPlace} (hval : Value.okWide Tryz.prog W r b0 53 v) (hd : DataW.Trod enc Tryz.prog W base sp held 53 v d ps) : ∃ (x : Cut) (D : DCut), v = agg x.cells ∧ CutIs W x D := by
  simp only [Value.okWide, Y53.h] at hval
  obtain ⟨cs, rfl, _⟩ := hval
  obtain ⟨fuel, hf⟩ := hd
  obtain ⟨x, D, h2, h3⟩ := Cut.openD hf
  refine ⟨x, D, ?_, h3⟩
  simp only [Value.cells] at h2
  rw [agg, ← h2]
end
def CutsAt (W : World) (s : Sl) (ds : List DCut) : Prop := ∃ rs, SeqIs Cut.cells 34 CutIs W s rs ds
theorem Cuts_ext {C : Cx} {hp : List Blk} {w : World} {s : Sl} {ds : List DCut} (hh : HRep C hp w) (hl : C.lent = []) (h : CutsAt C.W0 s ds) : CutsAt w s ds := by
  obtain ⟨rs, h⟩ := h
  exact ⟨rs, h.ext hh hl fun r d hd => hd.ext hh hl⟩
section
variable {H : Type} {enc : TypeId × Value → H} {W : World} {base : Nat} {sp : Nat → Bool} {held : Bool}
theorem Cut.openS {t : TypeId} (hu : Tryz.prog.underlying t = some (.slice 53)) (hc : Tryz.prog.cellsOf 53 = 34) {fuel : Nat} {cs : List Value} {y : DataW H × List MemPlace} (h : DataW.trod enc Tryz.prog W base sp held fuel t cs = some y) : ∃ s ds, cs = [Sl.v s] ∧ CutsAt W s ds := by
  obtain ⟨s, rs, ds, e, hs⟩ := open_seqS (cells := Cut.cells) (Is := CutIs) hu hc dE (fun ht => by
    obtain ⟨r, d, e, hi⟩ := Cut.openD ht
    exact ⟨r, d, e, hi, Cut.length hi.ok⟩) h
  exact ⟨s, ds, e, rs, hs⟩
end
structure DCert where
  dCut : DCut
  dVotes : List Vote
structure CertIs (W : World) (x : Cert) (d : DCert) : Prop where
  ok : x.ok
  fCut : CutIs W x.fCut d.dCut
  fVotes : VotesAt W x.fVotes d.dVotes
theorem CertIs.ext {C : Cx} {hp : List Blk} {w : World} {x : Cert} {d : DCert} (h : CertIs C.W0 x d) (hh : HRep C hp w) (hl : C.lent = []) : CertIs w x d := ⟨h.ok, (h.fCut.ext hh hl), Cj hh hl h.fVotes⟩
section
variable {H : Type} {enc : TypeId × Value → H} {W : World} {base : Nat} {sp : Nat → Bool} {held : Bool}
theorem Cert.openD {fuel : Nat} {cs : List Value} {y : DataW H × List MemPlace} (h : DataW.trod enc Tryz.prog W base sp held fuel 55 cs = some y) : ∃ (x : Cert) (d : DCert), cs = x.cells ∧ CertIs W x d := by
  obtain ⟨xs, n, _, _, h4, h5, h6⟩ := DataW.trod_struct Y55.h h
  rw [show Tryz.prog.cellsOf 55 = 35 by kernel_rfl] at h4
  have c0 : Tryz.prog.cellsOf 53 = 34 := by kernel_rfl
  have c1 : Tryz.prog.cellsOf 24 = 1 := by kernel_rfl
  have g0 : DataW.trod enc Tryz.prog W base sp held n 53 ((cs.drop 0).take (Tryz.prog.cellsOf 53)) = some (xs[0]'(by rw [h5]; decide)) := by rw [← List.getElem?_eq_getElem]; exact h6 0 _ rfl
  rw [c0] at g0
  obtain ⟨v0, d0, e0, q0⟩ := Cut.openD g0
  have g1 : DataW.trod enc Tryz.prog W base sp held n 24 ((cs.drop 34).take (Tryz.prog.cellsOf 24)) = some (xs[1]'(by rw [h5]; decide)) := by rw [← List.getElem?_eq_getElem]; exact h6 1 _ rfl
  rw [c1] at g1
  obtain ⟨v1, b1, e1, q1⟩ := Vote.openS Y24.h zK g1
  refine ⟨⟨v0, v1⟩, ⟨d0, b1⟩, ?_, ⟨⟨q0.ok⟩, q0, q1⟩⟩
  rw [← List.drop_zero (l := cs)]
  exact (Hw.cat 34 e0 rfl (Hw.cat_last e1 h4))
end
section
variable {H : Type} {enc : TypeId × Value → H} {W : World} {base : Nat} {sp : Nat → Bool} {held : Bool}
theorem Cert.openW {r : Reach} {b0 : Nat} {v : Value} {d : DataW H} {ps : List MemPlace} (hval : Value.okWide Tryz.prog W r b0 55 v) (hd : DataW.Trod enc Tryz.prog W base sp held 55 v d ps) : ∃ (x : Cert) (D : DCert), v = agg x.cells ∧ CertIs W x D := by
  simp only [Value.okWide, Y55.h] at hval
  obtain ⟨cs, rfl, _⟩ := hval
  obtain ⟨fuel, hf⟩ := hd
  obtain ⟨x, D, h2, h3⟩ := Cert.openD hf
  refine ⟨x, D, ?_, h3⟩
  simp only [Value.cells] at h2
  rw [agg, ← h2]
end
def CertsAt (W : World) (s : Sl) (ds : List DCert) : Prop := ∃ rs, SeqIs Cert.cells 35 CertIs W s rs ds
theorem Certs_ext {C : Cx} {hp : List Blk} {w : World} {s : Sl} {ds : List DCert} (hh : HRep C hp w) (hl : C.lent = []) (h : CertsAt C.W0 s ds) : CertsAt w s ds := by
  obtain ⟨rs, h⟩ := h
  exact ⟨rs, h.ext hh hl fun r d hd => hd.ext hh hl⟩
section
variable {H : Type} {enc : TypeId × Value → H} {W : World} {base : Nat} {sp : Nat → Bool} {held : Bool}
theorem Cert.openS {t : TypeId} (hu : Tryz.prog.underlying t = some (.slice 55)) (hc : Tryz.prog.cellsOf 55 = 35) {fuel : Nat} {cs : List Value} {y : DataW H × List MemPlace} (h : DataW.trod enc Tryz.prog W base sp held fuel t cs = some y) : ∃ s ds, cs = [Sl.v s] ∧ CertsAt W s ds := by
  obtain ⟨s, rs, ds, e, hs⟩ := open_seqS (cells := Cert.cells) (Is := CertIs) hu hc dE (fun ht => by
    obtain ⟨r, d, e, hi⟩ := Cert.openD ht
    exact ⟨r, d, e, hi, Cert.length hi.ok⟩) h
  exact ⟨s, ds, e, rs, hs⟩
end
structure DMsg where
  dKind : Int
  dHeight : UInt64
  dHeads : List (List UInt8)
  dWant : List (List UInt8)
  dBlocks : List DB
  dVotes : List Vote
  dCuts : List DCut
  dCerts : List DCert
structure MsgIs (W : World) (x : Msg) (d : DMsg) : Prop where
  ok : x.ok
  fKind : x.fKind = d.dKind
  wKind : (Lit.int .i64 d.dKind).wf = true
  fHeight : x.fHeight = d.dHeight
  fHeads : RowsAt W x.fHeads 32 d.dHeads
  fWant : RowsAt W x.fWant 32 d.dWant
  fBlocks : BlocksAt W x.fBlocks d.dBlocks
  fVotes : VotesAt W x.fVotes d.dVotes
  fCuts : CutsAt W x.fCuts d.dCuts
  fCerts : CertsAt W x.fCerts d.dCerts
theorem MsgIs.ext {C : Cx} {hp : List Blk} {w : World} {x : Msg} {d : DMsg} (h : MsgIs C.W0 x d) (hh : HRep C hp w) (hl : C.lent = []) : MsgIs w x d := ⟨h.ok, h.fKind, h.wKind, h.fHeight, rows_ext hh hl h.fHeads, rows_ext hh hl h.fWant, Blocks_ext hh hl h.fBlocks, Cj hh hl h.fVotes, Cuts_ext hh hl h.fCuts, Certs_ext hh hl h.fCerts⟩
section
variable {H : Type} {enc : TypeId × Value → H} {W : World} {base : Nat} {sp : Nat → Bool} {held : Bool}
theorem Msg.openD {fuel : Nat} {cs : List Value} {y : DataW H × List MemPlace} (h : DataW.trod enc Tryz.prog W base sp held fuel 57 cs = some y) : ∃ (x : Msg) (d : DMsg), cs = x.cells ∧ MsgIs W x d := by
  obtain ⟨xs, n, _, _, h4, h5, h6⟩ := DataW.trod_struct Y57.h h
  rw [show Tryz.prog.cellsOf 57 = 8 by kernel_rfl] at h4
  have c0 : Tryz.prog.cellsOf 3 = 1 := by kernel_rfl
  have c1 : Tryz.prog.cellsOf 48 = 1 := by kernel_rfl
  have c2 : Tryz.prog.cellsOf 51 = 1 := by kernel_rfl
  have c3 : Tryz.prog.cellsOf 51 = 1 := by kernel_rfl
  have c4 : Tryz.prog.cellsOf 22 = 1 := by kernel_rfl
  have c5 : Tryz.prog.cellsOf 24 = 1 := by kernel_rfl
  have c6 : Tryz.prog.cellsOf 25 = 1 := by kernel_rfl
  have c7 : Tryz.prog.cellsOf 23 = 1 := by kernel_rfl
  have g0 : DataW.trod enc Tryz.prog W base sp held n 3 ((cs.drop 0).take (Tryz.prog.cellsOf 3)) = some (xs[0]'(by rw [h5]; decide)) := by rw [← List.getElem?_eq_getElem]; exact h6 0 _ rfl
  rw [c0] at g0
  obtain ⟨v0, e0, _, w0⟩ := DataW.trod_int Y3.h g0
  have g1 : DataW.trod enc Tryz.prog W base sp held n 48 ((cs.drop 1).take (Tryz.prog.cellsOf 48)) = some (xs[1]'(by rw [h5]; decide)) := by rw [← List.getElem?_eq_getElem]; exact h6 1 _ rfl
  rw [c1] at g1
  obtain ⟨a1, e1, _, w1⟩ := DataW.trod_int Y48.h g1
  obtain ⟨v1, rfl⟩ := Hw.u64_back w1
  have g2 : DataW.trod enc Tryz.prog W base sp held n 51 ((cs.drop 2).take (Tryz.prog.cellsOf 51)) = some (xs[2]'(by rw [h5]; decide)) := by rw [← List.getElem?_eq_getElem]; exact h6 2 _ rfl
  rw [c2] at g2
  obtain ⟨v2, b2, e2, q2⟩ := Hw.open_rowsS Y51.h Y50.h Y5.h zK zK dE g2
  have g3 : DataW.trod enc Tryz.prog W base sp held n 51 ((cs.drop 3).take (Tryz.prog.cellsOf 51)) = some (xs[3]'(by rw [h5]; decide)) := by rw [← List.getElem?_eq_getElem]; exact h6 3 _ rfl
  rw [c3] at g3
  obtain ⟨v3, b3, e3, q3⟩ := Hw.open_rowsS Y51.h Y50.h Y5.h zK zK dE g3
  have g4 : DataW.trod enc Tryz.prog W base sp held n 22 ((cs.drop 4).take (Tryz.prog.cellsOf 22)) = some (xs[4]'(by rw [h5]; decide)) := by rw [← List.getElem?_eq_getElem]; exact h6 4 _ rfl
  rw [c4] at g4
  obtain ⟨v4, b4, e4, q4⟩ := Block.openS Y22.h zK g4
  have g5 : DataW.trod enc Tryz.prog W base sp held n 24 ((cs.drop 5).take (Tryz.prog.cellsOf 24)) = some (xs[5]'(by rw [h5]; decide)) := by rw [← List.getElem?_eq_getElem]; exact h6 5 _ rfl
  rw [c5] at g5
  obtain ⟨v5, b5, e5, q5⟩ := Vote.openS Y24.h zK g5
  have g6 : DataW.trod enc Tryz.prog W base sp held n 25 ((cs.drop 6).take (Tryz.prog.cellsOf 25)) = some (xs[6]'(by rw [h5]; decide)) := by rw [← List.getElem?_eq_getElem]; exact h6 6 _ rfl
  rw [c6] at g6
  obtain ⟨v6, b6, e6, q6⟩ := Cut.openS Y25.h zK g6
  have g7 : DataW.trod enc Tryz.prog W base sp held n 23 ((cs.drop 7).take (Tryz.prog.cellsOf 23)) = some (xs[7]'(by rw [h5]; decide)) := by rw [← List.getElem?_eq_getElem]; exact h6 7 _ rfl
  rw [c7] at g7
  obtain ⟨v7, b7, e7, q7⟩ := Cert.openS Y23.h zK g7
  refine ⟨⟨v0, v1, v2, v3, v4, v5, v6, v7⟩, ⟨v0, v1, b2, b3, b4, b5, b6, b7⟩, ?_, ⟨⟨trivial⟩, rfl, w0, rfl, q2, q3, q4, q5, q6, q7⟩⟩
  rw [← List.drop_zero (l := cs)]
  exact (Hw.cat 1 e0 rfl (Hw.cat 2 e1 rfl (Hw.cat 3 e2 rfl (Hw.cat 4 e3 rfl (Hw.cat 5 e4 rfl (Hw.cat 6 e5 rfl (Hw.cat 7 e6 rfl (Hw.cat_last e7 h4))))))))
end
section
variable {H : Type} {enc : TypeId × Value → H} {W : World} {base : Nat} {sp : Nat → Bool} {held : Bool}
theorem Msg.openW {r : Reach} {b0 : Nat} {v : Value} {d : DataW H} {ps : List MemPlace} (hval : Value.okWide Tryz.prog W r b0 57 v) (hd : DataW.Trod enc Tryz.prog W base sp held 57 v d ps) : ∃ (x : Msg) (D : DMsg), v = agg x.cells ∧ MsgIs W x D := by
  simp only [Value.okWide, Y57.h] at hval
  obtain ⟨cs, rfl, _⟩ := hval
  obtain ⟨fuel, hf⟩ := hd
  obtain ⟨x, D, h2, h3⟩ := Msg.openD hf
  refine ⟨x, D, ?_, h3⟩
  simp only [Value.cells] at h2
  rw [agg, ← h2]
end
def MsgsAt (W : World) (s : Sl) (ds : List DMsg) : Prop := ∃ rs, SeqIs Msg.cells 8 MsgIs W s rs ds
section
variable {H : Type} {enc : TypeId × Value → H} {W : World} {base : Nat} {sp : Nat → Bool} {held : Bool}
theorem Msg.openS {t : TypeId} (hu : Tryz.prog.underlying t = some (.slice 57)) (hc : Tryz.prog.cellsOf 57 = 8) {fuel : Nat} {cs : List Value} {y : DataW H × List MemPlace} (h : DataW.trod enc Tryz.prog W base sp held fuel t cs = some y) : ∃ s ds, cs = [Sl.v s] ∧ MsgsAt W s ds := by
  obtain ⟨s, rs, ds, e, hs⟩ := open_seqS (cells := Msg.cells) (Is := MsgIs) hu hc dE (fun ht => by
    obtain ⟨r, d, e, hi⟩ := Msg.openD ht
    exact ⟨r, d, e, hi, Msg.length hi.ok⟩) h
  exact ⟨s, ds, e, rs, hs⟩
end
structure DRecord where
  dKind : UInt8
  dData : List UInt8
structure RecordIs (W : World) (x : Record) (d : DRecord) : Prop where
  ok : x.ok
  fKind : x.fKind = d.dKind
  fData : BytesAt W x.fData d.dData
theorem RecordIs.ext {C : Cx} {hp : List Blk} {w : World} {x : Record} {d : DRecord} (h : RecordIs C.W0 x d) (hh : HRep C hp w) (hl : C.lent = []) : RecordIs w x d := ⟨h.ok, h.fKind, bytes_ext hh hl h.fData⟩
section
variable {H : Type} {enc : TypeId × Value → H} {W : World} {base : Nat} {sp : Nat → Bool} {held : Bool}
theorem Record.openD {fuel : Nat} {cs : List Value} {y : DataW H × List MemPlace} (h : DataW.trod enc Tryz.prog W base sp held fuel 91 cs = some y) : ∃ (x : Record) (d : DRecord), cs = x.cells ∧ RecordIs W x d := by
  obtain ⟨xs, n, _, _, h4, h5, h6⟩ := DataW.trod_struct Y91.h h
  rw [show Tryz.prog.cellsOf 91 = 2 by kernel_rfl] at h4
  have c0 : Tryz.prog.cellsOf 5 = 1 := by kernel_rfl
  have c1 : Tryz.prog.cellsOf 58 = 1 := by kernel_rfl
  have g0 : DataW.trod enc Tryz.prog W base sp held n 5 ((cs.drop 0).take (Tryz.prog.cellsOf 5)) = some (xs[0]'(by rw [h5]; decide)) := by rw [← List.getElem?_eq_getElem]; exact h6 0 _ rfl
  rw [c0] at g0
  obtain ⟨a0, e0, _, w0⟩ := DataW.trod_int Y5.h g0
  obtain ⟨v0, rfl⟩ := Hw.u8_back w0
  have g1 : DataW.trod enc Tryz.prog W base sp held n 58 ((cs.drop 1).take (Tryz.prog.cellsOf 58)) = some (xs[1]'(by rw [h5]; decide)) := by rw [← List.getElem?_eq_getElem]; exact h6 1 _ rfl
  rw [c1] at g1
  obtain ⟨v1, b1, e1, q1⟩ := Hw.open_bytesS Y58.h Y5.h zK g1
  refine ⟨⟨v0, v1⟩, ⟨v0, b1⟩, ?_, ⟨⟨trivial⟩, rfl, q1⟩⟩
  rw [← List.drop_zero (l := cs)]
  exact (Hw.cat 1 e0 rfl (Hw.cat_last e1 h4))
end
section
variable {H : Type} {enc : TypeId × Value → H} {W : World} {base : Nat} {sp : Nat → Bool} {held : Bool}
theorem Record.openW {r : Reach} {b0 : Nat} {v : Value} {d : DataW H} {ps : List MemPlace} (hval : Value.okWide Tryz.prog W r b0 91 v) (hd : DataW.Trod enc Tryz.prog W base sp held 91 v d ps) : ∃ (x : Record) (D : DRecord), v = agg x.cells ∧ RecordIs W x D := by
  simp only [Value.okWide, Y91.h] at hval
  obtain ⟨cs, rfl, _⟩ := hval
  obtain ⟨fuel, hf⟩ := hd
  obtain ⟨x, D, h2, h3⟩ := Record.openD hf
  refine ⟨x, D, ?_, h3⟩
  simp only [Value.cells] at h2
  rw [agg, ← h2]
end
def RecordsAt (W : World) (s : Sl) (ds : List DRecord) : Prop := ∃ rs, SeqIs Record.cells 2 RecordIs W s rs ds
theorem Records_ext {C : Cx} {hp : List Blk} {w : World} {s : Sl} {ds : List DRecord} (hh : HRep C hp w) (hl : C.lent = []) (h : RecordsAt C.W0 s ds) : RecordsAt w s ds := by
  obtain ⟨rs, h⟩ := h
  exact ⟨rs, h.ext hh hl fun r d hd => hd.ext hh hl⟩
section
variable {H : Type} {enc : TypeId × Value → H} {W : World} {base : Nat} {sp : Nat → Bool} {held : Bool}
theorem Record.openS {t : TypeId} (hu : Tryz.prog.underlying t = some (.slice 91)) (hc : Tryz.prog.cellsOf 91 = 2) {fuel : Nat} {cs : List Value} {y : DataW H × List MemPlace} (h : DataW.trod enc Tryz.prog W base sp held fuel t cs = some y) : ∃ s ds, cs = [Sl.v s] ∧ RecordsAt W s ds := by
  obtain ⟨s, rs, ds, e, hs⟩ := open_seqS (cells := Record.cells) (Is := RecordIs) hu hc dE (fun ht => by
    obtain ⟨r, d, e, hi⟩ := Record.openD ht
    exact ⟨r, d, e, hi, Record.length hi.ok⟩) h
  exact ⟨s, ds, e, rs, hs⟩
end
structure DKept where
  dBlocks : List DB
  dCerts : List DCert
  dVotes : List Vote
  dCuts : List DCut
structure KeptIs (W : World) (x : Kept) (d : DKept) : Prop where
  ok : x.ok
  fBlocks : BlocksAt W x.fBlocks d.dBlocks
  fCerts : CertsAt W x.fCerts d.dCerts
  fVotes : VotesAt W x.fVotes d.dVotes
  fCuts : CutsAt W x.fCuts d.dCuts
theorem KeptIs.ext {C : Cx} {hp : List Blk} {w : World} {x : Kept} {d : DKept} (h : KeptIs C.W0 x d) (hh : HRep C hp w) (hl : C.lent = []) : KeptIs w x d := ⟨h.ok, Blocks_ext hh hl h.fBlocks, Certs_ext hh hl h.fCerts, Cj hh hl h.fVotes, Cuts_ext hh hl h.fCuts⟩
section
variable {H : Type} {enc : TypeId × Value → H} {W : World} {base : Nat} {sp : Nat → Bool} {held : Bool}
theorem Kept.openD {fuel : Nat} {cs : List Value} {y : DataW H × List MemPlace} (h : DataW.trod enc Tryz.prog W base sp held fuel 27 cs = some y) : ∃ (x : Kept) (d : DKept), cs = x.cells ∧ KeptIs W x d := by
  obtain ⟨xs, n, _, _, h4, h5, h6⟩ := DataW.trod_struct Y27.h h
  rw [show Tryz.prog.cellsOf 27 = 4 by kernel_rfl] at h4
  have c0 : Tryz.prog.cellsOf 22 = 1 := by kernel_rfl
  have c1 : Tryz.prog.cellsOf 23 = 1 := by kernel_rfl
  have c2 : Tryz.prog.cellsOf 24 = 1 := by kernel_rfl
  have c3 : Tryz.prog.cellsOf 25 = 1 := by kernel_rfl
  have g0 : DataW.trod enc Tryz.prog W base sp held n 22 ((cs.drop 0).take (Tryz.prog.cellsOf 22)) = some (xs[0]'(by rw [h5]; decide)) := by rw [← List.getElem?_eq_getElem]; exact h6 0 _ rfl
  rw [c0] at g0
  obtain ⟨v0, b0, e0, q0⟩ := Block.openS Y22.h zK g0
  have g1 : DataW.trod enc Tryz.prog W base sp held n 23 ((cs.drop 1).take (Tryz.prog.cellsOf 23)) = some (xs[1]'(by rw [h5]; decide)) := by rw [← List.getElem?_eq_getElem]; exact h6 1 _ rfl
  rw [c1] at g1
  obtain ⟨v1, b1, e1, q1⟩ := Cert.openS Y23.h zK g1
  have g2 : DataW.trod enc Tryz.prog W base sp held n 24 ((cs.drop 2).take (Tryz.prog.cellsOf 24)) = some (xs[2]'(by rw [h5]; decide)) := by rw [← List.getElem?_eq_getElem]; exact h6 2 _ rfl
  rw [c2] at g2
  obtain ⟨v2, b2, e2, q2⟩ := Vote.openS Y24.h zK g2
  have g3 : DataW.trod enc Tryz.prog W base sp held n 25 ((cs.drop 3).take (Tryz.prog.cellsOf 25)) = some (xs[3]'(by rw [h5]; decide)) := by rw [← List.getElem?_eq_getElem]; exact h6 3 _ rfl
  rw [c3] at g3
  obtain ⟨v3, b3, e3, q3⟩ := Cut.openS Y25.h zK g3
  refine ⟨⟨v0, v1, v2, v3⟩, ⟨b0, b1, b2, b3⟩, ?_, ⟨⟨trivial⟩, q0, q1, q2, q3⟩⟩
  rw [← List.drop_zero (l := cs)]
  exact (Hw.cat 1 e0 rfl (Hw.cat 2 e1 rfl (Hw.cat 3 e2 rfl (Hw.cat_last e3 h4))))
end
section
variable {H : Type} {enc : TypeId × Value → H} {W : World} {base : Nat} {sp : Nat → Bool} {held : Bool}
theorem Kept.openW {r : Reach} {b0 : Nat} {v : Value} {d : DataW H} {ps : List MemPlace} (hval : Value.okWide Tryz.prog W r b0 27 v) (hd : DataW.Trod enc Tryz.prog W base sp held 27 v d ps) : ∃ (x : Kept) (D : DKept), v = agg x.cells ∧ KeptIs W x D := by
  simp only [Value.okWide, Y27.h] at hval
  obtain ⟨cs, rfl, _⟩ := hval
  obtain ⟨fuel, hf⟩ := hd
  obtain ⟨x, D, h2, h3⟩ := Kept.openD hf
  refine ⟨x, D, ?_, h3⟩
  simp only [Value.cells] at h2
  rw [agg, ← h2]
end
def KeptsAt (W : World) (s : Sl) (ds : List DKept) : Prop := ∃ rs, SeqIs Kept.cells 4 KeptIs W s rs ds
section
variable {H : Type} {enc : TypeId × Value → H} {W : World} {base : Nat} {sp : Nat → Bool} {held : Bool}
theorem Kept.openS {t : TypeId} (hu : Tryz.prog.underlying t = some (.slice 27)) (hc : Tryz.prog.cellsOf 27 = 4) {fuel : Nat} {cs : List Value} {y : DataW H × List MemPlace} (h : DataW.trod enc Tryz.prog W base sp held fuel t cs = some y) : ∃ s ds, cs = [Sl.v s] ∧ KeptsAt W s ds := by
  obtain ⟨s, rs, ds, e, hs⟩ := open_seqS (cells := Kept.cells) (Is := KeptIs) hu hc dE (fun ht => by
    obtain ⟨r, d, e, hi⟩ := Kept.openD ht
    exact ⟨r, d, e, hi, Kept.length hi.ok⟩) h
  exact ⟨s, ds, e, rs, hs⟩
end
end Go.Proofs.YtdifpjmfabhpiaaGreat
end

section
namespace Go.Proofs.YtdifpjmfabhpiaaGreat
open Go Hw

def Bf (V : Vote) : Bool := decide ((V.fHeight.toNat : Int) < 1) || (decide ((4294967295 : Int) < (V.fHeight.toNat : Int)) || decide ((20 : Int) < (V.fRound.toNat : Int)))
def vokB (V : Vote) : Bool := if V.fPhase = 1 then (!decide (V.fValue = List.replicate 32 0)) && decide ((V.fProof.toNat : Int) ≤ (V.fRound.toNat : Int)) else if V.fPhase = 2 ∨ V.fPhase = 3 then decide ((V.fProof.toNat : Int) = 0) else false
def Ap (V : Vote) : Int := if Bf V = true then 2 else if vokB V = true then 0 else 2

theorem vote_check (V : Vote) (hV : V.ok) : Meets Tryz.prog 85 [agg V.cells] [] (fun _ => True) (fun v out => v = i64 (Ap V) ∧ out = []) := by
 intro W hW
 refine Ag Tryz.func85 J 40 Tryz.ntmps85 J (G3 ?_)
 intro n1 hn1 hf1
 refine G8 ?_
 refine two (fun r hr k => Tr.lss J J J J hr k) (fun hs1_20 => ?_) (fun hs1_20 => ?_)
 ·
  have hs1_2 := of_decide_eq_true hs1_20
  refine G12 ?_
  refine .cond_t J J (G8 ?_)
  refine ⟨_, [], Ad J J, sP, sP, ?_, rfl⟩
  (unfold Ap Bf vokB; simp_all; done)
 have hs1_2 := of_decide_eq_false hs1_20
 refine G3 ?_
 refine two (fun r hr k => Tr.gtr J J J J hr k) (fun hs1_60 => ?_) (fun hs1_60 => ?_)
 ·
  have hs1_6 := of_decide_eq_true hs1_60
  refine G8 ?_
  refine .cond_t J J (G8 ?_)
  refine ⟨_, [], Ad J J, sP, sP, ?_, rfl⟩
  (unfold Ap Bf vokB; simp_all; done)
 have hs1_6 := of_decide_eq_false hs1_60
 refine G8 ?_
 refine .condP J (fun hc0 => ?_) (fun hc0 => ?_)
 ·
  refine G8 ?_
  refine ⟨_, [], Ad J J, sP, sP, ?_, rfl⟩
  (unfold Ap Bf vokB; simp_all; done)
 refine G21 ?_
 refine .condP J (fun hc1 => ?_) (fun hc1 => ?_)
 ·
  refine G2 ?_
  refine .lN (Aa _) J J J Y50.h J Sz50 Z0 (Vote.row_fValue zA) (Vote.rl_fValue zA) ?_
  refine .build (cs := Aa (List.replicate 32 0)) J J J (fun w => by kernel_rfl) ?_
  refine two (fun r hr k => Tr.neq_bytes J J J J Tryz.eqGuardType50 Y50.h Y5.h Sz5 (by (simp [hV.l_fValue]; done)) sP hr k) (fun hs6_30 => ?_) (fun hs6_30 => ?_)
  ·
   have hs6_3 := nd_t hs6_30
   refine G18 ?_
   refine .condNP J (fun hc4 => ?_) (fun hc4 => ?_)
   ·
    refine G8 ?_
    refine ⟨_, [], Ad J J, sP, sP, ?_, rfl⟩
    (unfold Ap Bf vokB; simp_all; done)
   refine G9 ?_
   refine ⟨_, [], Ad J J, sP, sP, ?_, rfl⟩
   (unfold Ap Bf vokB; simp_all; done)
  have hs6_3 := nd_f hs6_30
  refine G18 ?_
  refine .cond_t J J (G8 ?_)
  refine ⟨_, [], Ad J J, sP, sP, ?_, rfl⟩
  (unfold Ap Bf vokB; simp_all; done)
 refine G7 ?_
 refine .condP J (fun hc2 => ?_) (fun hc2 => ?_)
 ·
  refine G2 ?_
  refine .condP J (fun hc3 => ?_) (fun hc3 => ?_)
  ·
   refine G15 ?_
   refine .condNP J (fun hc4 => ?_) (fun hc4 => ?_)
   ·
    refine G8 ?_
    refine ⟨_, [], Ad J J, sP, sP, ?_, rfl⟩
    (unfold Ap Bf vokB; simp_all; done)
   refine G9 ?_
   refine ⟨_, [], Ad J J, sP, sP, ?_, rfl⟩
   (unfold Ap Bf vokB; simp_all; done)
  refine G10 ?_
  refine .cond_t J J (G8 ?_)
  refine ⟨_, [], Ad J J, sP, sP, ?_, rfl⟩
  (unfold Ap Bf vokB; simp_all; done)
 refine G5 ?_
 refine .condP J (fun hc3 => ?_) (fun hc3 => ?_)
 ·
  refine G15 ?_
  refine .condNP J (fun hc4 => ?_) (fun hc4 => ?_)
  ·
   refine G8 ?_
   refine ⟨_, [], Ad J J, sP, sP, ?_, rfl⟩
   (unfold Ap Bf vokB; simp_all; done)
  refine G9 ?_
  refine ⟨_, [], Ad J J, sP, sP, ?_, rfl⟩
  (unfold Ap Bf vokB; simp_all; done)
 refine G10 ?_
 refine .cond_t J J (G8 ?_)
 refine ⟨_, [], Ad J J, sP, sP, ?_, rfl⟩
 (unfold Ap Bf vokB; simp_all; done)

def lastH (ls : List (List UInt8)) (k : Nat) : List UInt8 := if k = 0 then List.replicate 32 0 else ls.getD (k - 1) []
theorem lastH_length {ls : List (List UInt8)} {k : Nat} (h : ∀ l ∈ ls, l.length = 32) (hk : k ≤ ls.length) : (lastH ls k).length = 32 := by
  unfold lastH
  split
  · simp
  · exact Bg h oM
theorem lastH_succ (ls : List (List UInt8)) (k : Nat) : lastH ls (k + 1) = ls.getD k [] := by simp [lastH]
def headBad (ls : List (List UInt8)) (k : Nat) : Bool := decide ((0 : Int) ≤ cmpB (lastH ls k) (ls.getD k []))
def headsBad (ls : List (List UInt8)) : Bool := (List.range ls.length).any (headBad ls)
theorem headsBad_at {ls : List (List UInt8)} {k : Nat} (hk : k < ls.length) (h : headBad ls k = true) : headsBad ls = true := by
  rw [headsBad, List.any_eq_true]; exact ⟨k, List.mem_range.2 hk, h⟩
theorem headsBad_not {ls : List (List UInt8)} (h : ∀ j, j < ls.length → headBad ls j = false) : headsBad ls = false := by
  rw [headsBad, List.any_eq_false]; intro x hx; rw [h x (List.mem_range.1 hx)]; simp
def cheadB (h : UInt64) (prev : List UInt8) (n : Nat) : Bool := decide ((h.toNat : Int) < 1) || (decide ((4294967295 : Int) < (h.toNat : Int)) || (!decide (decide (prev = List.replicate 32 0) = decide ((h.toNat : Int) = 1)) || (decide ((n : Int) < 1) || decide ((32 : Int) < (n : Int)))))
def DCut.check (D : DCut) : Int := if cheadB D.dHeight D.dPrev D.dHeads.length = true then 2 else if headsBad D.dHeads = true then 2 else 0
theorem cut_bad1 {D : DCut} (h : cheadB D.dHeight D.dPrev D.dHeads.length = true) : D.check = 2 := if_pos h
theorem cut_bad2 {D : DCut} (h : ¬ cheadB D.dHeight D.dPrev D.dHeads.length = true) (hb : headsBad D.dHeads = true) : D.check = 2 := by unfold DCut.check; rw [if_neg h, if_pos hb]
theorem cut_good {D : DCut} (h : ¬ cheadB D.dHeight D.dPrev D.dHeads.length = true) (hb : headsBad D.dHeads = false) : D.check = 0 := by unfold DCut.check; rw [if_neg h, if_neg (by rw [hb]; simp)]

theorem cut_check (C : Cut) (D : DCut) : Meets Tryz.prog 87 [agg C.cells] [] (fun W => CutIs W C D) (fun v out => v = i64 D.check ∧ out = []) := by
 intro W hW
 have hB := hW.ok
 have hcx : C.fHeads.n ≤ maxLen := hW.fHeads.max
 simp only [maxLen] at hcx
 have hcn := hW.fHeads.cap
 have hll := hW.fHeads.len
 have eH := hW.fHeight
 have eP := hW.fPrev
 have hlst : True := trivial
 refine Ag Tryz.func87 J 52 Tryz.ntmps87 J (G3 ?_)
 intro n1 hn1 hf1
 refine G5 ?_
 refine .build (cs := Aa (List.replicate 32 0)) J J J (fun w => by kernel_rfl) ?_
 refine .alloc (cs := (Aa (List.replicate 32 0))) J Zr50 J ?_
 intro n3 hn3 hf3
 refine .sA J J J J zE Sz50 sP Z0 sP zU ?_
 refine G4 ?_
 refine .draw [(0, 0), (1, 1), (0, 2), (0, 3), (0, 4), (1, 5), (0, 6), (0, 7), (0, 8), (0, 9), (1, 10), (1, 11), (0, 12), (0, 13), (1, 14), (0, 15), (0, 16), (0, 17), (0, 18), (0, 19), (1, 20), (0, 21), (0, 22), (0, 23), (0, 24), (0, 25), (1, 26), (0, 27), (0, 28), (0, 29)] Ba zK (G2 ?_)
 refine two (fun r hr k => Tr.lss J J J J hr k) (fun hs2_20 => ?_) (fun hs2_20 => ?_)
 ·
  have hs2_2 := of_decide_eq_true hs2_20
  refine G29 ?_
  refine .cond_t J J (G8 ?_)
  refine ⟨_, [], Ad J J, sP, sP, ?_, rfl⟩
  exact congrArg i64 (cut_bad1 (by unfold cheadB; simp_all)).symm
 have hs2_2 := of_decide_eq_false hs2_20
 refine G3 ?_
 refine two (fun r hr k => Tr.gtr J J J J hr k) (fun hs2_60 => ?_) (fun hs2_60 => ?_)
 ·
  have hs2_6 := of_decide_eq_true hs2_60
  refine G25 ?_
  refine .cond_t J J (G8 ?_)
  refine ⟨_, [], Ad J J, sP, sP, ?_, rfl⟩
  exact congrArg i64 (cut_bad1 (by unfold cheadB; simp_all)).symm
 have hs2_6 := of_decide_eq_false hs2_60
 refine G3 ?_
 refine .lN (Aa _) J J J Y50.h J Sz50 Z1 (Cut.row_fPrev zA) (Cut.rl_fPrev zA) ?_
 refine .lA J J J Y50.h J Sz50 Z0 sP ?_
 refine .eql_bytes J J J J Tryz.eqGuardType50 Y50.h Y5.h Sz5 (by (simp [hB.l_fPrev]; done)) sP J ?_
 refine G3 ?_
 refine two (fun r hr k => Tr.neb J J J J Y4 hr k) (fun hs2_160 => ?_) (fun hs2_160 => ?_)
 ·
  have hs2_16 := nd_t hs2_160
  refine G15 ?_
  refine .cond_t J J (G8 ?_)
  refine ⟨_, [], Ad J J, sP, sP, ?_, rfl⟩
  exact congrArg i64 (cut_bad1 (by unfold cheadB; simp_all)).symm
 have hs2_16 := nd_f hs2_160
 refine G5 ?_
 refine two (fun r hr k => Tr.lss J J J J hr k) (fun hs2_220 => ?_) (fun hs2_220 => ?_)
 ·
  have hs2_22 := of_decide_eq_true hs2_220
  refine G9 ?_
  refine .cond_t J J (G8 ?_)
  refine ⟨_, [], Ad J J, sP, sP, ?_, rfl⟩
  exact congrArg i64 (cut_bad1 (by unfold cheadB; simp_all)).symm
 have hs2_22 := of_decide_eq_false hs2_220
 refine G9 ?_
 refine .condP J (fun hc0 => ?_) (fun hc0 => ?_)
 ·
  refine G8 ?_
  refine ⟨_, [], Ad J J, sP, sP, ?_, rfl⟩
  exact congrArg i64 (cut_bad1 (by unfold cheadB; simp_all)).symm
 have hnb : ¬ cheadB D.dHeight D.dPrev D.dHeads.length = true := by unfold cheadB; simp_all
 refine G4 ?_
 refine .lA J J J Y50.h J Sz50 Z0 sP ?_
 refine .alloc (cs := (Aa (List.replicate 32 0))) J Zr50 J ?_
 intro n4 hn4 hf4
 refine .sA J J J J zE Sz50 sP Z0 sP zU ?_
 refine G12 ?_
 refine .loop (ι := Nat × List UInt8) (fun p => ⟨[(1, ptr n1 0), (4, ptr n4 0), (40, C.fHeads.v), (41, i64 (C.fHeads.n : Int)), (42, i64 (p.1 : Int))], [⟨n4, Aa p.2, 50, 32⟩, ⟨n1, C.cells, 53, C.cells.length⟩]⟩) (fun p => p.1 ≤ C.fHeads.n ∧ (∀ j, j < p.1 → headBad D.dHeads j = false) ∧ p.2 = lastH D.dHeads p.1 ∧ p.2.length = 32) (fun p => C.fHeads.n - p.1) ((0, List.replicate 32 0)) ?_ ?_ ?_
 · exact ⟨Nat.zero_le _, fun j hj => absurd hj (Nat.not_lt_zero _), rfl, by simp⟩
 · exact Ai (wk1 rfl (wk1 rfl (wk1 rfl (wk1 rfl (wk1 rfl wk0))))) (wh1 Z0 (wh1 Z2 wh0)) nD
 rintro p ⟨hk, hg, hle, hlst⟩
 refine G6 ?_
 refine .condP J (fun hc1 => ?_) (fun hc1 => ?_)
 ·
  have hk2 : p.1 < C.fHeads.n := by omega
  obtain ⟨b, o, hbp, hbs⟩ := hW.fHeads.see.at (by rw [Bi hW.fHeads.row]; omega)
  have hr0 : (D.dHeads.getD p.1 []).length = 32 := Bg hW.fHeads.row oM
  refine G6 ?_
  refine .idxSlP 32 J J J hbp J Y51.h Sz50 p.1 J oM (.loadEN (Aa (D.dHeads.getD (p.1) [])) J J J Y50.h J Sz50 sP (by rw [Aa, List.length_map]; exact Bg hW.fHeads.row (by rw [hW.fHeads.len]; omega)) (sees_row hW.fHeads.row hbs (by rw [hW.fHeads.len]; omega)) ?_)
  refine .alloc (cs := (Aa (List.replicate 32 0))) J Zr50 J ?_
  intro n6 hn6 hf6
  refine .sA J J J J zE Sz50 (by (rw [Aa, List.length_map]; assumption)) Z0 sP zU ?_
  refine G5 ?_
  refine .lA J J J Y50.h J Sz50 Z1 (by (simp [hlst]; done)) ?_
  refine .lA J J J Y50.h J Sz50 Z0 (by (rw [Aa, List.length_map]; assumption)) ?_
  refine .cV J J J J Body178 (block_cmp _ _ hlst hr0) tV (G3 ?_)
  refine .condP J (fun hc2 => ?_) (fun hc2 => ?_)
  ·
   refine G13 ?_
   refine ⟨_, [], Ad J J, sP, sP, ?_, rfl⟩
   exact congrArg i64 (cut_bad2 hnb (headsBad_at (k := p.1) oM (by unfold headBad; rw [← hle]; exact decide_eq_true hc2))).symm
  have hgk : headBad D.dHeads p.1 = false := by unfold headBad; rw [← hle]; exact decide_eq_false hc2
  refine G3 ?_
  refine .lA J J J Y50.h J Sz50 Z0 (by (rw [Aa, List.length_map]; assumption)) ?_
  refine .sA J J J J zE Sz50 (by (rw [Aa, List.length_map]; assumption)) Z1 (by (simp [hlst]; done)) zV ?_
  refine G8 ?_
  exact ⟨(p.1 + 1, D.dHeads.getD p.1 []), ⟨by simp only []; omega, fun j hj => by rcases Nat.lt_succ_iff_lt_or_eq.1 hj with h | rfl; exact hg j h; exact hgk, (lastH_succ _ _).symm, hr0⟩, by simp only []; omega, Ai (wk1 rfl (wk1 rfl (wk1 rfl (wk1 rfl (wk1 rfl wk0))))) (wh1 Z1 (wh1 Z2 wh0)) nD⟩
 have hpe : p.1 = C.fHeads.n := by omega
 rw [hpe] at hg
 refine G12 ?_
 refine ⟨_, [], Ad J J, sP, sP, ?_, rfl⟩
 exact congrArg i64 (cut_good hnb (headsBad_not (by rw [hll]; exact hg))).symm

def fstBad {D : Type} (f : D → Bool) (ds : List D) : Int := if ds.any f = true then ((ds.findIdx f : Nat) : Int) else -1
theorem fstBad_none {D : Type} {f : D → Bool} {ds : List D} (h : ∀ j, j < ds.length → (ds.map f)[j]? = some false) : fstBad f ds = -1 := by
  refine if_neg fun e => ?_
  obtain ⟨x, hx, hf⟩ := List.any_eq_true.1 e
  obtain ⟨j, hj, rfl⟩ := List.getElem_of_mem hx
  have := h j hj
  rw [List.getElem?_map, List.getElem?_eq_getElem hj] at this
  simp [hf] at this
theorem fstBad_at {D : Type} {f : D → Bool} {ds : List D} {k : Nat} (h : ∀ j, j < k → (ds.map f)[j]? = some false) (hk : (ds.map f)[k]? = some true) : fstBad f ds = (k : Int) := by
  rw [List.getElem?_map] at hk
  obtain ⟨x, hx, hf⟩ := Option.map_eq_some_iff.1 hk
  obtain ⟨hlt, rfl⟩ := List.getElem?_eq_some_iff.1 hx
  unfold fstBad
  rw [if_pos (List.any_eq_true.2 ⟨_, List.getElem_mem hlt, hf⟩)]
  congr 1
  rw [List.findIdx_eq hlt]
  refine ⟨hf, fun j hj => ?_⟩
  have := h j hj
  rw [List.getElem?_map, List.getElem?_eq_getElem oM] at this
  simpa using this
theorem fstBad_ge {D : Type} (f : D → Bool) (ds : List D) : decide ((0 : Int) ≤ fstBad f ds) = ds.any f := by
  unfold fstBad
  split
  · rename_i h
    rw [h]; simp
  · rename_i h
    rw [Bool.not_eq_true] at h
    rw [h]; simp
theorem any_all {D : Type} (f : D → Bool) (ds : List D) : (!ds.any fun d => !f d) = ds.all f := by simp [List.any_eq_not_all_not]


def DCut.body (D : DCut) (k : Nat) : List UInt8 := A6 D.dHeight ++ D.dPrev ++ A6 (UInt64.ofNat D.dHeads.length) ++ (D.dHeads.take k).flatten
def DCut.bytes (D : DCut) : List UInt8 := D.body D.dHeads.length
def Bp (D : DCut) : List UInt8 := if D.check = 0 then D.bytes else []
theorem DCut.small {D : DCut} (h : D.check = 0) : D.dHeads.length ≤ 32 := by
  unfold DCut.check at h
  by_cases h1 : cheadB D.dHeight D.dPrev D.dHeads.length = true
  · rw [if_pos h1] at h; cases h
  · unfold cheadB at h1
    simp at h1
    omega
theorem DCut.body_len {D : DCut} (hp : D.dPrev.length = 32) (hr : ∀ l ∈ D.dHeads, l.length = 32) {k : Nat} (hk : k ≤ D.dHeads.length) : (D.body k).length = szN D.dHeight.toNat + 32 + szN (UInt64.ofNat D.dHeads.length).toNat + k * 32 := by
  simp only [DCut.body, List.length_append, Ax, hp, Bn hr hk]
theorem DCut.body_step {D : DCut} {k : Nat} (hk : k < D.dHeads.length) : D.body (k + 1) = D.body k ++ D.dHeads.getD k [] := by
  rw [DCut.body, flatten_take_step hk, ← List.append_assoc]; rfl
theorem cutb_start {C : Cut} {D : DCut} {W : World} {s : Sl} {bl : List Blk} {E : TypeId} (hW : CutIs W C D) (h : Acc s bl (Aa ([] ++ A6 C.fHeight) ++ Aa C.fPrev ++ Aa ([] ++ A6 (UInt64.ofNat C.fHeads.n))) E (0 + szN C.fHeight.toNat + 32 + (0 + szN (UInt64.ofNat C.fHeads.n).toNat)) 1) : Acc s bl (Aa (D.body 0)) E (szN D.dHeight.toNat + 32 + szN (UInt64.ofNat D.dHeads.length).toNat + 0 * 32) 1 := by
  have e : Aa (D.body 0) = Aa ([] ++ A6 C.fHeight) ++ Aa C.fPrev ++ Aa ([] ++ A6 (UInt64.ofNat C.fHeads.n)) := by simp [DCut.body, hW.fHeight, hW.fPrev, hW.fHeads.len, Aa]
  rw [e, ← hW.fHeight, hW.fHeads.len, show szN C.fHeight.toNat + 32 + szN (UInt64.ofNat C.fHeads.n).toNat + 0 * 32 = 0 + szN C.fHeight.toNat + 32 + (0 + szN (UInt64.ofNat C.fHeads.n).toNat) by omega]
  exact h
theorem DCut.bytes_small {D : DCut} (h : D.check = 0) (hp : D.dPrev.length = 32) (hr : ∀ l ∈ D.dHeads, l.length = 32) : D.bytes.length ≤ 2000 := by
  have := D.small h
  have hz1 := A2 D.dHeight.toNat
  have hz2 := A2 (UInt64.ofNat D.dHeads.length).toNat
  rw [DCut.bytes, DCut.body_len hp hr (Nat.le_refl _)]
  omega

theorem cut_bytes (C : Cut) (D : DCut) : Meets Tryz.prog 117 [agg C.cells] [] (fun W => CutIs W C D) (fun v out => ∃ s, v = .tuple #[s.v, i64 D.check] ∧ Acc s out (Aa (Bp D)) 5 (Bp D).length 1) := by
 intro W hW
 have hB := hW.ok
 have hll := hW.fHeads.len
 have hz1 := A2 C.fHeight.toNat
 have hz2 := A2 (UInt64.ofNat C.fHeads.n).toNat
 have hz3 := A2 D.dHeight.toNat
 have hz4 := A2 (UInt64.ofNat D.dHeads.length).toNat
 refine Ag Tryz.func117 J 39 Tryz.ntmps117 J (G3 ?_)
 intro n1 hn1 hf1
 refine G8 ?_
 refine .cV J J J J Body87 (cut_check C D) (fun w h => hW.ext h J) (G9 ?_)
 refine .condNP J (fun hc0 => ?_) (fun hc0 => ?_)
 ·
  refine G10 ?_
  refine Ah (out := []) (A9 J J J) Ae ?_
  exact ⟨Sl.nil, rfl, by rw [show Bp D = [] from if_neg hc0]; exact Acc.none⟩
 have hc : D.check = 0 := by omega
 have hsm := D.small hc
 refine G6 ?_
 refine .call4 J J J J J Body106 (oct_Number none 0 0 [] (C.fHeight) J (fun _ => rfl) oM) (fun _ _ => SeesP.nil) ?_
 rintro v15 out15 ⟨q15, c15, rfl, hc15, rfl⟩
 refine G8 ?_
 refine .appendAcc (z := u8 0) (by' := 1) (Aa C.fPrev) J J J J J Y58.h Y58.h Sz5 Zr5 (by unfold By; kernel_rfl) J (Acc.some (cells := Aa ([] ++ A6 C.fHeight)) hc15 (by simp [Ax])) sG (fun W2 W2h => SeesP.of (sees_part W2h Z1 (Cut.see_fPrev hB))) (fun e => by cases e) (As _) oM oM (by simp [hB.l_fPrev]) ?_
 intro s19 bl19 hac19
 refine G10 ?_
 rw [word_nat (n := C.fHeads.n) oM]
 refine .call4 J J J J J Body106 (oct_Number none 0 0 [] (UInt64.ofNat C.fHeads.n) J (fun _ => rfl) oM) (fun _ _ => SeesP.nil) ?_
 rintro v25 out25 ⟨q25, c25, rfl, hc25, rfl⟩
 refine .appendAcc (z := u8 0) (by' := 1) (Aa ([] ++ A6 (UInt64.ofNat C.fHeads.n))) J J J J J Y58.h Y58.h Sz5 Zr5 (by unfold By; kernel_rfl) J hac19 sG (fun w h => SeesP.of (Aj h Z0)) (fun e => by cases e) (As _) oM oM (by simp [Ax]) ?_
 intro s26 bl26 hac26
 refine G13 ?_
 refine .loop (ι := Nat × Sl × List Blk) (fun p => ⟨[(1, ptr n1 0), (5, p.2.1.v), (28, C.fHeads.v), (29, i64 (C.fHeads.n : Int)), (30, i64 (p.1 : Int))], (p.2.2 ++ (⟨n1, C.cells, 53, C.cells.length⟩ :: []))⟩) (fun p => p.1 ≤ C.fHeads.n ∧ Acc p.2.1 p.2.2 (Aa (D.body p.1)) 5 (szN D.dHeight.toNat + 32 + szN (UInt64.ofNat D.dHeads.length).toNat + p.1 * 32) 1) (fun p => C.fHeads.n - p.1) ((0, s26, bl26)) ?_ ?_ ?_
 · exact ⟨Nat.zero_le _, cutb_start hW hac26⟩
 · exact Af (wk1 rfl (wk1 rfl (wk1 rfl (wk1 rfl (wk1 rfl wk0))))) (Ab sG (Ac rM Ae))
 rintro p ⟨hp1, hap⟩
 refine G6 ?_
 refine .condP J (fun hc1 => ?_) (fun hc1 => ?_)
 ·
  have hk2 : p.1 < C.fHeads.n := by omega
  obtain ⟨b, o, hbp, hbs⟩ := hW.fHeads.see.at (by rw [Bi hW.fHeads.row]; omega)
  have hr0 : (D.dHeads.getD p.1 []).length = 32 := Bg hW.fHeads.row oM
  refine G6 ?_
  refine .idxSlP 32 J J J hbp J Y51.h Sz50 p.1 J oM (.loadEN (Aa (D.dHeads.getD (p.1) [])) J J J Y50.h J Sz50 sP (by rw [Aa, List.length_map]; exact Bg hW.fHeads.row (by rw [hW.fHeads.len]; omega)) (sees_row hW.fHeads.row hbs (by rw [hW.fHeads.len]; omega)) ?_)
  refine .alloc (cs := (Aa (List.replicate 32 0))) J Zr50 J ?_
  intro n7 hn7 hf7
  refine .sA J J J J zE Sz50 (by (rw [Aa, List.length_map]; assumption)) Z0 sP zU ?_
  refine G5 ?_
  refine .appendAcc (z := u8 0) (by' := 1) (Aa (D.dHeads.getD p.1 [])) J J J J J Y58.h Y58.h Sz5 Zr5 (by unfold By; kernel_rfl) J hap sG (fun w h => SeesP.of (Aj h Z0)) (fun e => by cases e) (As _) oM oM (by rw [Aa, List.length_map, hr0]) ?_
  intro s36 bl36 hac36
  refine G9 ?_
  refine ⟨(p.1 + 1, s36, bl36), ⟨by simp only []; omega, ?_⟩, by simp only []; omega, Af (wk1 J (wk1 J (wk1 J (wk1 J (wk1 J wk0))))) (Ab sG (Ac rM Ae))⟩
  rw [show (szN D.dHeight.toNat + 32 + szN (UInt64.ofNat D.dHeads.length).toNat + (p.1 + 1) * 32) = (szN D.dHeight.toNat + 32 + szN (UInt64.ofNat D.dHeads.length).toNat + p.1 * 32) + 32 by omega, DCut.body_step oM, Bx]
  exact hac36
 have hpe : p.1 = C.fHeads.n := by omega
 refine G14 ?_
 refine Ah (out := (p.2.2 ++ [])) (A9 J J J) (Ab sG Ae) ?_
 refine ⟨p.2.1, by rw [hc], ?_⟩
 rw [show Bp D = D.bytes from if_pos hc]
 rw [hpe, ← hll] at hap
 rw [show D.bytes.length = szN D.dHeight.toNat + 32 + szN (UInt64.ofNat D.dHeads.length).toNat + D.dHeads.length * 32 from DCut.body_len (hW.fPrev ▸ hB.l_fPrev) hW.fHeads.row (Nat.le_refl _), List.append_nil]
 exact hap
def cnameD (D : DCut) : List UInt8 := if D.check = 0 then sha256 D.bytes else List.replicate 32 0
theorem cnameD_length (D : DCut) : (cnameD D).length = 32 := by
  unfold cnameD
  split
  · exact sha256_length _
  · rfl

theorem cut_name (C : Cut) (D : DCut) : Meets Tryz.prog 122 [agg C.cells] [] (fun W => CutIs W C D) (fun v out => v = agg (Aa (cnameD D)) ∧ out = []) := by
 intro W hW
 have hok := hW.ok
 obtain ⟨k, hk⟩ : ∃ k, Hid (kW = k) := ⟨_, ⟨rfl⟩⟩
 obtain ⟨s0, hs0⟩ : ∃ s0, Hid (xorUp 8 = s0) := ⟨_, ⟨rfl⟩⟩
 obtain ⟨G, hG⟩ : ∃ G, Hid (shaTag = G) := ⟨_, ⟨rfl⟩⟩
 obtain ⟨i0, hi0⟩ : ∃ i0, Hid (allW k s0 G = i0) := ⟨_, ⟨rfl⟩⟩
 have hk80 : k.length = 80 := by rw [← hk.out]; rfl
 have hs8 : s0.length = 8 := by rw [← hs0.out]; exact xorUp_length 8
 have hGl : G.length = 11 := by rw [← hG.out]; rfl
 have hi8 : i0.length = 8 := by rw [← hi0.out, allW_length]; exact hs8
 obtain ⟨r, hr⟩ : ∃ r, Hid (allW k i0 (D.bytes) = r) := ⟨_, ⟨rfl⟩⟩
 obtain ⟨s, hs⟩ : ∃ s, Hid (sumUp r 64 = s) := ⟨_, ⟨rfl⟩⟩
 have hsd : Hid (s.take 32 = sha256 (D.bytes)) := ⟨by rw [← hs.out, ← hr.out, ← hi0.out, ← hG.out, ← hs0.out, ← hk.out]; rfl⟩
 have hs64 : s.length = 64 := by rw [← hs.out]; exact Ca r 64
 have hs32 : (s.take 32).length = 32 := by rw [List.length_take, hs64]; rfl
 refine Ag Tryz.func122 J 16 Tryz.ntmps122 J (G3 ?_)
 intro n1 hn1 hf1
 refine .alloc (cs := (Aa (List.replicate 32 0))) J Zr50 J ?_
 intro n2 hn2 hf2
 refine G5 ?_
 refine .call4 J J J J J Body117 (cut_bytes C D) (fun w h => hW.ext h J) ?_
 rintro v7 out7 ⟨s7, rfl, hac7⟩
 refine G11 ?_
 refine two (fun r hr k => Tr.nei J J J J hr k) (fun hs2_10 => ?_) (fun hs2_10 => ?_)
 ·
  have hs2_1 := nd_t hs2_10
  skip
  refine G2 ?_
  refine .cond_t J J (G2 ?_)
  refine .build (cs := Aa (List.replicate 32 0)) J J J (fun w => by kernel_rfl) ?_
  refine .sA J J J J zE Sz50 sP mR sP (by (repeat (first | exact upd0 | apply Upd.seg))) ?_
  refine G5 ?_
  refine ⟨_, [], Bo J J Y50.h J Sz50 mR sP, sP, sP, ?_, rfl⟩
  (rw [cnameD, if_neg hs2_1]; done)
 have hs2_1 := nd_f hs2_10
 have h0 : D.check = 0 := by omega
 have hb7 : Bp D = D.bytes := if_pos h0
 refine G2 ?_
 refine .cond_f J J (G5 ?_)
 refine .mkRow (z := .slice none 0 0) [s7.v] [s7.v] rfl J J Y250.h Sz58 Zr58 J J (by intro v hv; rw [List.mem_singleton.1 hv]; rfl) dE J ?_
 intro q14
 refine .cV J J J J Body207 (sha_Sum k s0 i0 G hk hk80 hs0 hs8 hG hGl hi0 hi8 (some ⟨q14, 0, none⟩) 1 1 [s7] [D.bytes] rfl J (fun j hj => (by obtain rfl : j = 0 := oM; exact ⟨by simp [hac7.num, hb7], fun e => hac7.nil e⟩)) D.bytes sP (by have := D.bytes_small h0 (hW.fPrev ▸ hW.ok.l_fPrev) hW.fHeads.row; omega) dE r hr s hs) (fun w h => ⟨SeesP.of (Aj h Z0), fun j hj => (by obtain rfl : j = 0 := oM; exact (by have := hac7.see (Lies.of h (by repeat (first | exact Aq | refine in_there ?_))); rw [hb7] at this; exact this))⟩) ?_
 refine .sA J J J J zE Sz50 (by (simp [hs64]; done)) mR sP uU ?_
 refine G4 ?_
 refine ⟨_, [], Bo J J Y50.h J Sz50 mR (by simp [hs64]), sP, sP, ?_, rfl⟩
 (rw [cnameD, if_pos h0, hsd.out]; done)

def DCert.vote (D : DCert) (k : Nat) : Vote := D.dVotes.getD k Vote.zero
def DCert.head (D : DCert) : Bool := (!decide (D.dCut.check = 0)) || (decide ((D.dVotes.length : Int) < 1) || decide ((16 : Int) < (D.dVotes.length : Int)))
def DCert.bad (D : DCert) (k : Nat) : Prop := ¬ Ap (D.vote k) = 0 ∨ ¬ (D.vote k).fPhase = 3 ∨ ¬ ((D.vote k).fHeight.toNat : Int) = (D.dCut.dHeight.toNat : Int) ∨ ¬ (D.vote k).fValue = cnameD D.dCut ∨ ¬ ((D.vote k).fRound.toNat : Int) = ((D.vote 0).fRound.toNat : Int) ∨ (0 < k ∧ (0 : Int) ≤ cmpB (D.vote (k - 1)).fVoter (D.vote k).fVoter)
open Classical in
noncomputable def DCert.check (D : DCert) : Int := if D.head = true ∨ ∃ k, k < D.dVotes.length ∧ D.bad k then 2 else 0
theorem B1 {D : DCert} (h : D.head = true) : D.check = 2 := if_pos (.inl h)
theorem B0 {D : DCert} {k : Nat} (h : k < D.dVotes.length) (hb : D.bad k) : D.check = 2 := if_pos (.inr ⟨k, h, hb⟩)
theorem B6 {D : DCert} (h : ¬ D.head = true) (hb : ∀ j, j < D.dVotes.length → ¬ D.bad j) : D.check = 0 := if_neg fun e => e.elim h fun ⟨j, h1, h2⟩ => hb j h1 h2
theorem sees_sub {w : World} {b o off : Nat} {cs l : List Value} (hs : B8 w b o cs) (h : ∀ (j : Nat) (v : Value), l[j]? = some v → cs[off + j]? = some v) : B8 w b (o + off) l := fun j v hj => by
  have := hs _ v (h j v hj)
  rwa [← Nat.add_assoc] at this
theorem vote_is {D : DCert} {k : Nat} {V : Vote} (h : D.dVotes[k]? = some V) : D.vote k = V := by simp [DCert.vote, List.getD_eq_getElem?_getD, h]

theorem cert_check (C : Cert) (D : DCert) : Meets Tryz.prog 31 [agg C.cells] [] (fun W => CertIs W C D) (fun v out => v = i64 D.check ∧ out = []) := by
 intro W hW
 obtain ⟨rs, hV⟩ := hW.fVotes
 have hok := hW.ok
 have hmax := hV.max
 simp only [maxLen] at hmax
 have hcap := hV.cap
 have hnd := hV.nd
 have ehh := hW.fCut.fHeight
 refine Ag Tryz.func31 J 79 Tryz.ntmps31 J (G3 ?_)
 intro n1 hn1 hf1
 refine G7 ?_
 refine .lN (Cut.cells _) J J J Y53.h J Sz53 Z0 (Cert.row_fCut zA) (Cert.rl_fCut zA) ?_
 refine .cV J J J J Body87 (cut_check C.fCut D.dCut) (fun w h => hW.fCut.ext h J) (two (fun r hr k => Tr.nei J J J J hr k) (fun hs1_30 => ?_) (fun hs1_30 => ?_))
 ·
  have hs1_3 := nd_t hs1_30
  refine G14 ?_
  refine .cond_t J J (G8 ?_)
  refine ⟨_, [], Ad J J, sP, sP, ?_, rfl⟩
  exact congrArg i64 (B1 (by simp only [DCert.head, hnd, Bool.or_eq_true, Bool.not_eq_true', decide_eq_true_eq, decide_eq_false_iff_not]; omega)).symm
 have hs1_3 := nd_f hs1_30
 refine G4 ?_
 refine two (fun r hr k => Tr.lss J J J J hr k) (fun hs1_80 => ?_) (fun hs1_80 => ?_)
 ·
  have hs1_8 := of_decide_eq_true hs1_80
  refine G9 ?_
  refine .cond_t J J (G8 ?_)
  refine ⟨_, [], Ad J J, sP, sP, ?_, rfl⟩
  exact congrArg i64 (B1 (by simp only [DCert.head, hnd, Bool.or_eq_true, Bool.not_eq_true', decide_eq_true_eq, decide_eq_false_iff_not]; omega)).symm
 have hs1_8 := of_decide_eq_false hs1_80
 refine G9 ?_
 refine .condP J (fun hc0 => ?_) (fun hc0 => ?_)
 ·
  refine G8 ?_
  refine ⟨_, [], Ad J J, sP, sP, ?_, rfl⟩
  exact congrArg i64 (B1 (by simp only [DCert.head, hnd, Bool.or_eq_true, Bool.not_eq_true', decide_eq_true_eq, decide_eq_false_iff_not]; omega)).symm
 have hnb : ¬ D.head = true := by simp only [DCert.head, hnd, Bool.or_eq_true, Bool.not_eq_true', decide_eq_true_eq, decide_eq_false_iff_not]; omega
 refine G5 ?_
 refine .lN (Cut.cells _) J J J Y53.h J Sz53 Z0 (Cert.row_fCut zA) (Cert.rl_fCut zA) ?_
 refine .cV J J J J Body122 (cut_name C.fCut D.dCut) (fun w h => hW.fCut.ext h J) (.alloc (cs := (Aa (List.replicate 32 0))) J Zr50 J ?_)
 intro n3 hn3 hf3
 refine .sA J J J J zE Sz50 (by (simp [cnameD_length]; done)) Z0 sP zU ?_
 refine G12 ?_
 refine .loop (ι := Nat) (fun k => ⟨[(1, ptr n1 0), (3, ptr n3 0), (26, C.fVotes.v), (27, i64 (C.fVotes.n : Int)), (28, i64 (k : Int))], [⟨n3, Aa (cnameD D.dCut), 50, 32⟩, ⟨n1, C.cells, 55, C.cells.length⟩]⟩) (fun k => k ≤ C.fVotes.n ∧ ∀ j, j < k → ¬ D.bad j) (fun k => C.fVotes.n - k) (0) ?_ ?_ ?_
 · exact ⟨by omega, fun j hj => by omega⟩
 · exact Ai (wk1 rfl (wk1 rfl (wk1 rfl (wk1 rfl (wk1 rfl wk0))))) (wh1 Z0 (wh1 Z1 wh0)) nD
 rintro k ⟨hk, hg⟩
 refine G6 ?_
 refine .condP J (fun hc1 => ?_) (fun hc1 => ?_)
 ·
  have hk2 : k < C.fVotes.n := by omega
  obtain ⟨b, o, Vk, d, hsp, hr, hd, his, hlen, hsee⟩ := hV.at dE hk2
  obtain rfl := his.eq
  have hVk := his.ok
  have hlv := hVk.l_fValue
  obtain ⟨b0, o0, V0, d0, hsp0, hr0, hd0, his0, hlen0, hsee0⟩ := hV.at dE (show 0 < C.fVotes.n by omega)
  obtain rfl := his0.eq
  have hV0 := his0.ok
  have hvk := vote_is hd
  have hv0 := vote_is hd0
  refine G7 ?_
  refine .idxSlP 132 J J J hsp J Y24.h Sz81 (k) oM oM (.loadEN Vk.cells J J J Y81.h J Sz81 sP hlen hsee (.alloc (cs := Vote.zero.cells) J Vote.zr J ?_))
  intro n5 hn5 hf5
  refine G8 ?_
  refine .cV J J J J Body85 (vote_check Vk hVk) tV (two (fun r hr k => Tr.nei J J J J hr k) (fun hs7_20 => ?_) (fun hs7_20 => ?_))
  ·
   have hs7_2 := nd_t hs7_20
   refine G15 ?_
   refine .cond_t J J (G13 ?_)
   refine ⟨_, [], Ad J J, sP, sP, ?_, rfl⟩
   exact congrArg i64 (B0 (k := k) oM (by
      simp only [DCert.bad, hvk, hv0, ← ehh]
      exact .inl ‹_›)).symm
  have hs7_2 := nd_f hs7_20
  refine G3 ?_
  refine two (fun r hr k => Tr.nei J J J J hr k) (fun hs7_60 => ?_) (fun hs7_60 => ?_)
  ·
   have hs7_6 := nd_t hs7_60
   refine G11 ?_
   refine .cond_t J J (G13 ?_)
   refine ⟨_, [], Ad J J, sP, sP, ?_, rfl⟩
   exact congrArg i64 (B0 (k := k) oM (by
      simp only [DCert.bad, hvk, hv0, ← ehh]
      exact .inr (.inl ‹_›))).symm
  have hs7_6 := nd_f hs7_60
  refine G6 ?_
  refine .load1 J J J Y48.h J Z2 (Cert.see_fCut hok 0 _ (Cut.get_fHeight hok.o_fCut)) ?_
  refine G4 ?_
  refine .condNP J (fun hc2 => ?_) (fun hc2 => ?_)
  ·
   refine G13 ?_
   refine ⟨_, [], Ad J J, sP, sP, ?_, rfl⟩
   exact congrArg i64 (B0 (k := k) oM (by
      simp only [DCert.bad, hvk, hv0, ← ehh]
      exact .inr (.inr (.inl ‹_›)))).symm
  refine G4 ?_
  refine .draw [(0, 0), (1, 1), (1, 2), (0, 3), (0, 4), (0, 5), (1, 6), (0, 7), (1, 8), (0, 9), (0, 10), (1, 11), (0, 12), (0, 13)] Ba zK (G1 ?_)
  refine .lN (Aa _) J J J Y50.h J Sz50 Z0 (Vote.row_fValue zA) (Vote.rl_fValue zA) ?_
  refine .lA J J J Y50.h J Sz50 Z1 (by (simp [cnameD_length]; done)) ?_
  refine two (fun r hr k => Tr.neq_bytes J J J J Tryz.eqGuardType50 Y50.h Y5.h Sz5 zA (by (simp [cnameD_length]; done)) hr k) (fun hs9_30 => ?_) (fun hs9_30 => ?_)
  ·
   have hs9_3 := nd_t hs9_30
   refine G12 ?_
   refine .cond_t J J (G13 ?_)
   refine ⟨_, [], Ad J J, sP, sP, ?_, rfl⟩
   exact congrArg i64 (B0 (k := k) oM (by
      simp only [DCert.bad, hvk, hv0, ← ehh]
      exact .inr (.inr (.inr (.inl ‹_›))))).symm
  have hs9_3 := nd_f hs9_30
  refine G5 ?_
  refine .idxSlP 132 J J J hsp0 J Y24.h Sz81 (0) oM oM (G1 ?_)
  refine .loadE J J J Y48.h J sP (hsee0 1 _ (Vote.get_fRound hV0)) (G4 ?_)
  refine .condNP J (fun hc3 => ?_) (fun hc3 => ?_)
  ·
   refine G13 ?_
   refine ⟨_, [], Ad J J, sP, sP, ?_, rfl⟩
   exact congrArg i64 (B0 (k := k) oM (by
      simp only [DCert.bad, hvk, hv0, ← ehh]
      exact .inr (.inr (.inr (.inr (.inl ‹_›)))))).symm
  refine G3 ?_
  refine .draw [(0, 0), (0, 1), (0, 2), (0, 3), (1, 4), (0, 5), (0, 6), (0, 7), (0, 8), (0, 9), (0, 10), (0, 11), (3, 12), (0, 13), (0, 14)] Ba zK (G1 ?_)
  refine two (fun r hr k => Tr.gtr J J J J hr k) (fun hs11_10 => ?_) (fun hs11_10 => ?_)
  ·
   have hs11_1 := of_decide_eq_true hs11_10
   obtain ⟨bp, op, Vp, dp, hspp, hrp, hdp, hisp, hlenp, hseep⟩ := hV.at dE (show k - 1 < C.fVotes.n by omega)
   obtain rfl := hisp.eq
   have hVp := hisp.ok
   refine G5 ?_
   refine .idxSlP 132 J J J hspp J Y24.h Sz81 (k - 1) oM oM (G4 ?_)
   refine .cV J J J J Body123 (bytes_cmp _ _ _ _ _ _ Vp.fVoter Vk.fVoter hVp.l_fVoter hVk.l_fVoter) (fun W2 W2h => ⟨SeesP.of (Bt W2h sP (sees_sub hseep (Vote.see_fVoter hVp))), SeesP.of (sees_part W2h Z0 (Vote.see_fVoter hVk))⟩) ?_
   refine G4 ?_
   refine .condP J (fun hc4 => ?_) (fun hc4 => ?_)
   ·
    refine G12 ?_
    refine ⟨_, [], Ad J J, sP, sP, ?_, rfl⟩
    exact congrArg i64 (B0 (k := k) oM (by
       simp only [DCert.bad, hvk, hv0, ← ehh]
       (rw [vote_is hdp]; exact .inr (.inr (.inr (.inr (.inr ⟨by omega, by omega⟩))))))).symm
   refine G8 ?_
   exact ⟨k + 1, ⟨by omega, fun j hj => by rcases Nat.lt_succ_iff_lt_or_eq.1 hj with h | rfl; exact hg j h; exact (by
    simp only [DCert.bad, hvk, hv0, ← ehh]
    rintro (h | h | h | h | h | ⟨h1, h2⟩) <;> first | exact h ‹_› | (rw [vote_is hdp] at h2; omega))⟩, by omega, Ai (wk1 rfl (wk1 rfl (wk1 rfl (wk1 rfl (wk1 rfl wk0))))) (wh1 Z1 (wh1 Z2 wh0)) nD⟩
  have hs11_1 := of_decide_eq_false hs11_10
  skip
  refine G15 ?_
  refine .cond_f J J (G8 ?_)
  exact ⟨k + 1, ⟨by omega, fun j hj => by rcases Nat.lt_succ_iff_lt_or_eq.1 hj with h | rfl; exact hg j h; exact (by
   simp only [DCert.bad, hvk, hv0, ← ehh]
   rintro (h | h | h | h | h | ⟨h1, h2⟩) <;> first | exact h ‹_› | omega)⟩, by omega, Ai (wk1 rfl (wk1 rfl (wk1 rfl (wk1 rfl (wk1 rfl wk0))))) (wh1 Z1 (wh1 Z2 wh0)) nD⟩
 obtain rfl : k = C.fVotes.n := by omega
 refine G12 ?_
 refine ⟨_, [], Ad J J, sP, sP, ?_, rfl⟩
 exact congrArg i64 (B6 hnb (by rw [hnd]; exact hg)).symm
end Go.Proofs.YtdifpjmfabhpiaaGreat
end

section
namespace Go.Proofs.YtdifpjmfabhpiaaGreat
open Go Hw

def partsL : List Int := [0, 3, 6, 8, 48, 64, 1]
def partsI (k : Int) : Int := if 0 ≤ k ∧ k < 7 then partsL.getD k.toNat 0 else 0
def DMsg.bits (D : DMsg) : List Bool := [!decide ((D.dHeight.toNat : Int) = 0), decide ((0 : Int) < (D.dHeads.length : Int)), decide ((0 : Int) < (D.dWant.length : Int)), decide ((0 : Int) < (D.dBlocks.length : Int)), decide ((0 : Int) < (D.dVotes.length : Int)), decide ((0 : Int) < (D.dCuts.length : Int)), decide ((0 : Int) < (D.dCerts.length : Int))]
def DMsg.used (D : DMsg) : Int := (usedN D.bits 7 : Nat)
structure MsgIs.lens (m : Msg) (D : DMsg) : Prop where
  heads : m.fHeads.n = D.dHeads.length
  want : m.fWant.n = D.dWant.length
  blocks : m.fBlocks.n = D.dBlocks.length
  votes : m.fVotes.n = D.dVotes.length
  cuts : m.fCuts.n = D.dCuts.length
  certs : m.fCerts.n = D.dCerts.length
theorem MsgIs.len {W : World} {m : Msg} {D : DMsg} (h : MsgIs W m D) : MsgIs.lens m D := by
  obtain ⟨_, h1⟩ := h.fBlocks
  obtain ⟨_, h2⟩ := h.fVotes
  obtain ⟨_, h3⟩ := h.fCuts
  obtain ⟨_, h4⟩ := h.fCerts
  exact ⟨h.fHeads.len.symm, h.fWant.len.symm, h1.nd.symm, h2.nd.symm, h3.nd.symm, h4.nd.symm⟩

def DMsg.bad (D : DMsg) : Prop := partsI D.dKind = 0 ∨ (4294967295 : Int) < (D.dHeight.toNat : Int) ∨ ¬ andNotI D.used (partsI D.dKind) = 0 ∨ (32 : Int) < (D.dHeads.length : Int) ∨ (32 : Int) < (D.dWant.length : Int) ∨ (8 : Int) < (D.dBlocks.length : Int) ∨ (20 : Int) < (D.dVotes.length : Int) ∨ (4 : Int) < (D.dCuts.length : Int) ∨ (2 : Int) < (D.dCerts.length : Int) ∨ (¬ D.dKind = 1 ∧ ¬ D.dKind = 2 ∧ D.used = 0) ∨
  ¬ (D.dBlocks.all fun d => decide (d.check = 0)) = true ∨ ¬ (D.dVotes.all fun d => decide (Ap d = 0)) = true ∨ ¬ (D.dCuts.all fun d => decide (d.check = 0)) = true ∨ ¬ (D.dCerts.all fun d => decide (d.check = 0)) = true
open Classical in
noncomputable def DMsg.check (D : DMsg) : Int := if D.bad then 2 else 0
end Go.Proofs.YtdifpjmfabhpiaaGreat
end

section
namespace Go.Proofs.YtdifpjmfabhpiaaGreat
open Go Hw

def lightOf {D : Type} (f : D → Bool) (ds : List D) (m : Int) : Bool := (!decide (m < (ds.length : Int))) && ds.all f
theorem light_all {D : Type} {f : D → Bool} {ds : List D} (h : ∀ j, j < ds.length → (ds.map f)[j]? = some true) : ds.all f = true := by
  rw [List.all_eq_true]
  intro x hx
  obtain ⟨j, hj, rfl⟩ := List.getElem_of_mem hx
  have := h j hj
  rw [List.getElem?_map, List.getElem?_eq_getElem hj] at this
  simpa using this
theorem light_not {D : Type} {f : D → Bool} {ds : List D} {k : Nat} (h : (ds.map f)[k]? = some false) : ds.all f = false := by
  rw [List.getElem?_map] at h
  obtain ⟨x, hx, hf⟩ := Option.map_eq_some_iff.1 h
  rw [List.all_eq_false]
  exact ⟨x, List.mem_of_getElem? hx, by rw [hf]; simp⟩
theorem light_over {D : Type} {f : D → Bool} {ds : List D} {m : Int} (h : m < (ds.length : Int)) : lightOf f ds m = false := by simp [lightOf, h]
theorem light_in {D : Type} {f : D → Bool} {ds : List D} {m : Int} (h : ¬ m < (ds.length : Int)) : lightOf f ds m = ds.all f := by simp [lightOf, h]
def lightBf (d : DB) : Bool := decide ((d.ls.length : Int) ≤ 40) && decide ((d.ds.length : Int) ≤ 2000)
def lightCf (d : DCut) : Bool := decide ((d.dHeads.length : Int) ≤ 40)
def lightEf (d : DCert) : Bool := decide ((d.dCut.dHeads.length : Int) ≤ 40) && decide ((d.dVotes.length : Int) ≤ 20)

theorem lightd_blocks (s : Sl) (ds : List DB) (m : Int) : Meets Tryz.prog 36 [s.v, i64 m] [] (fun W => BlocksAt W s ds) (fun v out => v = .bool (lightOf lightBf ds m) ∧ out = []) := by
 intro W hW
 obtain ⟨rs, hs⟩ := hW
 have hmax := hs.max
 simp only [maxLen] at hmax
 have hnd := hs.nd
 refine Ag Tryz.func36 J 32 Tryz.ntmps36 J (G14 ?_)
 refine .condP J (fun hc0 => ?_) (fun hc0 => ?_)
 ·
  refine G8 ?_
  refine ⟨_, [], Ad J J, sP, sP, ?_, rfl⟩
  exact congrArg Value.bool (light_over (by rw [hnd]; omega)).symm
 refine G9 ?_
 refine .loop (ι := Nat) (fun k => ⟨[(0, s.v), (5, i64 (k : Int))], []⟩) (fun k => k ≤ s.n ∧ ∀ j, j < k → (ds.map lightBf)[j]? = some true) (fun k => s.n - k) (0) ?_ ?_ ?_
 · exact ⟨by omega, fun j hj => by omega⟩
 · exact Ai (wk1 rfl (wk1 rfl wk0)) wh0 nD
 rintro k ⟨hk, hg⟩
 refine G9 ?_
 refine .condP J (fun hc1 => ?_) (fun hc1 => ?_)
 ·
  have hk2 : k < s.n := by omega
  obtain ⟨b, o, r, d, hsp, hr, hd, his, hlen, hsee⟩ := hs.at dE hk2
  have e1 := his.ls.len
  have e2 := his.ds.len
  refine G8 ?_
  refine .idxSlP 131 J J J hsp J Y22.h Sz79 k J oM (G1 ?_)
  refine .loadE J J J Y51.h J sP (hsee 65 _ (Block.get_fLinks his.ok)) (G1 ?_)
  refine two (fun r hr k => Tr.gtr J J J J hr k) (fun hs6_60 => ?_) (fun hs6_60 => ?_)
  ·
   have hs6_6 := of_decide_eq_true hs6_60
   refine G11 ?_
   refine .cond_t J J (G12 ?_)
   refine ⟨_, [], Ad J J, sP, sP, ?_, rfl⟩
   exact congrArg Value.bool ((light_in (by rw [hnd]; omega)).trans (light_not (k := k) (by rw [List.getElem?_map, hd]; simp [lightBf]; omega))).symm
  have hs6_6 := of_decide_eq_false hs6_60
  refine G3 ?_
  refine .idxSlP 131 J J J hsp J Y22.h Sz79 k J oM (G1 ?_)
  refine .loadE J J J Y58.h J sP (hsee 66 _ (Block.get_fData his.ok)) (G5 ?_)
  refine .condP J (fun hc2 => ?_) (fun hc2 => ?_)
  ·
   refine G12 ?_
   refine ⟨_, [], Ad J J, sP, sP, ?_, rfl⟩
   exact congrArg Value.bool ((light_in (by rw [hnd]; omega)).trans (light_not (k := k) (by rw [List.getElem?_map, hd]; simp [lightBf]; omega))).symm
  refine G9 ?_
  exact ⟨k + 1, ⟨by omega, fun j hj => by rcases Nat.lt_succ_iff_lt_or_eq.1 hj with h | rfl; exact hg j h; exact (by rw [List.getElem?_map, hd]; simp [lightBf]; omega)⟩, by omega, Ai (wk1 rfl (wk1 rfl wk0)) wh0 nD⟩
 obtain rfl : k = s.n := by omega
 refine G12 ?_
 refine ⟨_, [], Ad J J, sP, sP, ?_, rfl⟩
 exact congrArg Value.bool ((light_in (by rw [hnd]; omega)).trans (light_all (by rw [hnd]; exact hg))).symm
theorem lightd_cuts (s : Sl) (ds : List DCut) (m : Int) : Meets Tryz.prog 48 [s.v, i64 m] [] (fun W => CutsAt W s ds) (fun v out => v = .bool (lightOf lightCf ds m) ∧ out = []) := by
 intro W hW
 obtain ⟨rs, hs⟩ := hW
 have hmax := hs.max
 simp only [maxLen] at hmax
 have hnd := hs.nd
 refine Ag Tryz.func48 J 23 Tryz.ntmps48 J (G14 ?_)
 refine .condP J (fun hc0 => ?_) (fun hc0 => ?_)
 ·
  refine G8 ?_
  refine ⟨_, [], Ad J J, sP, sP, ?_, rfl⟩
  exact congrArg Value.bool (light_over (by rw [hnd]; omega)).symm
 refine G9 ?_
 refine .loop (ι := Nat) (fun k => ⟨[(0, s.v), (5, i64 (k : Int))], []⟩) (fun k => k ≤ s.n ∧ ∀ j, j < k → (ds.map lightCf)[j]? = some true) (fun k => s.n - k) (0) ?_ ?_ ?_
 · exact ⟨by omega, fun j hj => by omega⟩
 · exact Ai (wk1 rfl (wk1 rfl wk0)) wh0 nD
 rintro k ⟨hk, hg⟩
 refine G9 ?_
 refine .condP J (fun hc1 => ?_) (fun hc1 => ?_)
 ·
  have hk2 : k < s.n := by omega
  obtain ⟨b, o, r, d, hsp, hr, hd, his, hlen, hsee⟩ := hs.at dE hk2
  have e1 := his.fHeads.len
  refine G8 ?_
  refine .idxSlP 34 J J J hsp J Y25.h Sz53 k J oM (G1 ?_)
  refine .loadE J J J Y51.h J sP (hsee 33 _ (Cut.get_fHeads his.ok)) (G4 ?_)
  refine .condP J (fun hc2 => ?_) (fun hc2 => ?_)
  ·
   refine G12 ?_
   refine ⟨_, [], Ad J J, sP, sP, ?_, rfl⟩
   exact congrArg Value.bool ((light_in (by rw [hnd]; omega)).trans (light_not (k := k) (by rw [List.getElem?_map, hd]; simp [lightCf]; omega))).symm
  refine G9 ?_
  exact ⟨k + 1, ⟨by omega, fun j hj => by rcases Nat.lt_succ_iff_lt_or_eq.1 hj with h | rfl; exact hg j h; exact (by rw [List.getElem?_map, hd]; simp [lightCf]; omega)⟩, by omega, Ai (wk1 rfl (wk1 rfl wk0)) wh0 nD⟩
 obtain rfl : k = s.n := by omega
 refine G12 ?_
 refine ⟨_, [], Ad J J, sP, sP, ?_, rfl⟩
 exact congrArg Value.bool ((light_in (by rw [hnd]; omega)).trans (light_all (by rw [hnd]; exact hg))).symm
theorem lightd_certs (s : Sl) (ds : List DCert) (m : Int) : Meets Tryz.prog 24 [s.v, i64 m] [] (fun W => CertsAt W s ds) (fun v out => v = .bool (lightOf lightEf ds m) ∧ out = []) := by
 intro W hW
 obtain ⟨rs, hs⟩ := hW
 have hmax := hs.max
 simp only [maxLen] at hmax
 have hnd := hs.nd
 refine Ag Tryz.func24 J 33 Tryz.ntmps24 J (G14 ?_)
 refine .condP J (fun hc0 => ?_) (fun hc0 => ?_)
 ·
  refine G8 ?_
  refine ⟨_, [], Ad J J, sP, sP, ?_, rfl⟩
  exact congrArg Value.bool (light_over (by rw [hnd]; omega)).symm
 refine G9 ?_
 refine .loop (ι := Nat) (fun k => ⟨[(0, s.v), (5, i64 (k : Int))], []⟩) (fun k => k ≤ s.n ∧ ∀ j, j < k → (ds.map lightEf)[j]? = some true) (fun k => s.n - k) (0) ?_ ?_ ?_
 · exact ⟨by omega, fun j hj => by omega⟩
 · exact Ai (wk1 rfl (wk1 rfl wk0)) wh0 nD
 rintro k ⟨hk, hg⟩
 refine G9 ?_
 refine .condP J (fun hc1 => ?_) (fun hc1 => ?_)
 ·
  have hk2 : k < s.n := by omega
  obtain ⟨b, o, r, d, hsp, hr, hd, his, hlen, hsee⟩ := hs.at dE hk2
  have e1 := his.fCut.fHeads.len
  obtain ⟨_, hvs⟩ := his.fVotes
  have e2 := hvs.nd
  refine G8 ?_
  refine .idxSlP 35 J J J hsp J Y23.h Sz55 k J oM (G2 ?_)
  refine .loadE J J J Y51.h J sP (hsee 33 _ (Cert.see_fCut his.ok 33 _ (Cut.get_fHeads his.ok.o_fCut))) (G1 ?_)
  refine two (fun r hr k => Tr.gtr J J J J hr k) (fun hs6_70 => ?_) (fun hs6_70 => ?_)
  ·
   have hs6_7 := of_decide_eq_true hs6_70
   refine G11 ?_
   refine .cond_t J J (G12 ?_)
   refine ⟨_, [], Ad J J, sP, sP, ?_, rfl⟩
   exact congrArg Value.bool ((light_in (by rw [hnd]; omega)).trans (light_not (k := k) (by rw [List.getElem?_map, hd]; simp [lightEf]; omega))).symm
  have hs6_7 := of_decide_eq_false hs6_70
  refine G3 ?_
  refine .idxSlP 35 J J J hsp J Y23.h Sz55 k J oM (G1 ?_)
  refine .loadE J J J Y24.h J sP (hsee 34 _ (Cert.get_fVotes his.ok)) (G5 ?_)
  refine .condP J (fun hc2 => ?_) (fun hc2 => ?_)
  ·
   refine G12 ?_
   refine ⟨_, [], Ad J J, sP, sP, ?_, rfl⟩
   exact congrArg Value.bool ((light_in (by rw [hnd]; omega)).trans (light_not (k := k) (by rw [List.getElem?_map, hd]; simp [lightEf]; omega))).symm
  refine G9 ?_
  exact ⟨k + 1, ⟨by omega, fun j hj => by rcases Nat.lt_succ_iff_lt_or_eq.1 hj with h | rfl; exact hg j h; exact (by rw [List.getElem?_map, hd]; simp [lightEf]; omega)⟩, by omega, Ai (wk1 rfl (wk1 rfl wk0)) wh0 nD⟩
 obtain rfl : k = s.n := by omega
 refine G12 ?_
 refine ⟨_, [], Ad J J, sP, sP, ?_, rfl⟩
 exact congrArg Value.bool ((light_in (by rw [hnd]; omega)).trans (light_all (by rw [hnd]; exact hg))).symm

def DMsg.light (D : DMsg) : Bool := decide ((D.dHeads.length : Int) ≤ 40) && (decide ((D.dWant.length : Int) ≤ 40) && (lightOf lightBf D.dBlocks 10 && (decide ((D.dVotes.length : Int) ≤ 20) && (lightOf lightCf D.dCuts 6 && lightOf lightEf D.dCerts 4))))


theorem pm_in1 {hp l R X : List Blk} {x : Blk} (h : hp.Perm ((x :: (X ++ l)) ++ R)) : hp.Perm ((([x] ++ X) ++ l) ++ R) := h
theorem pm_in2 {hp l R X : List Blk} {x y : Blk} (h : hp.Perm ((x :: y :: (X ++ l)) ++ R)) : hp.Perm ((([x, y] ++ X) ++ l) ++ R) := h
theorem take_snoc {D : Type} {ds : List D} {k : Nat} {d : D} (h : ds[k]? = some d) : ds.take (k + 1) = ds.take k ++ [d] := by
  obtain ⟨hk, rfl⟩ := List.getElem?_eq_some_iff.1 h
  rw [List.take_succ_eq_append_getElem hk]
theorem owned_is {W : World} {B : Block} {D : DB} {q1 c1 q2 c2 : Nat} (h : BlockIs W B D) (h1 : B.fLinks.n ≤ c1) (h2 : B.fData.n ≤ c2) (n1 : B.fLinks.n ≤ 1000000) (n2 : B.fData.n ≤ 1000000) : ∀ W2, Lies [⟨q2, Aa D.ds, 5, c2 * 1⟩, ⟨q1, Bs D.ls, 50, c1 * 32⟩] W2 → BlockIs W2 (ownB B q1 c1 q2 c2) D := fun W2 hl => by
  have a1 : Acc ⟨some ⟨q1, 0, none⟩, B.fLinks.n, c1⟩ [⟨q1, Bs D.ls, 50, c1 * 32⟩] (Bs D.ls) 50 B.fLinks.n 32 := Acc.some h1 (by rw [Bi h.ls.row, h.ls.len])
  have a2 : Acc ⟨some ⟨q2, 0, none⟩, B.fData.n, c2⟩ [⟨q2, Aa D.ds, 5, c2 * 1⟩] (Aa D.ds) 5 B.fData.n 1 := Acc.some h2 (by rw [Aa, List.length_map, h.ds.len, Nat.mul_one])
  exact ⟨ownB_ok h.ok _ _ _ _, h.w, h.seq, h.prev, acc_rows a1 (hl.sub (by intro b hb; rw [List.mem_singleton.1 hb]; exact List.mem_cons_of_mem _ List.mem_cons_self)) h.ls.row h.ls.len n1, Ci a2 (hl.sub (by intro b hb; rw [List.mem_singleton.1 hb]; exact List.mem_cons_self)) h.ds.len n2, h.sg⟩

theorem kit_own_blocks (s : Sl) (ds : List DB) (hn : s.n ≤ 1000) (hsm : ∀ d ∈ ds, d.ls.length ≤ 500000 ∧ d.ds.length ≤ 500000) : Meets Tryz.prog 72 [s.v] [] (fun W => BlocksAt W s ds) (fun v out => ∃ sl bl bl2 rs, v = sl.v ∧ out = bl ++ bl2 ∧ OwnSeq Block.cells 131 BlockIs 79 sl bl bl2 rs ds s.n) := by
 intro W hW
 obtain ⟨rs, hs⟩ := hW
 have hnd := hs.nd
 refine Ag Tryz.func72 J 20 Tryz.ntmps72 J (G17 ?_)
 refine .loop (ι := Nat × Sl × List Blk × List Blk × List Block) (fun p => ⟨[(0, s.v), (3, p.2.1.v), (4, i64 (p.1 : Int))], (p.2.2.1 ++ (p.2.2.2.1 ++ []))⟩) (fun p => p.1 ≤ s.n ∧ OwnSeq Block.cells 131 BlockIs 79 p.2.1 p.2.2.1 p.2.2.2.1 p.2.2.2.2 (ds.take p.1) p.1) (fun p => s.n - p.1) ((0, Sl.nil, [], [], [])) ?_ ?_ ?_
 · exact ⟨Nat.zero_le _, OwnSeq.none⟩
 · exact Af (wk1 rfl (wk1 rfl (wk1 rfl wk0))) (Ab (by repeat (exact sg_end)) (Ab (by repeat (exact sg_end)) Ae))
 rintro p ⟨hk, hos⟩
 refine G9 ?_
 refine .condP J (fun hc0 => ?_) (fun hc0 => ?_)
 ·
  have hk2 : p.1 < s.n := by omega
  obtain ⟨b, o, r, d, hsp, hr, hd, his, hlen, hsee⟩ := hs.at dE hk2
  refine G8 ?_
  refine .idxSlP 131 J J J hsp J Y22.h Sz79 p.1 J oM (.loadEN r.cells J J J Y79.h J Sz79 sP hlen hsee (.call4 J J J J J Body37 (kit_own_block r his.ok d.ls d.ds (by rw [← his.ls.len]; exact (hsm d (List.mem_of_getElem? hd)).1) (by rw [← his.ds.len]; exact (hsm d (List.mem_of_getElem? hd)).2)) (fun w h => ⟨rows_ext h J his.ls, bytes_ext h J his.ds⟩) ?_))
  rintro v16 out16 ⟨q1, c1, q2, c2, rfl, hq1, hq2, rfl⟩
  have hoi := owned_is (q1 := q1) (q2 := q2) his hq1 hq2 (by have := (hsm d (List.mem_of_getElem? hd)).1; rw [← his.ls.len]; omega) (by have := (hsm d (List.mem_of_getElem? hd)).2; rw [← his.ds.len]; omega)
  have hok2 := ownB_ok his.ok q1 c1 q2 c2
  refine .mkRow (z := agg Block.zero.cells) [agg (ownB r q1 c1 q2 c2).cells] (ownB r q1 c1 q2 c2).cells J J J Y22.h Sz79 Block.zr J J (by intro v hv; rw [List.mem_singleton.1 hv]; exact Block.length hok2) dE (by simp [Value.cells]) ?_
  intro q17
  refine .appendAcc (z := agg Block.zero.cells) (by' := 184) ((ownB r q1 c1 q2 c2).cells) J J J J J Y22.h Y22.h Sz79 Zr79 (by unfold By; kernel_rfl) J hos.acc sG (fun w h => SeesP.of (Aj h Z0)) (fun e => by cases e) (Block.isCell hok2) oM oM (by rw [Block.length hok2]) ?_
  intro s18 bl18 hac18
  refine G10 ?_
  exact ⟨(p.1 + 1, s18, bl18, _, p.2.2.2.2 ++ [ownB r q1 c1 q2 c2]), ⟨by simp only []; omega, by simp only [take_snoc hd]; exact hos.snoc hac18 (Block.length hok2) hoi⟩, by simp only []; omega, Af (wk1 rfl (wk1 rfl (wk1 rfl wk0))) (Ab sG (pm_in2 (Ac rM (Ac rM (Ab sG Ae)))))⟩
 have hpe : p.1 = s.n := by omega
 refine G13 ?_
 refine Ah (out := (p.2.2.1 ++ (p.2.2.2.1 ++ []))) (Ad J J) (Ab sG (Ab sG Ae)) ?_
 refine ⟨p.2.1, p.2.2.1, p.2.2.2.1, p.2.2.2.2, rfl, by simp, ?_⟩
 rw [hpe, List.take_of_length_le oM] at hos
 exact hos

def ownC (C : Cut) (q c : Nat) : Cut := { C with fHeads := ⟨some ⟨q, 0, none⟩, C.fHeads.n, c⟩ }
theorem ownC_ok {C : Cut} (h : C.ok) (q c : Nat) : (ownC C q c).ok := ⟨h.l_fPrev⟩
theorem ownC_is {W : World} {C : Cut} {D : DCut} {q c : Nat} (h : CutIs W C D) (h1 : C.fHeads.n ≤ c) (n1 : C.fHeads.n ≤ 1000000) : ∀ W2, Lies [⟨q, Bs D.dHeads, 50, c * 32⟩] W2 → CutIs W2 (ownC C q c) D := fun W2 hl => by
  have a1 : Acc ⟨some ⟨q, 0, none⟩, C.fHeads.n, c⟩ [⟨q, Bs D.dHeads, 50, c * 32⟩] (Bs D.dHeads) 50 C.fHeads.n 32 := Acc.some h1 (by rw [Bi h.fHeads.row, h.fHeads.len])
  exact ⟨ownC_ok h.ok _ _, h.fHeight, h.fPrev, acc_rows a1 hl h.fHeads.row h.fHeads.len n1⟩

theorem kit_own_cuts (s : Sl) (ds : List DCut) (hn : s.n ≤ 1000) (hsm : ∀ d ∈ ds, d.dHeads.length ≤ 500000) : Meets Tryz.prog 38 [s.v] [] (fun W => CutsAt W s ds) (fun v out => ∃ sl bl bl2 rs, v = sl.v ∧ out = bl ++ bl2 ∧ OwnSeq Cut.cells 34 CutIs 53 sl bl bl2 rs ds s.n) := by
 intro W hW
 obtain ⟨rs, hs⟩ := hW
 have hnd := hs.nd
 refine Ag Tryz.func38 J 25 Tryz.ntmps38 J (G17 ?_)
 refine .loop (ι := Nat × Sl × List Blk × List Blk × List Cut) (fun p => ⟨[(0, s.v), (3, p.2.1.v), (4, i64 (p.1 : Int))], (p.2.2.1 ++ (p.2.2.2.1 ++ []))⟩) (fun p => p.1 ≤ s.n ∧ OwnSeq Cut.cells 34 CutIs 53 p.2.1 p.2.2.1 p.2.2.2.1 p.2.2.2.2 (ds.take p.1) p.1) (fun p => s.n - p.1) ((0, Sl.nil, [], [], [])) ?_ ?_ ?_
 · exact ⟨Nat.zero_le _, OwnSeq.none⟩
 · exact Af (wk1 rfl (wk1 rfl (wk1 rfl wk0))) (Ab (by repeat (exact sg_end)) (Ab (by repeat (exact sg_end)) Ae))
 rintro p ⟨hk, hos⟩
 refine G9 ?_
 refine .condP J (fun hc0 => ?_) (fun hc0 => ?_)
 ·
  have hk2 : p.1 < s.n := by omega
  obtain ⟨b, o, r, d, hsp, hr, hd, his, hlen, hsee⟩ := hs.at dE hk2
  refine G8 ?_
  refine .idxSlP 34 J J J hsp J Y25.h Sz53 p.1 J oM (.loadEN r.cells J J J Y53.h J Sz53 sP hlen hsee (.alloc (cs := Cut.zero.cells) J Cut.zr J ?_))
  intro n5 hn5 hf5
  refine .sA J J J J (Cut.isCell (by exact his.ok)) Sz53 (Cut.length (by exact his.ok)) Z0 (Cut.length (by exact Cut.zero_ok)) zU ?_
  refine G5 ?_
  refine .load1 J J J Y51.h J Z0 (by exact Cut.get_fHeads (by exact his.ok)) ?_
  refine .call4 J J J J J Body124 (kit_names r.fHeads d.dHeads (by rw [← his.fHeads.len]; exact hsm d (List.mem_of_getElem? hd))) (fun w h => rows_ext h J his.fHeads) ?_
  rintro v18 out18 ⟨q1, c1, rfl, hq1, rfl⟩
  have hoi := ownC_is (q := q1) his hq1 (by have := hsm d (List.mem_of_getElem? hd); rw [← his.fHeads.len]; omega)
  have hok2 := ownC_ok his.ok q1 c1
  refine G1 ?_
  refine .s1 J J J J J Sz51 Z1 (by rw [Cut.length (by exact his.ok)]; decide) (by exact Cut.setS_fHeads (by exact his.ok) _ _ _) zV ?_
  refine G5 ?_
  refine .mkRow (z := agg Cut.zero.cells) [agg (ownC r q1 c1).cells] (ownC r q1 c1).cells J J J Y25.h Sz53 Cut.zr J J (by intro v hv; rw [List.mem_singleton.1 hv]; exact Cut.length hok2) dE (by simp [Value.cells]) ?_
  intro q17
  refine .appendAcc (z := agg Cut.zero.cells) (by' := 64) ((ownC r q1 c1).cells) J J J J J Y25.h Y25.h Sz53 Zr53 (by unfold By; kernel_rfl) J hos.acc sG (fun w h => SeesP.of (Aj h Z0)) (fun e => by cases e) (Cut.isCell hok2) oM oM (by rw [Cut.length hok2]) ?_
  intro s18 bl18 hac18
  refine G10 ?_
  exact ⟨(p.1 + 1, s18, bl18, _, p.2.2.2.2 ++ [ownC r q1 c1]), ⟨by simp only []; omega, by simp only [take_snoc hd]; exact hos.snoc hac18 (Cut.length hok2) hoi⟩, by simp only []; omega, Af (wk1 rfl (wk1 rfl (wk1 rfl wk0))) (Ab sG (pm_in1 (Ac rM (Ab sG Ae))))⟩
 have hpe : p.1 = s.n := by omega
 refine G13 ?_
 refine Ah (out := (p.2.2.1 ++ (p.2.2.2.1 ++ []))) (Ad J J) (Ab sG (Ab sG Ae)) ?_
 refine ⟨p.2.1, p.2.2.1, p.2.2.2.1, p.2.2.2.2, rfl, by simp, ?_⟩
 rw [hpe, List.take_of_length_le oM] at hos
 exact hos

theorem Cert.setS_heads {x : Cert} (h : x.ok) (p : Option Addr) (n c : Nat) : x.cells.set (0 + 33) (.slice p n c) = ({ x with fCut := { x.fCut with fHeads := ⟨p, n, c⟩ } } : Cert).cells := by
  rw [Cert.cells, List.set_append, if_pos (by rw [Cut.length h.o_fCut]; decide), Nat.zero_add, Cut.setS_fHeads h.o_fCut]; rfl
theorem votes_cell {vs : List Vote} (h : ∀ r ∈ vs, r.ok) : ∀ u ∈ (vs.map Vote.cells).flatten, isCell u = true := by
  intro u hu
  obtain ⟨l, hl, hu⟩ := List.mem_flatten.1 hu
  obtain ⟨r, hr, rfl⟩ := List.mem_map.1 hl
  exact Vote.isCell (h r hr) u hu
theorem seq_votes {W : World} {s : Sl} {vs ds : List Vote} (h : SeqIs Vote.cells 132 VoteIs W s vs ds) : ∀ r ∈ vs, r.ok := by
  intro r hr
  obtain ⟨j, hj, rfl⟩ := List.getElem_of_mem hr
  have hj2 : j < ds.length := by rw [h.nd, ← h.nr]; exact hj
  exact (h.is j _ _ (List.getElem?_eq_getElem hj) (List.getElem?_eq_getElem hj2)).ok
def ownE (C : Cert) (q1 c1 q2 c2 : Nat) : Cert := { C with fCut := ownC C.fCut q1 c1, fVotes := ⟨some ⟨q2, 0, none⟩, C.fVotes.n, c2⟩ }
theorem ownE_ok {C : Cert} (h : C.ok) (q1 c1 q2 c2 : Nat) : (ownE C q1 c1 q2 c2).ok := ⟨ownC_ok h.o_fCut _ _⟩
theorem ownE_is {W : World} {C : Cert} {D : DCert} {vs : List Vote} {q1 c1 q2 c2 : Nat} (h : CertIs W C D) (hv : SeqIs Vote.cells 132 VoteIs W C.fVotes vs D.dVotes) (h1 : C.fCut.fHeads.n ≤ c1) (h2 : C.fVotes.n ≤ c2) (n1 : C.fCut.fHeads.n ≤ 1000000) (n2 : C.fVotes.n ≤ 1000000) :
    ∀ W2, Lies [⟨q2, (vs.map Vote.cells).flatten, 81, c2 * 132⟩, ⟨q1, Bs D.dCut.dHeads, 50, c1 * 32⟩] W2 → CertIs W2 (ownE C q1 c1 q2 c2) D := fun W2 hl => by
  have a2 : Acc ⟨some ⟨q2, 0, none⟩, C.fVotes.n, c2⟩ [⟨q2, (vs.map Vote.cells).flatten, 81, c2 * 132⟩] (vs.map Vote.cells).flatten 81 C.fVotes.n 132 := Acc.some h2 hv.flat
  exact ⟨ownE_ok h.ok _ _ _ _, ownC_is h.fCut h1 n1 W2 (hl.sub (by intro b hb; rw [List.mem_singleton.1 hb]; exact List.mem_cons_of_mem _ List.mem_cons_self)),
    ⟨vs, acc_seq a2 (hl.sub (by intro b hb; rw [List.mem_singleton.1 hb]; exact List.mem_cons_self)) hv.nr hv.nd hv.len n2 fun i r d hr hd => (by
      have := hv.is i r d hr hd
      exact ⟨this.ok, this.eq, this.wf⟩)⟩⟩

theorem kit_own_certs (s : Sl) (ds : List DCert) (hn : s.n ≤ 1000) (hsm : ∀ d ∈ ds, d.dCut.dHeads.length ≤ 500000 ∧ d.dVotes.length ≤ 500000) : Meets Tryz.prog 39 [s.v] [] (fun W => CertsAt W s ds) (fun v out => ∃ sl bl bl2 rs, v = sl.v ∧ out = bl ++ bl2 ∧ OwnSeq Cert.cells 35 CertIs 55 sl bl bl2 rs ds s.n) := by
 intro W hW
 obtain ⟨rs, hs⟩ := hW
 have hnd := hs.nd
 refine Ag Tryz.func39 J 32 Tryz.ntmps39 J (G17 ?_)
 refine .loop (ι := Nat × Sl × List Blk × List Blk × List Cert) (fun p => ⟨[(0, s.v), (3, p.2.1.v), (4, i64 (p.1 : Int))], (p.2.2.1 ++ (p.2.2.2.1 ++ []))⟩) (fun p => p.1 ≤ s.n ∧ OwnSeq Cert.cells 35 CertIs 55 p.2.1 p.2.2.1 p.2.2.2.1 p.2.2.2.2 (ds.take p.1) p.1) (fun p => s.n - p.1) ((0, Sl.nil, [], [], [])) ?_ ?_ ?_
 · exact ⟨Nat.zero_le _, OwnSeq.none⟩
 · exact Af (wk1 rfl (wk1 rfl (wk1 rfl wk0))) (Ab (by repeat (exact sg_end)) (Ab (by repeat (exact sg_end)) Ae))
 rintro p ⟨hk, hos⟩
 refine G9 ?_
 refine .condP J (fun hc0 => ?_) (fun hc0 => ?_)
 ·
  have hk2 : p.1 < s.n := by omega
  obtain ⟨b, o, r, d, hsp, hr, hd, his, hlen, hsee⟩ := hs.at dE hk2
  obtain ⟨vs, hvs⟩ := his.fVotes
  have hs1 := (hsm d (List.mem_of_getElem? hd)).1
  have hs2 := (hsm d (List.mem_of_getElem? hd)).2
  rw [his.fCut.fHeads.len] at hs1
  rw [hvs.nd] at hs2
  refine G8 ?_
  refine .idxSlP 35 J J J hsp J Y23.h Sz55 p.1 J oM (.loadEN r.cells J J J Y55.h J Sz55 sP hlen hsee (.alloc (cs := Cert.zero.cells) J Cert.zr J ?_))
  intro n5 hn5 hf5
  refine .sA J J J J (Cert.isCell (by exact his.ok)) Sz55 (Cert.length (by exact his.ok)) Z0 (Cert.length (by exact Cert.zero_ok)) zU ?_
  refine G3 ?_
  refine .draw [(0, 0), (0, 1), (1, 2), (0, 5), (1, 6), (3, 3), (0, 8), (0, 9), (2, 4), (4, 7), (4, 10), (0, 11), (4, 12)] Ba zK (G2 ?_)
  refine .load1 J J J Y51.h J Z0 (Cert.see_fCut his.ok 33 _ (Cut.get_fHeads his.ok.o_fCut)) ?_
  refine G1 ?_
  refine .load1 J J J Y24.h J Z0 (by exact Cert.get_fVotes (by exact his.ok)) ?_
  refine .call J J J J Body124 (kit_names r.fCut.fHeads d.dCut.dHeads (by rw [← his.fCut.fHeads.len]; exact (hsm d (List.mem_of_getElem? hd)).1)) (FreshRow.loose _ _ _ _) (fun w h => rows_ext h J his.fCut.fHeads) ?_
  rintro v18 out18 ⟨q1, c1, rfl, hq1, rfl⟩
  refine G2 ?_
  refine .mkRow2 (z := agg Vote.zero.cells) [] [] rfl J Y24.h Sz81 Vote.zr J J (by intro v hv; cases hv) dE J ?_
  intro q20
  refine .appendSl (z := agg Vote.zero.cells) (by' := 160) ((vs.map Vote.cells).flatten) J J J J J Y24.h Y24.h Sz81 Zr81 (by unfold By; kernel_rfl) J (fun w h => Ao h J hvs.see) (fun e => by have := hvs.nil e; have := hvs.cap; omega) (votes_cell (seq_votes hvs)) rM J J oM oM oM hvs.flat ?_
  intro q2 c2 hq2
  rw [Nat.zero_add r.fVotes.n]
  have hoi := ownE_is (q1 := q1) (q2 := q2) his hvs hq1 (show r.fVotes.n ≤ c2 by omega) oM oM
  have hok2 := ownE_ok his.ok q1 c1 q2 c2
  refine .s1 J J J J J Sz51 Z2 (by rw [Cert.length his.ok]; decide) (Cert.setS_heads his.ok _ _ _) (by exact upd2) ?_
  refine G1 ?_
  refine .s1 J J J J J Sz24 Z2 (by rw [Cert.length (by exact ⟨ownC_ok his.ok.o_fCut _ _⟩)]; decide) (by exact Cert.setS_fVotes (by exact ⟨ownC_ok his.ok.o_fCut _ _⟩) _ _ _) (by exact upd2) ?_
  refine G5 ?_
  refine .mkRow (z := agg Cert.zero.cells) [agg (ownE r q1 c1 q2 c2).cells] (ownE r q1 c1 q2 c2).cells J J J Y23.h Sz55 Cert.zr J J (by intro v hv; rw [List.mem_singleton.1 hv]; exact Cert.length hok2) dE (by simp [Value.cells]) ?_
  intro q17
  refine .appendAcc (z := agg Cert.zero.cells) (by' := 88) ((ownE r q1 c1 q2 c2).cells) J J J J J Y23.h Y23.h Sz55 Zr55 (by unfold By; kernel_rfl) J hos.acc sG (fun w h => SeesP.of (Aj h Z0)) (fun e => by cases e) (Cert.isCell hok2) oM oM (by rw [Cert.length hok2]) ?_
  intro s18 bl18 hac18
  refine G10 ?_
  exact ⟨(p.1 + 1, s18, bl18, _, p.2.2.2.2 ++ [ownE r q1 c1 q2 c2]), ⟨by simp only []; omega, by simp only [take_snoc hd]; exact hos.snoc hac18 (Cert.length hok2) hoi⟩, by simp only []; omega, Af (wk1 rfl (wk1 rfl (wk1 rfl wk0))) (Ab sG (pm_in2 (Ac rM (Ac rM (Ab sG Ae)))))⟩
 have hpe : p.1 = s.n := by omega
 refine G13 ?_
 refine Ah (out := (p.2.2.1 ++ (p.2.2.2.1 ++ []))) (Ad J J) (Ab sG (Ab sG Ae)) ?_
 refine ⟨p.2.1, p.2.2.1, p.2.2.2.1, p.2.2.2.2, rfl, by simp, ?_⟩
 rw [hpe, List.take_of_length_le oM] at hos
 exact hos

def OwnedMsg (D : DMsg) (v : Value) (out : List Blk) : Prop := ∃ m : Msg, m.ok ∧ v = agg m.cells ∧ ∀ W2, Lies out W2 → MsgIs W2 m D
theorem no_lie {n : Nat} {v : Value} {T : TypeId} {W : World} (h : Lies [⟨n, [v], T, 0⟩] W) : False := by
  obtain ⟨full, fr, hb⟩ := h _ (List.mem_singleton.2 rfl)
  have h1 := hb.pre.length_le
  have h2 := hb.size
  simp at h1
  simp only at h2
  omega
theorem OwnedMsg.loose (D : DMsg) : Loose (OwnedMsg D) := fun l hl => by
  obtain ⟨n, _, hn⟩ := Ch 0 l
  exact ⟨agg Msg.zero.cells, [⟨n, [undef], 0, 0⟩], ⟨Msg.zero, by exact Msg.zero_ok, rfl, fun W2 h => (no_lie h).elim⟩, by
    rw [List.map_append, List.nodup_append]
    refine ⟨by simp, hl, fun i hi j hj => ?_⟩
    obtain ⟨b, hb, rfl⟩ := List.mem_map.1 hj
    simp at hi
    subst hi
    exact fun e => hn b hb e.symm⟩
structure LightIs (D : DMsg) : Prop where
  heads : D.dHeads.length ≤ 40
  want : D.dWant.length ≤ 40
  votes : D.dVotes.length ≤ 20
  nB : D.dBlocks.length ≤ 10
  nC : D.dCuts.length ≤ 6
  nE : D.dCerts.length ≤ 4
  blocks : ∀ d ∈ D.dBlocks, d.ls.length ≤ 500000 ∧ d.ds.length ≤ 500000
  cuts : ∀ d ∈ D.dCuts, d.dHeads.length ≤ 500000
  certs : ∀ d ∈ D.dCerts, d.dCut.dHeads.length ≤ 500000 ∧ d.dVotes.length ≤ 500000

theorem rows_none {W : World} {m : Nat} : RowsAt W Sl.nil m [] := ⟨rfl, fun l h => (by cases h), Nat.le_refl _, SeesP.nil, by decide, fun _ => rfl⟩

def DCut.zero : DCut := ⟨0, List.replicate 32 0, []⟩
def cutP (xs : List UInt8) : DCut × Nat × Int :=
  let r1 := A5 xs 0 0
  let r2 := Cf xs r1.2.1 r1.2.2
  let r3 := A5 xs r2.2.1 r2.2.2
  let r4 := Av xs (min r3.1.toNat 33) r3.2.1 r3.2.2
  (⟨r1.1, r2.1, r4.1⟩, r4.2)
def Bk (xs : List UInt8) : DCut × Int :=
  if endR xs.length (cutP xs).2.1 (cutP xs).2.2 = 0 ∧ (cutP xs).1.check = 0 then ((cutP xs).1, 0) else (DCut.zero, 4)
theorem cutz_is (W : World) : CutIs W Cut.zero DCut.zero := ⟨Cut.zero_ok, rfl, rfl, rows_none⟩
def CutRead (xs : List UInt8) (v : Value) (out : List Blk) : Prop := ∃ C : Cut, C.ok ∧ v = .tuple #[agg C.cells, i64 (Bk xs).2] ∧ ∀ W2, Lies out W2 → CutIs W2 C (Bk xs).1
theorem cut_bad {xs : List UInt8} {out : List Blk} (h : ¬ (endR xs.length (cutP xs).2.1 (cutP xs).2.2 = 0 ∧ (cutP xs).1.check = 0)) : CutRead xs (.tuple #[agg Cut.zero.cells, i64 4]) out := by
  refine ⟨Cut.zero, Cut.zero_ok, ?_, fun W2 _ => ?_⟩ <;> rw [show Bk xs = (DCut.zero, 4) from if_neg h]
  exact cutz_is W2
theorem cut_ok {xs : List UInt8} {out : List Blk} {C : Cut} (h : endR xs.length (cutP xs).2.1 (cutP xs).2.2 = 0 ∧ (cutP xs).1.check = 0) (hok : C.ok) (hC : ∀ W2, Lies out W2 → CutIs W2 C (cutP xs).1) : CutRead xs (.tuple #[agg C.cells, i64 0]) out := by
  refine ⟨C, hok, ?_, fun W2 h2 => ?_⟩ <;> rw [show Bk xs = ((cutP xs).1, 0) from if_pos h]
  exact hC W2 h2

theorem cut_r1_ok (b c : Nat) (X : Cut) (hX : X.ok) (hbc : b ≠ c) : MeetsD Tryz.prog 175 [ptr b 0, ptr c 0] [b, c] (fun W => BlkOk W ⟨b, [i64 0], 32, 1⟩ ∧ BlkOk W ⟨c, (X).cells, 53, 34⟩) (fun v out => v = .tuple #[] ∧ out = [⟨b, [i64 0], 32, 1⟩, ⟨c, (X).cells, 53, 34⟩]) := by
 intro W hW
 intro u
 refine callsD_of (hp0 := [⟨b, [i64 0], 32, 1⟩, ⟨c, (X).cells, 53, 34⟩]) Tryz.func175 J 5 Tryz.ntmps175 J (HRep.two hW.1 hW.2 hbc) (G3 ?_)
 refine .nei J J J J (show (!decide _) = false from congrArg not (decide_eq_true dE)) (G2 ?_)
 refine .cond_f J (rfl) (G2 ?_)
 refine Ah (out := (⟨b, [i64 0], 32, 1⟩ :: (⟨c, (X).cells, 53, 34⟩ :: []))) (res_none J) (Ac rM (Ac rM Ae)) ?_
 exact ⟨rfl, rfl⟩

theorem cut_r1_bad (b c : Nat) (X : Cut) (hX : X.ok) (hbc : b ≠ c) : MeetsD Tryz.prog 175 [ptr b 0, ptr c 0] [b, c] (fun W => BlkOk W ⟨b, [i64 4], 32, 1⟩ ∧ BlkOk W ⟨c, (X).cells, 53, 34⟩) (fun v out => v = .tuple #[] ∧ out = [⟨b, [i64 4], 32, 1⟩, ⟨c, (Cut.zero).cells, 53, 34⟩]) := by
 intro W hW
 intro u
 refine callsD_of (hp0 := [⟨b, [i64 4], 32, 1⟩, ⟨c, (X).cells, 53, 34⟩]) Tryz.func175 J 5 Tryz.ntmps175 J (HRep.two hW.1 hW.2 hbc) (G3 ?_)
 refine .nei J J J J (show (!decide _) = true from congrArg not (decide_eq_false dE)) (G2 ?_)
 refine .cond_t J (rfl) (.region (.build (cs := Cut.zero.cells) J J J (fun w => by kernel_rfl) ?_))
 refine G3 ?_
 refine Ah (out := (⟨b, [i64 4], 32, 1⟩ :: (⟨c, (Cut.zero).cells, 53, 34⟩ :: []))) (res_none J) (Ac rM (Ac rM Ae)) ?_
 exact ⟨rfl, rfl⟩

theorem cut_read (a : Option Addr) (n c : Nat) (xs : List UInt8) (hl : xs.length = n) (hp : a = none → n = 0) (hn : n ≤ 90000) : Meets Tryz.prog 79 [.slice a n c] [] (fun W => SeesP W a (Aa xs)) (CutRead xs) := by
 intro W hW
 obtain ⟨x1, r1, h1⟩ : ∃ l r, A5 xs 0 0 = (l, r) := ⟨_, _, rfl⟩
 obtain ⟨a1, e1⟩ := r1
 obtain ⟨l2, r2, h2⟩ : ∃ l r, Cf xs a1 e1 = (l, r) := ⟨_, _, rfl⟩
 obtain ⟨a2, e2⟩ := r2
 obtain ⟨x3, r3, h3⟩ : ∃ l r, A5 xs a2 e2 = (l, r) := ⟨_, _, rfl⟩
 obtain ⟨a3, e3⟩ := r3
 obtain ⟨ls, r4, h4⟩ : ∃ l r, Av xs (min x3.toNat 33) a3 e3 = (l, r) := ⟨_, _, rfl⟩
 obtain ⟨a4, e4⟩ := r4
 have hcp : cutP xs = (⟨x1, l2, ls⟩, a4, e4) := by simp only [cutP, h1, h2, h3, h4]
 have hd1 := Bm h1 hl (Nat.zero_le _)
 have hd2 := Cc h2 hl hd1
 have hd3 := Bm h3 hl hd2.1
 have hd4 := digsR_at (e := e3) hl hd3 (min x3.toNat 33)
 rw [h4] at hd4
 have ok1 : ({ Cut.zero with fHeight := x1 } : Cut).ok := ⟨rfl⟩
 have ok2 : ({ Cut.zero with fHeight := x1, fPrev := l2 } : Cut).ok := ⟨hd2.2⟩
 have okX : ∀ s, ({ Cut.zero with fHeight := x1, fPrev := l2, fHeads := s } : Cut).ok := fun s => ⟨hd2.2⟩
 refine calls_defer Tryz.func79 J 37 Tryz.ntmps79 J (.region (.alloc (cs := Cut.zero.cells) J Cut.zr J ?_))
 intro n2 hn2 hf2
 refine .alloc (cs := [i64 0]) J Zr32 J ?_
 intro n3 hn3 hf3
 refine G4 ?_
 refine ⟨_, _, rfl, Body175, ?_⟩
 refine G3 ?_
 refine .call4 J J J J J Body91 (oct_Read a n c xs hl hp hn) (fun w h => Ao h J hW) ?_
 rintro v7 out7 ⟨n7, q7, cp7, rfl, hcp7, rfl⟩
 refine .nd (fun hnd => ?_)
 have hne : q7 ≠ n7 := by intro e; simp [RB, e] at hnd
 have hn32 : n3 ≠ n2 := by intro e; simp [RB, e] at hnd
 clear hnd
 refine G6 ?_
 refine .callL (L := [RB n7 q7 n cp7 0 0]) J J J J J Body94 (rd_NumberE n7 q7 n cp7 0 0 xs hl (Nat.zero_le _) hcp7 oM x1 a1 e1 h1) (Ac rM Ae) (Ay J) (fun w h => ⟨Ak h Z0, Aj h Z1, hne⟩) ?_
 rintro v9 out9 ⟨rfl, rfl⟩
 refine G1 ?_
 refine .callL (L := [RB n7 q7 n cp7 a1 e1]) J J J J J Body173 (rd_DigestE n7 q7 n cp7 a1 e1 xs hl hd1 hcp7 oM l2 a2 e2 h2) (Ac rM Ae) (Ay J) (fun w h => ⟨Ak h Z0, Aj h Z1, hne⟩) ?_
 rintro v9 out9 ⟨rfl, rfl⟩
 refine G3 ?_
 refine .storeN (Aa _) J J J J J zE Sz50 (by simp [hd2.2]) Z3 (by rw [Cut.length zA]; simp [hd2.2]) (Cut.upd_fPrev zA _ (by simp [hd2.2])) (by exact upd3) ?_
 refine G6 ?_
 refine .callL (L := [RB n7 q7 n cp7 a2 e2]) J J J J J Body94 (rd_NumberE n7 q7 n cp7 a2 e2 xs hl hd2.1 hcp7 oM x3 a3 e3 h3) (Ac rM Ae) (Ay J) (fun w h => ⟨Ak h Z0, Aj h Z1, hne⟩) ?_
 rintro v9 out9 ⟨rfl, rfl⟩
 refine .min2 J J J J (show Value.int .u64 (if (33 : Int) < (x3.toNat : Int) then 33 else (x3.toNat : Int)) = .int .u64 ((min x3.toNat 33 : Nat) : Int) from by congr 1; split <;> omega) ?_
 refine G4 ?_
 refine .loop (ι := Nat × Sl × List Blk) (fun p => ⟨[(2, ptr n2 0), (3, ptr n3 0), (4, ptr n7 0), (16, .int .u64 ((min x3.toNat 33 : Nat) : Int)), (17, u64 (UInt64.ofNat p.1))], (RB n7 q7 n cp7 (Av xs p.1 a3 e3).2.1 (Av xs p.1 a3 e3).2.2 :: (⟨q7, Aa xs, 5, cp7 * 1⟩ :: (⟨n3, [i64 0], 32, 1⟩ :: (⟨n2, (({ Cut.zero with fHeight := x1, fPrev := l2, fHeads := p.2.1 } : Cut)).cells, 53, 34⟩ :: (p.2.2 ++ [])))))⟩) (fun p => p.1 ≤ min x3.toNat 33 ∧ Acc p.2.1 p.2.2 (Bs (Av xs p.1 a3 e3).1) 50 p.1 32) (fun p => min x3.toNat 33 - p.1) ((0, Sl.nil, [])) ?_ ?_ ?_
 · exact ⟨Nat.zero_le _, Acc.none⟩
 · exact Af (wk1 rfl (wk1 rfl (wk1 rfl (wk1 rfl (wk1 rfl wk0))))) (Ac rM (Ac rM (Ac rM (Ac rM (Bh Ae)))))
 rintro p ⟨hp1, hac⟩
 have hD := digsR_at (e := e3) hl hd3 p.1
 obtain ⟨l5, r5, hd5⟩ : ∃ l r, Cf xs (Av xs p.1 a3 e3).2.1 (Av xs p.1 a3 e3).2.2 = (l, r) := ⟨_, _, rfl⟩
 obtain ⟨a5, e5⟩ := r5
 have hdl := Cc hd5 hl hD.1
 have hs := digsR_succ hd5
 have hj64 : (UInt64.ofNat p.1).toNat = p.1 := Bc oM
 refine G6 ?_
 refine .condP J (fun hc0 => ?_) (fun hc0 => ?_)
 ·
  have hp3 : p.1 < min x3.toNat 33 := by omega
  refine G4 ?_
  refine .drawK (sp_v (sp_v (sp_v (sp_k (sp_x sp_n))))) J [(0, 0), (0, 1), (0, 2), (4, 3), (2, 4), (4, 5), (0, 6)] [(4, 7)] Ba zK zK (G1 ?_)
  refine .kload1 J J J Y51.h J Z0 (by exact Cut.get_fHeads (by exact okX _)) ?_
  refine G1 ?_
  refine .callL (L := [RB n7 q7 n cp7 (Av xs p.1 a3 e3).2.1 (Av xs p.1 a3 e3).2.2]) J J J J J Body173 (rd_DigestE n7 q7 n cp7 (Av xs p.1 a3 e3).2.1 (Av xs p.1 a3 e3).2.2 xs hl hD.1 hcp7 oM l5 a5 e5 hd5) (Ac rM Ae) (Ay J) (fun w h => ⟨Ak h Z0, Aj h Z1, hne⟩) ?_
  rintro v9 out9 ⟨rfl, rfl⟩
  refine .mkRow2 (z := agg (Aa (List.replicate 32 0))) [agg (Aa l5)] (Aa l5) J J Y51.h Sz50 Zr50 J J (by intro v hv; rw [List.mem_singleton.1 hv]; simp [Value.cells, hdl.2]) dE (by simp [Value.cells]) ?_
  intro q23
  refine .appendAcc (z := agg (Aa (List.replicate 32 0))) (by' := 32) (Aa l5) J J J J J Y51.h Y51.h Sz50 Zr50 (by unfold By; kernel_rfl) J hac sG (fun w h => SeesP.of (Aj h Z0)) (fun e => by cases e) (As _) oM oM (by simp [Aa, hdl.2]) ?_
  intro s24 bl24 hac24
  refine G2 ?_
  refine .s1 J J J J J Sz51 Z0 (by rw [Cut.length (by exact okX _)]; decide) (by exact Cut.set_fHeads (by exact okX _) _) zU ?_
  refine G4 ?_
  refine .add_u64 J J J (show Al _ _ = some (u64 1) from rfl) (G3 ?_)
  refine ⟨(p.1 + 1, s24, bl24), ⟨by simp only []; omega, ?_⟩, by simp only []; omega, Af (wk1 J (wk1 J (wk1 J (wk1 J (wk1 (congrArg (fun z => some (u64 z)) (ofNat_step _)) wk0))))) (pm_consE rM (by simp only [hs]) J (Ac rM (Ac rM (Ac rM (Ab sG Ae)))))⟩
  simp only [hs]
  rw [flatB_append]
  simpa [Bs] using hac24
 have hp3 : p.1 = min x3.toNat 33 := by omega
 rw [hp3, h4] at hac
 rw [hp3, h4]
 refine G9 ?_
 refine .cV J J J J Body105 (rd_End n7 q7 n cp7 a4 e4 hd4.1 oM) (fun w h => Ak h Z0) ?_
 refine two (fun r hr k => Tr.nei J J J J hr k) (fun hs8_20 => ?_) (fun hs8_20 => ?_)
 ·
  have hs8_2 := nd_t hs8_20
  refine G7 ?_
  refine .cond_t J J (G4 ?_)
  refine .s1 J J J J J Sz32 Z2 sP (by rfl) (by exact upd2) ?_
  refine G4 ?_
  refine enD_r ?_
  refine ⟨[n3, n2], [⟨n3, [i64 4], 32, 1⟩, ⟨n2, (({ Cut.zero with fHeight := x1, fPrev := l2, fHeads := p.2.1 } : Cut)).cells, 53, 34⟩], _, _, _, (Ac rM (Ac rM Ae)), Ay J, cut_r1_bad n3 n2 (({ Cut.zero with fHeight := x1, fPrev := l2, fHeads := p.2.1 } : Cut)) (okX _) hn32, (fun w h => ⟨Ak h Z2, Ak h Z3⟩), fun v2 out2 h => ?_⟩
  obtain ⟨rfl, rfl⟩ := h
  refine Ah (out := []) (res_cell_cell J J J Y53.h J Sz53 Z1 (Cut.length (by exact Cut.zero_ok)) Y32.h J Z0) Ae ?_
  exact cut_bad (by rw [hcp, hl]; exact fun h => hs8_2 h.1)
 have hs8_2 := nd_f hs8_20
 refine G2 ?_
 refine .cV J J J J Body87 (cut_check ({ Cut.zero with fHeight := x1, fPrev := l2, fHeads := p.2.1 } : Cut) ⟨x1, l2, ls⟩) (fun w h => ⟨okX _, rfl, rfl, acc_rows hac (Lies.of h (by repeat (first | exact Aq | refine in_there ?_))) hd4.2.1 (by rw [hd4.2.2]) oM⟩) ?_
 refine G4 ?_
 refine .condNP J (fun hc1 => ?_) (fun hc1 => ?_)
 ·
  refine G4 ?_
  refine .s1 J J J J J Sz32 Z2 sP (by rfl) (by exact upd2) ?_
  refine G4 ?_
  refine enD_r ?_
  refine ⟨[n3, n2], [⟨n3, [i64 4], 32, 1⟩, ⟨n2, (({ Cut.zero with fHeight := x1, fPrev := l2, fHeads := p.2.1 } : Cut)).cells, 53, 34⟩], _, _, _, (Ac rM (Ac rM Ae)), Ay J, cut_r1_bad n3 n2 (({ Cut.zero with fHeight := x1, fPrev := l2, fHeads := p.2.1 } : Cut)) (okX _) hn32, (fun w h => ⟨Ak h Z2, Ak h Z3⟩), fun v2 out2 h => ?_⟩
  obtain ⟨rfl, rfl⟩ := h
  refine Ah (out := []) (res_cell_cell J J J Y53.h J Sz53 Z1 (Cut.length (by exact Cut.zero_ok)) Y32.h J Z0) Ae ?_
  exact cut_bad (by rw [hcp, hl]; exact fun h => hc1 h.2)
 refine G6 ?_
 refine .s1 J J J J J Sz32 Z2 sP (by rfl) (by exact upd2) ?_
 refine G3 ?_
 refine enD_r ?_
 refine ⟨[n3, n2], [⟨n3, [i64 0], 32, 1⟩, ⟨n2, (({ Cut.zero with fHeight := x1, fPrev := l2, fHeads := p.2.1 } : Cut)).cells, 53, 34⟩], _, _, _, (Ac rM (Ac rM Ae)), Ay J, cut_r1_ok n3 n2 (({ Cut.zero with fHeight := x1, fPrev := l2, fHeads := p.2.1 } : Cut)) (okX _) hn32, (fun w h => ⟨Ak h Z2, Ak h Z3⟩), fun v2 out2 h => ?_⟩
 obtain ⟨rfl, rfl⟩ := h
 refine Ah (out := (p.2.2 ++ [])) (res_cell_cell J J J Y53.h J Sz53 Z1 (Cut.length (by exact okX _)) Y32.h J Z0) (Ab sG Ae) ?_
 exact cut_ok (by rw [hcp, hl]; exact ⟨hs8_2, hc1⟩) (okX _) (fun W2 h2 => by
  rw [hcp]
  exact ⟨okX _, rfl, rfl, acc_rows hac (h2.sub Aq) hd4.2.1 (by rw [hd4.2.2]) oM⟩)

theorem Acc.hrep {P : Program} {W : World} {N : Nat} {s : Sl} {bl : List Blk} {cells : List Value} {E : TypeId} {n size : Nat} (h : Hw.Acc s bl cells E n size) (hl : Lies bl W) : HRep ⟨P, W, N, bl.map (·.n), [], []⟩ bl W :=
  ⟨hl, by rcases h with ⟨_, rfl, _⟩ | ⟨q, c, _, _, _, rfl⟩ <;> simp, fun b hb => .inr (List.mem_map.2 ⟨b, hb, rfl⟩), Keeps.refl _ _, fun _ h => (by cases h), fun _ _ _ h => (by cases h)⟩
theorem sees_kok {w : World} {b o : Nat} {cs l : List Value} {T : TypeId} {m : Nat} (hb : BlkOk w ⟨b, cs, T, m⟩) (hs : ∀ (j : Nat) (v : Value), l[j]? = some v → cs[o + j]? = some v) : B8 w b o l := fun j v hj => hb.cell (o := o + j) (hs j v hj)
theorem sp_e {X A K : List Blk} (h : ([] : List Blk).Perm (A ++ K)) : X.Perm ((X ++ A) ++ K) := by rw [List.append_assoc]; exact (List.Perm.append_left X h).symm.symm.trans (.refl _) |> fun k => (by rw [List.append_nil] at k; exact k)
theorem seesP_na {C : Cx} {hp : List Blk} {w : World} {p : Option Addr} {cs : List Value} (h : HRep C hp w) (hs : SeesP C.W0 p cs) (hna : ∀ a, p = some a → a.block ∉ C.lent) : SeesP w p cs := fun j v hj => by
  obtain ⟨b, o, e, hc⟩ := hs j v hj
  exact ⟨b, o, e, h.keeps.cell (show b ∉ C.lent from hna ⟨b, o, none⟩ e) hc⟩
theorem na_kb {C : Cx} {hp bl : List Blk} {w : World} {k : Blk} {o : Nat} (h : HRep C hp w) (hk : k ∈ C.kb) (hb : ∀ b ∈ bl, b ∈ hp) : ∀ a, (some ⟨k.n, o, none⟩ : Option Addr) = some a → a.block ∉ bl.map (·.n) := fun a e hm => by
  cases e
  obtain ⟨b, hb2, e2⟩ := List.mem_map.1 hm
  exact h.kd b (hb b hb2) k hk e2
def voteT (V : Vote) : List UInt8 := A6 V.fHeight ++ A6 V.fRound ++ A6 (Hw.Cg V.fPhase).toUInt64 ++ V.fValue ++ A6 V.fProof ++ V.fVoter
def A0 (V : Vote) : List UInt8 := if Ap V = 0 then voteT V ++ V.fSig else []
def voteN (V : Vote) : Nat := szN V.fHeight.toNat + szN V.fRound.toNat + szN (Hw.Cg V.fPhase).toUInt64.toNat + 32 + szN V.fProof.toNat + 32
theorem voteT_length {V : Vote} (h : V.ok) : (voteT V).length = voteN V := by simp only [voteT, voteN, List.length_append, Ax, h.l_fValue, h.l_fVoter]
theorem voteN_le (V : Vote) : voteN V ≤ 100 := by
  have h1 := A2 V.fHeight.toNat
  have h2 := A2 V.fRound.toNat
  have h3 := A2 (Hw.Cg V.fPhase).toUInt64.toNat
  have h4 := A2 V.fProof.toNat
  unfold voteN
  omega

theorem text_number (s : Sl) (bl : List Blk) (l : List UInt8) (n : Nat) (hac : Hw.Acc s bl (Aa l) 5 n 1) (hn : n ≤ 1000) (x : UInt64) : Meets Tryz.prog 234 [s.v, u64 x] (bl.map (·.n)) (fun W => Lies bl W ∧ True) (fun v out => ∃ s', v = s'.v ∧ Hw.Acc s' out (Aa (l ++ A6 x)) 5 (n + szN x.toNat) 1) := by
 intro W hW
 have hz := A2 x.toNat
 refine A3 (hp0 := bl) Tryz.func234 J 9 Tryz.ntmps234 J (Acc.hrep hac hW.1) (G9 ?_)
 refine .call4 J J J J J Body106 (oct_Number none 0 0 [] x J (fun _ => rfl) oM) (fun _ _ => SeesP.nil) ?_
 rintro v7 out7 ⟨q7, c7, rfl, hc7, rfl⟩
 simp only [Nat.zero_add, List.nil_append, List.cons_append]
 refine .appendAcc (z := u8 0) (by' := 1) (Aa (A6 x)) J J J J J Tryz.underlying234 Y58.h Sz5 Zr5 (by unfold By; kernel_rfl) J hac (by repeat (first | exact sg_end | apply sg_there)) (fun w h => SeesP.of (Aj h Z0)) (fun e => by cases e) (As _) oM oM (by simp [Ax]) ?_
 intro s8 bl8 hac8
 refine G5 ?_
 refine Ah (out := (bl8 ++ [])) (Ad J J) (Ab sG Ae) ?_
 exact ⟨s8, rfl, by rw [Bx, List.append_nil]; exact hac8⟩

theorem text_raw (s : Sl) (bl : List Blk) (l : List UInt8) (n : Nat) (hac : Hw.Acc s bl (Aa l) 5 n 1) (hn : n ≤ 1000) (p : Option Addr) (m c : Nat) (ys : List UInt8) (hy : ys.length = m) (hm : m ≤ 1000) (hpn : p = none → m = 0) : Meets Tryz.prog 203 [s.v, .slice p m c] (bl.map (·.n)) (fun W => Lies bl W ∧ SeesP W p (Aa ys) ∧ ∀ a, p = some a → a.block ∉ bl.map (·.n)) (fun v out => ∃ s', v = s'.v ∧ Hw.Acc s' out (Aa (l ++ ys)) 5 (n + m) 1) := by
 intro W hW
 refine A3 (hp0 := bl) Tryz.func203 J 8 Tryz.ntmps203 J (Acc.hrep hac hW.1) (G9 ?_)
 refine .appendAcc (z := u8 0) (by' := 1) (Aa ys) J J J J J Tryz.underlying234 Y58.h Sz5 Zr5 (by unfold By; kernel_rfl) J hac (by repeat (exact sg_end)) (fun w h => seesP_na h hW.2.1 hW.2.2) hpn (As _) oM oM (by rw [Aa, List.length_map, hy, Nat.mul_one]) ?_
 intro s7 bl7 hac7
 refine G5 ?_
 refine Ah (out := (bl7 ++ [])) (Ad J J) (Ab sG Ae) ?_
 exact ⟨s7, rfl, by rw [Bx, List.append_nil]; exact hac7⟩

theorem text_vote (s : Sl) (bl : List Blk) (l : List UInt8) (n : Nat) (hac : Hw.Acc s bl (Aa l) 5 n 1) (hn : n ≤ 100) (V : Vote) (hV : V.ok) : Meets Tryz.prog 202 [s.v, agg V.cells] (bl.map (·.n)) (fun W => Lies bl W) (fun v out => ∃ s', v = s'.v ∧ Hw.Acc s' out (Aa (l ++ voteT V)) 5 (n + voteN V) 1) := by
 intro W hW
 have z1 := A2 V.fHeight.toNat
 have z2 := A2 V.fRound.toNat
 have z3 := A2 (Hw.Cg V.fPhase).toUInt64.toNat
 have z4 := A2 V.fProof.toNat
 refine A3 (hp0 := bl) Tryz.func202 J 27 Tryz.ntmps202 J (Acc.hrep hac hW) (G3 ?_)
 intro n3 hn3 hf3
 refine G3 ?_
 refine .join (ι := Sl × List Blk) (fun p => ⟨[(0, p.1.v), (3, ptr n3 0)], (p.2 ++ (⟨n3, V.cells, 81, V.cells.length⟩ :: []))⟩) (fun p => Hw.Acc p.1 p.2 (Aa (l ++ A6 V.fHeight ++ A6 V.fRound ++ A6 (Hw.Cg V.fPhase).toUInt64)) 5 (n + szN V.fHeight.toNat + szN V.fRound.toNat + szN (Hw.Cg V.fPhase).toUInt64.toNat) 1) ?_ ?_
 ·
  refine .withK (sp_k (sp_e sp_n)) J (.draw [(0, 0), (0, 1), (0, 2), (0, 4), (0, 5), (0, 7), (0, 8), (0, 9), (0, 10), (4, 3), (4, 6), (4, 11), (0, 12)] Ba zK (G2 ?_))
  refine .kload1 J J J Y48.h J Z0 (by exact Vote.get_fHeight zA) ?_
  refine G1 ?_
  refine .kload1 J J J Y48.h J Z0 (by exact Vote.get_fRound zA) ?_
  refine G1 ?_
  refine .kload1 J J J Y3.h J Z0 (by exact Vote.get_fPhase zA) ?_
  refine G2 ?_
  refine .callL (L := bl) J J J J J Body234 (text_number s bl (l) (n) hac oM (V.fHeight)) sG (Ay J) (fun w h => ⟨Lies.of h (by repeat (exact Aq)), trivial⟩) ?_
  rintro v8 out8 ⟨s8, rfl, hac8⟩
  refine .callL (L := out8) J J J J J Body234 (text_number s8 out8 (l ++ A6 V.fHeight) (n + szN V.fHeight.toNat) hac8 oM (V.fRound)) sG (Ay J) (fun w h => ⟨Lies.of h (by repeat (exact Aq)), trivial⟩) ?_
  rintro v11 out11 ⟨s11, rfl, hac11⟩
  refine .callL (L := out11) J J J J J Body234 (text_number s11 out11 (l ++ A6 V.fHeight ++ A6 V.fRound) (n + szN V.fHeight.toNat + szN V.fRound.toNat) hac11 oM ((Hw.Cg V.fPhase).toUInt64)) sG (Ay J) (fun w h => ⟨Lies.of h (by repeat (exact Aq)), trivial⟩) ?_
  rintro v16 out16 ⟨s16, rfl, hac16⟩
  refine G3 ?_
  simp only [List.cons_append, List.nil_append, List.append_nil]
  exact ⟨(s16, out16), hac16, Af (wk1 rfl (wk1 rfl wk0)) (Ab sG (Ac rM Ae))⟩
 intro p hj
 have hap := hj
 refine .seq (.withK (sp_x (sp_k sp_n)) J (.draw [(0, 0), (0, 1), (0, 2), (0, 4), (0, 5), (0, 7), (0, 8), (4, 3), (4, 6), (4, 9), (0, 10)] Ba zK (G4 ?_)))
 refine .kload1 J J J Y48.h J Z0 (by exact Vote.get_fProof zA) ?_
 refine G2 ?_
 refine .callL (L := p.2) J J J J J Body203 (text_raw p.1 p.2 (l ++ A6 V.fHeight ++ A6 V.fRound ++ A6 (Hw.Cg V.fPhase).toUInt64) (n + szN V.fHeight.toNat + szN V.fRound.toNat + szN (Hw.Cg V.fPhase).toUInt64.toNat) hap oM (some ⟨n3, 0 + 3, none⟩) 32 32 V.fValue hV.l_fValue dE (fun e => by cases e)) sG (Ay J) (fun w h => ⟨Lies.of h (by repeat (exact Aq)), SeesP.of (sees_kok (h.kok _ List.mem_cons_self) (Vote.see_fValue hV)), na_kb h List.mem_cons_self (by repeat (exact Aq))⟩) ?_
 rintro v20 out20 ⟨s20, rfl, hac20⟩
 refine .callL (L := out20) J J J J J Body234 (text_number s20 out20 (l ++ A6 V.fHeight ++ A6 V.fRound ++ A6 (Hw.Cg V.fPhase).toUInt64 ++ V.fValue) (n + szN V.fHeight.toNat + szN V.fRound.toNat + szN (Hw.Cg V.fPhase).toUInt64.toNat + 32) hac20 oM (V.fProof)) sG (Ay J) (fun w h => ⟨Lies.of h (by repeat (exact Aq)), trivial⟩) ?_
 rintro v23 out23 ⟨s23, rfl, hac23⟩
 refine .callL (L := out23) J J J J J Body203 (text_raw s23 out23 (l ++ A6 V.fHeight ++ A6 V.fRound ++ A6 (Hw.Cg V.fPhase).toUInt64 ++ V.fValue ++ A6 V.fProof) (n + szN V.fHeight.toNat + szN V.fRound.toNat + szN (Hw.Cg V.fPhase).toUInt64.toNat + 32 + szN V.fProof.toNat) hac23 oM (some ⟨n3, 0 + 36, none⟩) 32 32 V.fVoter hV.l_fVoter dE (fun e => by cases e)) sG (Ay J) (fun w h => ⟨Lies.of h (by repeat (exact Aq)), SeesP.of (sees_kok (h.kok _ List.mem_cons_self) (Vote.see_fVoter hV)), na_kb h List.mem_cons_self (by repeat (exact Aq))⟩) ?_
 rintro v26 out26 ⟨s26, rfl, hac26⟩
 refine G5 ?_
 simp only [List.cons_append, List.nil_append, List.append_nil]
 refine Ah (out := (out26 ++ [])) (Ad J J) (Ab sG Ae) ?_
 refine ⟨s26, rfl, ?_⟩
 rw [List.append_nil, show l ++ voteT V = l ++ A6 V.fHeight ++ A6 V.fRound ++ A6 (Hw.Cg V.fPhase).toUInt64 ++ V.fValue ++ A6 V.fProof ++ V.fVoter by simp only [voteT, List.append_assoc], show n + voteN V = n + szN V.fHeight.toNat + szN V.fRound.toNat + szN (Hw.Cg V.fPhase).toUInt64.toNat + 32 + szN V.fProof.toNat + 32 by unfold voteN; omega]
 exact hac26
theorem vote_bytes (V : Vote) (hV : V.ok) : Meets Tryz.prog 114 [agg V.cells] [] (fun _ => True) (fun v out => ∃ s, v = .tuple #[s.v, i64 (Ap V)] ∧ Hw.Acc s out (Aa (A0 V)) 5 (A0 V).length 1) := by
 intro W hW
 have hvl := voteT_length hV
 have hvn := voteN_le V
 have hsl := hV.l_fSig
 refine Ag Tryz.func114 J 15 Tryz.ntmps114 J (G3 ?_)
 intro n1 hn1 hf1
 refine G8 ?_
 refine .cV J J J J Body85 (vote_check V hV) tV (G9 ?_)
 refine .condNP J (fun hc0 => ?_) (fun hc0 => ?_)
 ·
  refine G10 ?_
  refine Ah (out := []) (A9 J J J) Ae ?_
  exact ⟨Sl.nil, rfl, by rw [show A0 V = [] from if_neg hc0]; exact Acc.none⟩
 refine G3 ?_
 refine .withK (sp_k sp_n) J (.draw [(0, 0), (0, 2), (0, 3), (4, 1), (4, 4), (0, 5), (0, 6)] Ba zK (.kloadAll J J J Y81.h J Sz81 Z0 (Vote.length zA) ?_))
 refine G2 ?_
 refine .callL (L := []) J J J J J Body202 (text_vote Sl.nil [] [] 0 Acc.none dE V hV) (.refl _) (Ay J) (fun w h => fun b hb => (by cases hb)) ?_
 rintro v11 out11 ⟨s11, rfl, hac11⟩
 simp only [List.nil_append, Nat.zero_add] at hac11
 refine .callL (L := out11) J J J J J Body203 (text_raw s11 out11 (voteT V) (voteN V) hac11 oM (some ⟨n1, 0 + 68, none⟩) 64 64 V.fSig hV.l_fSig dE (fun e => by cases e)) sG (Ay J) (fun w h => ⟨Lies.of h (by repeat (exact Aq)), SeesP.of (sees_kok (h.kok _ List.mem_cons_self) (Vote.see_fSig hV)), na_kb h List.mem_cons_self (by repeat (exact Aq))⟩) ?_
 rintro v14 out14 ⟨s14, rfl, hac14⟩
 refine G6 ?_
 simp only [List.cons_append, List.nil_append, List.append_nil]
 refine Ah (out := (out14 ++ [])) (A9 J J J) (Ab sG Ae) ?_
 refine ⟨s14, by rw [show Ap V = 0 by omega], ?_⟩
 rw [show A0 V = voteT V ++ V.fSig from if_pos oM, List.append_nil, show (voteT V ++ V.fSig).length = voteN V + 64 by rw [List.length_append, hvl, hsl]]
 exact hac14
theorem upd_vsig {X : Vote} (h : X.ok) {l : List UInt8} (hl : l = [] ∨ l.length = 64) : upd X.cells 68 (Aa l) = ({ X with fSig := l ++ X.fSig.drop l.length } : Vote).cells := by
  rcases hl with rfl | hl
  · exact upd_nil _ _
  · rw [Vote.upd_fSig h l hl, hl, List.drop_of_length_le (by rw [h.l_fSig]; exact Nat.le_refl _), List.append_nil]
def voteP (xs : List UInt8) : Vote × Nat × Int :=
  let r1 := A5 xs 0 0
  let r2 := A5 xs r1.2.1 r1.2.2
  let r3 := A5 xs r2.2.1 r2.2.2
  let r4 := Cf xs r3.2.1 r3.2.2
  let r5 := A5 xs r4.2.1 r4.2.2
  let r6 := Cf xs r5.2.1 r5.2.2
  let r7 := takR xs 64 r6.2.1 r6.2.2
  (⟨r1.1, r2.1, ((min r3.1.toNat 4 : Nat) : Int), r4.1, r5.1, r6.1, r7.1 ++ (List.replicate 64 0).drop r7.1.length⟩, r7.2)
def A1 (xs : List UInt8) : Vote × Int :=
  if endR xs.length (voteP xs).2.1 (voteP xs).2.2 = 0 ∧ Ap (voteP xs).1 = 0 then ((voteP xs).1, 0) else (Vote.zero, 4)
theorem voteRd_bad {xs : List UInt8} (h : ¬ (endR xs.length (voteP xs).2.1 (voteP xs).2.2 = 0 ∧ Ap (voteP xs).1 = 0)) : A1 xs = (Vote.zero, 4) := if_neg h
theorem voteRd_ok {xs : List UInt8} (h : endR xs.length (voteP xs).2.1 (voteP xs).2.2 = 0 ∧ Ap (voteP xs).1 = 0) : A1 xs = ((voteP xs).1, 0) := if_pos h

theorem vote_read (a : Option Addr) (n c : Nat) (xs : List UInt8) (hl : xs.length = n) (hp : a = none → n = 0) (hn : n ≤ 90000) : Meets Tryz.prog 77 [.slice a n c] [] (fun W => SeesP W a (Aa xs)) (fun v out => v = .tuple #[agg (A1 xs).1.cells, i64 (A1 xs).2] ∧ out = []) := by
 intro W hW
 obtain ⟨x1, r1, h1⟩ : ∃ l r, A5 xs 0 0 = (l, r) := ⟨_, _, rfl⟩
 obtain ⟨a1, e1⟩ := r1
 obtain ⟨x2, r2, h2⟩ : ∃ l r, A5 xs a1 e1 = (l, r) := ⟨_, _, rfl⟩
 obtain ⟨a2, e2⟩ := r2
 obtain ⟨x3, r3, h3⟩ : ∃ l r, A5 xs a2 e2 = (l, r) := ⟨_, _, rfl⟩
 obtain ⟨a3, e3⟩ := r3
 obtain ⟨l4, r4, h4⟩ : ∃ l r, Cf xs a3 e3 = (l, r) := ⟨_, _, rfl⟩
 obtain ⟨a4, e4⟩ := r4
 obtain ⟨x5, r5, h5⟩ : ∃ l r, A5 xs a4 e4 = (l, r) := ⟨_, _, rfl⟩
 obtain ⟨a5, e5⟩ := r5
 obtain ⟨l6, r6, h6⟩ : ∃ l r, Cf xs a5 e5 = (l, r) := ⟨_, _, rfl⟩
 obtain ⟨a6, e6⟩ := r6
 obtain ⟨l7, r7, h7⟩ : ∃ l r, takR xs 64 a6 e6 = (l, r) := ⟨_, _, rfl⟩
 obtain ⟨a7, e7⟩ := r7
 have hvp : voteP xs = (({ Vote.zero with fHeight := x1, fRound := x2, fPhase := ((min x3.toNat 4 : Nat) : Int), fValue := l4, fProof := x5, fVoter := l6, fSig := l7 ++ Vote.zero.fSig.drop l7.length } : Vote), a7, e7) := by simp only [voteP, h1, h2, h3, h4, h5, h6, h7]; rfl
 have hd1 := Bm h1 hl (Nat.zero_le _)
 have hd2 := Bm h2 hl hd1
 have hd3 := Bm h3 hl hd2
 have hd4 := Cc h4 hl hd3
 have hd5 := Bm h5 hl hd4.1
 have hd6 := Cc h6 hl hd5
 have hd7 := takE_le h7 hl hd6.1
 have hlen7 : l7.length ≤ 64 := by rcases hd7.2 with h | h <;> simp [h]
 have hs64 : (l7 ++ Vote.zero.fSig.drop l7.length).length = 64 := by rcases hd7.2 with h | h <;> simp [h, Vote.zero]
 have ok2 : ({ Vote.zero with fHeight := x1, fRound := x2 } : Vote).ok := ⟨rfl, rfl, rfl⟩
 have ok3 : ({ Vote.zero with fHeight := x1, fRound := x2, fPhase := ((min x3.toNat 4 : Nat) : Int) } : Vote).ok := ⟨rfl, rfl, rfl⟩
 have ok4 : ({ Vote.zero with fHeight := x1, fRound := x2, fPhase := ((min x3.toNat 4 : Nat) : Int), fValue := l4 } : Vote).ok := ⟨hd4.2, rfl, rfl⟩
 have ok5 : ({ Vote.zero with fHeight := x1, fRound := x2, fPhase := ((min x3.toNat 4 : Nat) : Int), fValue := l4, fProof := x5 } : Vote).ok := ⟨hd4.2, rfl, rfl⟩
 have ok6 : ({ Vote.zero with fHeight := x1, fRound := x2, fPhase := ((min x3.toNat 4 : Nat) : Int), fValue := l4, fProof := x5, fVoter := l6 } : Vote).ok := ⟨hd4.2, hd6.2, rfl⟩
 have okX : ({ Vote.zero with fHeight := x1, fRound := x2, fPhase := ((min x3.toNat 4 : Nat) : Int), fValue := l4, fProof := x5, fVoter := l6, fSig := l7 ++ Vote.zero.fSig.drop l7.length } : Vote).ok := ⟨hd4.2, hd6.2, hs64⟩
 refine Ag Tryz.func77 J 42 Tryz.ntmps77 J (G2 ?_)
 refine .alloc (cs := Vote.zero.cells) J Vote.zr J ?_
 intro n2 hn2 hf2
 refine G6 ?_
 refine .call4 J J J J J Body91 (oct_Read a n c xs hl hp hn) (fun w h => Ao h J hW) ?_
 rintro v7 out7 ⟨n7, q7, cp7, rfl, hcp7, rfl⟩
 refine .nd (fun hnd => ?_)
 have hne : q7 ≠ n7 := by intro e; simp [RB, e] at hnd
 clear hnd
 refine G6 ?_
 refine .callL (L := [RB n7 q7 n cp7 0 0]) J J J J J Body94 (rd_NumberE n7 q7 n cp7 0 0 xs hl (Nat.zero_le _) hcp7 oM x1 a1 e1 h1) (Ac rM Ae) (Ay J) (fun w h => ⟨Ak h Z0, Aj h Z1, hne⟩) ?_
 rintro v9 out9 ⟨rfl, rfl⟩
 refine G1 ?_
 refine .callL (L := [RB n7 q7 n cp7 a1 e1]) J J J J J Body94 (rd_NumberE n7 q7 n cp7 a1 e1 xs hl hd1 hcp7 oM x2 a2 e2 h2) (Ac rM Ae) (Ay J) (fun w h => ⟨Ak h Z0, Aj h Z1, hne⟩) ?_
 rintro v9 out9 ⟨rfl, rfl⟩
 refine .build (cs := ({ Vote.zero with fHeight := x1, fRound := x2 } : Vote).cells) J J J (fun w => by kernel_rfl) ?_
 refine .alloc (cs := Vote.zero.cells) J Vote.zr J ?_
 intro n5 hn5 hf5
 refine G6 ?_
 refine .callL (L := [RB n7 q7 n cp7 a2 e2]) J J J J J Body94 (rd_NumberE n7 q7 n cp7 a2 e2 xs hl hd2 hcp7 oM x3 a3 e3 h3) (Ac rM Ae) (Ay J) (fun w h => ⟨Ak h Z1, Aj h Z2, hne⟩) ?_
 rintro v9 out9 ⟨rfl, rfl⟩
 refine .min2 J J J J (show Value.int .u64 (if (4 : Int) < (x3.toNat : Int) then 4 else (x3.toNat : Int)) = .int .u64 ((min x3.toNat 4 : Nat) : Int) from by congr 1; split <;> omega) ?_
 refine .conv J J J Y48.h Y3.h (show Value.int .i64 (IntKind.i64.wrap ((min x3.toNat 4 : Nat) : Int)) = i64 ((min x3.toNat 4 : Nat) : Int) by rw [i64_wrap oM]) ?_
 refine G7 ?_
 refine .callL (L := [RB n7 q7 n cp7 a3 e3]) J J J J J Body173 (rd_DigestE n7 q7 n cp7 a3 e3 xs hl hd3 hcp7 oM l4 a4 e4 h4) (Ac rM Ae) (Ay J) (fun w h => ⟨Ak h Z0, Aj h Z2, hne⟩) ?_
 rintro v9 out9 ⟨rfl, rfl⟩
 refine G1 ?_
 refine .storeN (Aa _) J J J J J zE Sz50 (by simp [hd4.2]) Z1 (by rw [Vote.length zA]; simp [hd4.2]) (Vote.upd_fValue zA _ (by simp [hd4.2])) zV ?_
 refine G5 ?_
 refine .callL (L := [RB n7 q7 n cp7 a4 e4]) J J J J J Body94 (rd_NumberE n7 q7 n cp7 a4 e4 xs hl hd4.1 hcp7 oM x5 a5 e5 h5) (Ac rM Ae) (Ay J) (fun w h => ⟨Ak h Z0, Aj h Z2, hne⟩) ?_
 rintro v9 out9 ⟨rfl, rfl⟩
 refine G7 ?_
 refine .callL (L := [RB n7 q7 n cp7 a5 e5]) J J J J J Body173 (rd_DigestE n7 q7 n cp7 a5 e5 xs hl hd5 hcp7 oM l6 a6 e6 h6) (Ac rM Ae) (Ay J) (fun w h => ⟨Ak h Z0, Aj h Z2, hne⟩) ?_
 rintro v9 out9 ⟨rfl, rfl⟩
 refine G1 ?_
 refine .storeN (Aa _) J J J J J zE Sz75 (by simp [hd6.2]) Z1 (by rw [Vote.length zA]; simp [hd6.2]) (Vote.upd_fVoter zA _ (by simp [hd6.2])) zV ?_
 refine G3 ?_
 refine .draw [(0, 0), (0, 1), (0, 2), (4, 3), (4, 4)] Ba zK (G3 ?_)
 refine .callL (L := [RB n7 q7 n cp7 a6 e6]) J J J J J Body174 (rd_TakeE n7 q7 n cp7 a6 e6 64 dE dE xs hl hd6.1 hcp7 oM l7 a7 e7 h7) (Ac rM Ae) (Ay J) (fun w h => ⟨Ak h Z0, Aj h Z2, hne⟩) ?_
 rintro v30 out30 ⟨s30, bl30, rfl, hac30, rfl⟩
 simp only [List.append_assoc, List.cons_append, List.nil_append]
 refine .copyP (Aa l7) l7.length J J J J J Y58.h Sz5 (fun w h => hac30.see (Lies.of h (by repeat (exact Aq)))) (fun e => hac30.nil e) (by simp [Aa, hac30.num]) (by rw [hac30.num]; omega) (List.take_of_length_le (by simp [Aa])) (As _) mR (by rw [Vote.length ok6]; show 68 + l7.length ≤ 132; omega) (upd_vsig ok6 hd7.2) uU ?_
 refine G6 ?_
 refine .cV J J J J Body105 (rd_End n7 q7 n cp7 a7 e7 hd7.1 oM) (fun w h => Ak h mR) ?_
 refine two (fun r hr k => Tr.nei J J J J hr k) (fun hs8_20 => ?_) (fun hs8_20 => ?_)
 ·
  have hs8_2 := nd_t hs8_20
  refine G7 ?_
  refine .cond_t J J (G2 ?_)
  refine .build (cs := Vote.zero.cells) J J J (fun w => by kernel_rfl) ?_
  refine G7 ?_
  refine Ah (out := []) (Am J J J Y81.h J Sz81 mR (by exact Vote.length zT)) Ae ?_
  exact ⟨by rw [voteRd_bad (by rw [hvp, hl]; exact fun h => hs8_2 h.1)], rfl⟩
 have hs8_2 := nd_f hs8_20
 refine G2 ?_
 refine .cV J J J J Body85 (vote_check ({ Vote.zero with fHeight := x1, fRound := x2, fPhase := ((min x3.toNat 4 : Nat) : Int), fValue := l4, fProof := x5, fVoter := l6, fSig := l7 ++ Vote.zero.fSig.drop l7.length } : Vote) okX) tV (G4 ?_)
 refine .condNP J (fun hc0 => ?_) (fun hc0 => ?_)
 ·
  refine G2 ?_
  refine .build (cs := Vote.zero.cells) J J J (fun w => by kernel_rfl) ?_
  refine G7 ?_
  refine Ah (out := []) (Am J J J Y81.h J Sz81 mR (by exact Vote.length zT)) Ae ?_
  exact ⟨by rw [voteRd_bad (by rw [hvp, hl]; exact fun h => hc0 h.2)], rfl⟩
 refine G11 ?_
 refine Ah (out := []) (Am J J J Y81.h J Sz81 mR (by exact Vote.length zA)) Ae ?_
 exact ⟨by rw [voteRd_ok (by rw [hvp, hl]; exact ⟨hs8_2, hc0⟩), hvp], rfl⟩

def blkB (ys : List UInt8) : List UInt8 := A6 (UInt64.ofNat ys.length) ++ ys
def B4 {D : Type} (f : D → List UInt8) (ds : List D) : List UInt8 := (ds.map fun d => blkB (f d)).flatten
theorem blkB_length {ys : List UInt8} (h : ys.length ≤ 1000000) : (blkB ys).length = szN ys.length + ys.length := by rw [blkB, List.length_append, Ax, Bc h]
theorem listB_step {D : Type} (f : D → List UInt8) {ds : List D} {k : Nat} {d : D} (h : ds[k]? = some d) : B4 f (ds.take (k + 1)) = B4 f (ds.take k) ++ blkB (f d) := by
  rw [take_snoc h, B4, List.map_append, List.flatten_append]; simp [B4]
theorem listB_le {D : Type} (f : D → List UInt8) (M : Nat) (hM : M ≤ 100000) : ∀ ds : List D, (∀ d ∈ ds, (f d).length ≤ M) → (B4 f ds).length ≤ ds.length * (M + 9)
  | [], _ => by simp [B4]
  | d :: ds, h => by
    have ih := listB_le f M hM ds (fun x hx => h x (List.mem_cons_of_mem _ hx))
    have h1 := h d List.mem_cons_self
    have h2 := A2 (f d).length
    have e : B4 f (d :: ds) = blkB (f d) ++ B4 f ds := rfl
    rw [e, List.length_append, blkB_length oM, List.length_cons, Nat.add_mul]
    omega
theorem listB_take_le {D : Type} (f : D → List UInt8) (M : Nat) (hM : M ≤ 100000) (ds : List D) (h : ∀ d ∈ ds, (f d).length ≤ M) (k : Nat) : (B4 f (ds.take k)).length ≤ ds.length * (M + 9) := by
  have h1 := listB_le f M hM (ds.take k) (fun d hd => h d (List.mem_of_mem_take hd))
  have h2 : (ds.take k).length ≤ ds.length := by rw [List.length_take]; omega
  exact Nat.le_trans h1 (Nat.mul_le_mul_right _ h2)

theorem blk_vote_1 (a : Option Addr) (n c : Nat) (l : List UInt8) (hl : l.length = n) (hp : a = none → n = 0) (hn : n ≤ 40000) (X : Vote) (D : Vote) (q : Nat) (hsz : (A0 D).length ≤ 40000) : Meets Tryz.prog 201 [.slice a n c, agg X.cells, ptr q 0] [] (fun W => SeesP W a (Aa l) ∧ VoteIs W X D ∧ W.cell? ⟨q, 0, none⟩ = some (.func (.func 114) #[] #[])) (fun v out => FreshRow v out (Aa (l ++ blkB (A0 D))) 5 (l ++ blkB (A0 D)).length 1) := by
 intro W hW
 obtain rfl : D = X := hW.2.1.eq.symm
 refine Ag Tryz.func201 J 17 Tryz.ntmps201 J (G3 ?_)
 intro n4 hn4 hf4
 refine G5 ?_
 refine .loadE J J J Tryz.underlying164 J sP (hW.2.2) (.lA J J J Y81.h J Sz81 Z0 (Vote.length (by exact hW.2.1.ok)) ?_)
 refine .call4 J J J J J Body114 (vote_bytes D hW.2.1.ok) (fun w h => trivial) ?_
 rintro v11 out11 ⟨s11, rfl, hac11⟩
 have hnm := hac11.num
 refine G11 ?_
 refine .call4 J J J J J Body121 (oct_Block a s11.p n c s11.n s11.c l (A0 D) hl hnm.symm hp (fun e => hac11.nil e) hn oM) (fun w h => ⟨Ao h J hW.1, hac11.see (Lies.of h (by repeat (exact Aq)))⟩) ?_
 rintro v16 out16 ⟨q16, c16, rfl, hc16, rfl⟩
 have hq16 : n + szN s11.n + s11.n = (l ++ blkB (A0 D)).length := by rw [List.length_append, blkB_length oM, hl, hnm]; omega
 refine G5 ?_
 refine Ah (out := (⟨q16, Aa (l ++ blkB (A0 D)), 5, c16 * 1⟩ :: [])) (Ad J J) (pm_consE rM (by rw [blkB, hnm, List.append_assoc]) J Ae) ?_
 exact ⟨q16, c16, by rw [hq16], by rw [← hq16]; exact hc16, rfl⟩

theorem mk_blk_vote  : Meets Tryz.prog 113 [.func (.func 114) #[] #[]] [] (fun _ => True) (fun v out => ∃ c, v = .func (.func 201) #[] #[ptr c 0] ∧ out = [⟨c, [.func (.func 114) #[] #[]], 164, 1⟩]) := by
 intro W hW
 refine Ag Tryz.func113 J 4 Tryz.ntmps113 J (G2 ?_)
 refine .box1 J J J ?_
 intro n1 hn1 hf1
 refine G11 ?_
 refine Ah (out := (⟨n1, [.func (.func 114) #[] #[]], 164, 1⟩ :: [])) (Ad J J) (Ac rM Ae) ?_
 exact ⟨n1, rfl, by simp⟩

theorem put_votes (a : Option Addr) (n c : Nat) (l : List UInt8) (s : Sl) (ds : List Vote) (q M : Nat) (hl : l.length = n) (hp : a = none → n = 0) (hM : M ≤ 40000) (hsz : ∀ d ∈ ds, (A0 d).length ≤ M) (hs : s.n ≤ 1000) (hN : n + 9 + s.n * (M + 9) ≤ 40000) : Meets Tryz.prog 112 [.slice a n c, s.v, .func (.func 201) #[] #[ptr q 0]] [] (fun W => SeesP W a (Aa l) ∧ VotesAt W s ds ∧ W.cell? ⟨q, 0, none⟩ = some (.func (.func 114) #[] #[])) (fun v out => FreshRow v out (Aa (l ++ A6 (UInt64.ofNat s.n) ++ B4 A0 ds)) 5 (l ++ A6 (UInt64.ofNat s.n) ++ B4 A0 ds).length 1) := by
 intro W hW
 obtain ⟨rs, hs1⟩ := hW.2.1
 have hnd := hs1.nd
 have hz := A2 s.n
 have hon := Bc (n := s.n) oM
 have hmul : ds.length * (M + 9) = s.n * (M + 9) := by rw [hnd]
 have hle : ∀ k, (l ++ A6 (UInt64.ofNat s.n) ++ B4 A0 (ds.take k)).length ≤ 40000 := fun k => by
  have := listB_take_le A0 M oM ds hsz k
  simp only [List.length_append, Ax, hon, hl]
  omega
 refine Ag Tryz.func112 J 26 Tryz.ntmps112 J (G11 ?_)
 rw [word_nat (n := s.n) oM]
 refine .call4 J J J J J Body106 (oct_Number a n c l (UInt64.ofNat s.n) hl hp oM) (fun w h => Ao h J hW.1) ?_
 rintro v13 out13 ⟨q1, c1, rfl, hc1, rfl⟩
 have e13 : n + szN (UInt64.ofNat s.n).toNat = (l ++ A6 (UInt64.ofNat s.n) ++ B4 A0 (ds.take 0)).length := by simp [B4, Ax, hl]
 rw [e13] at hc1 ⊢
 refine G12 ?_
 refine .loop (ι := Nat × Nat × Nat) (fun p => ⟨[(0, .slice (some ⟨p.2.1, 0, none⟩) (l ++ A6 (UInt64.ofNat s.n) ++ B4 A0 (ds.take p.1)).length p.2.2), (2, .func (.func 201) #[] #[ptr q 0]), (14, s.v), (15, i64 (s.n : Int)), (16, i64 (p.1 : Int))], [⟨p.2.1, Aa (l ++ A6 (UInt64.ofNat s.n) ++ B4 A0 (ds.take p.1)), 5, p.2.2 * 1⟩]⟩) (fun p => p.1 ≤ s.n ∧ (l ++ A6 (UInt64.ofNat s.n) ++ B4 A0 (ds.take p.1)).length ≤ p.2.2) (fun p => s.n - p.1) ((0, q1, c1)) ?_ ?_ ?_
 · exact ⟨Nat.zero_le _, hc1⟩
 · exact Ai (wk1 rfl (wk1 rfl (wk1 rfl (wk1 rfl (wk1 rfl wk0))))) (wh1 (by simp only [List.take_zero, B4, List.map_nil, List.flatten_nil, List.append_nil]; exact B7) wh0) nD
 rintro p ⟨hp1, hp2⟩
 refine G6 ?_
 refine .condP J (fun hc0 => ?_) (fun hc0 => ?_)
 ·
  have hk2 : p.1 < s.n := by omega
  obtain ⟨b, o, r, d, hsp, hr, hd, his, hlen, hsee⟩ := hs1.at dE hk2
  refine G6 ?_
  refine .idxSlP 132 J J J hsp J Y24.h Sz81 p.1 J oM (.loadEN r.cells J J J Y81.h J Sz81 sP hlen hsee (.alloc (cs := Vote.zero.cells) J Vote.zr J ?_))
  intro n8 hn8 hf8
  refine .sA J J J J (Vote.isCell (by exact his.ok)) Sz81 (Vote.length (by exact his.ok)) Z0 (Vote.length zT) zU ?_
  refine G5 ?_
  refine .lA J J J Y81.h J Sz81 Z0 (Vote.length (by exact his.ok)) ?_
  refine .call4C J J J J J J Body201 (blk_vote_1 (some ⟨p.2.1, 0, none⟩) (l ++ A6 (UInt64.ofNat s.n) ++ B4 A0 (ds.take p.1)).length p.2.2 (l ++ A6 (UInt64.ofNat s.n) ++ B4 A0 (ds.take p.1)) J (fun e => by cases e) (hle _) r d q (Nat.le_trans (hsz d (List.mem_of_getElem? hd)) hM)) (fun w h => ⟨SeesP.of (Aj h Z1), his.ext h J, h.keeps.cell sP hW.2.2⟩) ?_
  rintro v23 out23 ⟨q2, c2, rfl, hq2, rfl⟩
  rw [show l ++ A6 (UInt64.ofNat s.n) ++ B4 A0 (ds.take p.1) ++ blkB (A0 d) = l ++ A6 (UInt64.ofNat s.n) ++ B4 A0 (ds.take (p.1 + 1)) by rw [listB_step A0 hd, ← List.append_assoc]] at hq2 ⊢
  refine G9 ?_
  exact ⟨(p.1 + 1, q2, c2), ⟨by simp only []; omega, hq2⟩, by simp only []; omega, Ai (wk1 rfl (wk1 rfl (wk1 rfl (wk1 rfl (wk1 rfl wk0))))) (wh1 Z0 wh0) nD⟩
 have hpe : p.1 = s.n := by omega
 have hds : ds = ds.take p.1 := by rw [List.take_of_length_le oM]
 refine G13 ?_
 refine ⟨_, [⟨p.2.1, Aa (l ++ A6 (UInt64.ofNat s.n) ++ B4 A0 ds), 5, p.2.2 * 1⟩], Ad J J, (by intro b hb; rw [List.mem_singleton.1 hb, hds]; simp only [List.take_take, Nat.min_self]; exact B7), B2, ⟨p.2.1, p.2.2, by rw [← hds], by rw [← hds] at hp2; exact hp2, rfl⟩⟩

def DCert.bytes (D : DCert) : List UInt8 := blkB (Bp D.dCut) ++ A6 (UInt64.ofNat D.dVotes.length) ++ B4 A0 D.dVotes
noncomputable def Bd (D : DCert) : List UInt8 := if D.check = 0 then D.bytes else []
theorem seqv_ok {W : World} {s : Sl} {rs ds : List Vote} (h : SeqIs Vote.cells 132 VoteIs W s rs ds) : ∀ d ∈ ds, d.ok := by
  intro d hd
  obtain ⟨j, hj, rfl⟩ := List.getElem_of_mem hd
  have hj2 : j < rs.length := by rw [h.nr, ← h.nd]; exact hj
  have := h.is j _ _ (List.getElem?_eq_getElem hj2) (List.getElem?_eq_getElem hj)
  rw [← this.eq]; exact this.ok
theorem voteBy_le {V : Vote} (h : V.ok) : (A0 V).length ≤ 164 := by
  unfold A0
  split
  · have := voteN_le V
    rw [List.length_append, voteT_length h, h.l_fSig]; omega
  · simp
theorem DCert.facts {D : DCert} (h : D.check = 0) : D.dCut.check = 0 ∧ 1 ≤ D.dVotes.length ∧ D.dVotes.length ≤ 16 := by
  have h1 : ¬ D.head = true := fun e => by rw [B1 e] at h; cases h
  simp only [DCert.head, Bool.or_eq_true, Bool.not_eq_true', decide_eq_true_eq, decide_eq_false_iff_not] at h1
  omega
theorem cutR_le {C : Cut} {D : DCut} {W : World} (h : CutIs W C D) : (Bp D).length ≤ 2000 := by
  unfold Bp
  split
  · rename_i h1
    exact D.bytes_small h1 (h.fPrev ▸ h.ok.l_fPrev) h.fHeads.row
  · simp

theorem cert_bytes (C : Cert) (D : DCert) : Meets Tryz.prog 30 [agg C.cells] [] (fun W => CertIs W C D) (fun v out => ∃ s, v = .tuple #[s.v, i64 D.check] ∧ Hw.Acc s out (Aa (Bd D)) 5 (Bd D).length 1) := by
 intro W hW
 obtain ⟨rs, hvs⟩ := hW.fVotes
 have hcl := cutR_le hW.fCut
 have hvok := seqv_ok hvs
 have hvn := hvs.nd
 have hz := A2 (Bp D.dCut).length
 refine Ag Tryz.func30 J 24 Tryz.ntmps30 J (G3 ?_)
 intro n1 hn1 hf1
 refine G7 ?_
 refine .lA J J J Y55.h J Sz55 Z0 (Cert.length (by exact hW.ok)) ?_
 refine .cV J J J J Body31 (cert_check C D) (fun w h => hW.ext h J) (G9 ?_)
 refine .condNP J (fun hc0 => ?_) (fun hc0 => ?_)
 ·
  refine G10 ?_
  refine Ah (out := []) (A9 J J J) Ae ?_
  exact ⟨Sl.nil, rfl, by rw [show Bd D = [] from if_neg hc0]; exact Acc.none⟩
 have hck : D.check = 0 := by omega
 obtain ⟨hk1, hk2, hk3⟩ := DCert.facts hck
 refine G5 ?_
 refine .lN (Cut.cells _) J J J Y53.h J Sz53 Z0 (Cert.row_fCut (by exact hW.ok)) (Cert.rl_fCut (by exact hW.ok)) ?_
 refine .call4 J J J J J Body117 (cut_bytes C.fCut D.dCut) (fun w h => hW.fCut.ext h J) ?_
 rintro v15 out15 ⟨s15, rfl, hac15⟩
 have hn15 := hac15.num
 refine G8 ?_
 refine .withK (sp_x (sp_k sp_n)) J (.draw [(0, 0), (0, 2), (0, 3), (4, 1), (4, 4), (4, 5), (0, 6), (0, 7)] Ba zK (G2 ?_))
 refine .kload1 J J J Y24.h J Z0 (by exact Cert.get_fVotes (by exact hW.ok)) ?_
 refine .call4 J J J J J Body121 (oct_Block none s15.p 0 0 s15.n s15.c [] (Bp D.dCut) J hn15.symm (fun _ => rfl) (fun e => hac15.nil e) dE oM) (fun w h => ⟨SeesP.nil, hac15.see (Lies.of h (by repeat (exact Aq)))⟩) ?_
 rintro v19 out19 ⟨q19, c19, rfl, hc19, rfl⟩
 have hb19 : [] ++ A6 (UInt64.ofNat s15.n) ++ Bp D.dCut = blkB (Bp D.dCut) := by rw [blkB, hn15]; rfl
 rw [hb19]
 refine .call4 J J J J J Body113 (mk_blk_vote) tV ?_
 rintro v22 out22 ⟨c22, rfl, rfl⟩
 refine .call4 J J J J J Body112 (put_votes (some ⟨q19, 0, none⟩) (0 + szN s15.n + s15.n) c19 (blkB (Bp D.dCut)) C.fVotes D.dVotes c22 164 (by rw [blkB_length oM, hn15]; omega) (fun e => by cases e) dE (fun d hd => voteBy_le (hvok d hd)) oM (by rw [hn15]; have : C.fVotes.n * (164 + 9) ≤ 16 * 173 := Nat.mul_le_mul oM (Nat.le_refl _); omega)) (fun w h => ⟨SeesP.of (Aj (cs := Aa (blkB (Bp D.dCut))) h Z1), Cj h J ⟨rs, hvs⟩, (Ak (B := ⟨c22, _, _, _⟩) h Z0).cell (o := 0) J⟩) ?_
 rintro v23 out23 ⟨q23, c23, rfl, hc23, rfl⟩
 refine G6 ?_
 simp only [List.cons_append, List.nil_append, List.append_nil]
 refine Ah (out := (⟨q23, Aa (blkB (Bp D.dCut) ++ A6 (UInt64.ofNat C.fVotes.n) ++ B4 A0 D.dVotes), 5, c23 * 1⟩ :: [])) (A9 J J J) (Ac rM Ae) ?_
 refine ⟨⟨some ⟨q23, 0, none⟩, (blkB (Bp D.dCut) ++ A6 (UInt64.ofNat C.fVotes.n) ++ B4 A0 D.dVotes).length, c23⟩, (by rw [hck]; try rfl), ?_⟩
 rw [show Bd D = D.bytes from if_pos hck, DCert.bytes, hvn]
 exact Acc.some hc23 (by rw [Aa, List.length_map, Nat.mul_one])

theorem rdblk_loose (n q N cp a1 : Nat) (e1 : Int) (ys : List UInt8) : LooseL [n] (fun v out => ∃ s bl, v = Sl.v s ∧ Hw.Acc s bl (Aa ys) 5 ys.length 1 ∧ out = bl ++ [RB n q N cp a1 e1]) := fun l h1 h2 => by
  obtain ⟨n0, _, hn0⟩ := Ch (n + 1) l
  refine ⟨_, _, ⟨⟨some ⟨n0, 0, none⟩, ys.length, ys.length⟩, [⟨n0, Aa ys, 5, ys.length * 1⟩], rfl, Acc.some (Nat.le_refl _) (by simp [Aa]), rfl⟩, ?_⟩
  simp only [List.cons_append, List.nil_append, List.map_cons, List.nodup_cons, List.mem_cons, RB]
  refine ⟨?_, ?_, h1⟩
  · rintro (h | h)
    · omega
    · obtain ⟨b, hb, e⟩ := List.mem_map.1 h
      exact hn0 b hb e
  · intro h
    obtain ⟨b, hb, e⟩ := List.mem_map.1 h
    exact h2 b hb (by rw [e]; exact List.mem_cons_self)

theorem item_vote (n q N cp at' : Nat) (e : Int) (c : Nat) (xs : List UInt8) (hx : xs.length = N) (hat : at' ≤ N) (hN : N ≤ cp) (hbig : N ≤ 90000) (hcn : c ≠ n) (o : Option (List UInt8)) (a1 : Nat) (e1 : Int) (h1 : blkR xs at' e = (o, a1, e1)) (hvk : (A1 (o.getD [])).1.ok) : Meets Tryz.prog 194 [ptr n 0, ptr c 0] [n] (fun W => BlkOk W (RB n q N cp at' e) ∧ B8 W q 0 (Aa xs) ∧ q ≠ n ∧ W.cell? ⟨c, 0, none⟩ = some (.func (.func 77) #[] #[])) (fun v out => v = .tuple #[agg (A1 (o.getD [])).1.cells, .bool (decide ((A1 (o.getD [])).2 = 0))] ∧ out = [RB n q N cp a1 e1]) := by
 intro W hW
 have hb1 := blkE_le h1 hx hat
 refine A3 (hp0 := [RB n q N cp at' e]) Tryz.func194 J 17 Tryz.ntmps194 J (HRep.one hW.1) (G2 ?_)
 refine .alloc (cs := Vote.zero.cells) J Vote.zr J ?_
 intro n3 hn3 hf3
 refine G4 ?_
 refine .withK (sp_v (sp_v sp_n)) J (.draw [(0, 0), (0, 1), (5, 2), (3, 3), (0, 4), (0, 5), (0, 6), (2, 7), (4, 8), (0, 9)] Ba zK (.kloadE J J J Tryz.underlying114 J (by (simp [Cx.with]; omega)) (hW.2.2.2) ?_))
 refine G1 ?_
 refine .callL5 (L := [RB n q N cp at' e]) J J J J J Body120 (rd_BlockE n q N cp at' e xs hx hat hN hbig o a1 e1 h1) (rdblk_loose n q N cp a1 e1 (o.getD [])) (Ac rM Ae) (Ay J) (fun w h => ⟨Ak h Z1, Bt h (by simp [Cx.with]; exact hW.2.2.1) hW.2.1, hW.2.2.1⟩) ?_
 rintro v10 out10 ⟨s10, bl10, rfl, hac10, rfl⟩
 simp only [List.append_assoc, List.cons_append, List.nil_append]
 refine .cV J J J J Body77 (vote_read s10.p s10.n s10.c (o.getD []) hac10.num.symm (fun e => hac10.nil e) (by rw [hac10.num]; omega)) (fun w h => hac10.see (Lies.of h (by repeat (exact Aq)))) ?_
 refine G3 ?_
 refine .alloc (cs := Vote.zero.cells) J Vote.zr J ?_
 intro n5 hn5 hf5
 refine G6 ?_
 simp only [List.cons_append, List.nil_append, List.append_nil, List.append_assoc]
 refine G9 ?_
 refine Ah (out := (RB n q N cp a1 e1 :: [])) (Am J J J Y81.h J Sz81 mR (by exact Vote.length zA)) (Ac rM Ae) ?_
 exact ⟨rfl, rfl⟩

theorem pm_one {hp l R : List Blk} {x : Blk} (h : hp.Perm ((x :: l) ++ R)) : hp.Perm (([x] ++ l) ++ R) := h
def votesR (xs : List UInt8) : Nat → Nat → Int → Option (List Vote × Nat × Int)
  | 0, a, e => some ([], a, e)
  | k + 1, a, e => (votesR xs k a e).bind fun r => if (A1 ((blkR xs r.2.1 r.2.2).1.getD [])).2 = 0 ∧ (blkR xs r.2.1 r.2.2).2.2 = 0 then some (r.1 ++ [(A1 ((blkR xs r.2.1 r.2.2).1.getD [])).1], (blkR xs r.2.1 r.2.2).2) else none
def readVL (xs : List UInt8) (M a : Nat) (e : Int) : Option (List Vote × Nat × Int) :=
  if (A5 xs a e).2.2 = 0 ∧ (A5 xs a e).1.toNat ≤ M then votesR xs (A5 xs a e).1.toNat (A5 xs a e).2.1 (A5 xs a e).2.2 else none
theorem votesR_step {xs : List UInt8} {k a : Nat} {e : Int} {vs : List Vote} {a2 a3 : Nat} {e2 e3 : Int} {o : Option (List UInt8)} (h : votesR xs k a e = some (vs, a2, e2)) (hb : blkR xs a2 e2 = (o, a3, e3)) (h1 : (A1 (o.getD [])).2 = 0) (h2 : e3 = 0) : votesR xs (k + 1) a e = some (vs ++ [(A1 (o.getD [])).1], a3, e3) := by
  rw [votesR, h, Option.bind_some]
  simp only [hb]
  rw [if_pos ⟨h1, h2⟩]
theorem votesR_stop {xs : List UInt8} {k a : Nat} {e : Int} {vs : List Vote} {a2 a3 : Nat} {e2 e3 : Int} {o : Option (List UInt8)} (h : votesR xs k a e = some (vs, a2, e2)) (hb : blkR xs a2 e2 = (o, a3, e3)) (h1 : ¬ ((A1 (o.getD [])).2 = 0 ∧ e3 = 0)) : ∀ m, k < m → votesR xs m a e = none
  | 0, hm => absurd hm oM
  | m + 1, hm => by
    rcases Nat.lt_succ_iff_lt_or_eq.1 hm with h3 | rfl
    · rw [votesR, votesR_stop h hb h1 m h3]; rfl
    · rw [votesR, h, Option.bind_some]
      simp only [hb]
      rw [if_neg h1]
theorem Be (xs : List UInt8) : (A1 xs).1.ok := by
  unfold A1
  split
  · obtain ⟨x1, r1, h1⟩ : ∃ l r, A5 xs 0 0 = (l, r) := ⟨_, _, rfl⟩
    obtain ⟨a1, e1⟩ := r1
    obtain ⟨x2, r2, h2⟩ : ∃ l r, A5 xs a1 e1 = (l, r) := ⟨_, _, rfl⟩
    obtain ⟨a2, e2⟩ := r2
    obtain ⟨x3, r3, h3⟩ : ∃ l r, A5 xs a2 e2 = (l, r) := ⟨_, _, rfl⟩
    obtain ⟨a3, e3⟩ := r3
    obtain ⟨l4, r4, h4⟩ : ∃ l r, Cf xs a3 e3 = (l, r) := ⟨_, _, rfl⟩
    obtain ⟨a4, e4⟩ := r4
    obtain ⟨x5, r5, h5⟩ : ∃ l r, A5 xs a4 e4 = (l, r) := ⟨_, _, rfl⟩
    obtain ⟨a5, e5⟩ := r5
    obtain ⟨l6, r6, h6⟩ : ∃ l r, Cf xs a5 e5 = (l, r) := ⟨_, _, rfl⟩
    obtain ⟨a6, e6⟩ := r6
    obtain ⟨l7, r7, h7⟩ : ∃ l r, takR xs 64 a6 e6 = (l, r) := ⟨_, _, rfl⟩
    obtain ⟨a7, e7⟩ := r7
    have hd1 := Bm h1 rfl (Nat.zero_le _)
    have hd2 := Bm h2 rfl hd1
    have hd3 := Bm h3 rfl hd2
    have hd4 := Cc h4 rfl hd3
    have hd5 := Bm h5 rfl hd4.1
    have hd6 := Cc h6 rfl hd5
    have hd7 := takE_le h7 rfl hd6.1
    have hvp : (voteP xs).1 = (⟨x1, x2, ((min x3.toNat 4 : Nat) : Int), l4, x5, l6, l7 ++ (List.replicate 64 0).drop l7.length⟩ : Vote) := by simp only [voteP, h1, h2, h3, h4, h5, h6, h7]
    show (voteP xs).1.ok
    rw [hvp]
    exact ⟨hd4.2, hd6.2, by rcases hd7.2 with h | h <;> simp [h]⟩
  · exact Vote.zero_ok
theorem wf_small {x : Int} (h0 : 0 ≤ x) (h4 : x ≤ 4) : (Lit.int .i64 x).wf = true := by
  have e1 : IntKind.i64.min = -9223372036854775808 := rfl
  have e2 : IntKind.i64.max = 9223372036854775807 := rfl
  simp [Lit.wf]
  omega
structure Vgood (V : Vote) : Prop where
  ok : V.ok
  wf : (Lit.int .i64 V.fPhase).wf = true
theorem voteRd_good (xs : List UInt8) : Vgood (A1 xs).1 := ⟨Be xs, by
  unfold A1
  split
  · refine wf_small ?_ ?_ <;> simp only [voteP] <;> omega
  · exact wf_small dE dE⟩
def VotesRead (xs : List UInt8) (M a : Nat) (e : Int) (n q N cp : Nat) (v : Value) (out : List Blk) : Prop :=
  ∃ s bl a1 e1, a1 ≤ N ∧ out = bl ++ [RB n q N cp a1 e1] ∧ v = .tuple #[Sl.v s, .bool (readVL xs M a e).isSome] ∧ (∀ vs a2 e2, readVL xs M a e = some (vs, a2, e2) → a1 = a2 ∧ e1 = e2 ∧ vs.length ≤ M ∧ (∀ V ∈ vs, Vgood V) ∧ Hw.Acc s bl (vs.map Vote.cells).flatten 81 vs.length 132)
theorem votes_none {xs : List UInt8} {M a : Nat} {e : Int} {n q N cp a1 : Nat} {e1 : Int} (h : readVL xs M a e = none) (ha : a1 ≤ N) : VotesRead xs M a e n q N cp (.tuple #[.slice none 0 0, .bool false]) (RB n q N cp a1 e1 :: []) :=
  ⟨Sl.nil, [], a1, e1, ha, rfl, by rw [h]; rfl, fun vs a2 e2 h2 => by rw [h] at h2; cases h2⟩
structure VSt where
  k : Nat
  s : Sl
  bl : List Blk
  vs : List Vote
  a : Nat
  e : Int

theorem read_votes (n q N cp at' : Nat) (e : Int) (c M : Nat) (xs : List UInt8) (hx : xs.length = N) (hat : at' ≤ N) (hN : N ≤ cp) (hbig : N ≤ 90000) (hcn : c ≠ n) (hM : M ≤ 1000) : Meets Tryz.prog 99 [ptr n 0, i64 (M : Int), .func (.func 194) #[] #[ptr c 0]] [n] (fun W => BlkOk W (RB n q N cp at' e) ∧ B8 W q 0 (Aa xs) ∧ q ≠ n ∧ W.cell? ⟨c, 0, none⟩ = some (.func (.func 77) #[] #[])) (VotesRead xs M at' e n q N cp) := by
 intro W hW
 obtain ⟨x1, r1, h1⟩ : ∃ l r, A5 xs at' e = (l, r) := ⟨_, _, rfl⟩
 obtain ⟨a1, e1⟩ := r1
 have hd1 := Bm h1 hx hat
 have hMw : (UInt64.ofNat M).toNat = M := Bc oM
 have hrv : readVL xs M at' e = if e1 = 0 ∧ x1.toNat ≤ M then votesR xs x1.toNat a1 e1 else none := by simp only [readVL, h1]
 refine A3 (hp0 := [RB n q N cp at' e]) Tryz.func99 J 47 Tryz.ntmps99 J (HRep.one hW.1) (G9 ?_)
 refine .callL (L := [RB n q N cp at' e]) J J J J J Body94 (rd_NumberE n q N cp at' e xs hx hat hN oM x1 a1 e1 h1) (Ac rM Ae) (Ay J) (fun w h => ⟨Ak h Z0, Bt h (by simp; exact hW.2.2.1) hW.2.1, hW.2.2.1⟩) ?_
 rintro v13 out13 ⟨rfl, rfl⟩
 refine G7 ?_
 refine .cV J J J J Body192 (rd_Err n q N cp a1 e1) (fun w h => Ak h Z0) ?_
 refine two (fun r hr k => Tr.nei J J J J hr k) (fun hs2_20 => ?_) (fun hs2_20 => ?_)
 ·
  have hs2_2 := nd_t hs2_20
  refine G8 ?_
  refine .cond_t J J (G9 ?_)
  refine Ah (out := (RB n q N cp a1 e1 :: [])) (A9 J J J) (Ac rM Ae) ?_
  exact votes_none (by rw [hrv]; exact if_neg (fun h => by omega)) oM
 have hs2_2 := nd_f hs2_20
 refine G4 ?_
 rw [word_nat (n := M) oM]
 refine G4 ?_
 refine .condP J (fun hc0 => ?_) (fun hc0 => ?_)
 ·
  have hno : ¬ (e1 = 0 ∧ x1.toNat ≤ M) := by omega
  refine G9 ?_
  refine Ah (out := (RB n q N cp a1 e1 :: [])) (A9 J J J) (Ac rM Ae) ?_
  exact votes_none (by rw [hrv]; exact if_neg (fun h => by omega)) oM
 have hyes : e1 = 0 ∧ x1.toNat ≤ M := by omega
 have hx64 : x1 = UInt64.ofNat x1.toNat := by simp
 refine G5 ?_
 refine .mkRoomN (z := agg Vote.zero.cells) (by' := 160) x1.toNat J J J J J Y24.h Sz81 Vote.zr (by unfold By; kernel_rfl) oM oM ?_
 intro q9
 refine G11 ?_
 refine .loop (ι := VSt) (fun p => ⟨[(0, ptr n 0), (2, .func (.func 194) #[] #[ptr c 0]), (9, p.s.v), (25, u64 x1), (26, u64 (UInt64.ofNat p.k))], (RB n q N cp p.a p.e :: (p.bl ++ []))⟩) (fun p => p.k ≤ x1.toNat ∧ votesR xs p.k a1 e1 = some (p.vs, p.a, p.e) ∧ p.a ≤ N ∧ Hw.Acc p.s p.bl (p.vs.map Vote.cells).flatten 81 p.k 132 ∧ p.vs.length = p.k ∧ ∀ V ∈ p.vs, Vgood V) (fun p => x1.toNat - p.k) (⟨0, ⟨some ⟨q9, 0, none⟩, 0, x1.toNat⟩, [⟨q9, [], 81, x1.toNat * 132⟩], [], a1, e1⟩) ?_ ?_ ?_
 · exact ⟨Nat.zero_le _, rfl, hd1, Acc.some (Nat.zero_le _) sP, rfl, fun V h => (by cases h)⟩
 · exact Af (wk1 rfl (wk1 rfl (wk1 rfl (wk1 rfl (wk1 rfl wk0))))) (Ac rM (pm_one (Ac rM Ae)))
 rintro p hp
 obtain ⟨k, s, bl, vs, a2, e2⟩ := p
 obtain ⟨hk, hvr, ha2, hac, hvl, hvo⟩ := hp
 dsimp only at hk hvr ha2 hac hvl hvo ⊢
 obtain ⟨o, r3, hb3⟩ : ∃ l r, blkR xs a2 e2 = (l, r) := ⟨_, _, rfl⟩
 obtain ⟨a3, e3⟩ := r3
 have hd3 := blkE_le hb3 hx ha2
 refine G6 ?_
 refine .condP J (fun hc1 => ?_) (fun hc1 => ?_)
 ·
  have hk64 : (UInt64.ofNat k).toNat = k := Bc oM
  have hk2 : k < x1.toNat := by omega
  refine G8 ?_
  refine .callCL (L := [RB n q N cp a2 e2]) J J J J J J Body194 (item_vote n q N cp a2 e2 c xs hx ha2 hN hbig hcn o a3 e3 hb3 (Be _)) (Ac rM Ae) (Ay J) (fun w h => ⟨Ak h Z0, Bt h (by simp; exact hW.2.2.1) hW.2.1, hW.2.2.1, h.keeps.cell (by simp; exact hcn) hW.2.2.2⟩) ?_
  rintro v31 out31 ⟨rfl, rfl⟩
  refine G2 ?_
  refine .extractB J J J J (fun hs7_50 => ?_) (fun hs7_50 => ?_)
  ·
   have hs7_5 := of_decide_eq_true hs7_50
   refine .alloc (cs := Vote.zero.cells) J Vote.zr J ?_
   intro n10 hn10 hf10
   refine .sA J J J J (Vote.isCell (by exact Be _)) Sz81 (Vote.length (by exact Be _)) Z0 (Vote.length zT) zU ?_
   refine G10 ?_
   refine .cV J J J J Body192 (rd_Err n q N cp a3 e3) (fun w h => Ak h Z1) ?_
   refine G4 ?_
   refine .condNP J (fun hc2 => ?_) (fun hc2 => ?_)
   ·
    refine G14 ?_
    refine Ah (out := (RB n q N cp a3 e3 :: [])) (A9 J J J) (Ac rM Ae) ?_
    exact votes_none (by rw [hrv, if_pos hyes]; exact votesR_stop hvr hb3 oM _ hk2) hd3.1
   refine G4 ?_
   refine .lA J J J Y81.h J Sz81 Z0 (Vote.length (by exact Be _)) ?_
   refine .mkRow (z := agg Vote.zero.cells) [agg (A1 (o.getD [])).1.cells] (A1 (o.getD [])).1.cells J J J Y24.h Sz81 Vote.zr J J (by intro v hv; rw [List.mem_singleton.1 hv]; exact Vote.length (Be _)) dE (by simp [Value.cells]) ?_
   intro q43
   refine .appendAcc (z := agg Vote.zero.cells) (by' := 160) ((A1 (o.getD [])).1.cells) J J J J J Y24.h Y24.h Sz81 Zr81 (by unfold By; kernel_rfl) J hac sG (fun w h => SeesP.of (Aj h Z0)) (fun e => by cases e) (Vote.isCell (Be _)) oM oM (by rw [Vote.length (Be _)]) ?_
   intro s44 bl44 hac44
   refine G5 ?_
   refine .add_u64 J J J (show Al _ _ = some (u64 1) from rfl) (G3 ?_)
   refine ⟨⟨k + 1, s44, bl44, vs ++ [(A1 (o.getD [])).1], a3, e3⟩, ⟨by simp only []; omega, votesR_step hvr hb3 hs7_5 oM, hd3.1, by simpa using hac44, by simp [hvl], fun V hV => ?_⟩, by simp only []; omega, Af (wk1 J (wk1 J (wk1 J (wk1 J (wk1 (congrArg (fun z => some (u64 z)) (ofNat_step _)) wk0))))) (Ac rM (Ab sG Ae))⟩
   rcases List.mem_append.1 hV with h | h
   · exact hvo V h
   · rw [List.mem_singleton.1 h]; exact voteRd_good _
  have hs7_5 := of_decide_eq_false hs7_50
  refine .alloc (cs := Vote.zero.cells) J Vote.zr J ?_
  intro n10 hn10 hf10
  refine .sA J J J J (Vote.isCell (by exact Be _)) Sz81 (Vote.length (by exact Be _)) Z0 (Vote.length zT) zU ?_
  refine G15 ?_
  refine .cond_t J J (G14 ?_)
  refine Ah (out := (RB n q N cp a3 e3 :: [])) (A9 J J J) (Ac rM Ae) ?_
  exact votes_none (by rw [hrv, if_pos hyes]; exact votesR_stop hvr hb3 oM _ hk2) hd3.1
 have hk64 : (UInt64.ofNat k).toNat = k := Bc oM
 have hke : k = x1.toNat := by omega
 refine G14 ?_
 refine Ah (out := (bl ++ (RB n q N cp a2 e2 :: []))) (A9 J J J) (Ab sG (Ac rM Ae)) ?_
 have hfin : readVL xs M at' e = some (vs, a2, e2) := by rw [hrv, if_pos hyes, ← hke]; exact hvr
 exact ⟨s, bl, a2, e2, ha2, by simp, by rw [hfin]; rfl, fun vs2 a4 e4 h4 => by rw [hfin] at h4; cases h4; exact ⟨rfl, rfl, by omega, hvo, by rw [hvl]; exact hac⟩⟩

def dcertz : DCert := ⟨DCut.zero, []⟩
noncomputable def Bj (xs : List UInt8) : DCert × Int :=
  if (Bk ((blkR xs 0 0).1.getD [])).2 = 0 then
    match readVL xs 16 (blkR xs 0 0).2.1 (blkR xs 0 0).2.2 with
    | some (vs, a, e) => if endR xs.length a e = 0 ∧ (⟨(Bk ((blkR xs 0 0).1.getD [])).1, vs⟩ : DCert).check = 0 then (⟨(Bk ((blkR xs 0 0).1.getD [])).1, vs⟩, 0) else (dcertz, 4)
    | none => (dcertz, 4)
  else (dcertz, 4)
theorem certz_is (W : World) : CertIs W Cert.zero dcertz := ⟨Cert.zero_ok, cutz_is W, ⟨[], SeqIs.none⟩⟩
def CertRead (xs : List UInt8) (v : Value) (out : List Blk) : Prop := ∃ C : Cert, C.ok ∧ v = .tuple #[agg C.cells, i64 (Bj xs).2] ∧ ∀ W2, Lies out W2 → CertIs W2 C (Bj xs).1
theorem cert_bad {xs : List UInt8} {out : List Blk} (h : Bj xs = (dcertz, 4)) : CertRead xs (.tuple #[agg Cert.zero.cells, i64 4]) out := by
  refine ⟨Cert.zero, Cert.zero_ok, ?_, fun W2 _ => ?_⟩ <;> rw [h]
  exact certz_is W2
theorem cert_okR {xs : List UInt8} {out : List Blk} {C : Cert} {D : DCert} (h : Bj xs = (D, 0)) (hok : C.ok) (hC : ∀ W2, Lies out W2 → CertIs W2 C D) : CertRead xs (.tuple #[agg C.cells, i64 0]) out := by
  refine ⟨C, hok, ?_, fun W2 h2 => ?_⟩ <;> rw [h]
  exact hC W2 h2
theorem upd_cut {C : Cert} (h : C.ok) {X : Cut} (hx : X.ok) : upd C.cells (0 + 0) X.cells = ({ C with fCut := X } : Cert).cells := by
  have h1 := Cut.length h.o_fCut
  have h2 := Cut.length hx
  simp only [upd, Cert.cells, Nat.zero_add, List.take_zero, List.nil_append, h2]
  congr 1
  rw [← h1, List.drop_left]

theorem owned_vs {s : Sl} {bl : List Blk} {vs : List Vote} (hv : ∀ V ∈ vs, Vgood V) (h : Hw.Acc s bl (vs.map Vote.cells).flatten 81 vs.length 132) (hm : vs.length ≤ 1000000) : ∀ W2, Lies bl W2 → VotesAt W2 s vs := fun W2 hl => ⟨vs, acc_seq h hl rfl rfl (fun r hr => Vote.length (hv r hr).ok) hm fun i r d hr hd => (by
  rw [hr] at hd
  obtain rfl := Option.some.inj hd
  exact ⟨(hv r (List.mem_of_getElem? hr)).ok, rfl, (hv r (List.mem_of_getElem? hr)).wf⟩)⟩

theorem mk_item_vote  : Meets Tryz.prog 100 [.func (.func 77) #[] #[]] [] (fun _ => True) (fun v out => ∃ c, v = .func (.func 194) #[] #[ptr c 0] ∧ out = [⟨c, [.func (.func 77) #[] #[]], 114, 1⟩]) := by
 intro W hW
 refine Ag Tryz.func100 J 4 Tryz.ntmps100 J (G2 ?_)
 refine .box1 J J J ?_
 intro n1 hn1 hf1
 refine G11 ?_
 refine Ah (out := (⟨n1, [.func (.func 77) #[] #[]], 114, 1⟩ :: [])) (Ad J J) (Ac rM Ae) ?_
 exact ⟨n1, rfl, by simp⟩

theorem cert_read (a : Option Addr) (n c : Nat) (xs : List UInt8) (hl : xs.length = n) (hp : a = none → n = 0) (hn : n ≤ 90000) : Meets Tryz.prog 29 [.slice a n c] [] (fun W => SeesP W a (Aa xs)) (CertRead xs) := by
 intro W hW
 obtain ⟨o, r1, h1⟩ : ∃ l r, blkR xs 0 0 = (l, r) := ⟨_, _, rfl⟩
 obtain ⟨a1, e1⟩ := r1
 have hd1 := blkE_le h1 hl (Nat.zero_le _)
 have hcr : Bj xs = if (Bk (o.getD [])).2 = 0 then (match readVL xs 16 a1 e1 with | some (vs, a, e) => if endR xs.length a e = 0 ∧ (⟨(Bk (o.getD [])).1, vs⟩ : DCert).check = 0 then ((⟨(Bk (o.getD [])).1, vs⟩ : DCert), (0 : Int)) else (dcertz, (4 : Int)) | none => (dcertz, (4 : Int))) else (dcertz, (4 : Int)) := by simp only [Bj, h1]
 refine Ag Tryz.func29 J 40 Tryz.ntmps29 J (.sr (.alloc (cs := Cert.zero.cells) J Cert.zr J ?_))
 intro n2 hn2 hf2
 refine .a J J J (.nsr (.m J J J (.call4 J J J J J Body91 (oct_Read a n c xs hl hp hn) (fun w h => Ao h J hW) ?_)))
 rintro v7 out7 ⟨n7, q7, cp7, rfl, hcp7, rfl⟩
 refine .nd (fun hnd => ?_)
 have hne : q7 ≠ n7 := by intro e; simp [RB, e] at hnd
 clear hnd
 refine .a J J J (.nsr (.alloc (cs := Cert.zero.cells) J Cert.zr J ?_))
 intro n5 hn5 hf5
 refine .nsr (.a J J J (.na (.seq (.sr (.m J J J (.callL (L := [RB n7 q7 n cp7 0 0]) J J J J J Body120 (rd_BlockE n7 q7 n cp7 0 0 xs hl (Nat.zero_le _) hcp7 hn o a1 e1 h1) (Ac rM Ae) (Ay J) (fun w h => ⟨Ak h Z1, Aj h Z2, hne⟩) ?_))))))
 rintro v12 out12 ⟨s12, bl12, rfl, hac12, rfl⟩
 simp only [List.append_assoc, List.cons_append, List.nil_append]
 refine .call4 J J J J J Body79 (cut_read s12.p s12.n s12.c (o.getD []) hac12.num.symm (fun e => hac12.nil e) (by rw [hac12.num]; omega)) (fun w h => hac12.see (Lies.of h (by repeat (exact Aq)))) ?_
 rintro v13 out13 ⟨C13, okC, rfl, hC13⟩
 refine .m J J J (.eX J J J J (.eX J J J J (.fld J J J Y55.h J Sz53 dE _ J (.storeN C13.cells J J J J J (Cut.isCell okC) Sz53 (Cut.length okC) mR (by rw [Cert.length Cert.zero_ok, Cut.length okC]; decide) (upd_cut Cert.zero_ok okC) uU ?_))))
 refine .a J J J (.nsr (.m J J J (.nei J J J J J (.na (.condNP J (fun hc0 => ?_) (fun hc0 => ?_))))))
 ·
  refine .sr (.build (cs := Cert.zero.cells) J J J (fun w => by kernel_rfl) ?_)
  refine .sA J J J J (Cert.isCell (by exact Cert.zero_ok)) Sz55 (Cert.length (by exact Cert.zero_ok)) mR (Cert.length (by exact Cert.zero_ok)) uU ?_
  refine .a J J J (.na (.ret (at_r (en_r (Ah (out := []) (Am J J J Y55.h J Sz55 mR (by exact Cert.length (by exact Cert.zero_ok))) Ae ?_)))))
  exact cert_bad (by rw [hcr]; exact if_neg oM)
 have hc13 : (Bk (o.getD [])).2 = 0 := by omega
 refine .skip (at_n (.sr (.a J J J (.na (.seq (.sr (.m J J J (.call4 J J J J J Body100 (mk_item_vote) tV ?_))))))))
 rintro v22 out22 ⟨c22, rfl, rfl⟩
 refine .nd (fun hnd => ?_)
 have hcn : c22 ≠ n7 := by intro e; simp [RB, e] at hnd
 clear hnd
 simp only [List.append_assoc, List.cons_append, List.nil_append]
 refine .callL (L := [RB n7 q7 n cp7 a1 e1]) J J J J J Body99 (read_votes n7 q7 n cp7 a1 e1 c22 16 xs hl hd1.1 hcp7 hn hcn dE) (Ac rM Ae) (Ay J) (fun w h => ⟨Ak h mR, Aj h mR, hne, (Ak (B := ⟨c22, _, _, _⟩) h Z0).cell (o := 0) J⟩) ?_
 rintro v23 out23 ⟨s23, bl23, a2, e2, ha2, rfl, rfl, hv23⟩
 simp only [List.append_assoc, List.cons_append, List.nil_append]
 refine .m J J J (.eX J J J J (.extractB J J J J (fun hs8_50 => ?_) (fun hs8_50 => ?_)))
 ·
  have hs8_5 := hs8_50
  obtain ⟨r23, hr23⟩ := Option.isSome_iff_exists.1 hs8_5
  obtain ⟨vs, a4, e4⟩ := r23
  obtain ⟨rfl, rfl, hvn, hvo, hvac⟩ := hv23 vs a4 e4 hr23
  refine .fld J J J Y55.h J Sz24 dE _ J (.s1 J J J J J Sz24 mR (by rw [Cert.length (by exact ⟨okC⟩)]; decide) (by exact Cert.set_fVotes (by exact ⟨okC⟩) _) uU ?_)
  refine .a J J J (.nsr (.m J J J (.not J J J (.na (.cond_f J J (.skip (at_n (.seq (.sr (.m J J J (.cV J J J J Body105 (rd_End n7 q7 n cp7 a2 e2 ha2 oM) (fun w h => Ak h mR) ?_)))))))))))
  refine two (fun r hr k => Tr.nei J J J J hr k) (fun hs11_20 => ?_) (fun hs11_20 => ?_)
  ·
   have hs11_2 := nd_t hs11_20
   refine .m J J J (.skp J J (.skp J J (.skp J J (.pick J J J J J J (.na (.cond_t J J (.sr (.build (cs := Cert.zero.cells) J J J (fun w => by kernel_rfl) ?_))))))))
   refine .sA J J J J (Cert.isCell (by exact Cert.zero_ok)) Sz55 (Cert.length (by exact Cert.zero_ok)) mR (Cert.length (by exact Cert.zero_ok)) uU ?_
   refine .a J J J (.na (.ret (at_r (en_r (Ah (out := []) (Am J J J Y55.h J Sz55 mR (by exact Cert.length (by exact Cert.zero_ok))) Ae ?_)))))
   exact cert_bad (by rw [hcr, if_pos hc13, hr23]; dsimp only; rw [hl]; exact if_neg (fun h => by have := h.1; omega))
  have hs11_2 := nd_f hs11_20
  refine .m J J J (.lA J J J Y55.h J Sz55 mR (Cert.length (by exact ⟨okC⟩)) ?_)
  refine .cV J J J J Body31 (cert_check ({ Cert.zero with fCut := C13, fVotes := s23 } : Cert) ⟨(Bk (o.getD [])).1, vs⟩) (fun w h => ⟨⟨okC⟩, hC13 w (Lies.of h (by repeat (first | exact Aq | refine in_there ?_ | refine Ce ?_))), owned_vs hvo hvac oM w (Lies.of h (by repeat (exact Aq)))⟩) ?_
  refine .nei J J J J J (.pick J J J J J J (.na (.condNP J (fun hc2 => ?_) (fun hc2 => ?_))))
  ·
   refine .sr (.build (cs := Cert.zero.cells) J J J (fun w => by kernel_rfl) ?_)
   refine .sA J J J J (Cert.isCell (by exact Cert.zero_ok)) Sz55 (Cert.length (by exact Cert.zero_ok)) mR (Cert.length (by exact Cert.zero_ok)) uU ?_
   refine .a J J J (.na (.ret (at_r (en_r (Ah (out := []) (Am J J J Y55.h J Sz55 mR (by exact Cert.length (by exact Cert.zero_ok))) Ae ?_)))))
   exact cert_bad (by rw [hcr, if_pos hc13, hr23]; dsimp only; rw [hl]; exact if_neg (fun h => by have := h.2; omega))
  refine .skip (at_n (.sr (.lA J J J Y55.h J Sz55 mR (Cert.length (by exact ⟨okC⟩)) ?_)))
  refine .sA J J J J (Cert.isCell (by exact ⟨okC⟩)) Sz55 (Cert.length (by exact ⟨okC⟩)) mR (Cert.length (by exact Cert.zero_ok)) uU ?_
  refine .a J J J (.na (.ret (en_r (Ah (out := (out13 ++ (bl23 ++ []))) (Am J J J Y55.h J Sz55 mR (by exact Cert.length (by exact ⟨okC⟩))) (Ab sG (Ab sG Ae)) ?_))))
  exact cert_okR (D := ⟨(Bk (o.getD [])).1, vs⟩) (by rw [hcr, if_pos hc13, hr23]; dsimp only; rw [hl]; exact if_pos ⟨by omega, by omega⟩) ⟨okC⟩ (fun W2 h2 => ⟨⟨okC⟩, hC13 W2 (h2.sub (by repeat (exact Aq))), owned_vs hvo hvac oM W2 (h2.sub (by repeat (first | exact Aq | refine Ce ?_)))⟩)
 have hs8_5 := hs8_50
 have hr23 : readVL xs 16 a1 e1 = none := by simpa using hs8_5
 refine .fld J J J Y55.h J Sz24 dE _ J (.s1 J J J J J Sz24 mR (by rw [Cert.length (by exact ⟨okC⟩)]; decide) (by exact Cert.set_fVotes (by exact ⟨okC⟩) _) uU ?_)
 refine .a J J J (.nsr (.m J J J (.not J J J (.na (.cond_t J J (.sr (.build (cs := Cert.zero.cells) J J J (fun w => by kernel_rfl) ?_)))))))
 refine .sA J J J J (Cert.isCell (by exact Cert.zero_ok)) Sz55 (Cert.length (by exact Cert.zero_ok)) mR (Cert.length (by exact Cert.zero_ok)) uU ?_
 refine .a J J J (.na (.ret (at_r (en_r (Ah (out := []) (Am J J J Y55.h J Sz55 mR (by exact Cert.length (by exact Cert.zero_ok))) Ae ?_)))))
 exact cert_bad (by rw [hcr, if_pos hc13, hr23])

theorem drop_cons {xs l : List UInt8} {a : Nat} {f : UInt8} (h : xs.drop a = f :: l) : a < xs.length ∧ xs.getD a 0 = f ∧ xs.drop (a + 1) = l := by
  have hlt : a < xs.length := by
    rcases Nat.lt_or_ge a xs.length with h1 | h1
    · exact h1
    · rw [List.drop_eq_nil_of_le h1] at h; cases h
  rw [List.drop_eq_getElem_cons hlt] at h
  injection h with h1 h2
  exact ⟨hlt, by rw [List.getD_eq_getElem?_getD, List.getElem?_eq_getElem hlt]; exact h1, h2⟩
theorem drop_split {xs p t : List UInt8} {a : Nat} (h : xs.drop a = p ++ t) (hp : 0 < p.length) : a + p.length ≤ xs.length ∧ (xs.drop a).take p.length = p ∧ xs.drop (a + p.length) = t := by
  have h1 := congrArg List.length h
  rw [List.length_drop, List.length_append] at h1
  refine ⟨by omega, by rw [h]; simp, ?_⟩
  rw [← List.drop_drop, h]; simp
theorem dig_fwd {xs d t : List UInt8} {a : Nat} (h : xs.drop a = d ++ t) (hd : d.length = 32) : Cf xs a 0 = (d, a + 32, 0) ∧ xs.drop (a + 32) = t := by
  obtain ⟨h1, h2, h3⟩ := drop_split h oM
  rw [hd] at h1 h2 h3
  unfold Cf
  rw [if_neg sP, if_neg oM, h2]
  exact ⟨rfl, h3⟩
theorem num_fwd {xs t : List UInt8} {a : Nat} {x : UInt64} (h : xs.drop a = A6 x ++ t) : A5 xs a 0 = (x, a + szN x.toNat, 0) ∧ xs.drop (a + szN x.toNat) = t := by
  have hp := A2 x.toNat
  have hl := Ax x
  obtain ⟨h1, h2, h3⟩ := drop_split h oM
  rw [hl] at h1 h2 h3
  rw [A6, List.cons_append] at h
  obtain ⟨g1, g2, g3⟩ := drop_cons h
  obtain ⟨n1, n2⟩ := num_back x
  have hv : numV xs a = x := by
    rw [numV, g2, g3, n1, List.take_left' (tailB_length x _)]
    exact n2
  unfold A5
  rw [if_neg sP, if_neg oM, hv, g2, n1, if_neg oM, if_pos rfl]
  exact ⟨rfl, h3⟩
theorem blk_fwd {xs ds t : List UInt8} {a : Nat} (hn : ds.length ≤ 1000000) (h : xs.drop a = A6 (UInt64.ofNat ds.length) ++ ds ++ t) : blkR xs a 0 = (some ds, a + szN ds.length + ds.length, 0) ∧ xs.drop (a + szN ds.length + ds.length) = t := by
  rw [List.append_assoc] at h
  have hx : (UInt64.ofNat ds.length).toNat = ds.length := Bc hn
  obtain ⟨h1, h2⟩ := num_fwd h
  rw [hx] at h1 h2
  unfold blkR
  rw [h1]
  simp only [hx]
  rw [if_neg sP]
  have hl := congrArg List.length h2
  rw [List.length_drop, List.length_append] at hl
  have hz := A2 ds.length
  have hle : a + szN ds.length ≤ xs.length := by
    have := congrArg List.length h
    rw [List.length_drop, List.length_append, Ax, hx] at this
    omega
  rw [if_neg oM, h2]
  refine ⟨by simp, ?_⟩
  rw [← List.drop_drop, h2]; simp
theorem tak_fwd {xs d t : List UInt8} {a m : Nat} (h : xs.drop a = d ++ t) (hd : d.length = m) (hm : 0 < m) : takR xs m a 0 = (d, a + m, 0) ∧ xs.drop (a + m) = t := by
  obtain ⟨h1, h2, h3⟩ := drop_split h oM
  rw [hd] at h1 h2 h3
  unfold takR
  rw [if_neg sP, if_neg oM, h2]
  exact ⟨rfl, h3⟩
theorem digs_fwd {xs t : List UInt8} {ls : List (List UInt8)} {a : Nat} (hls : ∀ l ∈ ls, l.length = 32) (h : xs.drop a = ls.flatten ++ t) : ∀ j, j ≤ ls.length → Av xs j a 0 = (ls.take j, a + 32 * j, 0) ∧ xs.drop (a + 32 * j) = (ls.drop j).flatten ++ t
  | 0, _ => ⟨rfl, by simpa using h⟩
  | j + 1, hj => by
    obtain ⟨h1, h2⟩ := digs_fwd hls h j oM
    rw [List.drop_eq_getElem_cons (l := ls) (i := j) oM, List.flatten_cons, List.append_assoc] at h2
    obtain ⟨h3, h4⟩ := dig_fwd h2 (hls _ (List.getElem_mem oM))
    refine ⟨?_, by rw [show a + 32 * (j + 1) = a + 32 * j + 32 by omega]; exact h4⟩
    rw [Av, h1]
    simp only [h3]
    rw [List.take_succ_eq_append_getElem oM]
    rfl
theorem dig_bwd {xs d : List UInt8} {a a1 : Nat} {e : Int} (h : Cf xs a e = (d, a1, 0)) : e = 0 ∧ a1 = a + 32 ∧ a + 32 ≤ xs.length ∧ xs.drop a = d ++ xs.drop a1 := by
  unfold Cf at h
  by_cases he : e = 0
  · rw [if_neg (by simp [he])] at h
    by_cases h1 : xs.length < a + 32
    · rw [if_pos h1] at h; simp at h
    · rw [if_neg h1] at h
      obtain ⟨rfl, rfl⟩ : (xs.drop a).take 32 = d ∧ a + 32 = a1 := by simpa using h
      exact ⟨he, rfl, by omega, by rw [← List.drop_drop, List.take_append_drop]⟩
  · rw [if_pos he] at h
    simp at h; exact absurd h.2.2 he
theorem num_bwd {xs : List UInt8} {x : UInt64} {a a1 : Nat} {e : Int} (h : A5 xs a e = (x, a1, 0)) : e = 0 ∧ a1 = a + szN x.toNat ∧ a1 ≤ xs.length ∧ xs.drop a = A6 x ++ xs.drop a1 := by
  unfold A5 at h
  by_cases he : e = 0
  · rw [if_neg (by simp [he])] at h
    by_cases h1 : xs.length ≤ a
    · rw [if_pos h1] at h; simp at h
    rw [if_neg h1] at h
    by_cases h2 : xs.length < a + Bb (xs.getD a 0)
    · rw [if_pos h2] at h; simp at h
    rw [if_neg h2] at h
    by_cases h3 : szN (numV xs a).toNat = Bb (xs.getD a 0)
    · rw [if_pos h3] at h
      obtain ⟨h4, h5⟩ : numV xs a = x ∧ a + Bb (xs.getD a 0) = a1 := by simpa using h
      have hc := (head_of (xs.getD a 0)).1
      have hl : ((xs.drop (a + 1)).take (Bb (xs.getD a 0) - 1)).length = Bb (xs.getD a 0) - 1 := by rw [List.length_take, List.length_drop]; omega
      have hb := num_only hl h3
      rw [show foldB (headV (xs.getD a 0)) ((xs.drop (a + 1)).take (Bb (xs.getD a 0) - 1)) = x from h4] at hb
      rw [h4] at h3
      refine ⟨he, by omega, by omega, ?_⟩
      have e3 : xs.drop a1 = (xs.drop (a + 1)).drop (Bb (xs.getD a 0) - 1) := by rw [List.drop_drop]; congr 1; omega
      rw [hb, e3, List.cons_append, List.take_append_drop, List.drop_eq_getElem_cons (l := xs) (i := a) oM]
      congr 1
      rw [List.getD_eq_getElem?_getD, List.getElem?_eq_getElem oM]; rfl
    · rw [if_neg h3] at h; simp at h
  · rw [if_pos he] at h
    simp at h; exact absurd h.2.2 he
theorem blk_bwd {xs : List UInt8} {o : Option (List UInt8)} {a a1 : Nat} {e : Int} (h : blkR xs a e = (o, a1, 0)) : e = 0 ∧ a1 ≤ xs.length ∧ ∃ ds, o = some ds ∧ xs.drop a = A6 (UInt64.ofNat ds.length) ++ ds ++ xs.drop a1 := by
  unfold blkR at h
  by_cases he : (A5 xs a e).2.2 = 0
  · rw [if_neg (by simp [he])] at h
    by_cases h1 : xs.length < (A5 xs a e).2.1 + (A5 xs a e).1.toNat
    · rw [if_pos h1] at h; simp at h
    rw [if_neg h1] at h
    obtain ⟨h2, h3⟩ : some ((xs.drop (A5 xs a e).2.1).take (A5 xs a e).1.toNat) = o ∧ (A5 xs a e).2.1 + (A5 xs a e).1.toNat = a1 := by simpa using h
    obtain ⟨g1, g2, g3, g4⟩ := num_bwd (xs := xs) (x := (A5 xs a e).1) (a := a) (a1 := (A5 xs a e).2.1) (e := e) (by rw [← he])
    have hl : ((xs.drop (A5 xs a e).2.1).take (A5 xs a e).1.toNat).length = (A5 xs a e).1.toNat := by simp; omega
    refine ⟨g1, by omega, _, h2.symm, ?_⟩
    rw [hl, UInt64.ofNat_toNat, List.append_assoc, ← h3, ← List.drop_drop, List.take_append_drop]
    exact g4
  · rw [if_pos he] at h
    simp at h; exact absurd h.2.2 he
theorem tak_bwd {xs d : List UInt8} {a a1 m : Nat} {e : Int} (h : takR xs m a e = (d, a1, 0)) : e = 0 ∧ a1 = a + m ∧ a1 ≤ xs.length ∧ d.length = m ∧ xs.drop a = d ++ xs.drop a1 := by
  unfold takR at h
  by_cases he : e = 0
  · rw [if_neg (by simp [he])] at h
    by_cases h1 : xs.length < a + m
    · rw [if_pos h1] at h; simp at h
    · rw [if_neg h1] at h
      obtain ⟨rfl, rfl⟩ : (xs.drop a).take m = d ∧ a + m = a1 := by simpa using h
      exact ⟨he, rfl, by omega, by simp; omega, by rw [← List.drop_drop, List.take_append_drop]⟩
  · rw [if_pos he] at h
    simp at h; exact absurd h.2.2 he
theorem digs_bwd {xs : List UInt8} {a : Nat} {e : Int} : ∀ (j : Nat) (ls : List (List UInt8)) (a1 : Nat), Av xs j a e = (ls, a1, 0) → e = 0 ∧ ls.length = j ∧ xs.drop a = ls.flatten ++ xs.drop a1
  | 0, ls, a1, h => by
    obtain ⟨rfl, rfl, rfl⟩ : [] = ls ∧ a = a1 ∧ e = 0 := by simpa [Av] using h
    exact ⟨rfl, rfl, rfl⟩
  | j + 1, ls, a1, h => by
    rw [Av] at h
    obtain ⟨h1, h2⟩ : (Av xs j a e).1 ++ [(Cf xs (Av xs j a e).2.1 (Av xs j a e).2.2).1] = ls ∧ (Cf xs (Av xs j a e).2.1 (Av xs j a e).2.2).2 = (a1, 0) := by simpa using h
    obtain ⟨g1, g2, g3, g4⟩ := dig_bwd (xs := xs) (d := (Cf xs (Av xs j a e).2.1 (Av xs j a e).2.2).1) (a := (Av xs j a e).2.1) (a1 := a1) (e := (Av xs j a e).2.2) (by rw [← h2])
    obtain ⟨k1, k2, k3⟩ := digs_bwd j (Av xs j a e).1 (Av xs j a e).2.1 (by rw [← g1])
    refine ⟨k1, by rw [← h1, List.length_append, k2]; rfl, ?_⟩
    rw [← h1, List.flatten_append, k3, g4]
    simp
theorem readP_bytes {D : DB} (h : D.ok) (hc : D.check = 0) (t : List UInt8) : Cm (D.bytes ++ t) = (D, D.bytes.length, 0) := by
  have hs := D.head_small hc
  have hl1 : (UInt64.ofNat D.ls.length).toNat = D.ls.length := Bc oM
  obtain ⟨xs, hxs⟩ : ∃ xs, D.bytes ++ t = xs := ⟨_, rfl⟩
  rw [hxs]
  have h0 : xs.drop 0 = D.w ++ (A6 D.seq ++ (D.prev ++ (A6 (UInt64.ofNat D.ls.length) ++ (D.ls.flatten ++ (A6 (UInt64.ofNat D.ds.length) ++ D.ds ++ (D.sg ++ t)))))) := by
    rw [List.drop_zero, ← hxs]
    simp only [DB.bytes, DB.body, List.append_assoc]
  obtain ⟨r1, h1⟩ := dig_fwd h0 h.w
  obtain ⟨r2, h2⟩ := num_fwd h1
  obtain ⟨r3, h3⟩ := dig_fwd h2 h.prev
  obtain ⟨r4, h4⟩ := num_fwd h3
  rw [hl1] at r4 h4
  obtain ⟨r5, h5⟩ := digs_fwd h.ls h4 D.ls.length (Nat.le_refl _)
  rw [List.take_length] at r5
  rw [List.drop_length, List.flatten_nil, List.nil_append] at h5
  obtain ⟨r6, h6⟩ := blk_fwd oM h5
  obtain ⟨r7, h7⟩ := tak_fwd h6 h.sg dE
  have hk : min (UInt64.ofNat D.ls.length).toNat 17 = D.ls.length := by omega
  have hlen : D.bytes.length = 0 + 32 + szN D.seq.toNat + 32 + szN D.ls.length + 32 * D.ls.length + szN D.ds.length + D.ds.length + 64 := by
    have hfl := Bn h.ls (Nat.le_refl D.ls.length)
    rw [List.take_length] at hfl
    simp only [DB.bytes, DB.body, List.length_append, Ax, h.w, h.prev, h.sg, hfl, hl1, Bc (n := D.ds.length) oM]
    omega
  simp only [Cm, r1, r2, r3, r4, hk, r5, r6, r7, Option.getD_some]
  rw [h.sg, hlen, List.drop_of_length_le sP, List.append_nil]
theorem readD_bytes {D : DB} (h : D.ok) (hc : D.check = 0) : B3 D.bytes = (D, 0) := by
  have hr := readP_bytes h hc []
  rw [List.append_nil] at hr
  rw [readD_ok (by rw [hr]; exact ⟨by simp [endR], hc⟩), hr]
theorem bytes_inj {D E : DB} (hD : D.ok) (hE : E.ok) (cD : D.check = 0) (cE : E.check = 0) : D.bytes = E.bytes ↔ D = E := by
  constructor
  · intro h
    have h1 := readD_bytes hD cD
    rw [h, readD_bytes hE cE] at h1
    exact (congrArg Prod.fst h1).symm
  · intro h; rw [h]
theorem readD_only {xs : List UInt8} (h : (B3 xs).2 = 0) : (B3 xs).1.check = 0 ∧ (B3 xs).1.bytes = xs := by
  by_cases hg : endR xs.length (Cm xs).2.1 (Cm xs).2.2 = 0 ∧ (Cm xs).1.check = 0
  · rw [readD_ok hg]
    refine ⟨hg.2, ?_⟩
    obtain ⟨he, hc⟩ := hg
    have hs := (Cm xs).1.head_small hc
    have e0 : (Cm xs).2.2 = 0 ∧ ¬ (0 : Int) < (xs.length : Int) - ((Cm xs).2.1 : Int) := by
      unfold endR at he
      split at he
      · rename_i h1
        exact ⟨h1, fun h2 => by rw [if_pos h2] at he; cases he⟩
      · rename_i h1; exact absurd he h1
    obtain ⟨e1, e2⟩ := e0
    simp only [Cm] at e1 e2 hs hc ⊢
    obtain ⟨l1, p1, h1⟩ : ∃ l r, Cf xs 0 0 = (l, r) := ⟨_, _, rfl⟩
    obtain ⟨a1, d1⟩ := p1
    rw [h1] at e1 e2 hs ⊢
    simp only at e1 e2 hs ⊢
    obtain ⟨x2, p2, h2⟩ : ∃ l r, A5 xs a1 d1 = (l, r) := ⟨_, _, rfl⟩
    obtain ⟨a2, d2⟩ := p2
    rw [h2] at e1 e2 hs ⊢
    simp only at e1 e2 hs ⊢
    obtain ⟨l3, p3, h3⟩ : ∃ l r, Cf xs a2 d2 = (l, r) := ⟨_, _, rfl⟩
    obtain ⟨a3, d3⟩ := p3
    rw [h3] at e1 e2 hs ⊢
    simp only at e1 e2 hs ⊢
    obtain ⟨x4, p4, h4⟩ : ∃ l r, A5 xs a3 d3 = (l, r) := ⟨_, _, rfl⟩
    obtain ⟨a4, d4⟩ := p4
    rw [h4] at e1 e2 hs ⊢
    simp only at e1 e2 hs ⊢
    obtain ⟨ls, p5, h5⟩ : ∃ l r, Av xs (min x4.toNat 17) a4 d4 = (l, r) := ⟨_, _, rfl⟩
    obtain ⟨a5, d5⟩ := p5
    rw [h5] at e1 e2 hs ⊢
    simp only at e1 e2 hs ⊢
    obtain ⟨o, p6, h6⟩ : ∃ l r, blkR xs a5 d5 = (l, r) := ⟨_, _, rfl⟩
    obtain ⟨a6, d6⟩ := p6
    rw [h6] at e1 e2 hs ⊢
    simp only at e1 e2 hs ⊢
    obtain ⟨l7, p7, h7⟩ : ∃ l r, takR xs 64 a6 d6 = (l, r) := ⟨_, _, rfl⟩
    obtain ⟨a7, d7⟩ := p7
    rw [h7] at e1 e2 ⊢
    simp only at e1 e2 ⊢
    subst e1
    obtain ⟨rfl, i7, j7, k7, g7⟩ := tak_bwd h7
    obtain ⟨rfl, i6, ds, rfl, g6⟩ := blk_bwd h6
    obtain ⟨rfl, i5, g5⟩ := digs_bwd _ _ _ h5
    obtain ⟨rfl, i4, j4, g4⟩ := num_bwd h4
    obtain ⟨rfl, i3, j3, g3⟩ := dig_bwd h3
    obtain ⟨rfl, i2, j2, g2⟩ := num_bwd h2
    obtain ⟨_, i1, j1, g1⟩ := dig_bwd h1
    have hx4 : x4 = UInt64.ofNat ls.length := by
      apply UInt64.toNat_inj.1
      rw [Bc oM]; omega
    have hnil : xs.drop a7 = [] := List.drop_eq_nil_of_le oM
    simp only [DB.bytes, DB.body, Option.getD_some]
    rw [k7, List.drop_of_length_le sP, List.append_nil, ← hx4]
    rw [hnil, List.append_nil] at g7
    rw [List.drop_zero] at g1
    rw [g1, g2, g3, g4, g5, g6, g7]
    simp only [List.append_assoc]
  · rw [readD_bad hg] at h; cases h


theorem byteOf_small {x : Int} (h0 : 0 ≤ x) (h4 : x < 256) : (Hw.Cg x).toUInt64.toNat = x.toNat := by
  simp only [Hw.Cg]
  rw [UInt8.toNat_toUInt64, UInt8.toNat_ofNat']
  omega
theorem vcheck_phase {V : Vote} (h : Ap V = 0) : 1 ≤ V.fPhase ∧ V.fPhase ≤ 3 := by
  have h2 : vokB V = true := by
    cases e : vokB V
    · unfold Ap at h
      rw [e] at h
      split at h <;> cases h
    · rfl
  unfold vokB at h2
  by_cases h3 : V.fPhase = 1
  · omega
  · rw [if_neg h3] at h2
    by_cases h4 : V.fPhase = 2 ∨ V.fPhase = 3
    · omega
    · rw [if_neg h4] at h2; cases h2

def DRecord.check (D : DRecord) : Int := if D.dKind = 0 ∨ (8192 : Int) < (D.dData.length : Int) then 2 else 0

theorem record_check (X : Record) (D : DRecord) : Meets Tryz.prog 185 [agg X.cells] [] (fun W => RecordIs W X D) (fun v out => v = i64 D.check ∧ out = []) := by
 intro W hW
 have hok := hW.ok
 have hk := hW.fKind
 have hl := hW.fData.len
 refine Ag Tryz.func185 J 12 Tryz.ntmps185 J (G3 ?_)
 intro n1 hn1 hf1
 refine G7 ?_
 refine .load1 J J J Y5.h J mM (by first | exact Record.get_fKind (by first | exact oK  | exact hok) | exact vL) ?_
 refine two (fun r hr k => Tr.eqi J J J J hr k) (fun hs1_20 => ?_) (fun hs1_20 => ?_)
 ·
  first | have hs1_2 := of_decide_eq_true hs1_20 | have hs1_2 := of_decide_eq_false hs1_20 | have hs1_2 := nd_t hs1_20 | have hs1_2 := nd_f hs1_20 | have hs1_2 := hs1_20
  refine G8 ?_
  refine .cond_t J J (G8 ?_)
  refine ⟨_, [], Ad J J, sP, sP, ?_, rfl⟩
  unfold DRecord.check
  first
   | (refine congrArg i64 (if_pos (Or.inl (UInt8.toNat_inj.1 ?_))).symm; simp_all; done)
   | (refine congrArg i64 (if_pos (Or.inr ?_)).symm; omega)
   | (refine congrArg i64 (if_neg ?_).symm; have h0 : D.dKind = 0 → X.fKind.toNat = 0 := (fun e => by rw [hk, e]; rfl); rintro (h | h); (have := h0 h; omega); omega)
 first | have hs1_2 := of_decide_eq_true hs1_20 | have hs1_2 := of_decide_eq_false hs1_20 | have hs1_2 := nd_t hs1_20 | have hs1_2 := nd_f hs1_20 | have hs1_2 := hs1_20
 refine G2 ?_
 refine .load1 J J J Y58.h J mM (by first | exact Record.get_fData (by first | exact oK  | exact hok) | exact vL) ?_
 refine G5 ?_
 first
  | refine Sat.condP rfl (fun hc0 => ?_) (fun hc0 => ?_)
  | refine Sat.condNP rfl (fun hc0 => ?_) (fun hc0 => ?_)
  | refine Sat.cond rfl (fun hc0 => ?_) (fun hc0 => ?_)
 ·
  refine G8 ?_
  refine ⟨_, [], Ad J J, sP, sP, ?_, rfl⟩
  unfold DRecord.check
  first
   | (refine congrArg i64 (if_pos (Or.inl (UInt8.toNat_inj.1 ?_))).symm; simp_all; done)
   | (refine congrArg i64 (if_pos (Or.inr ?_)).symm; omega)
   | (refine congrArg i64 (if_neg ?_).symm; have h0 : D.dKind = 0 → X.fKind.toNat = 0 := (fun e => by rw [hk, e]; rfl); rintro (h | h); (have := h0 h; omega); omega)
 refine G9 ?_
 refine ⟨_, [], Ad J J, sP, sP, ?_, rfl⟩
 unfold DRecord.check
 first
  | (refine congrArg i64 (if_pos (Or.inl (UInt8.toNat_inj.1 ?_))).symm; simp_all; done)
  | (refine congrArg i64 (if_pos (Or.inr ?_)).symm; omega)
  | (refine congrArg i64 (if_neg ?_).symm; have h0 : D.dKind = 0 → X.fKind.toNat = 0 := (fun e => by rw [hk, e]; rfl); rintro (h | h); (have := h0 h; omega); omega)
def inOrd (ds : List DCert) : Bool := (List.range ds.length).all fun k => decide ((ds.getD k dcertz).dCut.dHeight.toNat = k + 1)
theorem inOrd_yes {ds : List DCert} {n : Nat} (hn : ds.length = n) (h : ∀ j, j < n → (ds.getD j dcertz).dCut.dHeight.toNat = j + 1) : inOrd ds = true := by
  unfold inOrd
  rw [List.all_eq_true]
  intro k hk
  rw [List.mem_range, hn] at hk
  exact decide_eq_true (h k hk)
theorem inOrd_not {ds : List DCert} {k : Nat} (hk : k < ds.length) (h : ¬ (ds.getD k dcertz).dCut.dHeight.toNat = k + 1) : inOrd ds = false := by
  unfold inOrd
  rw [List.all_eq_false]
  exact ⟨k, List.mem_range.2 hk, by rw [decide_eq_false h]; simp⟩
theorem word_next {k : Nat} (h : k < 9223372036854775807) : (A8 (k : Int) + 1).toNat = k + 1 := by
  have e : (A8 (k : Int)).toNat = k := by
    have h0 : ((k : Int) % 18446744073709551616).toNat = k := by omega
    rw [A8, h0, UInt64.toNat_ofNat']
    exact Nat.mod_eq_of_lt oM
  rw [UInt64.toNat_add, e, show (1 : UInt64).toNat = 1 from rfl]
  exact Nat.mod_eq_of_lt oM
theorem cert_is {ds : List DCert} {k : Nat} {d : DCert} (h : ds[k]? = some d) : ds.getD k dcertz = d := by simp [List.getD_eq_getElem?_getD, h]

theorem in_order (s : Sl) (ds : List DCert) : Meets Tryz.prog 80 [s.v] [] (fun W => CertsAt W s ds) (fun v out => v = .bool (inOrd ds) ∧ out = []) := by
 intro W hW
 obtain ⟨rs, hs⟩ := hW
 have hnd := hs.nd
 have hmax := hs.max
 simp only [maxLen] at hmax
 refine Ag Tryz.func80 J 20 Tryz.ntmps80 J (G14 ?_)
 refine .loop (ι := Nat) (fun k => ⟨[(5, s.v), (6, i64 (s.n : Int)), (7, i64 (k : Int))], []⟩) (fun k => k ≤ s.n ∧ ∀ j, j < k → (ds.getD j dcertz).dCut.dHeight.toNat = j + 1) (fun k => s.n - k) (0) ?_ ?_ ?_
 · exact ⟨by omega, fun j hj => by omega⟩
 · exact Ai (wk1 rfl (wk1 rfl (wk1 rfl wk0))) wh0 nD
 rintro k ⟨hk, hg⟩
 refine G6 ?_
 first
  | refine Sat.condP rfl (fun hc0 => ?_) (fun hc0 => ?_)
  | refine Sat.condNP rfl (fun hc0 => ?_) (fun hc0 => ?_)
  | refine Sat.cond rfl (fun hc0 => ?_) (fun hc0 => ?_)
 ·
  have hk2 : k < s.n := by omega
  obtain ⟨b, o, r, d, hsp, hr, hd, his, hlen, hsee⟩ := hs.at dE hk2
  have ehh : r.fCut.fHeight.toNat = d.dCut.dHeight.toNat := by rw [his.fCut.fHeight]
  have hw1 : (A8 (k : Int) + 1).toNat = k + 1 := word_next oM
  refine G7 ?_
  refine .idxSlP 35 J J J hsp J Y23.h Sz55 k J oM (.loadEN r.cells J J J Y55.h J Sz55 sP hlen hsee (.alloc (cs := Cert.zero.cells) J Cert.zr J ?_))
  intro n4 hn4 hf4
  refine G8 ?_
  refine .load1 J J J Y48.h J mM (Cert.see_fCut his.ok 0 _ (Cut.get_fHeight his.ok.o_fCut)) ?_
  refine G2 ?_
  refine .add_u64 J J J (show Al _ _ = some (u64 1) from rfl) (G3 ?_)
  first
   | refine Sat.condP rfl (fun hc1 => ?_) (fun hc1 => ?_)
   | refine Sat.condNP rfl (fun hc1 => ?_) (fun hc1 => ?_)
   | refine Sat.cond rfl (fun hc1 => ?_) (fun hc1 => ?_)
  ·
   refine G12 ?_
   refine ⟨_, [], Ad J J, sP, sP, ?_, rfl⟩
   first
    | exact congrArg Value.bool (inOrd_yes hnd hg).symm
    | (refine congrArg Value.bool (inOrd_not (k := k) oM ?_).symm; rw [cert_is hd]; omega)
  refine G8 ?_
  exact ⟨k + 1, ⟨by omega, fun j hj => by rcases Nat.lt_succ_iff_lt_or_eq.1 hj with h | rfl; exact hg j h; exact (by rw [cert_is hd]; omega)⟩, by omega, Ai (wk1 rfl (wk1 rfl (wk1 rfl wk0))) wh0 nD⟩
 obtain rfl : k = s.n := by omega
 refine G12 ?_
 refine ⟨_, [], Ad J J, sP, sP, ?_, rfl⟩
 first
  | exact congrArg Value.bool (inOrd_yes hnd hg).symm
  | (refine congrArg Value.bool (inOrd_not (k := k) oM ?_).symm; rw [cert_is hd]; omega)

def drecz : DRecord := ⟨0, []⟩
def Ar (K : UInt8) (bs : List UInt8) (chk : Int) : DRecord × Int := if chk = 0 then (if (⟨K, bs⟩ : DRecord).check = 0 then (⟨K, bs⟩, 0) else (drecz, 2)) else (drecz, chk)
def RecMade (K : UInt8) (bs : List UInt8) (chk : Int) (v : Value) (out : List Blk) : Prop := ∃ X : Record, X.ok ∧ v = .tuple #[agg X.cells, i64 (Ar K bs chk).2] ∧ X.fKind = (Ar K bs chk).1.dKind ∧ ∀ W2, Lies out W2 → RecordIs W2 X (Ar K bs chk).1
theorem recz_is (W : World) : RecordIs W Record.zero drecz := ⟨Record.zero_ok, rfl, ⟨rfl, Nat.le_refl _, SeesP.nil, by decide, fun _ => rfl⟩⟩
theorem rec_bad1 {K : UInt8} {bs : List UInt8} {chk : Int} {out : List Blk} (h : ¬ chk = 0) : RecMade K bs chk (.tuple #[agg Record.zero.cells, i64 chk]) out := by
  have e : Ar K bs chk = (drecz, chk) := if_neg h
  refine ⟨Record.zero, Record.zero_ok, ?_, ?_, fun W2 _ => ?_⟩ <;> rw [e]
  · rfl
  · exact recz_is W2
theorem rec_bad2 {K : UInt8} {bs : List UInt8} {chk : Int} {out : List Blk} (h : chk = 0) (h2 : ¬ (⟨K, bs⟩ : DRecord).check = 0) : RecMade K bs chk (.tuple #[agg Record.zero.cells, i64 2]) out := by
  have e : Ar K bs chk = (drecz, 2) := by rw [Ar, if_pos h, if_neg h2]
  refine ⟨Record.zero, Record.zero_ok, ?_, ?_, fun W2 _ => ?_⟩ <;> rw [e]
  · rfl
  · exact recz_is W2
theorem rec_ok {K : UInt8} {bs : List UInt8} {chk : Int} {out : List Blk} {s : Sl} {E : TypeId} (h : chk = 0) (h2 : (⟨K, bs⟩ : DRecord).check = 0) (ha : Hw.Acc s out (Aa bs) E bs.length 1) (hm : bs.length ≤ 1000000) : RecMade K bs chk (.tuple #[agg (⟨K, s⟩ : Record).cells, i64 0]) out := by
  have e : Ar K bs chk = (⟨K, bs⟩, 0) := by rw [Ar, if_pos h, if_pos h2]
  refine ⟨⟨K, s⟩, ⟨trivial⟩, ?_, ?_, fun W2 hl => ?_⟩ <;> rw [e]
  exact ⟨⟨trivial⟩, rfl, Ci ha hl rfl hm⟩

theorem rec_of_vote (K : UInt8) (X : Vote) (D : Vote) (hsz : (A0 D).length ≤ 40000) : Meets Tryz.prog 163 [u8 K, agg X.cells, .func (.func 114) #[] #[]] [] (fun W => VoteIs W X D) (RecMade K (A0 D) (Ap D)) := by
 intro W hW
 obtain rfl : D = X := hW.eq.symm
 refine Ag Tryz.func163 J 29 Tryz.ntmps163 J (G3 ?_)
 intro n4 hn4 hf4
 refine .alloc (cs := Record.zero.cells) J Record.zr J ?_
 intro n6 hn6 hf6
 refine G7 ?_
 refine .call4 J J J J J Body114 (vote_bytes D hW.ok) (fun w h => trivial) ?_
 rintro v14 out14 ⟨s14, rfl, hac14⟩
 have hnm := hac14.num
 refine G14 ?_
 first
  | refine Sat.condP rfl (fun hc0 => ?_) (fun hc0 => ?_)
  | refine Sat.condNP rfl (fun hc0 => ?_) (fun hc0 => ?_)
  | refine Sat.cond rfl (fun hc0 => ?_) (fun hc0 => ?_)
 ·
  refine G2 ?_
  refine .build (cs := Record.zero.cells) J J J (fun w => by kernel_rfl) ?_
  refine G8 ?_
  refine Ah (out := []) (Am J J J Y91.h J Sz91 mM (by first | (simp; done) | exact Record.length (by first | exact oK  | exact hW.ok | exact ⟨trivial⟩))) Ae ?_
  exact rec_bad1 oM
 refine G6 ?_
 refine .build (cs := (⟨K, s14⟩ : Record).cells) J J J (fun w => by kernel_rfl) ?_
 refine .alloc (cs := Record.zero.cells) J Record.zr J ?_
 intro n10 hn10 hf10
 refine G7 ?_
 refine .cV J J J J Body185 (record_check ⟨K, s14⟩ ⟨K, A0 D⟩) (fun w h => ⟨⟨trivial⟩, rfl, Ci hac14 (Lies.of h iN) J oM⟩) ?_
 refine G3 ?_
 first
  | refine Sat.condP rfl (fun hc1 => ?_) (fun hc1 => ?_)
  | refine Sat.condNP rfl (fun hc1 => ?_) (fun hc1 => ?_)
  | refine Sat.cond rfl (fun hc1 => ?_) (fun hc1 => ?_)
 ·
  refine G2 ?_
  refine .build (cs := Record.zero.cells) J J J (fun w => by kernel_rfl) ?_
  refine G7 ?_
  refine Ah (out := []) (Am J J J Y91.h J Sz91 mM (by first | (simp; done) | exact Record.length (by first | exact oK  | exact hW.ok | exact ⟨trivial⟩))) Ae ?_
  exact rec_bad2 oM oM
 refine G11 ?_
 refine Ah (out := (out14 ++ [])) (Am J J J Y91.h J Sz91 mM (by first | (simp; done) | exact Record.length (by first | exact oK  | exact hW.ok | exact ⟨trivial⟩))) (Ab sG Ae) ?_
 rw [List.append_nil]; exact rec_ok oM oM hac14 oM
theorem rec_of_cut (K : UInt8) (X : Cut) (D : DCut) (hsz : (Bp D).length ≤ 40000) : Meets Tryz.prog 164 [u8 K, agg X.cells, .func (.func 117) #[] #[]] [] (fun W => CutIs W X D) (RecMade K (Bp D) (D.check)) := by
 intro W hW
 have hok := hW.ok
 refine Ag Tryz.func164 J 29 Tryz.ntmps164 J (G3 ?_)
 intro n4 hn4 hf4
 refine .alloc (cs := Record.zero.cells) J Record.zr J ?_
 intro n6 hn6 hf6
 refine G7 ?_
 refine .call4 J J J J J Body117 (cut_bytes X D) (fun w h => hW.ext h J) ?_
 rintro v14 out14 ⟨s14, rfl, hac14⟩
 have hnm := hac14.num
 refine G14 ?_
 first
  | refine Sat.condP rfl (fun hc0 => ?_) (fun hc0 => ?_)
  | refine Sat.condNP rfl (fun hc0 => ?_) (fun hc0 => ?_)
  | refine Sat.cond rfl (fun hc0 => ?_) (fun hc0 => ?_)
 ·
  refine G2 ?_
  refine .build (cs := Record.zero.cells) J J J (fun w => by kernel_rfl) ?_
  refine G8 ?_
  refine Ah (out := []) (Am J J J Y91.h J Sz91 mM (by first | (simp; done) | exact Record.length (by first | exact oK  | exact hW.ok | exact ⟨trivial⟩))) Ae ?_
  exact rec_bad1 oM
 refine G6 ?_
 refine .build (cs := (⟨K, s14⟩ : Record).cells) J J J (fun w => by kernel_rfl) ?_
 refine .alloc (cs := Record.zero.cells) J Record.zr J ?_
 intro n10 hn10 hf10
 refine G7 ?_
 refine .cV J J J J Body185 (record_check ⟨K, s14⟩ ⟨K, Bp D⟩) (fun w h => ⟨⟨trivial⟩, rfl, Ci hac14 (Lies.of h iN) J oM⟩) ?_
 refine G3 ?_
 first
  | refine Sat.condP rfl (fun hc1 => ?_) (fun hc1 => ?_)
  | refine Sat.condNP rfl (fun hc1 => ?_) (fun hc1 => ?_)
  | refine Sat.cond rfl (fun hc1 => ?_) (fun hc1 => ?_)
 ·
  refine G2 ?_
  refine .build (cs := Record.zero.cells) J J J (fun w => by kernel_rfl) ?_
  refine G7 ?_
  refine Ah (out := []) (Am J J J Y91.h J Sz91 mM (by first | (simp; done) | exact Record.length (by first | exact oK  | exact hW.ok | exact ⟨trivial⟩))) Ae ?_
  exact rec_bad2 oM oM
 refine G11 ?_
 refine Ah (out := (out14 ++ [])) (Am J J J Y91.h J Sz91 mM (by first | (simp; done) | exact Record.length (by first | exact oK  | exact hW.ok | exact ⟨trivial⟩))) (Ab sG Ae) ?_
 rw [List.append_nil]; exact rec_ok oM oM hac14 oM
theorem rec_of_cert (K : UInt8) (X : Cert) (D : DCert) (hsz : (Bd D).length ≤ 40000) : Meets Tryz.prog 162 [u8 K, agg X.cells, .func (.func 30) #[] #[]] [] (fun W => CertIs W X D) (RecMade K (Bd D) (D.check)) := by
 intro W hW
 have hok := hW.ok
 refine Ag Tryz.func162 J 29 Tryz.ntmps162 J (G3 ?_)
 intro n4 hn4 hf4
 refine .alloc (cs := Record.zero.cells) J Record.zr J ?_
 intro n6 hn6 hf6
 refine G7 ?_
 refine .call4 J J J J J Body30 (cert_bytes X D) (fun w h => hW.ext h J) ?_
 rintro v14 out14 ⟨s14, rfl, hac14⟩
 have hnm := hac14.num
 refine G14 ?_
 first
  | refine Sat.condP rfl (fun hc0 => ?_) (fun hc0 => ?_)
  | refine Sat.condNP rfl (fun hc0 => ?_) (fun hc0 => ?_)
  | refine Sat.cond rfl (fun hc0 => ?_) (fun hc0 => ?_)
 ·
  refine G2 ?_
  refine .build (cs := Record.zero.cells) J J J (fun w => by kernel_rfl) ?_
  refine G8 ?_
  refine Ah (out := []) (Am J J J Y91.h J Sz91 mM (by first | (simp; done) | exact Record.length (by first | exact oK  | exact hW.ok | exact ⟨trivial⟩))) Ae ?_
  exact rec_bad1 oM
 refine G6 ?_
 refine .build (cs := (⟨K, s14⟩ : Record).cells) J J J (fun w => by kernel_rfl) ?_
 refine .alloc (cs := Record.zero.cells) J Record.zr J ?_
 intro n10 hn10 hf10
 refine G7 ?_
 refine .cV J J J J Body185 (record_check ⟨K, s14⟩ ⟨K, Bd D⟩) (fun w h => ⟨⟨trivial⟩, rfl, Ci hac14 (Lies.of h iN) J oM⟩) ?_
 refine G3 ?_
 first
  | refine Sat.condP rfl (fun hc1 => ?_) (fun hc1 => ?_)
  | refine Sat.condNP rfl (fun hc1 => ?_) (fun hc1 => ?_)
  | refine Sat.cond rfl (fun hc1 => ?_) (fun hc1 => ?_)
 ·
  refine G2 ?_
  refine .build (cs := Record.zero.cells) J J J (fun w => by kernel_rfl) ?_
  refine G7 ?_
  refine Ah (out := []) (Am J J J Y91.h J Sz91 mM (by first | (simp; done) | exact Record.length (by first | exact oK  | exact hW.ok | exact ⟨trivial⟩))) Ae ?_
  exact rec_bad2 oM oM
 refine G11 ?_
 refine Ah (out := (out14 ++ [])) (Am J J J Y91.h J Sz91 mM (by first | (simp; done) | exact Record.length (by first | exact oK  | exact hW.ok | exact ⟨trivial⟩))) (Ab sG Ae) ?_
 rw [List.append_nil]; exact rec_ok oM oM hac14 oM
def A7 (D : DB) : List UInt8 := if D.check = 0 then D.bytes else []
theorem block_bytes (X : Block) (D : DB) : Meets Tryz.prog 111 [agg X.cells] [] (fun W => BlockIs W X D) (fun v out => ∃ s : Sl, v = .tuple #[s.v, i64 D.check] ∧ Hw.Acc s out (Aa (A7 D)) 5 (A7 D).length 1) := by
  intro W hW
  have hbc : bcheck X D.ls = D.check := hW.check
  by_cases hc : D.check = 0
  · refine (bytes_ok X hW.ok D.ls D.ds (by rw [hbc]; exact hc) W ⟨hW.ls, hW.ds⟩).mono fun e W' ⟨v, out, h1, h2, h4⟩ => ⟨v, out, h1, ?_, h4⟩
    clear h1 h4
    obtain ⟨q, c, N, hN, hN2, rfl, hNc, rfl⟩ := h2
    have e : bytesB X D.ls D.ds = A7 D := by rw [A7, if_pos hc]; exact hW.bytes
    rw [e] at hN ⊢
    subst hN
    exact ⟨⟨some ⟨q, 0, none⟩, (A7 D).length, c⟩, by rw [hc]; rfl, .inr ⟨q, c, rfl, hNc, by simp [Aa], rfl⟩⟩
  · refine (bytes_bad X hW.ok D.ls D.ds (by rw [hbc]; exact hc) W ⟨hW.ls, hW.ds⟩).mono fun e W' ⟨v, out, h1, h2, h4⟩ => ⟨v, out, h1, ?_, h4⟩
    clear h1 h4
    obtain ⟨rfl, rfl⟩ := h2
    rw [A7, if_neg hc, hbc]
    exact ⟨Sl.nil, rfl, .inl ⟨rfl, rfl, rfl, rfl⟩⟩

theorem rec_of_block (K : UInt8) (X : Block) (D : DB) (hsz : (A7 D).length ≤ 40000) : Meets Tryz.prog 160 [u8 K, agg X.cells, .func (.func 111) #[] #[]] [] (fun W => BlockIs W X D) (RecMade K (A7 D) (D.check)) := by
 intro W hW
 have hok := hW.ok
 refine Ag Tryz.func160 J 29 Tryz.ntmps160 J (G3 ?_)
 intro n4 hn4 hf4
 refine .alloc (cs := Record.zero.cells) J Record.zr J ?_
 intro n6 hn6 hf6
 refine G7 ?_
 refine .call4 J J J J J Body111 (block_bytes X D) (fun w h => hW.ext h J) ?_
 rintro v14 out14 ⟨s14, rfl, hac14⟩
 have hnm := hac14.num
 refine G14 ?_
 first
  | refine Sat.condP rfl (fun hc0 => ?_) (fun hc0 => ?_)
  | refine Sat.condNP rfl (fun hc0 => ?_) (fun hc0 => ?_)
  | refine Sat.cond rfl (fun hc0 => ?_) (fun hc0 => ?_)
 ·
  refine G2 ?_
  refine .build (cs := Record.zero.cells) J J J (fun w => by kernel_rfl) ?_
  refine G8 ?_
  refine Ah (out := []) (Am J J J Y91.h J Sz91 mM (by first | (simp; done) | exact Record.length (by first | exact oK  | exact hW.ok | exact ⟨trivial⟩))) Ae ?_
  exact rec_bad1 oM
 refine G6 ?_
 refine .build (cs := (⟨K, s14⟩ : Record).cells) J J J (fun w => by kernel_rfl) ?_
 refine .alloc (cs := Record.zero.cells) J Record.zr J ?_
 intro n10 hn10 hf10
 refine G7 ?_
 refine .cV J J J J Body185 (record_check ⟨K, s14⟩ ⟨K, A7 D⟩) (fun w h => ⟨⟨trivial⟩, rfl, Ci hac14 (Lies.of h iN) J oM⟩) ?_
 refine G3 ?_
 first
  | refine Sat.condP rfl (fun hc1 => ?_) (fun hc1 => ?_)
  | refine Sat.condNP rfl (fun hc1 => ?_) (fun hc1 => ?_)
  | refine Sat.cond rfl (fun hc1 => ?_) (fun hc1 => ?_)
 ·
  refine G2 ?_
  refine .build (cs := Record.zero.cells) J J J (fun w => by kernel_rfl) ?_
  refine G7 ?_
  refine Ah (out := []) (Am J J J Y91.h J Sz91 mM (by first | (simp; done) | exact Record.length (by first | exact oK  | exact hW.ok | exact ⟨trivial⟩))) Ae ?_
  exact rec_bad2 oM oM
 refine G11 ?_
 refine Ah (out := (out14 ++ [])) (Am J J J Y91.h J Sz91 mM (by first | (simp; done) | exact Record.length (by first | exact oK  | exact hW.ok | exact ⟨trivial⟩))) (Ab sG Ae) ?_
 rw [List.append_nil]; exact rec_ok oM oM hac14 oM
theorem keep_vote (X : Vote) (D : Vote) (hsz : (A0 D).length ≤ 40000) : Meets Tryz.prog 54 [agg X.cells] [] (fun W => VoteIs W X D) (RecMade 3 (A0 D) (Ap D)) := by
 intro W hW
 refine Ag Tryz.func54 J 8 Tryz.ntmps54 J (G3 ?_)
 intro n1 hn1 hf1
 refine .alloc (cs := Record.zero.cells) J Record.zr J ?_
 intro n2 hn2 hf2
 refine G6 ?_
 refine .call4 J J J J J Body163 (rec_of_vote 3 X D hsz) (fun w h => hW.ext h J) ?_
 rintro v5 out5 ⟨X5, okX5, rfl, kX5, hX5⟩
 refine G8 ?_
 refine Ah (out := (out5 ++ [])) (Am J J J Y91.h J Sz91 mM (by first | (simp; done) | exact Record.length (by first | exact oK  | exact hW.ok | exact okX5 | exact Record.zero_ok))) (Ab sG Ae) ?_
 rw [List.append_nil]; exact ⟨X5, okX5, rfl, kX5, hX5⟩

theorem keep_cut (X : Cut) (D : DCut) (hsz : (Bp D).length ≤ 40000) : Meets Tryz.prog 56 [agg X.cells] [] (fun W => CutIs W X D) (RecMade 4 (Bp D) (D.check)) := by
 intro W hW
 refine Ag Tryz.func56 J 8 Tryz.ntmps56 J (G3 ?_)
 intro n1 hn1 hf1
 refine .alloc (cs := Record.zero.cells) J Record.zr J ?_
 intro n2 hn2 hf2
 refine G6 ?_
 refine .call4 J J J J J Body164 (rec_of_cut 4 X D hsz) (fun w h => hW.ext h J) ?_
 rintro v5 out5 ⟨X5, okX5, rfl, kX5, hX5⟩
 refine G8 ?_
 refine Ah (out := (out5 ++ [])) (Am J J J Y91.h J Sz91 mM (by first | (simp; done) | exact Record.length (by first | exact oK  | exact hW.ok | exact okX5 | exact Record.zero_ok))) (Ab sG Ae) ?_
 rw [List.append_nil]; exact ⟨X5, okX5, rfl, kX5, hX5⟩

theorem keep_cert (X : Cert) (D : DCert) (hsz : (Bd D).length ≤ 40000) : Meets Tryz.prog 52 [agg X.cells] [] (fun W => CertIs W X D) (RecMade 2 (Bd D) (D.check)) := by
 intro W hW
 refine Ag Tryz.func52 J 8 Tryz.ntmps52 J (G3 ?_)
 intro n1 hn1 hf1
 refine .alloc (cs := Record.zero.cells) J Record.zr J ?_
 intro n2 hn2 hf2
 refine G6 ?_
 refine .call4 J J J J J Body162 (rec_of_cert 2 X D hsz) (fun w h => hW.ext h J) ?_
 rintro v5 out5 ⟨X5, okX5, rfl, kX5, hX5⟩
 refine G8 ?_
 refine Ah (out := (out5 ++ [])) (Am J J J Y91.h J Sz91 mM (by first | (simp; done) | exact Record.length (by first | exact oK  | exact hW.ok | exact okX5 | exact Record.zero_ok))) (Ab sG Ae) ?_
 rw [List.append_nil]; exact ⟨X5, okX5, rfl, kX5, hX5⟩

theorem keep_block (X : Block) (D : DB) (hsz : (A7 D).length ≤ 40000) : Meets Tryz.prog 49 [agg X.cells] [] (fun W => BlockIs W X D) (RecMade 1 (A7 D) (D.check)) := by
 intro W hW
 refine Ag Tryz.func49 J 8 Tryz.ntmps49 J (G3 ?_)
 intro n1 hn1 hf1
 refine .alloc (cs := Record.zero.cells) J Record.zr J ?_
 intro n2 hn2 hf2
 refine G6 ?_
 refine .call4 J J J J J Body160 (rec_of_block 1 X D hsz) (fun w h => hW.ext h J) ?_
 rintro v5 out5 ⟨X5, okX5, rfl, kX5, hX5⟩
 refine G8 ?_
 refine Ah (out := (out5 ++ [])) (Am J J J Y91.h J Sz91 mM (by first | (simp; done) | exact Record.length (by first | exact oK  | exact hW.ok | exact okX5 | exact Record.zero_ok))) (Ab sG Ae) ?_
 rw [List.append_nil]; exact ⟨X5, okX5, rfl, kX5, hX5⟩

end Go.Proofs.YtdifpjmfabhpiaaGreat
end
