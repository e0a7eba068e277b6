/- Contracts of package block: Read and its options. Conditions: what the reader and its row hold. -/
import Derived.Test.YtejjamifnombhaaSame
import Derived.Test.YtejjamifnombhaaAcc
import Derived.Laws.Externs
namespace Go.Proofs.Ytejjamifnombhaa
open Go Hw
set_option linter.unusedVariables false
set_option linter.unusedSimpArgs false


def BB (b : Nat) (X : Block) : Blk := ⟨b, X.cells, 31, 131⟩
theorem rd_DigestE (n q N cp a : Nat) (e : Int) (xs : List UInt8) (hx : xs.length = N) (hat : a ≤ N) (hN : N ≤ cp) (hbig : N ≤ 1000000) (l : List UInt8) (a1 : Nat) (e1 : Int) (h : digR xs a e = (l, a1, e1)) : Meets Try.prog 81 [ptr n 0] [n] (fun W => BlkOk W (RB n q N cp a e) ∧ Sees W q 0 (bytesV xs) ∧ q ≠ n)
    (fun v out => v = agg (bytesV l) ∧ out = [RB n q N cp a1 e1]) := by
  have := rd_Digest n q N cp a e xs hx hat hN hbig
  rw [h] at this
  exact this
theorem rd_NumberE (n q N cp a : Nat) (e : Int) (xs : List UInt8) (hx : xs.length = N) (hat : a ≤ N) (hN : N ≤ cp) (hbig : N ≤ 1000000) (l : UInt64) (a1 : Nat) (e1 : Int) (h : numR xs a e = (l, a1, e1)) : Meets Try.prog 82 [ptr n 0] [n] (fun W => BlkOk W (RB n q N cp a e) ∧ Sees W q 0 (bytesV xs) ∧ q ≠ n)
    (fun v out => v = u64 l ∧ out = [RB n q N cp a1 e1]) := by
  have := rd_Number n q N cp a e xs hx hat hN hbig
  rw [h] at this
  exact this
theorem digE_le {xs l : List UInt8} {a a1 N : Nat} {e e1 : Int} (h : digR xs a e = (l, a1, e1)) (hx : xs.length = N) (hat : a ≤ N) : a1 ≤ N ∧ l.length = 32 := by
  have := digR_at xs a e (by omega)
  rw [h] at this
  exact ⟨by have := this.1; simp only at this; omega, this.2⟩
theorem numE_le {xs : List UInt8} {l : UInt64} {a a1 N : Nat} {e e1 : Int} (h : numR xs a e = (l, a1, e1)) (hx : xs.length = N) (hat : a ≤ N) : a1 ≤ N := by
  have := numR_at xs a e (by omega)
  rw [h] at this
  simp only at this; omega


set_option maxRecDepth 100000 in
set_option maxHeartbeats 1000000 in
theorem opt_head (b c n q N cp at' : Nat) (e : Int) (X : Block) (hX : X.ok) (xs : List UInt8) (hx : xs.length = N) (hat : at' ≤ N) (hN : N ≤ cp) (hbig : N ≤ 90000) (hbn : b ≠ n) (hcb : c ≠ b) (hcn : c ≠ n) (hqb : q ≠ b) (hqn : q ≠ n) (l1 : List UInt8) (a1 : Nat) (e1 : Int) (x2 : UInt64) (a2 : Nat) (e2 : Int) (l3 : List UInt8) (a3 : Nat) (e3 : Int) (h1 : digR xs at' e = (l1, a1, e1)) (h2 : numR xs a1 e1 = (x2, a2, e2)) (h3 : digR xs a2 e2 = (l3, a3, e3)) : Meets Try.prog 80 [ptr b 0, ptr c 0] [b, n] (fun W => BlkOk W (BB b X) ∧ BlkOk W (RB n q N cp at' e) ∧ W.cell? ⟨c, 0, none⟩ = some (ptr n 0) ∧ Sees W q 0 (bytesV xs)) (fun v out => v = .tuple #[] ∧ out = [BB b ({ X with fWriter := l1, fSeq := x2, fPrev := l3 } : Block), RB n q N cp a3 e3]) := by
  intro W hW
  have hd1 := digE_le h1 hx hat
  have hd2 := numE_le h2 hx hd1.1
  have hd3 := digE_le h3 hx hd2
  have ok1 : ({ X with fWriter := l1 } : Block).ok := ⟨hd1.2, hX.l_fPrev, hX.l_fSig⟩
  have ok2 : ({ X with fWriter := l1, fSeq := x2 } : Block).ok := ⟨hd1.2, hX.l_fPrev, hX.l_fSig⟩
  refine calls_of (hp0 := [BB b X, RB n q N cp at' e]) Try.func80 rfl 18 Try.ntmps80 rfl (HRep.two hW.1 hW.2.1 hbn) ?_
  refine Sat.seq ?_
  -- region 0
  refine Sat.region ?_
  refine Tr.move rfl rfl rfl ?_
  refine Tr.loadE rfl rfl rfl Try.underlying90 rfl (by first | (simp; done) | (simp; exact hW.2.2) | (simp [Cx.with]; omega)) (hW.2.2.1) ?_
  refine Tr.callL (L := [RB n q N cp (at') (e)]) rfl rfl rfl rfl rfl Body81 (rd_DigestE n q N cp at' e xs hx hat hN (by omega) l1 a1 e1 h1) (rem_there rem_here) (lent_ok rfl) (fun w h => ⟨own_blk h (by first | exact mem0 | exact mem1 | exact mem2 | exact mem3 | exact mem4 | exact mem5 | exact mem6 | exact mem7 | (repeat (first | exact List.mem_cons_self | refine List.mem_cons_of_mem _ ?_ | refine mem_seg ?_))), sees_ext h (by simp [Cx.with]; omega) hW.2.2.2, hqn⟩) ?_
  rintro v2 out2 ⟨rfl, rfl⟩
  refine Tr.nilChk rfl rfl rfl ?_
  refine Tr.fld rfl rfl rfl Try.underlying31 rfl Sz23 (by decide) _ rfl ?_
  refine Tr.storeN (bytesV _) rfl rfl rfl rfl rfl (by first | exact bytesV_cell _ | simp [isCell]) Sz23 (by simp [hd1.2, hd3.2, hX.l_fWriter, hX.l_fPrev, hX.l_fSig]) (by first | exact mem0 | exact mem1 | exact mem2 | exact mem3 | exact mem4 | exact mem5 | exact mem6 | exact mem7 | (repeat (first | exact List.mem_cons_self | refine List.mem_cons_of_mem _ ?_ | refine mem_seg ?_))) (by rw [Block.length (by first | assumption | (simp [hd1.2, hd3.2, hX.l_fWriter, hX.l_fPrev, hX.l_fSig]; done) | exact Block.zero_ok | exact Vote.zero_ok | exact Reader.zero_ok  | exact rdr_ok _ _ _ _ _ _ | exact hX | exact okL _)]; simp [hd1.2, hd3.2, hX.l_fWriter, hX.l_fPrev, hX.l_fSig]) (Block.upd_fWriter (by first | assumption | (simp [hd1.2, hd3.2, hX.l_fWriter, hX.l_fPrev, hX.l_fSig]; done) | exact Block.zero_ok | exact Vote.zero_ok | exact Reader.zero_ok  | exact rdr_ok _ _ _ _ _ _ | exact hX | exact okL _) _ (by simp [hd1.2, hd3.2, hX.l_fWriter, hX.l_fPrev, hX.l_fSig])) (by first | exact upd0 | exact upd1 | exact upd2 | exact upd3 | exact upd4 | exact upd5 | exact upd6 | exact upd7 | (repeat (first | exact upd0 | apply Upd.tail | apply Upd.seg))) ?_
  refine Tr.nil ?_
  refine at_n ?_
  refine Sat.seq ?_
  -- region 1
  refine Sat.region ?_
  refine Tr.move rfl rfl rfl ?_
  refine Tr.loadE rfl rfl rfl Try.underlying90 rfl (by first | (simp; done) | (simp; exact hW.2.2) | (simp [Cx.with]; omega)) (hW.2.2.1) ?_
  refine Tr.callL (L := [RB n q N cp (a1) (e1)]) rfl rfl rfl rfl rfl Body82 (rd_NumberE n q N cp a1 e1 xs hx hd1.1 hN (by omega) x2 a2 e2 h2) rem_here (lent_ok rfl) (fun w h => ⟨own_blk h (by first | exact mem0 | exact mem1 | exact mem2 | exact mem3 | exact mem4 | exact mem5 | exact mem6 | exact mem7 | (repeat (first | exact List.mem_cons_self | refine List.mem_cons_of_mem _ ?_ | refine mem_seg ?_))), sees_ext h (by simp [Cx.with]; omega) hW.2.2.2, hqn⟩) ?_
  rintro v2 out2 ⟨rfl, rfl⟩
  refine Tr.nilChk rfl rfl rfl ?_
  refine Tr.fld rfl rfl rfl Try.underlying31 rfl Sz24 (by decide) _ rfl ?_
  refine Tr.store1 rfl rfl rfl rfl rfl Sz24 (by first | exact mem0 | exact mem1 | exact mem2 | exact mem3 | exact mem4 | exact mem5 | exact mem6 | exact mem7 | (repeat (first | exact List.mem_cons_self | refine List.mem_cons_of_mem _ ?_ | refine mem_seg ?_))) (by rw [Block.length (by first | assumption | (simp [hd1.2, hd3.2, hX.l_fWriter, hX.l_fPrev, hX.l_fSig]; done) | exact Block.zero_ok | exact Vote.zero_ok | exact Reader.zero_ok  | exact rdr_ok _ _ _ _ _ _ | exact hX | exact okL _)]; decide) (Block.set_fSeq (by first | assumption | (simp [hd1.2, hd3.2, hX.l_fWriter, hX.l_fPrev, hX.l_fSig]; done) | exact Block.zero_ok | exact Vote.zero_ok | exact Reader.zero_ok  | exact rdr_ok _ _ _ _ _ _ | exact hX | exact okL _) _) (by first | exact upd0 | exact upd1 | exact upd2 | exact upd3 | exact upd4 | exact upd5 | exact upd6 | exact upd7 | (repeat (first | exact upd0 | apply Upd.tail | apply Upd.seg))) ?_
  refine Tr.nil ?_
  refine at_n ?_
  -- region 2
  refine Sat.region ?_
  refine Tr.move rfl rfl rfl ?_
  refine Tr.loadE rfl rfl rfl Try.underlying90 rfl (by first | (simp; done) | (simp; exact hW.2.2) | (simp [Cx.with]; omega)) (hW.2.2.1) ?_
  refine Tr.callL (L := [RB n q N cp (a2) (e2)]) rfl rfl rfl rfl rfl Body81 (rd_DigestE n q N cp a2 e2 xs hx hd2 hN (by omega) l3 a3 e3 h3) rem_here (lent_ok rfl) (fun w h => ⟨own_blk h (by first | exact mem0 | exact mem1 | exact mem2 | exact mem3 | exact mem4 | exact mem5 | exact mem6 | exact mem7 | (repeat (first | exact List.mem_cons_self | refine List.mem_cons_of_mem _ ?_ | refine mem_seg ?_))), sees_ext h (by simp [Cx.with]; omega) hW.2.2.2, hqn⟩) ?_
  rintro v2 out2 ⟨rfl, rfl⟩
  refine Tr.nilChk rfl rfl rfl ?_
  refine Tr.fld rfl rfl rfl Try.underlying31 rfl Sz25 (by decide) _ rfl ?_
  refine Tr.storeN (bytesV _) rfl rfl rfl rfl rfl (by first | exact bytesV_cell _ | simp [isCell]) Sz25 (by simp [hd1.2, hd3.2, hX.l_fWriter, hX.l_fPrev, hX.l_fSig]) (by first | exact mem0 | exact mem1 | exact mem2 | exact mem3 | exact mem4 | exact mem5 | exact mem6 | exact mem7 | (repeat (first | exact List.mem_cons_self | refine List.mem_cons_of_mem _ ?_ | refine mem_seg ?_))) (by rw [Block.length (by first | assumption | (simp [hd1.2, hd3.2, hX.l_fWriter, hX.l_fPrev, hX.l_fSig]; done) | exact Block.zero_ok | exact Vote.zero_ok | exact Reader.zero_ok  | exact rdr_ok _ _ _ _ _ _ | exact hX | exact okL _)]; simp [hd1.2, hd3.2, hX.l_fWriter, hX.l_fPrev, hX.l_fSig]) (Block.upd_fPrev (by first | assumption | (simp [hd1.2, hd3.2, hX.l_fWriter, hX.l_fPrev, hX.l_fSig]; done) | exact Block.zero_ok | exact Vote.zero_ok | exact Reader.zero_ok  | exact rdr_ok _ _ _ _ _ _ | exact hX | exact okL _) _ (by simp [hd1.2, hd3.2, hX.l_fWriter, hX.l_fPrev, hX.l_fSig])) (by first | exact upd0 | exact upd1 | exact upd2 | exact upd3 | exact upd4 | exact upd5 | exact upd6 | exact upd7 | (repeat (first | exact upd0 | apply Upd.tail | apply Upd.seg))) ?_
  refine Tr.nil ?_
  refine en_n ?_
  refine end_perm (out := (BB b ({ X with fWriter := l1, fSeq := x2, fPrev := l3 } : Block) :: (RB n q N cp a3 e3 :: []))) (res_none rfl) (pm_cons (by repeat (first | exact rem_here | apply rem_there | apply rem_seg)) (pm_cons (by repeat (first | exact rem_here | apply rem_there | apply rem_seg)) pm_nil)) ?_
  exact ⟨rfl, rfl⟩


def takR (xs : List UInt8) (m a : Nat) (e : Int) : List UInt8 × Nat × Int :=
  if ¬ e = 0 then ([], a, e) else if xs.length < a + m then ([], a, 5) else ((xs.drop a).take m, a + m, 0)
theorem rd_TakeE (n q N cp a : Nat) (e : Int) (m : Nat) (hm0 : 0 < m) (hm : m ≤ 90000) (xs : List UInt8) (hx : xs.length = N) (hat : a ≤ N) (hN : N ≤ cp) (hbig : N ≤ 90000) (l : List UInt8) (a1 : Nat) (e1 : Int) (h : takR xs m a e = (l, a1, e1)) : Meets Try.prog 86 [ptr n 0, i64 (m : Int)] [n] (fun W => BlkOk W (RB n q N cp a e) ∧ Sees W q 0 (bytesV xs) ∧ q ≠ n)
    (fun v out => ∃ s bl, v = s.v ∧ Acc s bl (bytesV l) 5 l.length 1 ∧ out = bl ++ [RB n q N cp a1 e1]) := by
  unfold takR at h
  by_cases he : e = 0
  · subst he
    rw [if_neg (by simp)] at h
    by_cases h1 : xs.length < a + m
    · rw [if_pos h1] at h
      obtain ⟨rfl, rfl, rfl⟩ : [] = l ∧ a = a1 ∧ (5 : Int) = e1 := by simpa using h
      exact (rd_take64_more n q N cp a m hm0 hm xs hx hat hN (by omega) (by omega)).imp (fun w h => h) fun v out ⟨h1, h2⟩ => ⟨Sl.nil, [], h1, Acc.none, h2⟩
    · rw [if_neg h1] at h
      obtain ⟨rfl, rfl, rfl⟩ : (xs.drop a).take m = l ∧ a + m = a1 ∧ (0 : Int) = e1 := by simpa using h
      refine (rd_take64_ok n q N cp a m hm0 hm xs hx hat hN (by omega) (by omega) hbig).imp (fun w h => h) fun v out ⟨q1, c1, h1, h2, h3⟩ => ?_
      have hl : ((xs.drop a).take m).length = m := by simp; omega
      refine ⟨⟨some ⟨q1, 0, none⟩, m, c1⟩, [_], h1, ?_, h3⟩
      rw [hl]
      exact Acc.some h2 (by simp [hl]; omega)
  · rw [if_pos he] at h
    obtain ⟨rfl, rfl, rfl⟩ : [] = l ∧ a = a1 ∧ e = e1 := by simpa using h
    exact (rd_take64_err n q N cp a e m hm0 hm xs hx hat hN (by omega) he).imp (fun w h => h) fun v out ⟨h1, h2⟩ => ⟨Sl.nil, [], h1, Acc.none, h2⟩
theorem takE_le {xs l : List UInt8} {a a1 m N : Nat} {e e1 : Int} (h : takR xs m a e = (l, a1, e1)) (hx : xs.length = N) (hat : a ≤ N) : a1 ≤ N ∧ (l = [] ∨ l.length = m) := by
  unfold takR at h
  split at h
  · obtain ⟨rfl, rfl, rfl⟩ : [] = l ∧ a = a1 ∧ e = e1 := by simpa using h
    exact ⟨hat, .inl rfl⟩
  split at h
  · obtain ⟨rfl, rfl, rfl⟩ : [] = l ∧ a = a1 ∧ (5 : Int) = e1 := by simpa using h
    exact ⟨hat, .inl rfl⟩
  · obtain ⟨rfl, rfl, rfl⟩ : (xs.drop a).take m = l ∧ a + m = a1 ∧ (0 : Int) = e1 := by simpa using h
    exact ⟨by omega, .inr (by simp; omega)⟩
theorem rd_BlockE (n q N cp a : Nat) (e : Int) (xs : List UInt8) (hx : xs.length = N) (hat : a ≤ N) (hN : N ≤ cp) (hbig : N ≤ 90000) (o : Option (List UInt8)) (a1 : Nat) (e1 : Int) (h : blkR xs a e = (o, a1, e1)) : Meets Try.prog 85 [ptr n 0] [n] (fun W => BlkOk W (RB n q N cp a e) ∧ Sees W q 0 (bytesV xs) ∧ q ≠ n)
    (fun v out => ∃ s bl, v = s.v ∧ Acc s bl (bytesV (o.getD [])) 5 (o.getD []).length 1 ∧ out = bl ++ [RB n q N cp a1 e1]) := by
  unfold blkR at h
  by_cases he : (numR xs a e).2.2 = 0
  · rw [if_neg (by simp [he])] at h
    by_cases h1 : xs.length < (numR xs a e).2.1 + (numR xs a e).1.toNat
    · rw [if_pos h1] at h
      obtain ⟨rfl, rfl, rfl⟩ : none = o ∧ a = a1 ∧ (5 : Int) = e1 := by simpa using h
      exact (rd_blk_more n q N cp a e xs hx hat hN (by omega) he (by omega) hbig).imp (fun w h => h) fun v out ⟨h1, h2⟩ => ⟨Sl.nil, [], h1, Acc.none, h2⟩
    · rw [if_neg h1] at h
      obtain ⟨rfl, rfl, rfl⟩ : some ((xs.drop (numR xs a e).2.1).take (numR xs a e).1.toNat) = o ∧ (numR xs a e).2.1 + (numR xs a e).1.toNat = a1 ∧ (0 : Int) = e1 := by simpa using h
      refine (rd_blk_ok n q N cp a e xs hx hat hN (by omega) he (by omega) hbig).imp (fun w h => h) fun v out ⟨q1, c1, h1, h2, h3⟩ => ?_
      have hl : ((xs.drop (numR xs a e).2.1).take (numR xs a e).1.toNat).length = (numR xs a e).1.toNat := by simp; omega
      refine ⟨⟨some ⟨q1, 0, none⟩, (numR xs a e).1.toNat, c1⟩, [_], h1, ?_, h3⟩
      simp only [Option.getD_some]
      rw [hl]
      exact Acc.some h2 (by simp only [bytesV, List.length_map, hl]; omega)
  · rw [if_pos he] at h
    obtain ⟨rfl, rfl, rfl⟩ : none = o ∧ a = a1 ∧ (numR xs a e).2.2 = e1 := by simpa using h
    exact (rd_blk_err n q N cp a e xs hx hat hN (by omega) he hbig).imp (fun w h => h) fun v out ⟨h1, h2⟩ => ⟨Sl.nil, [], h1, Acc.none, h2⟩
theorem blkE_le {xs : List UInt8} {o : Option (List UInt8)} {a a1 N : Nat} {e e1 : Int} (h : blkR xs a e = (o, a1, e1)) (hx : xs.length = N) (hat : a ≤ N) : a1 ≤ N ∧ (o.getD []).length ≤ N := by
  unfold blkR at h
  split at h
  · obtain ⟨rfl, rfl, rfl⟩ : none = o ∧ a = a1 ∧ (numR xs a e).2.2 = e1 := by simpa using h
    exact ⟨hat, by simp⟩
  split at h
  · obtain ⟨rfl, rfl, rfl⟩ : none = o ∧ a = a1 ∧ (5 : Int) = e1 := by simpa using h
    exact ⟨hat, by simp⟩
  · obtain ⟨rfl, rfl, rfl⟩ : some ((xs.drop (numR xs a e).2.1).take (numR xs a e).1.toNat) = o ∧ (numR xs a e).2.1 + (numR xs a e).1.toNat = a1 ∧ (0 : Int) = e1 := by simpa using h
    exact ⟨by omega, by simp; omega⟩
/-- so many digests -/
def digsR (xs : List UInt8) : Nat → Nat → Int → List (List UInt8) × Nat × Int
  | 0, a, e => ([], a, e)
  | j + 1, a, e => ((digsR xs j a e).1 ++ [(digR xs (digsR xs j a e).2.1 (digsR xs j a e).2.2).1], (digR xs (digsR xs j a e).2.1 (digsR xs j a e).2.2).2)
theorem digsR_succ {xs l : List UInt8} {j a a1 : Nat} {e e1 : Int} (h : digR xs (digsR xs j a e).2.1 (digsR xs j a e).2.2 = (l, a1, e1)) : digsR xs (j + 1) a e = ((digsR xs j a e).1 ++ [l], a1, e1) := by rw [digsR, h]
theorem digsR_at {xs : List UInt8} {a N : Nat} {e : Int} (hx : xs.length = N) (hat : a ≤ N) : ∀ j, (digsR xs j a e).2.1 ≤ N ∧ (∀ l ∈ (digsR xs j a e).1, l.length = 32) ∧ (digsR xs j a e).1.length = j
  | 0 => ⟨hat, fun l hl => by simp [digsR] at hl, rfl⟩
  | j + 1 => by
    obtain ⟨h1, h2, h3⟩ := digsR_at (e := e) hx hat j
    have h4 := digR_at xs (digsR xs j a e).2.1 (digsR xs j a e).2.2 (by omega)
    refine ⟨by simp only [digsR]; omega, fun l hl => ?_, by simp [digsR, h3]⟩
    simp only [digsR, List.mem_append, List.mem_singleton] at hl
    rcases hl with hl | rfl
    · exact h2 l hl
    · exact h4.2
theorem ofNat_step (j : Nat) : UInt64.ofNat j + 1 = UInt64.ofNat (j + 1) := by rw [UInt64.ofNat_add]; rfl


set_option maxRecDepth 100000 in
set_option maxHeartbeats 2000000 in
theorem opt_links (b c n q N cp at' : Nat) (e : Int) (X : Block) (hX : X.ok) (xs : List UInt8) (hx : xs.length = N) (hat : at' ≤ N) (hN : N ≤ cp) (hbig : N ≤ 90000) (hbn : b ≠ n) (hcb : c ≠ b) (hcn : c ≠ n) (hqb : q ≠ b) (hqn : q ≠ n) (hXl : X.fLinks = Sl.nil) (x1 : UInt64) (a1 : Nat) (e1 : Int) (h1 : numR xs at' e = (x1, a1, e1)) : Meets Try.prog 83 [ptr b 0, ptr c 0] [b, n] (fun W => BlkOk W (BB b X) ∧ BlkOk W (RB n q N cp at' e) ∧ W.cell? ⟨c, 0, none⟩ = some (ptr n 0) ∧ Sees W q 0 (bytesV xs)) (fun v out => ∃ s bl, v = .tuple #[] ∧ Acc s bl (flatB (digsR xs (min x1.toNat 17) a1 e1).1) 25 (min x1.toNat 17) 32 ∧ out = RB n q N cp (digsR xs (min x1.toNat 17) a1 e1).2.1 (digsR xs (min x1.toNat 17) a1 e1).2.2 :: BB b ({ X with fLinks := s } : Block) :: bl) := by
  intro W hW
  have ha1 := numE_le h1 hx hat
  have okL : ∀ s : Sl, ({ X with fLinks := s } : Block).ok := fun s => ⟨hX.l_fWriter, hX.l_fPrev, hX.l_fSig⟩
  refine calls_of (hp0 := [BB b X, RB n q N cp at' e]) Try.func83 rfl 20 Try.ntmps83 rfl (HRep.two hW.1 hW.2.1 hbn) ?_
  refine Sat.seq ?_
  -- region 0
  refine Sat.region ?_
  refine Tr.loadE rfl rfl rfl Try.underlying90 rfl (by first | (simp; done) | (simp; exact hW.2.2) | (simp [Cx.with]; omega)) (hW.2.2.1) ?_
  refine Tr.callL (L := [RB n q N cp (at') (e)]) rfl rfl rfl rfl rfl Body82 (rd_NumberE n q N cp at' e xs hx hat hN (by omega) x1 a1 e1 h1) (rem_there rem_here) (lent_ok rfl) (fun w h => ⟨own_blk h (by first | exact mem0 | exact mem1 | exact mem2 | exact mem3 | exact mem4 | exact mem5 | exact mem6 | exact mem7 | (repeat (first | exact List.mem_cons_self | refine List.mem_cons_of_mem _ ?_ | refine mem_seg ?_))), sees_ext h (by simp [Cx.with]; omega) hW.2.2.2, hqn⟩) ?_
  rintro v2 out2 ⟨rfl, rfl⟩
  refine Tr.min2 rfl rfl rfl rfl (show Value.int .u64 (if (17 : Int) < (x1.toNat : Int) then 17 else (x1.toNat : Int)) = .int .u64 ((min x1.toNat 17 : Nat) : Int) from by congr 1; split <;> omega) ?_
  refine Tr.move rfl rfl rfl ?_
  refine Tr.nil ?_
  refine at_n ?_
  refine Sat.block ?_
  refine Sat.loop (ι := Nat × Sl × List Blk) (fun p => ⟨[(0, ptr b 0), (1, ptr c 0), (5, .int .u64 ((min x1.toNat 17 : Nat) : Int)), (6, u64 (UInt64.ofNat p.1))], (RB n q N cp (digsR xs p.1 a1 e1).2.1 (digsR xs p.1 a1 e1).2.2 :: (BB b ({ X with fLinks := p.2.1 } : Block) :: (p.2.2 ++ [])))⟩) (fun p => p.1 ≤ min x1.toNat 17 ∧ Acc p.2.1 p.2.2 (flatB (digsR xs p.1 a1 e1).1) 25 p.1 32) (fun p => min x1.toNat 17 - p.1) ((0, Sl.nil, [])) ?_ ?_ ?_
  · exact ⟨Nat.zero_le _, Acc.none⟩
  · exact weak_perm (wk1 rfl (wk1 rfl (wk1 rfl (wk1 rfl wk0)))) (pm_cons (by repeat (first | exact rem_here | apply rem_there | apply rem_seg)) (pm_consE (by repeat (first | exact rem_here | apply rem_there | apply rem_seg)) (by rw [← hXl]) rfl (pm_none pm_nil)))
  ·
    rintro p ⟨hp1, hac⟩
    have hD := digsR_at (e := e1) hx ha1 p.1
    obtain ⟨l2, r2, hd⟩ : ∃ l r, digR xs (digsR xs p.1 a1 e1).2.1 (digsR xs p.1 a1 e1).2.2 = (l, r) := ⟨_, _, rfl⟩
    obtain ⟨a2, e2⟩ := r2
    have hdl := digE_le hd hx hD.1
    have hs := digsR_succ hd
    have hj64 : (UInt64.ofNat p.1).toNat = p.1 := ofNat_nat (by omega)
    refine Sat.seq ?_
    -- region 1
    refine Sat.region ?_
    refine Tr.lss rfl rfl rfl rfl rfl ?_
    refine Tr.nil ?_
    refine at_n ?_
    refine Sat.seq ?_
    first
      | refine Sat.condP rfl (fun hc0 => ?_) (fun hc0 => ?_)
      | refine Sat.condNP rfl (fun hc0 => ?_) (fun hc0 => ?_)
      | refine Sat.cond rfl (fun hc0 => ?_) (fun hc0 => ?_)
    ·
      have hp3 : p.1 < min x1.toNat 17 := by omega
      refine Sat.skip ?_
      refine at_n ?_
      refine Sat.seq ?_
      refine Sat.block ?_
      -- region 2
      refine Sat.drawK (sp_v (sp_k (sp_x sp_n))) rfl [(0, 0), (0, 1), (0, 2), (0, 3), (0, 4), (0, 5), (4, 6), (4, 7), (4, 8), (0, 9), (0, 10)] [(4, 11)] Mixed (by kernel_rfl) (by kernel_rfl) ?_
      refine Tr.move rfl rfl rfl ?_
      refine Tr.move rfl rfl rfl ?_
      refine Tr.nilChk rfl rfl rfl ?_
      refine Tr.fld rfl rfl rfl Try.underlying31 rfl Sz26 (by decide) _ rfl ?_
      refine Tr.kload1 rfl rfl rfl Try.underlying26 rfl (by first | exact mem0 | exact mem1 | exact mem2 | exact mem3 | exact mem4 | exact mem5 | exact mem6 | exact mem7 | (repeat (first | exact List.mem_cons_self | refine List.mem_cons_of_mem _ ?_ | refine mem_seg ?_))) (by first | exact Block.get_fLinks (by first | assumption | (simp [hX.l_fWriter, hX.l_fPrev, hX.l_fSig]; done) | exact Block.zero_ok | exact Vote.zero_ok | exact Reader.zero_ok  | exact rdr_ok _ _ _ _ _ _ | exact hX | exact okL _) | exact (by first | rfl | exact get_words (by first | omega | (simp [hX.l_fWriter, hX.l_fPrev, hX.l_fSig]; done) | (simp [hX.l_fWriter, hX.l_fPrev, hX.l_fSig]; omega)) | exact get_bytes (by first | omega | (simp [hX.l_fWriter, hX.l_fPrev, hX.l_fSig]; done) | (simp [hX.l_fWriter, hX.l_fPrev, hX.l_fSig]; omega)) | exact get_ints (by first | omega | (simp [hX.l_fWriter, hX.l_fPrev, hX.l_fSig]; done) | (simp [hX.l_fWriter, hX.l_fPrev, hX.l_fSig]; omega)))) ?_
      refine Tr.kloadE rfl rfl rfl Try.underlying90 rfl (by first | (simp; done) | (simp; exact hW.2.2) | (simp [Cx.with]; omega)) (hW.2.2.1) ?_
      refine Tr.callL (L := [RB n q N cp ((digsR xs p.1 a1 e1).2.1) ((digsR xs p.1 a1 e1).2.2)]) rfl rfl rfl rfl rfl Body81 (rd_DigestE n q N cp (digsR xs p.1 a1 e1).2.1 (digsR xs p.1 a1 e1).2.2 xs hx hD.1 hN (by omega) l2 a2 e2 hd) rem_here (lent_ok rfl) (fun w h => ⟨own_blk h (by first | exact mem0 | exact mem1 | exact mem2 | exact mem3 | exact mem4 | exact mem5 | exact mem6 | exact mem7 | (repeat (first | exact List.mem_cons_self | refine List.mem_cons_of_mem _ ?_ | refine mem_seg ?_))), sees_ext h (by simp [Cx.with]; omega) hW.2.2.2, hqn⟩) ?_
      rintro v2 out2 ⟨rfl, rfl⟩
      refine Tr.mkRow (z := agg (bytesV (List.replicate 32 0))) [agg (bytesV l2)] (bytesV l2) rfl rfl rfl Try.underlying26 Sz25 Zr25 rfl rfl (by intro v hv; rw [List.mem_singleton.1 hv]; simp [Value.cells, hdl.2]) (by decide) (by simp [Value.cells]) ?_
      intro q7
      refine Tr.appendAcc (z := agg (bytesV (List.replicate 32 0))) (by' := 32) (bytesV l2) rfl rfl rfl rfl rfl Try.underlying26 Try.underlying26 Sz25 Zr25 (by unfold By; kernel_rfl) rfl hac (by repeat (first | exact sg_here | exact sg_end | apply sg_there | apply sg_seg)) (fun w h => SeesP.of (sees_own h (by first | exact mem0 | exact mem1 | exact mem2 | exact mem3 | exact mem4 | exact mem5 | exact mem6 | exact mem7 | (repeat (first | exact List.mem_cons_self | refine List.mem_cons_of_mem _ ?_ | refine mem_seg ?_))))) (fun e => by cases e) (bytesV_cell _) (by omega) (by omega) (by simp [bytesV, hdl.2]) ?_
      intro s8 bl8 hac8
      refine Tr.nilChk rfl rfl rfl ?_
      refine Tr.fld rfl rfl rfl Try.underlying31 rfl Sz26 (by decide) _ rfl ?_
      refine Tr.nil ?_
      refine Tr.store1 rfl rfl rfl rfl rfl Sz26 (by first | exact mem0 | exact mem1 | exact mem2 | exact mem3 | exact mem4 | exact mem5 | exact mem6 | exact mem7 | (repeat (first | exact List.mem_cons_self | refine List.mem_cons_of_mem _ ?_ | refine mem_seg ?_))) (by rw [Block.length (by first | assumption | (simp [hX.l_fWriter, hX.l_fPrev, hX.l_fSig]; done) | exact Block.zero_ok | exact Vote.zero_ok | exact Reader.zero_ok  | exact rdr_ok _ _ _ _ _ _ | exact hX | exact okL _)]; decide) (by first | exact Block.set_fLinks (by first | assumption | (simp [hX.l_fWriter, hX.l_fPrev, hX.l_fSig]; done) | exact Block.zero_ok | exact Vote.zero_ok | exact Reader.zero_ok  | exact rdr_ok _ _ _ _ _ _ | exact hX | exact okL _) _ | exact Block.setS_fLinks (by first | assumption | (simp [hX.l_fWriter, hX.l_fPrev, hX.l_fSig]; done) | exact Block.zero_ok | exact Vote.zero_ok | exact Reader.zero_ok  | exact rdr_ok _ _ _ _ _ _ | exact hX | exact okL _) _ _ _) (by first | exact upd0 | exact upd1 | exact upd2 | exact upd3 | exact upd4 | exact upd5 | exact upd6 | exact upd7 | (repeat (first | exact upd0 | apply Upd.tail | apply Upd.seg))) ?_
      refine Tr.nil ?_
      refine bl_n ?_
      refine at_n ?_
      -- region 3
      refine Sat.region ?_
      refine Tr.add_u64 rfl rfl rfl (show evIn _ _ = some (u64 1) from rfl) ?_
      refine Tr.move rfl rfl rfl ?_
      refine Tr.nil ?_
      refine at_n ?_
      refine ⟨(p.1 + 1, s8, bl8), ⟨by simp only []; omega, ?_⟩, by simp only []; omega, weak_perm (wk1 rfl (wk1 rfl (wk1 rfl (wk1 (congrArg (fun z => some (u64 z)) (ofNat_step _)) wk0)))) (pm_consE (by repeat (first | exact rem_here | apply rem_there | apply rem_seg)) (by simp only [hs]) rfl (pm_cons (by repeat (first | exact rem_here | apply rem_there | apply rem_seg)) (pm_seg (by repeat (first | exact sg_here | exact sg_end | apply sg_there | apply sg_seg)) pm_nil)))⟩
      simp only [hs]
      rw [flatB_append]
      simpa [flatB] using hac8
    ·
      have hp3 : p.1 = min x1.toNat 17 := by omega
      refine Sat.exit ?_
      refine at_x ?_
      refine at_x ?_
      refine bl_h ?_
      refine en_n ?_
      refine end_perm (out := (RB n q N cp (digsR xs p.1 a1 e1).2.1 (digsR xs p.1 a1 e1).2.2 :: (BB b ({ X with fLinks := p.2.1 } : Block) :: (p.2.2 ++ [])))) (res_none rfl) (pm_cons (by repeat (first | exact rem_here | apply rem_there | apply rem_seg)) (pm_cons (by repeat (first | exact rem_here | apply rem_there | apply rem_seg)) (pm_seg (by repeat (first | exact sg_here | exact sg_end | apply sg_there | apply sg_seg)) pm_nil))) ?_
      rw [← hp3]; exact ⟨p.2.1, p.2.2, rfl, hac, by simp⟩


theorem upd_nil (cs : List Value) (o : Nat) : upd cs o [] = cs := by simp [upd]
theorem upd_sig {X : Block} (h : X.ok) {l : List UInt8} (hl : l = [] ∨ l.length = 64) : upd X.cells 67 (bytesV l) = ({ X with fSig := l ++ X.fSig.drop l.length } : Block).cells := by
  rcases hl with rfl | hl
  · exact upd_nil _ _
  · rw [Block.upd_fSig h l hl, hl, List.drop_of_length_le (by rw [h.l_fSig]; exact Nat.le_refl _), List.append_nil]


set_option maxRecDepth 100000 in
set_option maxHeartbeats 2000000 in
theorem opt_tail (b c n q N cp at' : Nat) (e : Int) (X : Block) (hX : X.ok) (xs : List UInt8) (hx : xs.length = N) (hat : at' ≤ N) (hN : N ≤ cp) (hbig : N ≤ 90000) (hbn : b ≠ n) (hcb : c ≠ b) (hcn : c ≠ n) (hqb : q ≠ b) (hqn : q ≠ n) (o : Option (List UInt8)) (a1 : Nat) (e1 : Int) (l : List UInt8) (a2 : Nat) (e2 : Int) (h1 : blkR xs at' e = (o, a1, e1)) (h2 : takR xs 64 a1 e1 = (l, a2, e2)) : Meets Try.prog 84 [ptr b 0, ptr c 0] [b, n] (fun W => BlkOk W (BB b X) ∧ BlkOk W (RB n q N cp at' e) ∧ W.cell? ⟨c, 0, none⟩ = some (ptr n 0) ∧ Sees W q 0 (bytesV xs)) (fun v out => ∃ s2 bl, v = .tuple #[] ∧ Acc s2 bl (bytesV (o.getD [])) 5 (o.getD []).length 1 ∧ out = RB n q N cp a2 e2 :: BB b ({ X with fData := s2, fSig := l ++ X.fSig.drop l.length } : Block) :: bl) := by
  intro W hW
  have hb1 := blkE_le h1 hx hat
  have ht1 := takE_le h2 hx hb1.1
  have okD : ∀ s : Sl, ({ X with fData := s } : Block).ok := fun s => ⟨hX.l_fWriter, hX.l_fPrev, hX.l_fSig⟩
  have hlen : l.length ≤ 64 := by rcases ht1.2 with h | h <;> simp [h]
  refine calls_of (hp0 := [BB b X, RB n q N cp at' e]) Try.func84 rfl 15 Try.ntmps84 rfl (HRep.two hW.1 hW.2.1 hbn) ?_
  refine Sat.seq ?_
  -- region 0
  refine Sat.region ?_
  refine Tr.move rfl rfl rfl ?_
  refine Tr.loadE rfl rfl rfl Try.underlying90 rfl (by first | (simp; done) | (simp; exact hW.2.2) | (simp [Cx.with]; omega)) (hW.2.2.1) ?_
  refine Tr.callL (L := [RB n q N cp (at') (e)]) rfl rfl rfl rfl rfl Body85 (rd_BlockE n q N cp at' e xs hx hat hN hbig o a1 e1 h1) (rem_there rem_here) (lent_ok rfl) (fun w h => ⟨own_blk h (by first | exact mem0 | exact mem1 | exact mem2 | exact mem3 | exact mem4 | exact mem5 | exact mem6 | exact mem7 | (repeat (first | exact List.mem_cons_self | refine List.mem_cons_of_mem _ ?_ | refine mem_seg ?_))), sees_ext h (by simp [Cx.with]; omega) hW.2.2.2, hqn⟩) ?_
  rintro v2 out2 ⟨s2, bl2, rfl, hac2, rfl⟩
  simp only [List.append_assoc, List.cons_append, List.nil_append]
  refine Tr.nilChk rfl rfl rfl ?_
  refine Tr.fld rfl rfl rfl Try.underlying31 rfl Sz27 (by decide) _ rfl ?_
  refine Tr.store1 rfl rfl rfl rfl rfl Sz27 (by first | exact mem0 | exact mem1 | exact mem2 | exact mem3 | exact mem4 | exact mem5 | exact mem6 | exact mem7 | (repeat (first | exact List.mem_cons_self | refine List.mem_cons_of_mem _ ?_ | refine mem_seg ?_))) (by rw [Block.length (by first | assumption | (simp [hX.l_fWriter, hX.l_fPrev, hX.l_fSig]; done) | exact Block.zero_ok | exact Vote.zero_ok | exact Reader.zero_ok  | exact rdr_ok _ _ _ _ _ _ | exact hX | exact okL _)]; decide) (by first | exact Block.set_fData (by first | assumption | (simp [hX.l_fWriter, hX.l_fPrev, hX.l_fSig]; done) | exact Block.zero_ok | exact Vote.zero_ok | exact Reader.zero_ok  | exact rdr_ok _ _ _ _ _ _ | exact hX | exact okL _) _ | exact Block.setS_fData (by first | assumption | (simp [hX.l_fWriter, hX.l_fPrev, hX.l_fSig]; done) | exact Block.zero_ok | exact Vote.zero_ok | exact Reader.zero_ok  | exact rdr_ok _ _ _ _ _ _ | exact hX | exact okL _) _ _ _) (by first | exact upd0 | exact upd1 | exact upd2 | exact upd3 | exact upd4 | exact upd5 | exact upd6 | exact upd7 | (repeat (first | exact upd0 | apply Upd.tail | apply Upd.seg))) ?_
  refine Tr.nil ?_
  refine at_n ?_
  -- region 1
  refine Sat.draw [(0, 0), (0, 1), (0, 2), (0, 3), (1, 4), (4, 5), (4, 6)] Mixed (by kernel_rfl) ?_
  refine Tr.move rfl rfl rfl ?_
  refine Tr.nilChk rfl rfl rfl ?_
  refine Tr.fld rfl rfl rfl Try.underlying31 rfl Sz29 (by decide) _ rfl ?_
  refine Tr.sliceArr rfl rfl rfl Try.underlying29 Sz5 ?_
  refine Tr.loadE rfl rfl rfl Try.underlying90 rfl (by first | (simp; done) | (simp; exact hW.2.2) | (simp [Cx.with]; omega)) (hW.2.2.1) ?_
  refine Tr.callL (L := [RB n q N cp (a1) (e1)]) rfl rfl rfl rfl rfl Body86 (rd_TakeE n q N cp a1 e1 64 (by decide) (by decide) xs hx hb1.1 hN hbig l a2 e2 h2) (by repeat (first | exact rem_here | apply rem_there | apply rem_seg)) (lent_ok rfl) (fun w h => ⟨own_blk h (by first | exact mem0 | exact mem1 | exact mem2 | exact mem3 | exact mem4 | exact mem5 | exact mem6 | exact mem7 | (repeat (first | exact List.mem_cons_self | refine List.mem_cons_of_mem _ ?_ | refine mem_seg ?_))), sees_ext h (by simp [Cx.with]; omega) hW.2.2.2, hqn⟩) ?_
  rintro v3 out3 ⟨s3, bl3, rfl, hac3, rfl⟩
  simp only [List.append_assoc, List.cons_append, List.nil_append]
  refine Tr.copyP (bytesV l) l.length rfl rfl rfl rfl rfl Try.underlying27 Sz5 (fun w h => hac3.see (Lies.of h (by repeat (first | exact in_here | exact in_all | refine in_there ?_ | refine in_seg ?_)))) (fun e => hac3.nil e) (by simp [bytesV, hac3.num]) (by rw [hac3.num]; omega) (List.take_of_length_le (by simp [bytesV])) (bytesV_cell _) (by first | exact mem0 | exact mem1 | exact mem2 | exact mem3 | exact mem4 | exact mem5 | exact mem6 | exact mem7 | (repeat (first | exact List.mem_cons_self | refine List.mem_cons_of_mem _ ?_ | refine mem_seg ?_))) (by rw [Block.length (okD _)]; show 67 + l.length ≤ 131; omega) (upd_sig (okD _) ht1.2) (by first | exact upd0 | exact upd1 | exact upd2 | exact upd3 | exact upd4 | exact upd5 | exact upd6 | exact upd7 | (repeat (first | exact upd0 | apply Upd.tail | apply Upd.seg))) ?_
  refine Tr.nil ?_
  refine en_n ?_
  refine end_perm (out := (RB n q N cp a2 e2 :: (BB b ({ X with fData := s2, fSig := l ++ X.fSig.drop l.length } : Block) :: (bl2 ++ [])))) (res_none rfl) (pm_cons (by repeat (first | exact rem_here | apply rem_there | apply rem_seg)) (pm_cons (by repeat (first | exact rem_here | apply rem_there | apply rem_seg)) (pm_seg (by repeat (first | exact sg_here | exact sg_end | apply sg_there | apply sg_seg)) pm_nil))) ?_
  exact ⟨s2, bl2, rfl, hac2, by simp⟩

set_option maxRecDepth 100000 in
set_option maxHeartbeats 1000000 in
theorem mk_head (n : Nat) : Meets Try.prog 39 [ptr n 0] [] (fun _ => True) (fun v out => ∃ c, v = .func (.func 80) #[] #[ptr c 0] ∧ out = [⟨c, [ptr n 0], 90, 1⟩]) := by
  intro W hW
  refine calls_of (hp0 := []) Try.func39 rfl 4 Try.ntmps39 rfl (HRep.nil _) ?_
  refine Sat.seq ?_
  -- region 0
  refine Sat.region ?_
  refine Tr.box1 rfl rfl rfl ?_
  intro n1 hn1 hf1
  refine Tr.assign rfl rfl rfl ?_
  refine Tr.nil ?_
  refine at_n ?_
  refine Sat.seq ?_
  -- region 1
  refine Sat.region ?_
  refine Tr.makeFunc rfl rfl rfl rfl ?_
  refine Tr.assign rfl rfl rfl ?_
  refine Tr.nil ?_
  refine at_n ?_
  refine Sat.ret ?_
  refine en_r ?_
  refine end_perm (out := (⟨n1, [ptr n 0], 90, 1⟩ :: [])) (res_tmp rfl rfl) (pm_cons (by repeat (first | exact rem_here | apply rem_there | apply rem_seg)) pm_nil) ?_
  exact ⟨n1, rfl, by simp⟩

set_option maxRecDepth 100000 in
set_option maxHeartbeats 1000000 in
theorem mk_links (n : Nat) : Meets Try.prog 40 [ptr n 0] [] (fun _ => True) (fun v out => ∃ c, v = .func (.func 83) #[] #[ptr c 0] ∧ out = [⟨c, [ptr n 0], 90, 1⟩]) := by
  intro W hW
  refine calls_of (hp0 := []) Try.func40 rfl 4 Try.ntmps40 rfl (HRep.nil _) ?_
  refine Sat.seq ?_
  -- region 0
  refine Sat.region ?_
  refine Tr.box1 rfl rfl rfl ?_
  intro n1 hn1 hf1
  refine Tr.assign rfl rfl rfl ?_
  refine Tr.nil ?_
  refine at_n ?_
  refine Sat.seq ?_
  -- region 1
  refine Sat.region ?_
  refine Tr.makeFunc rfl rfl rfl rfl ?_
  refine Tr.assign rfl rfl rfl ?_
  refine Tr.nil ?_
  refine at_n ?_
  refine Sat.ret ?_
  refine en_r ?_
  refine end_perm (out := (⟨n1, [ptr n 0], 90, 1⟩ :: [])) (res_tmp rfl rfl) (pm_cons (by repeat (first | exact rem_here | apply rem_there | apply rem_seg)) pm_nil) ?_
  exact ⟨n1, rfl, by simp⟩

set_option maxRecDepth 100000 in
set_option maxHeartbeats 1000000 in
theorem mk_tail (n : Nat) : Meets Try.prog 41 [ptr n 0] [] (fun _ => True) (fun v out => ∃ c, v = .func (.func 84) #[] #[ptr c 0] ∧ out = [⟨c, [ptr n 0], 90, 1⟩]) := by
  intro W hW
  refine calls_of (hp0 := []) Try.func41 rfl 4 Try.ntmps41 rfl (HRep.nil _) ?_
  refine Sat.seq ?_
  -- region 0
  refine Sat.region ?_
  refine Tr.box1 rfl rfl rfl ?_
  intro n1 hn1 hf1
  refine Tr.assign rfl rfl rfl ?_
  refine Tr.nil ?_
  refine at_n ?_
  refine Sat.seq ?_
  -- region 1
  refine Sat.region ?_
  refine Tr.makeFunc rfl rfl rfl rfl ?_
  refine Tr.assign rfl rfl rfl ?_
  refine Tr.nil ?_
  refine at_n ?_
  refine Sat.ret ?_
  refine en_r ?_
  refine end_perm (out := (⟨n1, [ptr n 0], 90, 1⟩ :: [])) (res_tmp rfl rfl) (pm_cons (by repeat (first | exact rem_here | apply rem_there | apply rem_seg)) pm_nil) ?_
  exact ⟨n1, rfl, by simp⟩


theorem opt_linksE (b c n q N cp at' : Nat) (e : Int) (X : Block) (hX : X.ok) (xs : List UInt8) (hx : xs.length = N) (hat : at' ≤ N) (hN : N ≤ cp) (hbig : N ≤ 90000) (hbn : b ≠ n) (hcb : c ≠ b) (hcn : c ≠ n) (hqb : q ≠ b) (hqn : q ≠ n)  (hXl : X.fLinks = Sl.nil) (x1 : UInt64) (a1 : Nat) (e1 : Int) (h1 : numR xs at' e = (x1, a1, e1)) (ls : List (List UInt8)) (a5 : Nat) (e5 : Int) (h5 : digsR xs (min x1.toNat 17) a1 e1 = (ls, a5, e5)) : Meets Try.prog 83 [ptr b 0, ptr c 0] [b, n] (fun W => BlkOk W (BB b X) ∧ BlkOk W (RB n q N cp at' e) ∧ W.cell? ⟨c, 0, none⟩ = some (ptr n 0) ∧ Sees W q 0 (bytesV xs))
    (fun v out => ∃ s bl, v = .tuple #[] ∧ Acc s bl (flatB ls) 25 (min x1.toNat 17) 32 ∧ out = RB n q N cp a5 e5 :: BB b ({ X with fLinks := s } : Block) :: bl) := by
  have := opt_links b c n q N cp at' e X hX xs hx hat hN hbig hbn hcb hcn hqb hqn hXl x1 a1 e1 h1
  rw [h5] at this
  exact this
theorem cell_lt {w : World} {c o : Nat} {v : Value} (h : w.cell? ⟨c, o, none⟩ = some v) : c < w.heap.size := by
  rcases Nat.lt_or_ge c w.heap.size with h1 | h1
  · exact h1
  · simp [World.cell?, Array.getElem?_eq_none h1] at h


set_option maxRecDepth 100000 in
set_option maxHeartbeats 4000000 in
theorem block_build (r n q N cp c1 c2 c3 : Nat) (xs : List UInt8) (hx : xs.length = N) (hN : N ≤ cp) (hbig : N ≤ 90000) (hr : r ≠ n) (hc1 : c1 ≠ n) (hc2 : c2 ≠ n) (hc3 : c3 ≠ n) (hqn : q ≠ n) (l1 : List UInt8) (a1 : Nat) (e1 : Int) (x2 : UInt64) (a2 : Nat) (e2 : Int) (l3 : List UInt8) (a3 : Nat) (e3 : Int) (h1 : digR xs 0 0 = (l1, a1, e1)) (h2 : numR xs a1 e1 = (x2, a2, e2)) (h3 : digR xs a2 e2 = (l3, a3, e3)) (x4 : UInt64) (a4 : Nat) (e4 : Int) (h4 : numR xs a3 e3 = (x4, a4, e4)) (ls : List (List UInt8)) (a5 : Nat) (e5 : Int) (h5 : digsR xs (min x4.toNat 17) a4 e4 = (ls, a5, e5)) (o : Option (List UInt8)) (a6 : Nat) (e6 : Int) (h6 : blkR xs a5 e5 = (o, a6, e6)) (l7 : List UInt8) (a7 : Nat) (e7 : Int) (h7 : takR xs 64 a6 e6 = (l7, a7, e7))  : Meets Try.prog 38 [.slice (some ⟨r, 0, none⟩) 3 3] [n] (fun W => BlkOk W (RB n q N cp 0 0) ∧ Sees W q 0 (bytesV xs) ∧ (W.cell? ⟨r, 0, none⟩ = some (.func (.func 80) #[] #[ptr c1 0]) ∧ W.cell? ⟨r, 1, none⟩ = some (.func (.func 83) #[] #[ptr c2 0]) ∧ W.cell? ⟨r, 2, none⟩ = some (.func (.func 84) #[] #[ptr c3 0])) ∧ W.cell? ⟨c1, 0, none⟩ = some (ptr n 0) ∧ W.cell? ⟨c2, 0, none⟩ = some (ptr n 0) ∧ W.cell? ⟨c3, 0, none⟩ = some (ptr n 0) ∧ q < W.heap.size) (fun v out => ∃ s2 bl2 s3 bl3, v = agg ({ Block.zero with fWriter := l1, fSeq := x2, fPrev := l3, fLinks := s2, fData := s3, fSig := l7 ++ Block.zero.fSig.drop l7.length } : Block).cells ∧ Acc s2 bl2 (flatB ls) 25 (min x4.toNat 17) 32 ∧ Acc s3 bl3 (bytesV (o.getD [])) 5 (o.getD []).length 1 ∧ out = RB n q N cp a7 e7 :: (bl2 ++ bl3)) := by
  intro W hW
  have hd1 := digE_le h1 hx (Nat.zero_le _)
  have hd2 := numE_le h2 hx hd1.1
  have hd3 := digE_le h3 hx hd2
  have hd4 := numE_le h4 hx hd3.1
  have hd5 := digsR_at (e := e4) hx hd4 (min x4.toNat 17)
  rw [h5] at hd5
  have hd6 := blkE_le h6 hx hd5.1
  have hd7 := takE_le h7 hx hd6.1
  have hqlt := hW.2.1
  have hs64 : (l7 ++ Block.zero.fSig.drop l7.length).length = 64 := by rcases hd7.2 with h | h <;> simp [h, Block.zero]
  have okX : ∀ s2 s3, ({ Block.zero with fWriter := l1, fSeq := x2, fPrev := l3, fLinks := s2, fData := s3, fSig := l7 ++ Block.zero.fSig.drop l7.length } : Block).ok := fun s2 s3 => ⟨hd1.2, hd3.2, hs64⟩
  refine calls_of (hp0 := [RB n q N cp 0 0]) Try.func38 rfl 16 Try.ntmps38 rfl (HRep.one hW.1) ?_
  refine Sat.seq ?_
  -- region 0
  refine Sat.region ?_
  refine Tr.alloc (cs := Block.zero.cells) rfl Block.zr rfl ?_
  intro n2 hn2 hf2
  refine Tr.nil ?_
  refine at_n ?_
  refine Sat.seq ?_
  -- region 1
  refine Sat.region ?_
  refine Tr.alloc (cs := Block.zero.cells) rfl Block.zr rfl ?_
  intro n3 hn3 hf3
  refine Tr.nil ?_
  refine at_n ?_
  refine Sat.seq ?_
  refine Sat.seq ?_
  -- region 2
  refine Sat.region ?_
  have hS : n3 ≠ n ∧ c1 ≠ n3 ∧ q ≠ n3 := by
    have hl1 := cell_lt hW.2.2.2.1
    have hl2 := hW.2.2.2.2.2.2
    have hl3 : W.heap.size ≤ n3 := hn3
    exact ⟨fun e => hf3 (RB n q N cp 0 0) (by simp) e.symm, by omega, by omega⟩
  have hS2 : c2 ≠ n3 := by
    have hl1 := cell_lt hW.2.2.2.2.1
    have hl3 : W.heap.size ≤ n3 := hn3
    omega
  have hS3 : c3 ≠ n3 := by
    have hl1 := cell_lt hW.2.2.2.2.2.1
    have hl3 : W.heap.size ≤ n3 := hn3
    omega
  refine Tr.move rfl rfl rfl ?_
  refine Tr.lenSl rfl rfl rfl Try.underlying138 ?_
  refine Tr.move rfl rfl rfl ?_
  refine Tr.nil ?_
  refine at_n ?_
  refine Sat.block ?_
  refine Sat.rounds 4 (SRounds.more ?_)
  refine Sat.seq ?_
  -- region 3
  refine Sat.region ?_
  refine Tr.lss rfl rfl rfl rfl rfl ?_
  refine Tr.nil ?_
  refine at_n ?_
  refine Sat.seq ?_
  refine Sat.cond_t rfl (rfl) ?_
  refine Sat.skip ?_
  refine at_n ?_
  refine Sat.seq ?_
  refine Sat.block ?_
  refine Sat.seq ?_
  -- region 4
  refine Sat.region ?_
  first
    | refine Tr.idxSl1 rfl rfl rfl rfl Try.underlying138 Sz94 0 rfl (by omega) ?_
    | refine Tr.idxSlO rfl rfl rfl rfl Try.underlying138 Sz94 0 rfl (by omega) ?_
  refine Tr.loadE rfl rfl rfl Try.underlying94 rfl (by first | (simp; done) | (simp; exact hW.2.2) | (simp [Cx.with]; omega)) (hW.2.2.1.1) ?_
  refine Tr.assign rfl rfl rfl ?_
  refine Tr.nil ?_
  refine at_n ?_
  -- region 5
  refine Sat.region ?_
  refine Tr.move rfl rfl rfl ?_
  refine Tr.callCL (L := [BB n3 Block.zero, RB n q N cp (0) (0)]) rfl rfl rfl rfl rfl rfl Body80 (opt_head n3 c1 n q N cp 0 0 Block.zero Block.zero_ok xs hx (Nat.zero_le _) hN hbig hS.1 hS.2.1 hc1 hS.2.2 hqn l1 a1 e1 x2 a2 e2 l3 a3 e3 h1 h2 h3) (pm_consE (by repeat (first | exact rem_here | apply rem_there | apply rem_seg)) rfl rfl (pm_cons (by repeat (first | exact rem_here | apply rem_there | apply rem_seg)) pm_nil)) (lent_ok rfl) (fun w h => ⟨own_blk h (by first | exact mem0 | exact mem1 | exact mem2 | exact mem3 | exact mem4 | exact mem5 | exact mem6 | exact mem7 | (repeat (first | exact List.mem_cons_self | refine List.mem_cons_of_mem _ ?_ | refine mem_seg ?_))), own_blk h (by first | exact mem0 | exact mem1 | exact mem2 | exact mem3 | exact mem4 | exact mem5 | exact mem6 | exact mem7 | (repeat (first | exact List.mem_cons_self | refine List.mem_cons_of_mem _ ?_ | refine mem_seg ?_))), h.keeps.cell (by simp; omega) hW.2.2.2.1, sees_ext h (by simp; omega) hW.2.1⟩) ?_
  rintro v5 out5 ⟨rfl, rfl⟩
  refine Tr.nil ?_
  refine bl_n ?_
  refine at_n ?_
  -- region 6
  refine Sat.region ?_
  refine Tr.add_i64 rfl rfl rfl rfl (by omega) ?_
  refine Tr.move rfl rfl rfl ?_
  refine Tr.nil ?_
  refine at_n (SRounds.more ?_)
  refine Sat.seq ?_
  -- region 3
  refine Sat.region ?_
  refine Tr.lss rfl rfl rfl rfl rfl ?_
  refine Tr.nil ?_
  refine at_n ?_
  refine Sat.seq ?_
  refine Sat.cond_t rfl (rfl) ?_
  refine Sat.skip ?_
  refine at_n ?_
  refine Sat.seq ?_
  refine Sat.block ?_
  refine Sat.seq ?_
  -- region 4
  refine Sat.region ?_
  first
    | refine Tr.idxSl1 rfl rfl rfl rfl Try.underlying138 Sz94 1 rfl (by omega) ?_
    | refine Tr.idxSlO rfl rfl rfl rfl Try.underlying138 Sz94 1 rfl (by omega) ?_
  refine Tr.loadE rfl rfl rfl Try.underlying94 rfl (by first | (simp; done) | (simp; exact hW.2.2) | (simp [Cx.with]; omega)) (hW.2.2.1.2.1) ?_
  refine Tr.assign rfl rfl rfl ?_
  refine Tr.nil ?_
  refine at_n ?_
  -- region 5
  refine Sat.region ?_
  refine Tr.move rfl rfl rfl ?_
  refine Tr.callCL (L := [BB n3 ({ Block.zero with fWriter := l1, fSeq := x2, fPrev := l3 } : Block), RB n q N cp (a3) (e3)]) rfl rfl rfl rfl rfl rfl Body83 (opt_linksE n3 c2 n q N cp a3 e3 ({ Block.zero with fWriter := l1, fSeq := x2, fPrev := l3 } : Block) ⟨hd1.2, hd3.2, rfl⟩ xs hx hd3.1 hN hbig hS.1 hS2 hc2 hS.2.2 hqn rfl x4 a4 e4 h4 ls a5 e5 h5) (pm_consE (by repeat (first | exact rem_here | apply rem_there | apply rem_seg)) rfl rfl (pm_cons (by repeat (first | exact rem_here | apply rem_there | apply rem_seg)) pm_nil)) (lent_ok rfl) (fun w h => ⟨own_blk h (by first | exact mem0 | exact mem1 | exact mem2 | exact mem3 | exact mem4 | exact mem5 | exact mem6 | exact mem7 | (repeat (first | exact List.mem_cons_self | refine List.mem_cons_of_mem _ ?_ | refine mem_seg ?_))), own_blk h (by first | exact mem0 | exact mem1 | exact mem2 | exact mem3 | exact mem4 | exact mem5 | exact mem6 | exact mem7 | (repeat (first | exact List.mem_cons_self | refine List.mem_cons_of_mem _ ?_ | refine mem_seg ?_))), h.keeps.cell (by simp; omega) hW.2.2.2.2.1, sees_ext h (by simp; omega) hW.2.1⟩) ?_
  rintro v6 out6 ⟨s2, bl2, rfl, hac2, rfl⟩
  refine Tr.nil ?_
  refine bl_n ?_
  refine at_n ?_
  -- region 6
  refine Sat.region ?_
  refine Tr.add_i64 rfl rfl rfl rfl (by omega) ?_
  refine Tr.move rfl rfl rfl ?_
  refine Tr.nil ?_
  refine at_n (SRounds.more ?_)
  refine Sat.seq ?_
  -- region 3
  refine Sat.region ?_
  refine Tr.lss rfl rfl rfl rfl rfl ?_
  refine Tr.nil ?_
  refine at_n ?_
  refine Sat.seq ?_
  refine Sat.cond_t rfl (rfl) ?_
  refine Sat.skip ?_
  refine at_n ?_
  refine Sat.seq ?_
  refine Sat.block ?_
  refine Sat.seq ?_
  -- region 4
  refine Sat.region ?_
  first
    | refine Tr.idxSl1 rfl rfl rfl rfl Try.underlying138 Sz94 2 rfl (by omega) ?_
    | refine Tr.idxSlO rfl rfl rfl rfl Try.underlying138 Sz94 2 rfl (by omega) ?_
  refine Tr.loadE rfl rfl rfl Try.underlying94 rfl (by first | (simp; done) | (simp; exact hW.2.2) | (simp [Cx.with]; omega)) (hW.2.2.1.2.2) ?_
  refine Tr.assign rfl rfl rfl ?_
  refine Tr.nil ?_
  refine at_n ?_
  -- region 5
  refine Sat.region ?_
  refine Tr.move rfl rfl rfl ?_
  refine Tr.callCL (L := [BB n3 ({ Block.zero with fWriter := l1, fSeq := x2, fPrev := l3, fLinks := s2 } : Block), RB n q N cp (a5) (e5)]) rfl rfl rfl rfl rfl rfl Body84 (opt_tail n3 c3 n q N cp a5 e5 ({ Block.zero with fWriter := l1, fSeq := x2, fPrev := l3, fLinks := s2 } : Block) ⟨hd1.2, hd3.2, rfl⟩ xs hx hd5.1 hN hbig hS.1 hS3 hc3 hS.2.2 hqn o a6 e6 l7 a7 e7 h6 h7) (pm_consE (by repeat (first | exact rem_here | apply rem_there | apply rem_seg)) rfl rfl (pm_cons (by repeat (first | exact rem_here | apply rem_there | apply rem_seg)) pm_nil)) (lent_ok rfl) (fun w h => ⟨own_blk h (by first | exact mem0 | exact mem1 | exact mem2 | exact mem3 | exact mem4 | exact mem5 | exact mem6 | exact mem7 | (repeat (first | exact List.mem_cons_self | refine List.mem_cons_of_mem _ ?_ | refine mem_seg ?_))), own_blk h (by first | exact mem0 | exact mem1 | exact mem2 | exact mem3 | exact mem4 | exact mem5 | exact mem6 | exact mem7 | (repeat (first | exact List.mem_cons_self | refine List.mem_cons_of_mem _ ?_ | refine mem_seg ?_))), h.keeps.cell (by simp; omega) hW.2.2.2.2.2.1, sees_ext h (by simp; omega) hW.2.1⟩) ?_
  rintro v7 out7 ⟨s3, bl3, rfl, hac3, rfl⟩
  refine Tr.nil ?_
  refine bl_n ?_
  refine at_n ?_
  -- region 6
  refine Sat.region ?_
  refine Tr.add_i64 rfl rfl rfl rfl (by omega) ?_
  refine Tr.move rfl rfl rfl ?_
  refine Tr.nil ?_
  refine at_n (SRounds.more ?_)
  refine Sat.seq ?_
  -- region 3
  refine Sat.region ?_
  refine Tr.lss rfl rfl rfl rfl rfl ?_
  refine Tr.nil ?_
  refine at_n ?_
  refine Sat.seq ?_
  refine Sat.cond_f rfl (rfl) ?_
  refine Sat.exit ?_
  refine at_x ?_
  refine at_x ?_
  refine bl_h ?_
  refine at_n ?_
  refine Sat.seq ?_
  -- region 7
  refine Sat.region ?_
  refine Tr.loadAll rfl rfl rfl Try.underlying31 rfl Sz31 (by first | exact mem0 | exact mem1 | exact mem2 | exact mem3 | exact mem4 | exact mem5 | exact mem6 | exact mem7 | (repeat (first | exact List.mem_cons_self | refine List.mem_cons_of_mem _ ?_ | refine mem_seg ?_))) (Block.length (by first | assumption | (simp; done) | exact Block.zero_ok | exact Vote.zero_ok | exact Reader.zero_ok  | exact okX _ _)) ?_
  refine Tr.storeAll rfl rfl rfl rfl (Block.isCell (by first | assumption | (simp; done) | exact Block.zero_ok | exact Vote.zero_ok | exact Reader.zero_ok  | exact okX _ _)) Sz31 (Block.length (by first | assumption | (simp; done) | exact Block.zero_ok | exact Vote.zero_ok | exact Reader.zero_ok  | exact okX _ _)) (by first | exact mem0 | exact mem1 | exact mem2 | exact mem3 | exact mem4 | exact mem5 | exact mem6 | exact mem7 | (repeat (first | exact List.mem_cons_self | refine List.mem_cons_of_mem _ ?_ | refine mem_seg ?_))) (Block.length (by first | assumption | (simp; done) | exact Block.zero_ok | exact Vote.zero_ok | exact Reader.zero_ok  | exact okX _ _)) (by first | exact upd0 | exact upd1 | exact upd2 | exact upd3 | exact upd4 | exact upd5 | exact upd6 | exact upd7 | (repeat (first | exact upd0 | apply Upd.tail | apply Upd.seg))) ?_
  refine Tr.nil ?_
  refine at_n ?_
  refine Sat.ret ?_
  refine en_r ?_
  refine end_perm (out := (RB n q N cp a7 e7 :: (bl2 ++ (bl3 ++ [])))) (res_cell rfl rfl Try.underlying31 rfl Sz31 (by first | exact mem0 | exact mem1 | exact mem2 | exact mem3 | exact mem4 | exact mem5 | exact mem6 | exact mem7 | (repeat (first | exact List.mem_cons_self | refine List.mem_cons_of_mem _ ?_ | refine mem_seg ?_))) (by first | (simp; done) | exact Block.length (by first | assumption | (simp; done) | exact Block.zero_ok | exact Vote.zero_ok | exact Reader.zero_ok  | exact okX _ _))) (pm_cons (by repeat (first | exact rem_here | apply rem_there | apply rem_seg)) (pm_seg (by repeat (first | exact sg_here | exact sg_end | apply sg_there | apply sg_seg)) (pm_seg (by repeat (first | exact sg_here | exact sg_end | apply sg_there | apply sg_seg)) pm_nil))) ?_
  exact ⟨s2, bl2, s3, bl3, rfl, hac2, hac3, by simp⟩

end Go.Proofs.Ytejjamifnombhaa
