/- Contracts of the reader of package octet: Read, Err, Left, End, Take, Block. Conditions: what the reader and its row hold. -/
import Derived.Test.YtejjamifnombhaaReader
import Derived.Laws.Externs
namespace Go.Proofs.Ytejjamifnombhaa
open Go Hw
set_option linter.unusedVariables false
set_option linter.unusedSimpArgs false


theorem BlkOk.keep {ex : List Nat} {w w' : World} {b : Blk} (h : Keeps ex w w') (hb : BlkOk w b) (hn : b.n ∉ ex) : BlkOk w' b := hb.of_heap (h.block b.n hb.lt hn)



/-- a new reader -/
def RdNew (N : Nat) (xs : List UInt8) (v : Value) (out : List Blk) : Prop := ∃ n q cp, v = ptr n 0 ∧ N ≤ cp ∧ out = [RB n q N cp 0 0, ⟨q, bytesV xs, 5, cp * 1⟩]
theorem RdNew.loose (N : Nat) (xs : List UInt8) : Loose (RdNew N xs) := fun k hk => by
  obtain ⟨q1, _, h1⟩ := fresh_is 0 k
  obtain ⟨q2, h2', h2⟩ := fresh_is (q1 + 1) k
  refine ⟨_, _, ⟨q2, q1, N, rfl, Nat.le_refl _, rfl⟩, ?_⟩
  simp only [RB, List.cons_append, List.nil_append, List.map_cons, List.nodup_cons, List.mem_cons]
  refine ⟨?_, fun h => ?_, hk⟩
  · rintro (h | h)
    · omega
    · obtain ⟨b, hb, e⟩ := List.mem_map.1 h; exact h2 b hb e
  · obtain ⟨b, hb, e⟩ := List.mem_map.1 h; exact h1 b hb e


set_option maxRecDepth 100000 in
set_option maxHeartbeats 1000000 in
theorem oct_Read (p : Option Addr) (n c : Nat) (xs : List UInt8) (hl : xs.length = n) (hp : p = none → n = 0) (hn : n ≤ 90000) : Meets Try.prog 37 [.slice p n c] [] (fun W => SeesP W p (bytesV xs)) (RdNew n xs) := by
  intro W hW
  refine calls_of (hp0 := []) Try.func37 rfl 13 Try.ntmps37 rfl (HRep.nil _) ?_
  refine Sat.seq ?_
  -- region 0
  refine Sat.region ?_
  refine Tr.assign rfl rfl rfl ?_
  refine Tr.nil ?_
  refine at_n ?_
  refine Sat.seq ?_
  -- region 1
  refine Sat.region ?_
  refine Tr.move rfl rfl rfl ?_
  refine Tr.call rfl rfl rfl rfl Body79 (oct_grown p n c 0 xs hl hp (by omega) (by omega)) (FreshRow.loose _ _ _ _) (fun w h => seesP_ext h rfl hW) ?_
  rintro v1 out1 ⟨q1, c1, rfl, hc1, rfl⟩
  refine Tr.build (cs := (⟨.pointer none, ⟨some ⟨q1, 0, none⟩, n, c1⟩, 0, 0⟩ : Reader).cells) rfl rfl rfl (fun w => by kernel_rfl) ?_
  refine Tr.boxA rfl rfl ?_
  intro n7 hn7 hf7
  refine Tr.assign rfl rfl rfl ?_
  refine Tr.nil ?_
  refine at_n ?_
  refine Sat.seq ?_
  -- region 2
  refine Sat.region ?_
  refine Tr.move rfl rfl rfl ?_
  refine Tr.move rfl rfl rfl ?_
  refine Tr.nilChk rfl rfl rfl ?_
  refine Tr.fld rfl rfl rfl Try.underlying137 rfl Sz90 (by decide) _ rfl ?_
  refine Tr.store1 rfl rfl rfl rfl rfl Sz90 (by first | exact mem0 | exact mem1 | exact mem2 | exact mem3 | exact mem4 | exact mem5 | exact mem6 | exact mem7 | (repeat (first | exact List.mem_cons_self | refine List.mem_cons_of_mem _ ?_ | refine mem_seg ?_))) (by rw [Reader.length (by first | assumption | (simp; done) | exact Reader.zero_ok  | exact ⟨rfl⟩)]; decide) (Reader.set_fSelf (by first | assumption | (simp; done) | exact Reader.zero_ok  | exact ⟨rfl⟩) _) (by first | exact upd0 | exact upd1 | exact upd2 | exact upd3 | exact upd4 | exact upd5 | exact upd6 | exact upd7 | (repeat (first | exact upd0 | apply Upd.tail | apply Upd.seg))) ?_
  refine Tr.nil ?_
  refine at_n ?_
  refine Sat.seq ?_
  -- region 3
  refine Sat.region ?_
  refine Tr.move rfl rfl rfl ?_
  refine Tr.assign rfl rfl rfl ?_
  refine Tr.nil ?_
  refine at_n ?_
  refine Sat.ret ?_
  refine en_r ?_
  refine ⟨_, [RB n7 q1 n c1 0 0, ⟨q1, bytesV xs, 5, c1 * 1⟩], res_tmp rfl rfl, (by intro b hb; rcases List.mem_cons.1 hb with rfl | hb; exact mem0; rw [List.mem_singleton.1 hb]; exact mem1), (fun h => h.sublist (by simp [RB, blk])), ⟨n7, q1, c1, rfl, hc1, rfl⟩⟩

set_option maxRecDepth 100000 in
set_option maxHeartbeats 1000000 in
theorem rd_Err (n q N cp at' : Nat) (e : Int) : Meets Try.prog 87 [ptr n 0] [] (fun W => BlkOk W (RB n q N cp (at') (e))) (fun v out => v = i64 e ∧ out = []) := by
  intro W hW
  refine calls_of (hp0 := []) Try.func87 rfl 10 Try.ntmps87 rfl (HRep.nil _) ?_
  refine Sat.seq ?_
  -- region 0
  refine Sat.region ?_
  refine Tr.assign rfl rfl rfl ?_
  refine Tr.nil ?_
  refine at_n ?_
  refine Sat.seq ?_
  refine Sat.seq ?_
  -- region 1
  refine Sat.region ?_
  refine Tr.move rfl rfl rfl ?_
  refine Tr.callV rfl rfl rfl rfl Body131 (rd_made n) (fun w h => h.keeps.cell (by simp) (rb_self hW)) ?_
  refine Tr.not rfl rfl rfl ?_
  refine Tr.nil ?_
  refine at_n ?_
  refine Sat.cond_f rfl rfl ?_
  refine Sat.skip ?_
  refine at_n ?_
  refine Sat.seq ?_
  -- region 3
  refine Sat.region ?_
  refine Tr.move rfl rfl rfl ?_
  refine Tr.nilChk rfl rfl rfl ?_
  refine Tr.fld rfl rfl rfl Try.underlying137 rfl Sz35 (by decide) _ rfl ?_
  refine Tr.loadE rfl rfl rfl Try.underlying35 rfl (by first | (simp; done) | (simp; exact hW.2.2) | (simp [Cx.with]; omega)) (BlkOk.cell0 (o := 3) hW rfl) ?_
  refine Tr.assign rfl rfl rfl ?_
  refine Tr.nil ?_
  refine at_n ?_
  refine Sat.ret ?_
  refine en_r ?_
  refine ⟨_, [], res_tmp rfl rfl, (by simp), (by simp), ?_, rfl⟩
  rfl

set_option maxRecDepth 100000 in
set_option maxHeartbeats 1000000 in
theorem rd_Left (n q N cp at' : Nat) (e : Int) (hat : at' ≤ N) (hbig : N ≤ 1000000) : Meets Try.prog 88 [ptr n 0] [] (fun W => BlkOk W (RB n q N cp (at') (e))) (fun v out => v = i64 ((N : Int) - (at' : Int)) ∧ out = []) := by
  intro W hW
  have hfB : (rdr n q N cp at' e).fB.n = N := rfl
  have hfA : (rdr n q N cp at' e).fAt = (at' : Int) := rfl
  refine calls_of (hp0 := []) Try.func88 rfl 16 Try.ntmps88 rfl (HRep.nil _) ?_
  refine Sat.seq ?_
  -- region 0
  refine Sat.region ?_
  refine Tr.assign rfl rfl rfl ?_
  refine Tr.nil ?_
  refine at_n ?_
  refine Sat.seq ?_
  refine Sat.seq ?_
  -- region 1
  refine Sat.region ?_
  refine Tr.move rfl rfl rfl ?_
  refine Tr.callV rfl rfl rfl rfl Body131 (rd_made n) (fun w h => h.keeps.cell (by simp) (rb_self hW)) ?_
  refine Tr.not rfl rfl rfl ?_
  refine Tr.nil ?_
  refine at_n ?_
  refine Sat.cond_f rfl rfl ?_
  refine Sat.skip ?_
  refine at_n ?_
  refine Sat.seq ?_
  -- region 3
  refine Sat.draw [(0, 0), (0, 1), (0, 2), (1, 3), (0, 4), (0, 5), (0, 6), (0, 7), (1, 8), (0, 9), (0, 10)] Mixed (by kernel_rfl) ?_
  refine Tr.move rfl rfl rfl ?_
  refine Tr.nilChk rfl rfl rfl ?_
  refine Tr.fld rfl rfl rfl Try.underlying137 rfl Sz27 (by decide) _ rfl ?_
  refine Tr.loadE rfl rfl rfl Try.underlying27 rfl (by first | (simp; done) | (simp; exact hW.2.2) | (simp [Cx.with]; omega)) (BlkOk.cell0 (o := 1) hW rfl) ?_
  refine Tr.lenSl (n := N) rfl rfl rfl Try.underlying27 ?_
  refine Tr.move rfl rfl rfl ?_
  refine Tr.nilChk rfl rfl rfl ?_
  refine Tr.fld rfl rfl rfl Try.underlying137 rfl Sz3 (by decide) _ rfl ?_
  refine Tr.loadE rfl rfl rfl Try.underlying3 rfl (by first | (simp; done) | (simp; exact hW.2.2) | (simp [Cx.with]; omega)) (BlkOk.cell0 (o := 2) hW rfl) ?_
  refine Tr.sub_i64 rfl rfl rfl rfl (by omega) ?_
  refine Tr.assign rfl rfl rfl ?_
  refine Tr.nil ?_
  refine at_n ?_
  refine Sat.ret ?_
  refine en_r ?_
  refine ⟨_, [], res_tmp rfl rfl, (by simp), (by simp), ?_, rfl⟩
  rfl


def endR (N a : Nat) (e : Int) : Int := if e = 0 then (if (0 : Int) < (N : Int) - (a : Int) then 4 else 0) else e


set_option maxRecDepth 100000 in
set_option maxHeartbeats 1000000 in
theorem rd_End (n q N cp at' : Nat) (e : Int) (hat : at' ≤ N) (hbig : N ≤ 1000000) : Meets Try.prog 42 [ptr n 0] [] (fun W => BlkOk W (RB n q N cp (at') (e))) (fun v out => v = i64 (endR N at' e) ∧ out = []) := by
  intro W hW
  refine calls_of (hp0 := []) Try.func42 rfl 12 Try.ntmps42 rfl (HRep.nil _) ?_
  refine Sat.seq ?_
  -- region 0
  refine Sat.region ?_
  refine Tr.assign rfl rfl rfl ?_
  refine Tr.nil ?_
  refine at_n ?_
  refine Sat.seq ?_
  refine Sat.seq ?_
  -- region 1
  refine Sat.region ?_
  refine Tr.move rfl rfl rfl ?_
  refine Tr.callV rfl rfl rfl rfl Body87 (rd_Err n q N cp at' e) (fun w h => (BlkOk.keep h.keeps hW (by simp))) ?_
  refine Tr.assign rfl rfl rfl ?_
  refine Tr.nil ?_
  refine at_n ?_
  refine Sat.seq ?_
  -- region 2
  refine Sat.region ?_
  refine Tr.move rfl rfl rfl ?_
  refine Tr.nei rfl rfl rfl rfl rfl ?_
  refine Tr.nil ?_
  refine at_n ?_
  first
    | refine Sat.condP rfl (fun hc0 => ?_) (fun hc0 => ?_)
    | refine Sat.condNP rfl (fun hc0 => ?_) (fun hc0 => ?_)
    | refine Sat.cond rfl (fun hc0 => ?_) (fun hc0 => ?_)
  ·
    refine Sat.seq ?_
    -- region 3
    refine Sat.region ?_
    refine Tr.move rfl rfl rfl ?_
    refine Tr.assign rfl rfl rfl ?_
    refine Tr.nil ?_
    refine at_n ?_
    refine Sat.ret ?_
    refine at_r ?_
    refine en_r ?_
    refine ⟨_, [], res_tmp rfl rfl, (by simp), (by simp), ?_, rfl⟩
    first
      | (simp only [endR, if_neg hc0]; done)
      | (simp only [endR, if_pos (show e = 0 by omega), if_pos hc1]; done)
      | (simp only [endR, if_pos (show e = 0 by omega), if_neg hc1]; done)
  ·
    refine Sat.skip ?_
    refine at_n ?_
    refine Sat.seq ?_
    refine Sat.seq ?_
    -- region 4
    refine Sat.region ?_
    refine Tr.move rfl rfl rfl ?_
    refine Tr.callV rfl rfl rfl rfl Body88 (rd_Left n q N cp at' e hat hbig) (fun w h => (BlkOk.keep h.keeps hW (by simp))) ?_
    refine Tr.gtr rfl rfl rfl rfl rfl ?_
    refine Tr.nil ?_
    refine at_n ?_
    first
      | refine Sat.condP rfl (fun hc1 => ?_) (fun hc1 => ?_)
      | refine Sat.condNP rfl (fun hc1 => ?_) (fun hc1 => ?_)
      | refine Sat.cond rfl (fun hc1 => ?_) (fun hc1 => ?_)
    ·
      refine Sat.seq ?_
      -- region 5
      refine Sat.region ?_
      refine Tr.assign rfl rfl rfl ?_
      refine Tr.nil ?_
      refine at_n ?_
      refine Sat.ret ?_
      refine at_r ?_
      refine en_r ?_
      refine ⟨_, [], res_tmp rfl rfl, (by simp), (by simp), ?_, rfl⟩
      first
        | (simp only [endR, if_neg hc0]; done)
        | (simp only [endR, if_pos (show e = 0 by omega), if_pos hc1]; done)
        | (simp only [endR, if_pos (show e = 0 by omega), if_neg hc1]; done)
    ·
      refine Sat.skip ?_
      refine at_n ?_
      refine Sat.seq ?_
      -- region 6
      refine Sat.region ?_
      refine Tr.assign rfl rfl rfl ?_
      refine Tr.nil ?_
      refine at_n ?_
      refine Sat.ret ?_
      refine en_r ?_
      refine ⟨_, [], res_tmp rfl rfl, (by simp), (by simp), ?_, rfl⟩
      first
        | (simp only [endR, if_neg hc0]; done)
        | (simp only [endR, if_pos (show e = 0 by omega), if_pos hc1]; done)
        | (simp only [endR, if_pos (show e = 0 by omega), if_neg hc1]; done)

set_option maxRecDepth 100000 in
set_option maxHeartbeats 2000000 in
theorem rd_take64_err (n q N cp at' : Nat) (e : Int) (m : Nat) (hm0 : 0 < m) (hm : m ≤ 90000) (xs : List UInt8) (hx : xs.length = N) (hat : at' ≤ N) (hN : N ≤ cp) (hbig : N ≤ 1000000) (he : ¬ e = 0) : Meets Try.prog 86 [ptr n 0, i64 (m : Int)] [n] (fun W => BlkOk W (RB n q N cp (at') (e)) ∧ Sees W q 0 (bytesV xs) ∧ q ≠ n) (fun v out => v = .slice none 0 0 ∧ out = [RB n q N cp (at') (e)]) := by
  intro W hW
  have hkm : (wordOf (if (0 : Int) > (m : Int) then 0 else (m : Int))).toNat = m := by
    rw [if_neg (by omega)]
    simp only [wordOf, UInt64.toNat_ofNat']
    omega
  refine calls_of (hp0 := [RB n q N cp (at') (e)]) Try.func86 rfl 19 Try.ntmps86 rfl (HRep.one hW.1) ?_
  refine Sat.seq ?_
  -- region 0
  refine Sat.region ?_
  refine Tr.assign rfl rfl rfl ?_
  refine Tr.nil ?_
  refine at_n ?_
  refine Sat.seq ?_
  -- region 1
  refine Sat.region ?_
  refine Tr.move rfl rfl rfl ?_
  refine Tr.move rfl rfl rfl ?_
  refine Tr.max2 rfl rfl rfl rfl (rfl) ?_
  refine Tr.conv rfl rfl rfl Try.underlying3 Try.underlying24 (cv_i64_u64 _) ?_
  refine Tr.callL (L := [RB n q N cp (at') (e)]) rfl rfl rfl rfl rfl Body127 (rd_take_err n q N cp at' e (wordOf (if (0 : Int) > (m : Int) then 0 else (m : Int))) hat hN hbig he) rem_here (by intro m hm; exact ⟨_, List.mem_singleton.2 rfl, (List.mem_singleton.1 hm).symm⟩) (fun w h => own_blk h (by first | exact mem0 | exact mem1 | exact mem2 | exact mem3 | exact mem4 | exact mem5 | exact mem6 | exact mem7 | (repeat (first | exact List.mem_cons_self | refine List.mem_cons_of_mem _ ?_ | refine mem_seg ?_)))) ?_
  rintro v2 out2 ⟨rfl, rfl⟩
  refine Tr.move rfl rfl rfl ?_
  refine Tr.extract rfl rfl rfl rfl ?_
  refine Tr.extract rfl rfl rfl rfl ?_
  refine Tr.assign rfl rfl rfl ?_
  refine Tr.assign rfl rfl rfl ?_
  refine Tr.nil ?_
  refine at_n ?_
  refine Sat.seq ?_
  refine Sat.seq ?_
  -- region 2
  refine Sat.region ?_
  refine Tr.move rfl rfl rfl ?_
  refine Tr.not rfl rfl rfl ?_
  refine Tr.nil ?_
  refine at_n ?_
  refine Sat.cond_t rfl (rfl) ?_
  refine Sat.seq ?_
  -- region 3
  refine Sat.region ?_
  refine Tr.assign rfl rfl rfl ?_
  refine Tr.nil ?_
  refine at_n ?_
  refine Sat.ret ?_
  refine at_r ?_
  refine en_r ?_
  refine ⟨_, [RB n q N cp (at') (e)], res_tmp rfl rfl, (by intro b hb; rw [List.mem_singleton.1 hb]; exact mem0), nodup1, ?_⟩
  exact ⟨rfl, rfl⟩

set_option maxRecDepth 100000 in
set_option maxHeartbeats 2000000 in
theorem rd_take64_more (n q N cp at' : Nat) (m : Nat) (hm0 : 0 < m) (hm : m ≤ 90000) (xs : List UInt8) (hx : xs.length = N) (hat : at' ≤ N) (hN : N ≤ cp) (hbig : N ≤ 1000000) (hk : N < at' + m) : Meets Try.prog 86 [ptr n 0, i64 (m : Int)] [n] (fun W => BlkOk W (RB n q N cp (at') (0)) ∧ Sees W q 0 (bytesV xs) ∧ q ≠ n) (fun v out => v = .slice none 0 0 ∧ out = [RB n q N cp (at') (5)]) := by
  intro W hW
  have hkm : (wordOf (if (0 : Int) > (m : Int) then 0 else (m : Int))).toNat = m := by
    rw [if_neg (by omega)]
    simp only [wordOf, UInt64.toNat_ofNat']
    omega
  refine calls_of (hp0 := [RB n q N cp (at') (0)]) Try.func86 rfl 19 Try.ntmps86 rfl (HRep.one hW.1) ?_
  refine Sat.seq ?_
  -- region 0
  refine Sat.region ?_
  refine Tr.assign rfl rfl rfl ?_
  refine Tr.nil ?_
  refine at_n ?_
  refine Sat.seq ?_
  -- region 1
  refine Sat.region ?_
  refine Tr.move rfl rfl rfl ?_
  refine Tr.move rfl rfl rfl ?_
  refine Tr.max2 rfl rfl rfl rfl (rfl) ?_
  refine Tr.conv rfl rfl rfl Try.underlying3 Try.underlying24 (cv_i64_u64 _) ?_
  refine Tr.callL (L := [RB n q N cp (at') (0)]) rfl rfl rfl rfl rfl Body127 (rd_take_more n q N cp at' (wordOf (if (0 : Int) > (m : Int) then 0 else (m : Int))) hat hN hbig (by rw [hkm]; exact hk)) rem_here (by intro m hm; exact ⟨_, List.mem_singleton.2 rfl, (List.mem_singleton.1 hm).symm⟩) (fun w h => own_blk h (by first | exact mem0 | exact mem1 | exact mem2 | exact mem3 | exact mem4 | exact mem5 | exact mem6 | exact mem7 | (repeat (first | exact List.mem_cons_self | refine List.mem_cons_of_mem _ ?_ | refine mem_seg ?_)))) ?_
  rintro v2 out2 ⟨rfl, rfl⟩
  refine Tr.move rfl rfl rfl ?_
  refine Tr.extract rfl rfl rfl rfl ?_
  refine Tr.extract rfl rfl rfl rfl ?_
  refine Tr.assign rfl rfl rfl ?_
  refine Tr.assign rfl rfl rfl ?_
  refine Tr.nil ?_
  refine at_n ?_
  refine Sat.seq ?_
  refine Sat.seq ?_
  -- region 2
  refine Sat.region ?_
  refine Tr.move rfl rfl rfl ?_
  refine Tr.not rfl rfl rfl ?_
  refine Tr.nil ?_
  refine at_n ?_
  refine Sat.cond_t rfl (rfl) ?_
  refine Sat.seq ?_
  -- region 3
  refine Sat.region ?_
  refine Tr.assign rfl rfl rfl ?_
  refine Tr.nil ?_
  refine at_n ?_
  refine Sat.ret ?_
  refine at_r ?_
  refine en_r ?_
  refine ⟨_, [RB n q N cp (at') (5)], res_tmp rfl rfl, (by intro b hb; rw [List.mem_singleton.1 hb]; exact mem0), nodup1, ?_⟩
  exact ⟨rfl, rfl⟩

set_option maxRecDepth 100000 in
set_option maxHeartbeats 2000000 in
theorem rd_take64_ok (n q N cp at' : Nat) (m : Nat) (hm0 : 0 < m) (hm : m ≤ 90000) (xs : List UInt8) (hx : xs.length = N) (hat : at' ≤ N) (hN : N ≤ cp) (hbig : N ≤ 1000000) (hk : at' + m ≤ N) (hN2 : N ≤ 90000) : Meets Try.prog 86 [ptr n 0, i64 (m : Int)] [n] (fun W => BlkOk W (RB n q N cp (at') (0)) ∧ Sees W q 0 (bytesV xs) ∧ q ≠ n) (fun v out => ∃ q1 c1, v = .slice (some ⟨q1, 0, none⟩) m c1 ∧ m ≤ c1 ∧ out = [⟨q1, bytesV ((xs.drop (at')).take (m)), 5, c1 * 1⟩, RB n q N cp (at' + m) (0)]) := by
  intro W hW
  have hkm : (wordOf (if (0 : Int) > (m : Int) then 0 else (m : Int))).toNat = m := by
    rw [if_neg (by omega)]
    simp only [wordOf, UInt64.toNat_ofNat']
    omega
  refine calls_of (hp0 := [RB n q N cp (at') (0)]) Try.func86 rfl 19 Try.ntmps86 rfl (HRep.one hW.1) ?_
  refine Sat.seq ?_
  -- region 0
  refine Sat.region ?_
  refine Tr.assign rfl rfl rfl ?_
  refine Tr.nil ?_
  refine at_n ?_
  refine Sat.seq ?_
  -- region 1
  refine Sat.region ?_
  refine Tr.move rfl rfl rfl ?_
  refine Tr.move rfl rfl rfl ?_
  refine Tr.max2 rfl rfl rfl rfl (rfl) ?_
  refine Tr.conv rfl rfl rfl Try.underlying3 Try.underlying24 (cv_i64_u64 _) ?_
  refine Tr.callL (L := [RB n q N cp (at') (0)]) rfl rfl rfl rfl rfl Body127 (rd_take_pos n q N cp at' (wordOf (if (0 : Int) > (m : Int) then 0 else (m : Int))) hN hbig (by rw [hkm]; exact hk) (by rw [hkm]; exact hm0)) rem_here (by intro m hm; exact ⟨_, List.mem_singleton.2 rfl, (List.mem_singleton.1 hm).symm⟩) (fun w h => own_blk h (by first | exact mem0 | exact mem1 | exact mem2 | exact mem3 | exact mem4 | exact mem5 | exact mem6 | exact mem7 | (repeat (first | exact List.mem_cons_self | refine List.mem_cons_of_mem _ ?_ | refine mem_seg ?_)))) ?_
  rintro v2 out2 ⟨rfl, rfl⟩
  rw [hkm]
  refine Tr.move rfl rfl rfl ?_
  refine Tr.extract rfl rfl rfl rfl ?_
  refine Tr.extract rfl rfl rfl rfl ?_
  refine Tr.assign rfl rfl rfl ?_
  refine Tr.assign rfl rfl rfl ?_
  refine Tr.nil ?_
  refine at_n ?_
  refine Sat.seq ?_
  refine Sat.seq ?_
  -- region 2
  refine Sat.region ?_
  refine Tr.move rfl rfl rfl ?_
  refine Tr.not rfl rfl rfl ?_
  refine Tr.nil ?_
  refine at_n ?_
  refine Sat.cond_f rfl (rfl) ?_
  refine Sat.skip ?_
  refine at_n ?_
  refine Sat.seq ?_
  -- region 4
  refine Sat.region ?_
  refine Tr.move rfl rfl rfl ?_
  refine Tr.call rfl rfl rfl rfl Body79 (oct_grown (some ⟨q, at', none⟩) m (cp - at') 0 ((xs.drop (at')).take (m)) (by simp; omega) (fun e => by cases e) (by omega) (by omega)) (FreshRow.loose _ _ _ _) (fun w h => SeesP.of (sees_ext h (by simp; exact hW.2.2) (sees_cut hW.2.1 (at') (m)))) ?_
  rintro v1 out1 ⟨q1, c1, rfl, hc1, rfl⟩
  refine Tr.assign rfl rfl rfl ?_
  refine Tr.nil ?_
  refine at_n ?_
  refine Sat.ret ?_
  refine en_r ?_
  refine ⟨_, [⟨q1, bytesV ((xs.drop (at')).take (m)), 5, c1 * 1⟩, RB n q N cp (at' + m) (0)], res_tmp rfl rfl, (by intro b hb; rcases List.mem_cons.1 hb with rfl | hb; exact mem0; rw [List.mem_singleton.1 hb]; exact mem1), (fun h => h.sublist (by simp [RB])), ?_⟩
  exact ⟨q1, c1, rfl, hc1, rfl⟩

set_option maxRecDepth 100000 in
set_option maxHeartbeats 2000000 in
theorem rd_blk_err (n q N cp at' : Nat) (e : Int) (xs : List UInt8) (hx : xs.length = N) (hat : at' ≤ N) (hN : N ≤ cp) (hbig : N ≤ 1000000) (he1' : ¬ (numR xs at' e).2.2 = 0) (hN2 : N ≤ 90000) : Meets Try.prog 85 [ptr n 0] [n] (fun W => BlkOk W (RB n q N cp (at') (e)) ∧ Sees W q 0 (bytesV xs) ∧ q ≠ n) (fun v out => v = .slice none 0 0 ∧ out = [RB n q N cp at' ((numR xs at' e).2.2)]) := by
  intro W hW
  have hna := (numR_at xs at' e (by omega))
  rw [hx] at hna
  obtain ⟨a1, ha1⟩ : ∃ a1, a1 = (numR xs at' e).2.1 := ⟨_, rfl⟩
  obtain ⟨e1, he1⟩ : ∃ e1, e1 = (numR xs at' e).2.2 := ⟨_, rfl⟩
  obtain ⟨k1, hk1⟩ : ∃ k1, k1 = (numR xs at' e).1 := ⟨_, rfl⟩
  have hNum := rd_Number n q N cp at' e xs hx hat hN hbig
  rw [← ha1, ← he1, ← hk1] at hNum
  rw [← ha1] at hna
  refine calls_of (hp0 := [RB n q N cp (at') (e)]) Try.func85 rfl 33 Try.ntmps85 rfl (HRep.one hW.1) ?_
  refine Sat.seq ?_
  -- region 0
  refine Sat.region ?_
  refine Tr.assign rfl rfl rfl ?_
  refine Tr.nil ?_
  refine at_n ?_
  refine Sat.seq ?_
  refine Sat.seq ?_
  -- region 1
  refine Sat.region ?_
  refine Tr.move rfl rfl rfl ?_
  refine Tr.callV rfl rfl rfl rfl Body131 (rd_made n) (fun w h => rb_self (own_blk h (by first | exact mem0 | exact mem1 | exact mem2 | exact mem3 | exact mem4 | exact mem5 | exact mem6 | exact mem7 | (repeat (first | exact List.mem_cons_self | refine List.mem_cons_of_mem _ ?_ | refine mem_seg ?_))))) ?_
  refine Tr.not rfl rfl rfl ?_
  refine Tr.nil ?_
  refine at_n ?_
  refine Sat.cond_f rfl rfl ?_
  refine Sat.skip ?_
  refine at_n ?_
  refine Sat.join (ι := Unit) (fun _u => ⟨[(0, ptr n 0), (3, i64 (at' : Int))], [⟨n, (rdr n q N cp at' e).cells, 137, 4⟩]⟩) (fun _u => True) ?_ ?_
  ·
    -- region 3
    refine Sat.region ?_
    refine Tr.move rfl rfl rfl ?_
    refine Tr.nilChk rfl rfl rfl ?_
    refine Tr.fld rfl rfl rfl Try.underlying137 rfl Sz3 (by decide) _ rfl ?_
    refine Tr.load1 rfl rfl rfl Try.underlying3 rfl (by first | exact mem0 | exact mem1 | exact mem2 | exact mem3 | exact mem4 | exact mem5 | exact mem6 | exact mem7 | (repeat (first | exact List.mem_cons_self | refine List.mem_cons_of_mem _ ?_ | refine mem_seg ?_))) (by first | exact Reader.get_fAt (by first | assumption | (simp [hx]; done) | exact Reader.zero_ok  | exact rdr_ok _ _ _ _ _ _ | exact ⟨rfl⟩) | exact (by first | rfl | exact get_words (by first | omega | (simp [hx]; done) | (simp [hx]; omega)) | exact get_bytes (by first | omega | (simp [hx]; done) | (simp [hx]; omega)) | exact get_ints (by first | omega | (simp [hx]; done) | (simp [hx]; omega)))) ?_
    refine Tr.assign rfl rfl rfl ?_
    refine Tr.nil ?_
    refine at_n ?_
    refine ⟨(), trivial, weak_of (wk1 rfl (wk1 rfl wk0)) (wh1 (by first | exact mem0 | exact mem1 | exact mem2 | exact mem3 | exact mem4 | exact mem5 | exact mem6 | exact mem7 | (repeat (first | exact List.mem_cons_self | refine List.mem_cons_of_mem _ ?_ | refine mem_seg ?_))) wh0) (by repeat (first | exact ns_nil | refine ns_keep rfl ?_ | refine ns_skip ?_))⟩
  ·
    intro _u hj
    skip
    refine Sat.seq ?_
    -- region 4
    refine Sat.region ?_
    refine Tr.move rfl rfl rfl ?_
    refine Tr.callL (L := [RB n q N cp (at') (e)]) rfl rfl rfl rfl rfl Body82 (hNum) rem_here (by intro m hm; exact ⟨_, List.mem_singleton.2 rfl, (List.mem_singleton.1 hm).symm⟩) (fun w h => ⟨own_blk h (by first | exact mem0 | exact mem1 | exact mem2 | exact mem3 | exact mem4 | exact mem5 | exact mem6 | exact mem7 | (repeat (first | exact List.mem_cons_self | refine List.mem_cons_of_mem _ ?_ | refine mem_seg ?_))), sees_ext h (by simp; exact hW.2.2) hW.2.1, hW.2.2⟩) ?_
    rintro v2 out2 ⟨rfl, rfl⟩
    refine Tr.assign rfl rfl rfl ?_
    refine Tr.nil ?_
    refine at_n ?_
    refine Sat.seq ?_
    -- region 5
    refine Sat.region ?_
    refine Tr.move rfl rfl rfl ?_
    refine Tr.move rfl rfl rfl ?_
    refine Tr.callL (L := [RB n q N cp (a1) (e1)]) rfl rfl rfl rfl rfl Body127 (rd_take_err n q N cp a1 e1 k1 hna hN hbig (by rw [he1]; exact he1')) rem_here (by intro m hm; exact ⟨_, List.mem_singleton.2 rfl, (List.mem_singleton.1 hm).symm⟩) (fun w h => own_blk h (by first | exact mem0 | exact mem1 | exact mem2 | exact mem3 | exact mem4 | exact mem5 | exact mem6 | exact mem7 | (repeat (first | exact List.mem_cons_self | refine List.mem_cons_of_mem _ ?_ | refine mem_seg ?_)))) ?_
    rintro v2 out2 ⟨rfl, rfl⟩
    refine Tr.move rfl rfl rfl ?_
    refine Tr.extract rfl rfl rfl rfl ?_
    refine Tr.extract rfl rfl rfl rfl ?_
    refine Tr.assign rfl rfl rfl ?_
    refine Tr.assign rfl rfl rfl ?_
    refine Tr.nil ?_
    refine at_n ?_
    refine Sat.seq ?_
    refine Sat.seq ?_
    -- region 6
    refine Sat.region ?_
    refine Tr.move rfl rfl rfl ?_
    refine Tr.not rfl rfl rfl ?_
    refine Tr.nil ?_
    refine at_n ?_
    refine Sat.cond_t rfl (rfl) ?_
    refine Sat.seq ?_
    -- region 7
    refine Sat.region ?_
    refine Tr.move rfl rfl rfl ?_
    refine Tr.move rfl rfl rfl ?_
    refine Tr.move rfl rfl rfl ?_
    refine Tr.nilChk rfl rfl rfl ?_
    refine Tr.fld rfl rfl rfl Try.underlying137 rfl Sz35 (by decide) _ rfl ?_
    refine Tr.load1 rfl rfl rfl Try.underlying35 rfl (by first | exact mem0 | exact mem1 | exact mem2 | exact mem3 | exact mem4 | exact mem5 | exact mem6 | exact mem7 | (repeat (first | exact List.mem_cons_self | refine List.mem_cons_of_mem _ ?_ | refine mem_seg ?_))) (by first | exact Reader.get_fErr (by first | assumption | (simp [hx]; done) | exact Reader.zero_ok  | exact rdr_ok _ _ _ _ _ _ | exact ⟨rfl⟩) | exact (by first | rfl | exact get_words (by first | omega | (simp [hx]; done) | (simp [hx]; omega)) | exact get_bytes (by first | omega | (simp [hx]; done) | (simp [hx]; omega)) | exact get_ints (by first | omega | (simp [hx]; done) | (simp [hx]; omega)))) ?_
    refine Tr.callL (L := [RB n q N cp (a1) (e1)]) rfl rfl rfl rfl rfl Body129 (rd_fail n q N cp a1 e1 at' e1) rem_here (by intro m hm; exact ⟨_, List.mem_singleton.2 rfl, (List.mem_singleton.1 hm).symm⟩) (fun w h => own_blk h (by first | exact mem0 | exact mem1 | exact mem2 | exact mem3 | exact mem4 | exact mem5 | exact mem6 | exact mem7 | (repeat (first | exact List.mem_cons_self | refine List.mem_cons_of_mem _ ?_ | refine mem_seg ?_)))) ?_
    rintro v3 out3 ⟨rfl, rfl⟩
    refine Tr.nil ?_
    refine at_n ?_
    refine Sat.seq ?_
    -- region 8
    refine Sat.region ?_
    refine Tr.assign rfl rfl rfl ?_
    refine Tr.nil ?_
    refine at_n ?_
    refine Sat.ret ?_
    refine at_r ?_
    refine en_r ?_
    refine ⟨_, [RB n q N cp at' e1], res_tmp rfl rfl, (by intro b hb; rw [List.mem_singleton.1 hb]; exact mem0), nodup1, ?_⟩
    exact ⟨rfl, by rw [he1]⟩

set_option maxRecDepth 100000 in
set_option maxHeartbeats 2000000 in
theorem rd_blk_more (n q N cp at' : Nat) (e : Int) (xs : List UInt8) (hx : xs.length = N) (hat : at' ≤ N) (hN : N ≤ cp) (hbig : N ≤ 1000000) (he1' : (numR xs at' e).2.2 = 0) (hk : N < (numR xs at' e).2.1 + ((numR xs at' e).1).toNat) (hN2 : N ≤ 90000) : Meets Try.prog 85 [ptr n 0] [n] (fun W => BlkOk W (RB n q N cp (at') (e)) ∧ Sees W q 0 (bytesV xs) ∧ q ≠ n) (fun v out => v = .slice none 0 0 ∧ out = [RB n q N cp (at') (5)]) := by
  intro W hW
  have hna := (numR_at xs at' e (by omega))
  rw [hx] at hna
  obtain ⟨a1, ha1⟩ : ∃ a1, a1 = (numR xs at' e).2.1 := ⟨_, rfl⟩
  obtain ⟨e1, he1⟩ : ∃ e1, e1 = (numR xs at' e).2.2 := ⟨_, rfl⟩
  obtain ⟨k1, hk1⟩ : ∃ k1, k1 = (numR xs at' e).1 := ⟨_, rfl⟩
  have hNum := rd_Number n q N cp at' e xs hx hat hN hbig
  rw [← ha1, ← he1, ← hk1] at hNum
  rw [← ha1] at hna
  have he2 : e1 = 0 := by rw [he1]; exact he1'
  clear he1
  subst he2
  have hk1' : k1 = (numR xs at' e).1 := hk1
  refine calls_of (hp0 := [RB n q N cp (at') (e)]) Try.func85 rfl 33 Try.ntmps85 rfl (HRep.one hW.1) ?_
  refine Sat.seq ?_
  -- region 0
  refine Sat.region ?_
  refine Tr.assign rfl rfl rfl ?_
  refine Tr.nil ?_
  refine at_n ?_
  refine Sat.seq ?_
  refine Sat.seq ?_
  -- region 1
  refine Sat.region ?_
  refine Tr.move rfl rfl rfl ?_
  refine Tr.callV rfl rfl rfl rfl Body131 (rd_made n) (fun w h => rb_self (own_blk h (by first | exact mem0 | exact mem1 | exact mem2 | exact mem3 | exact mem4 | exact mem5 | exact mem6 | exact mem7 | (repeat (first | exact List.mem_cons_self | refine List.mem_cons_of_mem _ ?_ | refine mem_seg ?_))))) ?_
  refine Tr.not rfl rfl rfl ?_
  refine Tr.nil ?_
  refine at_n ?_
  refine Sat.cond_f rfl rfl ?_
  refine Sat.skip ?_
  refine at_n ?_
  refine Sat.join (ι := Unit) (fun _u => ⟨[(0, ptr n 0), (3, i64 (at' : Int))], [⟨n, (rdr n q N cp at' e).cells, 137, 4⟩]⟩) (fun _u => True) ?_ ?_
  ·
    -- region 3
    refine Sat.region ?_
    refine Tr.move rfl rfl rfl ?_
    refine Tr.nilChk rfl rfl rfl ?_
    refine Tr.fld rfl rfl rfl Try.underlying137 rfl Sz3 (by decide) _ rfl ?_
    refine Tr.load1 rfl rfl rfl Try.underlying3 rfl (by first | exact mem0 | exact mem1 | exact mem2 | exact mem3 | exact mem4 | exact mem5 | exact mem6 | exact mem7 | (repeat (first | exact List.mem_cons_self | refine List.mem_cons_of_mem _ ?_ | refine mem_seg ?_))) (by first | exact Reader.get_fAt (by first | assumption | (simp [hx]; done) | exact Reader.zero_ok  | exact rdr_ok _ _ _ _ _ _ | exact ⟨rfl⟩) | exact (by first | rfl | exact get_words (by first | omega | (simp [hx]; done) | (simp [hx]; omega)) | exact get_bytes (by first | omega | (simp [hx]; done) | (simp [hx]; omega)) | exact get_ints (by first | omega | (simp [hx]; done) | (simp [hx]; omega)))) ?_
    refine Tr.assign rfl rfl rfl ?_
    refine Tr.nil ?_
    refine at_n ?_
    refine ⟨(), trivial, weak_of (wk1 rfl (wk1 rfl wk0)) (wh1 (by first | exact mem0 | exact mem1 | exact mem2 | exact mem3 | exact mem4 | exact mem5 | exact mem6 | exact mem7 | (repeat (first | exact List.mem_cons_self | refine List.mem_cons_of_mem _ ?_ | refine mem_seg ?_))) wh0) (by repeat (first | exact ns_nil | refine ns_keep rfl ?_ | refine ns_skip ?_))⟩
  ·
    intro _u hj
    skip
    refine Sat.seq ?_
    -- region 4
    refine Sat.region ?_
    refine Tr.move rfl rfl rfl ?_
    refine Tr.callL (L := [RB n q N cp (at') (e)]) rfl rfl rfl rfl rfl Body82 (hNum) rem_here (by intro m hm; exact ⟨_, List.mem_singleton.2 rfl, (List.mem_singleton.1 hm).symm⟩) (fun w h => ⟨own_blk h (by first | exact mem0 | exact mem1 | exact mem2 | exact mem3 | exact mem4 | exact mem5 | exact mem6 | exact mem7 | (repeat (first | exact List.mem_cons_self | refine List.mem_cons_of_mem _ ?_ | refine mem_seg ?_))), sees_ext h (by simp; exact hW.2.2) hW.2.1, hW.2.2⟩) ?_
    rintro v2 out2 ⟨rfl, rfl⟩
    refine Tr.assign rfl rfl rfl ?_
    refine Tr.nil ?_
    refine at_n ?_
    refine Sat.seq ?_
    -- region 5
    refine Sat.region ?_
    refine Tr.move rfl rfl rfl ?_
    refine Tr.move rfl rfl rfl ?_
    refine Tr.callL (L := [RB n q N cp (a1) (0)]) rfl rfl rfl rfl rfl Body127 (rd_take_more n q N cp a1 k1 hna hN hbig (by rw [ha1, hk1]; exact hk)) rem_here (by intro m hm; exact ⟨_, List.mem_singleton.2 rfl, (List.mem_singleton.1 hm).symm⟩) (fun w h => own_blk h (by first | exact mem0 | exact mem1 | exact mem2 | exact mem3 | exact mem4 | exact mem5 | exact mem6 | exact mem7 | (repeat (first | exact List.mem_cons_self | refine List.mem_cons_of_mem _ ?_ | refine mem_seg ?_)))) ?_
    rintro v2 out2 ⟨rfl, rfl⟩
    refine Tr.move rfl rfl rfl ?_
    refine Tr.extract rfl rfl rfl rfl ?_
    refine Tr.extract rfl rfl rfl rfl ?_
    refine Tr.assign rfl rfl rfl ?_
    refine Tr.assign rfl rfl rfl ?_
    refine Tr.nil ?_
    refine at_n ?_
    refine Sat.seq ?_
    refine Sat.seq ?_
    -- region 6
    refine Sat.region ?_
    refine Tr.move rfl rfl rfl ?_
    refine Tr.not rfl rfl rfl ?_
    refine Tr.nil ?_
    refine at_n ?_
    refine Sat.cond_t rfl (rfl) ?_
    refine Sat.seq ?_
    -- region 7
    refine Sat.region ?_
    refine Tr.move rfl rfl rfl ?_
    refine Tr.move rfl rfl rfl ?_
    refine Tr.move rfl rfl rfl ?_
    refine Tr.nilChk rfl rfl rfl ?_
    refine Tr.fld rfl rfl rfl Try.underlying137 rfl Sz35 (by decide) _ rfl ?_
    refine Tr.load1 rfl rfl rfl Try.underlying35 rfl (by first | exact mem0 | exact mem1 | exact mem2 | exact mem3 | exact mem4 | exact mem5 | exact mem6 | exact mem7 | (repeat (first | exact List.mem_cons_self | refine List.mem_cons_of_mem _ ?_ | refine mem_seg ?_))) (by first | exact Reader.get_fErr (by first | assumption | (simp [hx]; done) | exact Reader.zero_ok  | exact rdr_ok _ _ _ _ _ _ | exact ⟨rfl⟩) | exact (by first | rfl | exact get_words (by first | omega | (simp [hx]; done) | (simp [hx]; omega)) | exact get_bytes (by first | omega | (simp [hx]; done) | (simp [hx]; omega)) | exact get_ints (by first | omega | (simp [hx]; done) | (simp [hx]; omega)))) ?_
    refine Tr.callL (L := [RB n q N cp (a1) (5)]) rfl rfl rfl rfl rfl Body129 (rd_fail n q N cp a1 5 at' 5) rem_here (by intro m hm; exact ⟨_, List.mem_singleton.2 rfl, (List.mem_singleton.1 hm).symm⟩) (fun w h => own_blk h (by first | exact mem0 | exact mem1 | exact mem2 | exact mem3 | exact mem4 | exact mem5 | exact mem6 | exact mem7 | (repeat (first | exact List.mem_cons_self | refine List.mem_cons_of_mem _ ?_ | refine mem_seg ?_)))) ?_
    rintro v3 out3 ⟨rfl, rfl⟩
    refine Tr.nil ?_
    refine at_n ?_
    refine Sat.seq ?_
    -- region 8
    refine Sat.region ?_
    refine Tr.assign rfl rfl rfl ?_
    refine Tr.nil ?_
    refine at_n ?_
    refine Sat.ret ?_
    refine at_r ?_
    refine en_r ?_
    refine ⟨_, [RB n q N cp (at') (5)], res_tmp rfl rfl, (by intro b hb; rw [List.mem_singleton.1 hb]; exact mem0), nodup1, ?_⟩
    exact ⟨rfl, rfl⟩


theorem sees_cutP {w : World} {q cp N a k : Nat} {xs : List UInt8} (h : Sees w q 0 (bytesV xs)) (hx : xs.length = N) (hN : N ≤ cp) : SeesP w (some ⟨q, if cp = a then 0 else 0 + a * 1, none⟩) (bytesV ((xs.drop a).take k)) := fun j v hj => by
  have hc := sees_cut h a k j v hj
  have hlt : j < (bytesV ((xs.drop a).take k)).length := (List.getElem?_eq_some_iff.1 hj).1
  simp only [bytesV, List.length_map, List.length_take, List.length_drop] at hlt
  refine ⟨q, a, ?_, hc⟩
  rw [if_neg (by omega), Nat.zero_add, Nat.mul_one]
/-- what Block reads: the bytes (none if there is an error), where the reader then stands, its error -/
def blkR (xs : List UInt8) (a : Nat) (e : Int) : Option (List UInt8) × Nat × Int :=
  if ¬ (numR xs a e).2.2 = 0 then (none, a, (numR xs a e).2.2) else if xs.length < (numR xs a e).2.1 + (numR xs a e).1.toNat then (none, a, 5) else (some ((xs.drop (numR xs a e).2.1).take (numR xs a e).1.toNat), (numR xs a e).2.1 + (numR xs a e).1.toNat, 0)


set_option maxRecDepth 100000 in
set_option maxHeartbeats 2000000 in
theorem rd_blk_ok (n q N cp at' : Nat) (e : Int) (xs : List UInt8) (hx : xs.length = N) (hat : at' ≤ N) (hN : N ≤ cp) (hbig : N ≤ 1000000) (he1' : (numR xs at' e).2.2 = 0) (hk : (numR xs at' e).2.1 + ((numR xs at' e).1).toNat ≤ N) (hN2 : N ≤ 90000) : Meets Try.prog 85 [ptr n 0] [n] (fun W => BlkOk W (RB n q N cp (at') (e)) ∧ Sees W q 0 (bytesV xs) ∧ q ≠ n) (fun v out => ∃ q1 c1, v = .slice (some ⟨q1, 0, none⟩) (numR xs at' e).1.toNat c1 ∧ (numR xs at' e).1.toNat ≤ c1 ∧ out = [⟨q1, bytesV ((xs.drop ((numR xs at' e).2.1)).take ((numR xs at' e).1.toNat)), 5, c1 * 1⟩, RB n q N cp ((numR xs at' e).2.1 + (numR xs at' e).1.toNat) (0)]) := by
  intro W hW
  have hna := (numR_at xs at' e (by omega))
  rw [hx] at hna
  obtain ⟨a1, ha1⟩ : ∃ a1, a1 = (numR xs at' e).2.1 := ⟨_, rfl⟩
  obtain ⟨e1, he1⟩ : ∃ e1, e1 = (numR xs at' e).2.2 := ⟨_, rfl⟩
  obtain ⟨k1, hk1⟩ : ∃ k1, k1 = (numR xs at' e).1 := ⟨_, rfl⟩
  have hNum := rd_Number n q N cp at' e xs hx hat hN hbig
  rw [← ha1, ← he1, ← hk1] at hNum
  rw [← ha1] at hna
  have he2 : e1 = 0 := by rw [he1]; exact he1'
  clear he1
  subst he2
  have hk1' : k1 = (numR xs at' e).1 := hk1
  have hk9 : a1 + k1.toNat ≤ N := by rw [ha1, hk1]; exact hk
  refine calls_of (hp0 := [RB n q N cp (at') (e)]) Try.func85 rfl 33 Try.ntmps85 rfl (HRep.one hW.1) ?_
  refine Sat.seq ?_
  -- region 0
  refine Sat.region ?_
  refine Tr.assign rfl rfl rfl ?_
  refine Tr.nil ?_
  refine at_n ?_
  refine Sat.seq ?_
  refine Sat.seq ?_
  -- region 1
  refine Sat.region ?_
  refine Tr.move rfl rfl rfl ?_
  refine Tr.callV rfl rfl rfl rfl Body131 (rd_made n) (fun w h => rb_self (own_blk h (by first | exact mem0 | exact mem1 | exact mem2 | exact mem3 | exact mem4 | exact mem5 | exact mem6 | exact mem7 | (repeat (first | exact List.mem_cons_self | refine List.mem_cons_of_mem _ ?_ | refine mem_seg ?_))))) ?_
  refine Tr.not rfl rfl rfl ?_
  refine Tr.nil ?_
  refine at_n ?_
  refine Sat.cond_f rfl rfl ?_
  refine Sat.skip ?_
  refine at_n ?_
  refine Sat.join (ι := Unit) (fun _u => ⟨[(0, ptr n 0), (3, i64 (at' : Int))], [⟨n, (rdr n q N cp at' e).cells, 137, 4⟩]⟩) (fun _u => True) ?_ ?_
  ·
    -- region 3
    refine Sat.region ?_
    refine Tr.move rfl rfl rfl ?_
    refine Tr.nilChk rfl rfl rfl ?_
    refine Tr.fld rfl rfl rfl Try.underlying137 rfl Sz3 (by decide) _ rfl ?_
    refine Tr.load1 rfl rfl rfl Try.underlying3 rfl (by first | exact mem0 | exact mem1 | exact mem2 | exact mem3 | exact mem4 | exact mem5 | exact mem6 | exact mem7 | (repeat (first | exact List.mem_cons_self | refine List.mem_cons_of_mem _ ?_ | refine mem_seg ?_))) (by first | exact Reader.get_fAt (by first | assumption | (simp [hx]; done) | exact Reader.zero_ok  | exact rdr_ok _ _ _ _ _ _ | exact ⟨rfl⟩) | exact (by first | rfl | exact get_words (by first | omega | (simp [hx]; done) | (simp [hx]; omega)) | exact get_bytes (by first | omega | (simp [hx]; done) | (simp [hx]; omega)) | exact get_ints (by first | omega | (simp [hx]; done) | (simp [hx]; omega)))) ?_
    refine Tr.assign rfl rfl rfl ?_
    refine Tr.nil ?_
    refine at_n ?_
    refine ⟨(), trivial, weak_of (wk1 rfl (wk1 rfl wk0)) (wh1 (by first | exact mem0 | exact mem1 | exact mem2 | exact mem3 | exact mem4 | exact mem5 | exact mem6 | exact mem7 | (repeat (first | exact List.mem_cons_self | refine List.mem_cons_of_mem _ ?_ | refine mem_seg ?_))) wh0) (by repeat (first | exact ns_nil | refine ns_keep rfl ?_ | refine ns_skip ?_))⟩
  ·
    intro _u hj
    skip
    refine Sat.seq ?_
    -- region 4
    refine Sat.region ?_
    refine Tr.move rfl rfl rfl ?_
    refine Tr.callL (L := [RB n q N cp (at') (e)]) rfl rfl rfl rfl rfl Body82 (hNum) rem_here (by intro m hm; exact ⟨_, List.mem_singleton.2 rfl, (List.mem_singleton.1 hm).symm⟩) (fun w h => ⟨own_blk h (by first | exact mem0 | exact mem1 | exact mem2 | exact mem3 | exact mem4 | exact mem5 | exact mem6 | exact mem7 | (repeat (first | exact List.mem_cons_self | refine List.mem_cons_of_mem _ ?_ | refine mem_seg ?_))), sees_ext h (by simp; exact hW.2.2) hW.2.1, hW.2.2⟩) ?_
    rintro v2 out2 ⟨rfl, rfl⟩
    refine Tr.assign rfl rfl rfl ?_
    refine Tr.nil ?_
    refine at_n ?_
    refine Sat.seq ?_
    -- region 5
    refine Sat.region ?_
    refine Tr.move rfl rfl rfl ?_
    refine Tr.move rfl rfl rfl ?_
    refine Tr.callL (L := [RB n q N cp (a1) (0)]) rfl rfl rfl rfl rfl Body127 (rd_take_ok n q N cp a1 k1 hna hN hbig (by rw [ha1, hk1]; exact hk)) rem_here (by intro m hm; exact ⟨_, List.mem_singleton.2 rfl, (List.mem_singleton.1 hm).symm⟩) (fun w h => own_blk h (by first | exact mem0 | exact mem1 | exact mem2 | exact mem3 | exact mem4 | exact mem5 | exact mem6 | exact mem7 | (repeat (first | exact List.mem_cons_self | refine List.mem_cons_of_mem _ ?_ | refine mem_seg ?_)))) ?_
    rintro v2 out2 ⟨rfl, rfl⟩
    refine Tr.move rfl rfl rfl ?_
    refine Tr.extract rfl rfl rfl rfl ?_
    refine Tr.extract rfl rfl rfl rfl ?_
    refine Tr.assign rfl rfl rfl ?_
    refine Tr.assign rfl rfl rfl ?_
    refine Tr.nil ?_
    refine at_n ?_
    refine Sat.seq ?_
    refine Sat.seq ?_
    -- region 6
    refine Sat.region ?_
    refine Tr.move rfl rfl rfl ?_
    refine Tr.not rfl rfl rfl ?_
    refine Tr.nil ?_
    refine at_n ?_
    refine Sat.cond_f rfl (rfl) ?_
    refine Sat.skip ?_
    refine at_n ?_
    refine Sat.seq ?_
    -- region 9
    refine Sat.region ?_
    refine Tr.move rfl rfl rfl ?_
    refine Tr.call rfl rfl rfl rfl Body79 (oct_grown _ k1.toNat (cp - a1) 0 ((xs.drop (a1)).take (k1.toNat)) (by simp; omega) (fun e => by cases e) (by omega) (by omega)) (FreshRow.loose _ _ _ _) (fun w h => sees_cutP (sees_ext h (by simp; exact hW.2.2) hW.2.1) hx hN) ?_
    rintro v1 out1 ⟨q1, c1, rfl, hc1, rfl⟩
    refine Tr.assign rfl rfl rfl ?_
    refine Tr.nil ?_
    refine at_n ?_
    refine Sat.ret ?_
    refine en_r ?_
    refine ⟨_, [⟨q1, bytesV ((xs.drop (a1)).take (k1.toNat)), 5, c1 * 1⟩, RB n q N cp (a1 + k1.toNat) 0], res_tmp rfl rfl, (by intro b hb; rcases List.mem_cons.1 hb with rfl | hb; exact mem0; rw [List.mem_singleton.1 hb]; exact mem1), (fun h => h.sublist (by simp [RB])), ?_⟩
    rw [← ha1, ← hk1]
    exact ⟨q1, c1, rfl, hc1, rfl⟩

end Go.Proofs.Ytejjamifnombhaa
