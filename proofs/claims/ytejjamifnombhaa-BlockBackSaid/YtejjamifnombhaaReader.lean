/- Contracts of the reader of package octet. Conditions: what the reader and its row hold. -/
import Derived.Test.YtejjamifnombhaaOctet
import Derived.Laws.Externs
namespace Go.Proofs.Ytejjamifnombhaa
open Go Hw
set_option linter.unusedVariables false
set_option linter.unusedSimpArgs false


theorem res_none {C : Cx} {fn : Func} {s : St} (hr : fn.results = #[]) : Res C fn s (.tuple #[]) := fun a w r => by
  simp [results, hr]
def rdr (n q N cp at' : Nat) (e : Int) : Reader := ⟨.pointer (some ⟨n, 0, none⟩), ⟨some ⟨q, 0, none⟩, N, cp⟩, (at' : Int), e⟩
theorem rdr_ok (n q N cp at' : Nat) (e : Int) : (rdr n q N cp at' e).ok := ⟨rfl⟩
/-- a reader's block: its number, its row, how much there is, where it stands, its error -/
def RB (n q N cp at' : Nat) (e : Int) : Blk := ⟨n, (rdr n q N cp at' e).cells, 137, 4⟩
theorem rdr_at (n q N cp a k : Nat) (e : Int) : rdr n q N cp (a + k) e = ⟨.pointer (some ⟨n, 0, none⟩), ⟨some ⟨q, 0, none⟩, N, cp⟩, (a : Int) + (k : Int), e⟩ := by simp [rdr]
theorem rb_self {w : World} {n q N cp at' : Nat} {e : Int} (h : BlkOk w (RB n q N cp at' e)) : w.cell? ⟨n, 0, none⟩ = some (ptr n 0) := BlkOk.cell0 h rfl


set_option maxRecDepth 100000 in
set_option maxHeartbeats 1000000 in
theorem rd_made (n : Nat) : Meets Try.prog 131 [ptr n 0] [] (fun W => W.cell? ⟨n, 0, none⟩ = some (ptr n 0)) (fun v out => v = .bool true ∧ out = []) := by
  intro W hW
  refine calls_of (hp0 := []) Try.func131 rfl 13 Try.ntmps131 rfl (HRep.nil _) ?_
  refine Sat.seq ?_
  -- region 0
  refine Sat.region ?_
  refine Tr.assign rfl rfl rfl ?_
  refine Tr.nil ?_
  refine at_n ?_
  refine Sat.seq ?_
  -- region 1
  refine Sat.region ?_
  refine Tr.move rfl rfl rfl ?_
  refine Tr.neqNilP rfl rfl rfl rfl Try.underlying90 ?_
  refine Tr.move rfl rfl rfl ?_
  refine Tr.move rfl rfl rfl ?_
  refine Tr.nilChk rfl rfl rfl ?_
  refine Tr.fld rfl rfl rfl Try.underlying137 rfl Sz90 (by decide) _ rfl ?_
  refine Tr.loadE rfl rfl rfl Try.underlying90 rfl (by first | (simp; done) | (simp; exact hW.2.2) | (simp [Cx.with]; omega)) (hW) ?_
  refine Tr.move rfl rfl rfl ?_
  refine Tr.eqSameP rfl rfl rfl rfl Try.underlying90 Sz137 ?_
  refine Tr.pick rfl rfl rfl rfl rfl rfl ?_
  refine Tr.assign rfl rfl rfl ?_
  refine Tr.nil ?_
  refine at_n ?_
  refine Sat.ret ?_
  refine en_r ?_
  refine ⟨_, [], res_tmp rfl rfl, (by simp), (by simp), ?_, rfl⟩
  rfl

set_option maxRecDepth 100000 in
set_option maxHeartbeats 1000000 in
theorem rd_take_err (n q N cp at' : Nat) (e : Int) (k : UInt64) (hat : at' ≤ N) (hN : N ≤ cp) (hbig : N ≤ 1000000) (he : ¬ e = 0) : Meets Try.prog 127 [ptr n 0, u64 k] [n] (fun W => BlkOk W (RB n q N cp (at') (e))) (fun v out => v = .tuple #[.slice none 0 0, .bool false] ∧ out = [RB n q N cp (at') (e)]) := by
  intro W hW
  have hfB : (rdr n q N cp at' (e)).fB.n = N := rfl
  have hfA : (rdr n q N cp at' (e)).fAt = (at' : Int) := rfl
  have hfE : (rdr n q N cp at' (e)).fErr = (e) := rfl
  have hwd : (wordOf (((rdr n q N cp at' (e)).fB.n : Int) - (rdr n q N cp at' (e)).fAt)).toNat = N - at' := by
    rw [hfB, hfA, show ((N : Int) - (at' : Int)) = ((N - at' : Nat) : Int) by omega]; simp only [wordOf, UInt64.toNat_ofNat']; omega
  refine calls_of (hp0 := [RB n q N cp (at') (e)]) Try.func127 rfl 56 Try.ntmps127 rfl (HRep.one hW) ?_
  refine Sat.seq ?_
  -- region 0
  refine Sat.region ?_
  refine Tr.assign rfl rfl rfl ?_
  refine Tr.assign rfl rfl rfl ?_
  refine Tr.nil ?_
  refine at_n ?_
  refine Sat.seq ?_
  refine Sat.seq ?_
  -- region 1
  refine Sat.region ?_
  refine Tr.move rfl rfl rfl ?_
  refine Tr.callV rfl rfl rfl rfl Body131 (rd_made n) (fun w h => rb_self (own_blk h (by first | exact mem0 | exact mem1 | exact mem2 | exact mem3 | exact mem4 | exact mem5 | exact mem6 | exact mem7 | (repeat (first | exact List.mem_cons_self | refine List.mem_cons_of_mem _ ?_ | refine mem_seg ?_))))) ?_
  refine Tr.not rfl rfl rfl ?_
  refine Tr.move rfl rfl rfl ?_
  refine Tr.move rfl rfl rfl ?_
  refine Tr.nilChk rfl rfl rfl ?_
  refine Tr.fld rfl rfl rfl Try.underlying137 rfl Sz35 (by decide) _ rfl ?_
  refine Tr.load1 rfl rfl rfl Try.underlying35 rfl (by first | exact mem0 | exact mem1 | exact mem2 | exact mem3 | exact mem4 | exact mem5 | exact mem6 | exact mem7 | (repeat (first | exact List.mem_cons_self | refine List.mem_cons_of_mem _ ?_ | refine mem_seg ?_))) (by first | exact Reader.get_fErr (by first | assumption | (simp; done) | exact Reader.zero_ok  | exact rdr_ok _ _ _ _ _ _ | exact ⟨rfl⟩) | exact (by first | rfl | exact get_words (by first | omega | (simp; done) | (simp; omega)) | exact get_bytes (by first | omega | (simp; done) | (simp; omega)) | exact get_ints (by first | omega | (simp; done) | (simp; omega)))) ?_
  refine Tr.nei rfl rfl rfl rfl (show (!decide _) = true from congrArg not (decide_eq_false (he))) ?_
  refine Tr.pick rfl rfl rfl rfl rfl rfl ?_
  refine Tr.nil ?_
  refine at_n ?_
  refine Sat.cond_t rfl (rfl) ?_
  refine Sat.seq ?_
  -- region 2
  refine Sat.region ?_
  refine Tr.assign rfl rfl rfl ?_
  refine Tr.assign rfl rfl rfl ?_
  refine Tr.nil ?_
  refine at_n ?_
  refine Sat.ret ?_
  refine at_r ?_
  refine en_r ?_
  refine ⟨_, [RB n q N cp (at') (e)], res_tmp2 rfl rfl rfl, (by intro b hb; rw [List.mem_singleton.1 hb]; exact mem0), nodup1, ?_⟩
  exact ⟨rfl, rfl⟩

set_option maxRecDepth 100000 in
set_option maxHeartbeats 1000000 in
theorem rd_take_more (n q N cp at' : Nat) (k : UInt64) (hat : at' ≤ N) (hN : N ≤ cp) (hbig : N ≤ 1000000) (hk : N < at' + k.toNat) : Meets Try.prog 127 [ptr n 0, u64 k] [n] (fun W => BlkOk W (RB n q N cp (at') (0))) (fun v out => v = .tuple #[.slice none 0 0, .bool false] ∧ out = [RB n q N cp (at') (5)]) := by
  intro W hW
  have hfB : (rdr n q N cp at' (0)).fB.n = N := rfl
  have hfA : (rdr n q N cp at' (0)).fAt = (at' : Int) := rfl
  have hfE : (rdr n q N cp at' (0)).fErr = (0) := rfl
  have hwd : (wordOf (((rdr n q N cp at' (0)).fB.n : Int) - (rdr n q N cp at' (0)).fAt)).toNat = N - at' := by
    rw [hfB, hfA, show ((N : Int) - (at' : Int)) = ((N - at' : Nat) : Int) by omega]; simp only [wordOf, UInt64.toNat_ofNat']; omega
  refine calls_of (hp0 := [RB n q N cp (at') (0)]) Try.func127 rfl 56 Try.ntmps127 rfl (HRep.one hW) ?_
  refine Sat.seq ?_
  -- region 0
  refine Sat.region ?_
  refine Tr.assign rfl rfl rfl ?_
  refine Tr.assign rfl rfl rfl ?_
  refine Tr.nil ?_
  refine at_n ?_
  refine Sat.seq ?_
  refine Sat.seq ?_
  -- region 1
  refine Sat.region ?_
  refine Tr.move rfl rfl rfl ?_
  refine Tr.callV rfl rfl rfl rfl Body131 (rd_made n) (fun w h => rb_self (own_blk h (by first | exact mem0 | exact mem1 | exact mem2 | exact mem3 | exact mem4 | exact mem5 | exact mem6 | exact mem7 | (repeat (first | exact List.mem_cons_self | refine List.mem_cons_of_mem _ ?_ | refine mem_seg ?_))))) ?_
  refine Tr.not rfl rfl rfl ?_
  refine Tr.move rfl rfl rfl ?_
  refine Tr.move rfl rfl rfl ?_
  refine Tr.nilChk rfl rfl rfl ?_
  refine Tr.fld rfl rfl rfl Try.underlying137 rfl Sz35 (by decide) _ rfl ?_
  refine Tr.load1 rfl rfl rfl Try.underlying35 rfl (by first | exact mem0 | exact mem1 | exact mem2 | exact mem3 | exact mem4 | exact mem5 | exact mem6 | exact mem7 | (repeat (first | exact List.mem_cons_self | refine List.mem_cons_of_mem _ ?_ | refine mem_seg ?_))) (by first | exact Reader.get_fErr (by first | assumption | (simp; done) | exact Reader.zero_ok  | exact rdr_ok _ _ _ _ _ _ | exact ⟨rfl⟩) | exact (by first | rfl | exact get_words (by first | omega | (simp; done) | (simp; omega)) | exact get_bytes (by first | omega | (simp; done) | (simp; omega)) | exact get_ints (by first | omega | (simp; done) | (simp; omega)))) ?_
  refine Tr.nei rfl rfl rfl rfl (show (!decide _) = false from congrArg not (decide_eq_true (rfl))) ?_
  refine Tr.pick rfl rfl rfl rfl rfl rfl ?_
  refine Tr.nil ?_
  refine at_n ?_
  refine Sat.cond_f rfl (rfl) ?_
  refine Sat.skip ?_
  refine at_n ?_
  refine Sat.seq ?_
  refine Sat.seq ?_
  -- region 3
  refine Sat.draw [(0, 0), (0, 1), (0, 2), (0, 3), (1, 4), (0, 5), (0, 6), (0, 7), (0, 8), (1, 9), (0, 10), (0, 11), (0, 12)] Mixed (by kernel_rfl) ?_
  refine Tr.move rfl rfl rfl ?_
  refine Tr.move rfl rfl rfl ?_
  refine Tr.nilChk rfl rfl rfl ?_
  refine Tr.fld rfl rfl rfl Try.underlying137 rfl Sz27 (by decide) _ rfl ?_
  refine Tr.load1 rfl rfl rfl Try.underlying27 rfl (by first | exact mem0 | exact mem1 | exact mem2 | exact mem3 | exact mem4 | exact mem5 | exact mem6 | exact mem7 | (repeat (first | exact List.mem_cons_self | refine List.mem_cons_of_mem _ ?_ | refine mem_seg ?_))) (by first | exact Reader.get_fB (by first | assumption | (simp; done) | exact Reader.zero_ok  | exact rdr_ok _ _ _ _ _ _ | exact ⟨rfl⟩) | exact (by first | rfl | exact get_words (by first | omega | (simp; done) | (simp; omega)) | exact get_bytes (by first | omega | (simp; done) | (simp; omega)) | exact get_ints (by first | omega | (simp; done) | (simp; omega)))) ?_
  refine Tr.lenSl rfl rfl rfl Try.underlying27 ?_
  refine Tr.move rfl rfl rfl ?_
  refine Tr.nilChk rfl rfl rfl ?_
  refine Tr.fld rfl rfl rfl Try.underlying137 rfl Sz3 (by decide) _ rfl ?_
  refine Tr.load1 rfl rfl rfl Try.underlying3 rfl (by first | exact mem0 | exact mem1 | exact mem2 | exact mem3 | exact mem4 | exact mem5 | exact mem6 | exact mem7 | (repeat (first | exact List.mem_cons_self | refine List.mem_cons_of_mem _ ?_ | refine mem_seg ?_))) (by first | exact Reader.get_fAt (by first | assumption | (simp; done) | exact Reader.zero_ok  | exact rdr_ok _ _ _ _ _ _ | exact ⟨rfl⟩) | exact (by first | rfl | exact get_words (by first | omega | (simp; done) | (simp; omega)) | exact get_bytes (by first | omega | (simp; done) | (simp; omega)) | exact get_ints (by first | omega | (simp; done) | (simp; omega)))) ?_
  refine Tr.sub_i64 rfl rfl rfl rfl (by omega) ?_
  refine Tr.conv rfl rfl rfl Try.underlying3 Try.underlying24 (cv_i64_u64 _) ?_
  refine Tr.gtr rfl rfl rfl rfl (decide_eq_true (by rw [hwd]; omega)) ?_
  refine Tr.nil ?_
  refine at_n ?_
  refine Sat.cond_t rfl (rfl) ?_
  refine Sat.seq ?_
  -- region 4
  refine Sat.region ?_
  refine Tr.move rfl rfl rfl ?_
  refine Tr.nilChk rfl rfl rfl ?_
  refine Tr.fld rfl rfl rfl Try.underlying137 rfl Sz35 (by decide) _ rfl ?_
  refine Tr.store1 rfl rfl rfl rfl rfl Sz35 (by first | exact mem0 | exact mem1 | exact mem2 | exact mem3 | exact mem4 | exact mem5 | exact mem6 | exact mem7 | (repeat (first | exact List.mem_cons_self | refine List.mem_cons_of_mem _ ?_ | refine mem_seg ?_))) (by rw [Reader.length (by first | assumption | (simp; done) | exact Reader.zero_ok  | exact rdr_ok _ _ _ _ _ _ | exact ⟨rfl⟩)]; decide) (Reader.set_fErr (by first | assumption | (simp; done) | exact Reader.zero_ok  | exact rdr_ok _ _ _ _ _ _ | exact ⟨rfl⟩) _) (by first | exact upd0 | exact upd1 | exact upd2 | exact upd3 | exact upd4 | exact upd5 | exact upd6 | exact upd7 | (repeat (first | exact upd0 | apply Upd.tail | apply Upd.seg))) ?_
  refine Tr.nil ?_
  refine at_n ?_
  refine Sat.seq ?_
  -- region 5
  refine Sat.region ?_
  refine Tr.assign rfl rfl rfl ?_
  refine Tr.assign rfl rfl rfl ?_
  refine Tr.nil ?_
  refine at_n ?_
  refine Sat.ret ?_
  refine at_r ?_
  refine en_r ?_
  refine ⟨_, [RB n q N cp (at') (5)], res_tmp2 rfl rfl rfl, (by intro b hb; rw [List.mem_singleton.1 hb]; exact mem0), nodup1, ?_⟩
  exact ⟨rfl, rfl⟩

set_option maxRecDepth 100000 in
set_option maxHeartbeats 1000000 in
theorem rd_take_ok (n q N cp at' : Nat) (k : UInt64) (hat : at' ≤ N) (hN : N ≤ cp) (hbig : N ≤ 1000000) (hk : at' + k.toNat ≤ N) : Meets Try.prog 127 [ptr n 0, u64 k] [n] (fun W => BlkOk W (RB n q N cp (at') (0))) (fun v out => v = .tuple #[.slice (some ⟨q, if cp = at' then 0 else 0 + at' * 1, none⟩) k.toNat (cp - at'), .bool true] ∧ out = [RB n q N cp (at' + k.toNat) (0)]) := by
  intro W hW
  have hfB : (rdr n q N cp at' (0)).fB.n = N := rfl
  have hfA : (rdr n q N cp at' (0)).fAt = (at' : Int) := rfl
  have hfE : (rdr n q N cp at' (0)).fErr = (0) := rfl
  have hwd : (wordOf (((rdr n q N cp at' (0)).fB.n : Int) - (rdr n q N cp at' (0)).fAt)).toNat = N - at' := by
    rw [hfB, hfA, show ((N : Int) - (at' : Int)) = ((N - at' : Nat) : Int) by omega]; simp only [wordOf, UInt64.toNat_ofNat']; omega
  refine calls_of (hp0 := [RB n q N cp (at') (0)]) Try.func127 rfl 56 Try.ntmps127 rfl (HRep.one hW) ?_
  refine Sat.seq ?_
  -- region 0
  refine Sat.region ?_
  refine Tr.assign rfl rfl rfl ?_
  refine Tr.assign rfl rfl rfl ?_
  refine Tr.nil ?_
  refine at_n ?_
  refine Sat.seq ?_
  refine Sat.seq ?_
  -- region 1
  refine Sat.region ?_
  refine Tr.move rfl rfl rfl ?_
  refine Tr.callV rfl rfl rfl rfl Body131 (rd_made n) (fun w h => rb_self (own_blk h (by first | exact mem0 | exact mem1 | exact mem2 | exact mem3 | exact mem4 | exact mem5 | exact mem6 | exact mem7 | (repeat (first | exact List.mem_cons_self | refine List.mem_cons_of_mem _ ?_ | refine mem_seg ?_))))) ?_
  refine Tr.not rfl rfl rfl ?_
  refine Tr.move rfl rfl rfl ?_
  refine Tr.move rfl rfl rfl ?_
  refine Tr.nilChk rfl rfl rfl ?_
  refine Tr.fld rfl rfl rfl Try.underlying137 rfl Sz35 (by decide) _ rfl ?_
  refine Tr.load1 rfl rfl rfl Try.underlying35 rfl (by first | exact mem0 | exact mem1 | exact mem2 | exact mem3 | exact mem4 | exact mem5 | exact mem6 | exact mem7 | (repeat (first | exact List.mem_cons_self | refine List.mem_cons_of_mem _ ?_ | refine mem_seg ?_))) (by first | exact Reader.get_fErr (by first | assumption | (simp; done) | exact Reader.zero_ok  | exact rdr_ok _ _ _ _ _ _ | exact ⟨rfl⟩) | exact (by first | rfl | exact get_words (by first | omega | (simp; done) | (simp; omega)) | exact get_bytes (by first | omega | (simp; done) | (simp; omega)) | exact get_ints (by first | omega | (simp; done) | (simp; omega)))) ?_
  refine Tr.nei rfl rfl rfl rfl (show (!decide _) = false from congrArg not (decide_eq_true (rfl))) ?_
  refine Tr.pick rfl rfl rfl rfl rfl rfl ?_
  refine Tr.nil ?_
  refine at_n ?_
  refine Sat.cond_f rfl (rfl) ?_
  refine Sat.skip ?_
  refine at_n ?_
  refine Sat.seq ?_
  refine Sat.seq ?_
  -- region 3
  refine Sat.draw [(0, 0), (0, 1), (0, 2), (0, 3), (1, 4), (0, 5), (0, 6), (0, 7), (0, 8), (1, 9), (0, 10), (0, 11), (0, 12)] Mixed (by kernel_rfl) ?_
  refine Tr.move rfl rfl rfl ?_
  refine Tr.move rfl rfl rfl ?_
  refine Tr.nilChk rfl rfl rfl ?_
  refine Tr.fld rfl rfl rfl Try.underlying137 rfl Sz27 (by decide) _ rfl ?_
  refine Tr.load1 rfl rfl rfl Try.underlying27 rfl (by first | exact mem0 | exact mem1 | exact mem2 | exact mem3 | exact mem4 | exact mem5 | exact mem6 | exact mem7 | (repeat (first | exact List.mem_cons_self | refine List.mem_cons_of_mem _ ?_ | refine mem_seg ?_))) (by first | exact Reader.get_fB (by first | assumption | (simp; done) | exact Reader.zero_ok  | exact rdr_ok _ _ _ _ _ _ | exact ⟨rfl⟩) | exact (by first | rfl | exact get_words (by first | omega | (simp; done) | (simp; omega)) | exact get_bytes (by first | omega | (simp; done) | (simp; omega)) | exact get_ints (by first | omega | (simp; done) | (simp; omega)))) ?_
  refine Tr.lenSl rfl rfl rfl Try.underlying27 ?_
  refine Tr.move rfl rfl rfl ?_
  refine Tr.nilChk rfl rfl rfl ?_
  refine Tr.fld rfl rfl rfl Try.underlying137 rfl Sz3 (by decide) _ rfl ?_
  refine Tr.load1 rfl rfl rfl Try.underlying3 rfl (by first | exact mem0 | exact mem1 | exact mem2 | exact mem3 | exact mem4 | exact mem5 | exact mem6 | exact mem7 | (repeat (first | exact List.mem_cons_self | refine List.mem_cons_of_mem _ ?_ | refine mem_seg ?_))) (by first | exact Reader.get_fAt (by first | assumption | (simp; done) | exact Reader.zero_ok  | exact rdr_ok _ _ _ _ _ _ | exact ⟨rfl⟩) | exact (by first | rfl | exact get_words (by first | omega | (simp; done) | (simp; omega)) | exact get_bytes (by first | omega | (simp; done) | (simp; omega)) | exact get_ints (by first | omega | (simp; done) | (simp; omega)))) ?_
  refine Tr.sub_i64 rfl rfl rfl rfl (by omega) ?_
  refine Tr.conv rfl rfl rfl Try.underlying3 Try.underlying24 (cv_i64_u64 _) ?_
  refine Tr.gtr rfl rfl rfl rfl (decide_eq_false (by rw [hwd]; omega)) ?_
  refine Tr.nil ?_
  refine at_n ?_
  refine Sat.cond_f rfl (rfl) ?_
  refine Sat.skip ?_
  refine at_n ?_
  refine Sat.seq ?_
  -- region 6
  refine Sat.region ?_
  refine Tr.move rfl rfl rfl ?_
  refine Tr.nilChk rfl rfl rfl ?_
  refine Tr.fld rfl rfl rfl Try.underlying137 rfl Sz3 (by decide) _ rfl ?_
  refine Tr.load1 rfl rfl rfl Try.underlying3 rfl (by first | exact mem0 | exact mem1 | exact mem2 | exact mem3 | exact mem4 | exact mem5 | exact mem6 | exact mem7 | (repeat (first | exact List.mem_cons_self | refine List.mem_cons_of_mem _ ?_ | refine mem_seg ?_))) (by first | exact Reader.get_fAt (by first | assumption | (simp; done) | exact Reader.zero_ok  | exact rdr_ok _ _ _ _ _ _ | exact ⟨rfl⟩) | exact (by first | rfl | exact get_words (by first | omega | (simp; done) | (simp; omega)) | exact get_bytes (by first | omega | (simp; done) | (simp; omega)) | exact get_ints (by first | omega | (simp; done) | (simp; omega)))) ?_
  refine Tr.assign rfl rfl rfl ?_
  refine Tr.nil ?_
  refine at_n ?_
  refine Sat.join (ι := Unit) (fun _u => ⟨[(0, ptr n 0), (1, u64 k), (6, i64 (at' : Int))], [⟨n, (rdr n q N cp (at' + k.toNat) 0).cells, 137, 4⟩]⟩) (fun _u => True) ?_ ?_
  ·
    -- region 7
    refine Sat.region ?_
    refine Tr.move rfl rfl rfl ?_
    refine Tr.nilChk rfl rfl rfl ?_
    refine Tr.fld rfl rfl rfl Try.underlying137 rfl Sz3 (by decide) _ rfl ?_
    refine Tr.load1 rfl rfl rfl Try.underlying3 rfl (by first | exact mem0 | exact mem1 | exact mem2 | exact mem3 | exact mem4 | exact mem5 | exact mem6 | exact mem7 | (repeat (first | exact List.mem_cons_self | refine List.mem_cons_of_mem _ ?_ | refine mem_seg ?_))) (by first | exact Reader.get_fAt (by first | assumption | (simp; done) | exact Reader.zero_ok  | exact rdr_ok _ _ _ _ _ _ | exact ⟨rfl⟩) | exact (by first | rfl | exact get_words (by first | omega | (simp; done) | (simp; omega)) | exact get_bytes (by first | omega | (simp; done) | (simp; omega)) | exact get_ints (by first | omega | (simp; done) | (simp; omega)))) ?_
    refine Tr.move rfl rfl rfl ?_
    refine Tr.conv rfl rfl rfl Try.underlying24 Try.underlying3 (cv_u64_i64 (by omega)) ?_
    refine Tr.add_i64 rfl rfl rfl rfl (by omega) ?_
    refine Tr.nilChk rfl rfl rfl ?_
    refine Tr.fld rfl rfl rfl Try.underlying137 rfl Sz3 (by decide) _ rfl ?_
    refine Tr.store1 rfl rfl rfl rfl rfl Sz3 (by first | exact mem0 | exact mem1 | exact mem2 | exact mem3 | exact mem4 | exact mem5 | exact mem6 | exact mem7 | (repeat (first | exact List.mem_cons_self | refine List.mem_cons_of_mem _ ?_ | refine mem_seg ?_))) (by rw [Reader.length (by first | assumption | (simp; done) | exact Reader.zero_ok  | exact rdr_ok _ _ _ _ _ _ | exact ⟨rfl⟩)]; decide) (Reader.set_fAt (by first | assumption | (simp; done) | exact Reader.zero_ok  | exact rdr_ok _ _ _ _ _ _ | exact ⟨rfl⟩) _) (by first | exact upd0 | exact upd1 | exact upd2 | exact upd3 | exact upd4 | exact upd5 | exact upd6 | exact upd7 | (repeat (first | exact upd0 | apply Upd.tail | apply Upd.seg))) ?_
    refine Tr.nil ?_
    refine at_n ?_
    refine ⟨(), trivial, weak_of (wk1 rfl (wk1 rfl (wk1 rfl wk0))) (wh1 (by rw [rdr_at]; exact mem0) wh0) (by repeat (first | exact ns_nil | refine ns_keep rfl ?_ | refine ns_skip ?_))⟩
  ·
    intro _u hj
    have hfA2 : (rdr n q N cp (at' + k.toNat) 0).fAt = ((at' + k.toNat : Nat) : Int) := rfl
    have hfC2 : (rdr n q N cp (at' + k.toNat) 0).fB.c = cp := rfl
    refine Sat.seq ?_
    -- region 8
    refine Sat.draw [(0, 0), (0, 1), (0, 2), (1, 3), (0, 4), (0, 5), (0, 6), (0, 7), (1, 8), (0, 9), (0, 10), (0, 11)] Mixed (by kernel_rfl) ?_
    refine Tr.move rfl rfl rfl ?_
    refine Tr.nilChk rfl rfl rfl ?_
    refine Tr.fld rfl rfl rfl Try.underlying137 rfl Sz27 (by decide) _ rfl ?_
    refine Tr.load1 rfl rfl rfl Try.underlying27 rfl (by first | exact mem0 | exact mem1 | exact mem2 | exact mem3 | exact mem4 | exact mem5 | exact mem6 | exact mem7 | (repeat (first | exact List.mem_cons_self | refine List.mem_cons_of_mem _ ?_ | refine mem_seg ?_))) (by first | exact Reader.get_fB (by first | assumption | (simp; done) | exact Reader.zero_ok  | exact rdr_ok _ _ _ _ _ _ | exact ⟨rfl⟩) | exact (by first | rfl | exact get_words (by first | omega | (simp; done) | (simp; omega)) | exact get_bytes (by first | omega | (simp; done) | (simp; omega)) | exact get_ints (by first | omega | (simp; done) | (simp; omega)))) ?_
    refine Tr.move rfl rfl rfl ?_
    refine Tr.move rfl rfl rfl ?_
    refine Tr.nilChk rfl rfl rfl ?_
    refine Tr.fld rfl rfl rfl Try.underlying137 rfl Sz3 (by decide) _ rfl ?_
    refine Tr.load1 rfl rfl rfl Try.underlying3 rfl (by first | exact mem0 | exact mem1 | exact mem2 | exact mem3 | exact mem4 | exact mem5 | exact mem6 | exact mem7 | (repeat (first | exact List.mem_cons_self | refine List.mem_cons_of_mem _ ?_ | refine mem_seg ?_))) (by first | exact Reader.get_fAt (by first | assumption | (simp; done) | exact Reader.zero_ok  | exact rdr_ok _ _ _ _ _ _ | exact ⟨rfl⟩) | exact (by first | rfl | exact get_words (by first | omega | (simp; done) | (simp; omega)) | exact get_bytes (by first | omega | (simp; done) | (simp; omega)) | exact get_ints (by first | omega | (simp; done) | (simp; omega)))) ?_
    refine Tr.sliceLoHiN at' (at'+k.toNat) rfl rfl rfl rfl rfl rfl (by omega) (by omega) (by omega) Try.underlying27 Sz5 ?_
    refine Tr.assign rfl rfl rfl ?_
    refine Tr.assign rfl rfl rfl ?_
    refine Tr.nil ?_
    refine at_n ?_
    refine Sat.ret ?_
    refine en_r ?_
    refine ⟨_, [RB n q N cp (at' + k.toNat) (0)], res_tmp2 rfl rfl rfl, (by intro b hb; rw [List.mem_singleton.1 hb]; exact mem0), nodup1, ?_⟩
    exact ⟨congrArg (fun z => Value.tuple #[.slice (some ⟨q, if cp = at' then 0 else 0 + at' * 1, none⟩) z (cp - at'), .bool true]) (Nat.add_sub_cancel_left ..), rfl⟩

set_option maxRecDepth 100000 in
set_option maxHeartbeats 1000000 in
theorem rd_fail (n q N cp at' : Nat) (e : Int) (a : Nat) (e2 : Int) : Meets Try.prog 129 [ptr n 0, i64 (a : Int), i64 e2] [n] (fun W => BlkOk W (RB n q N cp at' e)) (fun v out => v = .tuple #[] ∧ out = [RB n q N cp (a) (e2)]) := by
  intro W hW
  refine calls_of (hp0 := [RB n q N cp at' e]) Try.func129 rfl 14 Try.ntmps129 rfl (HRep.one hW) ?_
  refine Sat.seq ?_
  -- region 0
  refine Sat.region ?_
  refine Tr.move rfl rfl rfl ?_
  refine Tr.move rfl rfl rfl ?_
  refine Tr.nilChk rfl rfl rfl ?_
  refine Tr.fld rfl rfl rfl Try.underlying137 rfl Sz3 (by decide) _ rfl ?_
  refine Tr.store1 rfl rfl rfl rfl rfl Sz3 (by first | exact mem0 | exact mem1 | exact mem2 | exact mem3 | exact mem4 | exact mem5 | exact mem6 | exact mem7 | (repeat (first | exact List.mem_cons_self | refine List.mem_cons_of_mem _ ?_ | refine mem_seg ?_))) (by rw [Reader.length (by first | assumption | (simp; done) | exact Reader.zero_ok  | exact rdr_ok _ _ _ _ _ _ | exact ⟨rfl⟩)]; decide) (Reader.set_fAt (by first | assumption | (simp; done) | exact Reader.zero_ok  | exact rdr_ok _ _ _ _ _ _ | exact ⟨rfl⟩) _) (by first | exact upd0 | exact upd1 | exact upd2 | exact upd3 | exact upd4 | exact upd5 | exact upd6 | exact upd7 | (repeat (first | exact upd0 | apply Upd.tail | apply Upd.seg))) ?_
  refine Tr.nil ?_
  refine at_n ?_
  -- region 1
  refine Sat.region ?_
  refine Tr.move rfl rfl rfl ?_
  refine Tr.move rfl rfl rfl ?_
  refine Tr.nilChk rfl rfl rfl ?_
  refine Tr.fld rfl rfl rfl Try.underlying137 rfl Sz35 (by decide) _ rfl ?_
  refine Tr.store1 rfl rfl rfl rfl rfl Sz35 (by first | exact mem0 | exact mem1 | exact mem2 | exact mem3 | exact mem4 | exact mem5 | exact mem6 | exact mem7 | (repeat (first | exact List.mem_cons_self | refine List.mem_cons_of_mem _ ?_ | refine mem_seg ?_))) (by rw [Reader.length (by first | assumption | (simp; done) | exact Reader.zero_ok  | exact rdr_ok _ _ _ _ _ _ | exact ⟨rfl⟩)]; decide) (Reader.set_fErr (by first | assumption | (simp; done) | exact Reader.zero_ok  | exact rdr_ok _ _ _ _ _ _ | exact ⟨rfl⟩) _) (by first | exact upd0 | exact upd1 | exact upd2 | exact upd3 | exact upd4 | exact upd5 | exact upd6 | exact upd7 | (repeat (first | exact upd0 | apply Upd.tail | apply Upd.seg))) ?_
  refine Tr.nil ?_
  refine en_n ?_
  refine ⟨_, [RB n q N cp (a) (e2)], res_none rfl, (by intro b hb; rw [List.mem_singleton.1 hb]; exact mem0), nodup1, ?_⟩
  exact ⟨rfl, rfl⟩


theorem rd_take_first (n q N cp at' : Nat) (hat : at' < N) (hN : N ≤ cp) (hbig : N ≤ 1000000) : Meets Try.prog 127 [ptr n 0, u64 1] [n] (fun W => BlkOk W (RB n q N cp at' 0)) (fun v out => v = .tuple #[.slice (some ⟨q, at', none⟩) 1 (cp - at'), .bool true] ∧ out = [RB n q N cp (at' + 1) 0]) := by
  have := rd_take_ok n q N cp at' 1 (by omega) hN hbig (by show at' + 1 ≤ N; omega)
  rw [if_neg (by omega), Nat.zero_add, Nat.mul_one] at this
  exact this


set_option maxRecDepth 100000 in
set_option maxHeartbeats 2000000 in
theorem rd_num_err (n q N cp at' : Nat) (e : Int) (xs : List UInt8) (hx : xs.length = N) (hat : at' ≤ N) (hN : N ≤ cp) (hbig : N ≤ 1000000) (he : ¬ e = 0) : Meets Try.prog 82 [ptr n 0] [n] (fun W => BlkOk W (RB n q N cp (at') (e)) ∧ Sees W q 0 (bytesV xs) ∧ q ≠ n) (fun v out => v = u64 0 ∧ out = [RB n q N cp (at') (e)]) := by
  intro W hW
  have hb8 := b8_le (xs.getD at' 0)
  have hcw := cnt_word (xs.getD at' 0)
  have hcn : (cntB (xs.getD at' 0)) = 9 - bLen (255 ^^^ (xs.getD at' 0)).toNat := rfl
  refine calls_of (hp0 := [RB n q N cp (at') (e)]) Try.func82 rfl 73 Try.ntmps82 rfl (HRep.one hW.1) ?_
  refine Sat.seq ?_
  -- region 0
  refine Sat.region ?_
  refine Tr.assign rfl rfl (show evIn _ _ = some (u64 0) from rfl) ?_
  refine Tr.nil ?_
  refine at_n ?_
  refine Sat.seq ?_
  -- region 1
  refine Sat.region ?_
  refine Tr.move rfl rfl rfl ?_
  refine Tr.callL (L := [RB n q N cp (at') (e)]) rfl rfl rfl rfl rfl Body127 (rd_take_err n q N cp at' e 1 hat hN hbig he) rem_here (by intro m hm; exact ⟨_, List.mem_singleton.2 rfl, (List.mem_singleton.1 hm).symm⟩) (fun w h => own_blk h (by first | exact mem0 | exact mem1 | exact mem2 | exact mem3 | exact mem4 | exact mem5 | exact mem6 | exact mem7 | (repeat (first | exact List.mem_cons_self | refine List.mem_cons_of_mem _ ?_ | refine mem_seg ?_)))) ?_
  rintro v2 out2 ⟨rfl, rfl⟩
  refine Tr.move rfl rfl rfl ?_
  refine Tr.extract rfl rfl rfl rfl ?_
  refine Tr.extract rfl rfl rfl rfl ?_
  refine Tr.assign rfl rfl rfl ?_
  refine Tr.assign rfl rfl rfl ?_
  refine Tr.nil ?_
  refine at_n ?_
  refine Sat.seq ?_
  refine Sat.seq ?_
  -- region 2
  refine Sat.region ?_
  refine Tr.move rfl rfl rfl ?_
  refine Tr.not rfl rfl rfl ?_
  refine Tr.nil ?_
  refine at_n ?_
  refine Sat.cond_t rfl (rfl) ?_
  refine Sat.seq ?_
  -- region 3
  refine Sat.region ?_
  refine Tr.assign rfl rfl (show evIn _ _ = some (u64 0) from rfl) ?_
  refine Tr.nil ?_
  refine at_n ?_
  refine Sat.ret ?_
  refine at_r ?_
  refine en_r ?_
  refine ⟨_, [RB n q N cp (at') (e)], res_tmp rfl rfl, (by intro b hb; rw [List.mem_singleton.1 hb]; exact mem0), nodup1, ?_⟩
  exact ⟨rfl, rfl⟩

set_option maxRecDepth 100000 in
set_option maxHeartbeats 2000000 in
theorem rd_num_end (n q N cp at' : Nat) (xs : List UInt8) (hx : xs.length = N) (hat : at' ≤ N) (hN : N ≤ cp) (hbig : N ≤ 1000000) (hk : N ≤ at') : Meets Try.prog 82 [ptr n 0] [n] (fun W => BlkOk W (RB n q N cp (at') (0)) ∧ Sees W q 0 (bytesV xs) ∧ q ≠ n) (fun v out => v = u64 0 ∧ out = [RB n q N cp (at') (5)]) := by
  intro W hW
  have hb8 := b8_le (xs.getD at' 0)
  have hcw := cnt_word (xs.getD at' 0)
  have hcn : (cntB (xs.getD at' 0)) = 9 - bLen (255 ^^^ (xs.getD at' 0)).toNat := rfl
  refine calls_of (hp0 := [RB n q N cp (at') (0)]) Try.func82 rfl 73 Try.ntmps82 rfl (HRep.one hW.1) ?_
  refine Sat.seq ?_
  -- region 0
  refine Sat.region ?_
  refine Tr.assign rfl rfl (show evIn _ _ = some (u64 0) from rfl) ?_
  refine Tr.nil ?_
  refine at_n ?_
  refine Sat.seq ?_
  -- region 1
  refine Sat.region ?_
  refine Tr.move rfl rfl rfl ?_
  refine Tr.callL (L := [RB n q N cp (at') (0)]) rfl rfl rfl rfl rfl Body127 (rd_take_more n q N cp at' 1 hat hN hbig (by show N < at' + 1; omega)) rem_here (by intro m hm; exact ⟨_, List.mem_singleton.2 rfl, (List.mem_singleton.1 hm).symm⟩) (fun w h => own_blk h (by first | exact mem0 | exact mem1 | exact mem2 | exact mem3 | exact mem4 | exact mem5 | exact mem6 | exact mem7 | (repeat (first | exact List.mem_cons_self | refine List.mem_cons_of_mem _ ?_ | refine mem_seg ?_)))) ?_
  rintro v2 out2 ⟨rfl, rfl⟩
  refine Tr.move rfl rfl rfl ?_
  refine Tr.extract rfl rfl rfl rfl ?_
  refine Tr.extract rfl rfl rfl rfl ?_
  refine Tr.assign rfl rfl rfl ?_
  refine Tr.assign rfl rfl rfl ?_
  refine Tr.nil ?_
  refine at_n ?_
  refine Sat.seq ?_
  refine Sat.seq ?_
  -- region 2
  refine Sat.region ?_
  refine Tr.move rfl rfl rfl ?_
  refine Tr.not rfl rfl rfl ?_
  refine Tr.nil ?_
  refine at_n ?_
  refine Sat.cond_t rfl (rfl) ?_
  refine Sat.seq ?_
  -- region 3
  refine Sat.region ?_
  refine Tr.assign rfl rfl (show evIn _ _ = some (u64 0) from rfl) ?_
  refine Tr.nil ?_
  refine at_n ?_
  refine Sat.ret ?_
  refine at_r ?_
  refine en_r ?_
  refine ⟨_, [RB n q N cp (at') (5)], res_tmp rfl rfl, (by intro b hb; rw [List.mem_singleton.1 hb]; exact mem0), nodup1, ?_⟩
  exact ⟨rfl, rfl⟩

set_option maxRecDepth 100000 in
set_option maxHeartbeats 2000000 in
theorem rd_num_short (n q N cp at' : Nat) (xs : List UInt8) (hx : xs.length = N) (hat : at' ≤ N) (hN : N ≤ cp) (hbig : N ≤ 1000000) (hk : at' < N) (hk2 : N < at' + (cntB (xs.getD at' 0))) : Meets Try.prog 82 [ptr n 0] [n] (fun W => BlkOk W (RB n q N cp (at') (0)) ∧ Sees W q 0 (bytesV xs) ∧ q ≠ n) (fun v out => v = u64 0 ∧ out = [RB n q N cp (at') (5)]) := by
  intro W hW
  have hb8 := b8_le (xs.getD at' 0)
  have hcw := cnt_word (xs.getD at' 0)
  have hcn : (cntB (xs.getD at' 0)) = 9 - bLen (255 ^^^ (xs.getD at' 0)).toNat := rfl
  refine calls_of (hp0 := [RB n q N cp (at') (0)]) Try.func82 rfl 73 Try.ntmps82 rfl (HRep.one hW.1) ?_
  refine Sat.seq ?_
  -- region 0
  refine Sat.region ?_
  refine Tr.assign rfl rfl (show evIn _ _ = some (u64 0) from rfl) ?_
  refine Tr.nil ?_
  refine at_n ?_
  refine Sat.seq ?_
  -- region 1
  refine Sat.region ?_
  refine Tr.move rfl rfl rfl ?_
  refine Tr.callL (L := [RB n q N cp (at') (0)]) rfl rfl rfl rfl rfl Body127 (rd_take_first n q N cp at' (by omega) hN hbig) rem_here (by intro m hm; exact ⟨_, List.mem_singleton.2 rfl, (List.mem_singleton.1 hm).symm⟩) (fun w h => own_blk h (by first | exact mem0 | exact mem1 | exact mem2 | exact mem3 | exact mem4 | exact mem5 | exact mem6 | exact mem7 | (repeat (first | exact List.mem_cons_self | refine List.mem_cons_of_mem _ ?_ | refine mem_seg ?_)))) ?_
  rintro v2 out2 ⟨rfl, rfl⟩
  refine Tr.move rfl rfl rfl ?_
  refine Tr.extract rfl rfl rfl rfl ?_
  refine Tr.extract rfl rfl rfl rfl ?_
  refine Tr.assign rfl rfl rfl ?_
  refine Tr.assign rfl rfl rfl ?_
  refine Tr.nil ?_
  refine at_n ?_
  refine Sat.seq ?_
  refine Sat.seq ?_
  -- region 2
  refine Sat.region ?_
  refine Tr.move rfl rfl rfl ?_
  refine Tr.not rfl rfl rfl ?_
  refine Tr.nil ?_
  refine at_n ?_
  refine Sat.cond_f rfl (rfl) ?_
  refine Sat.skip ?_
  refine at_n ?_
  refine Sat.join (ι := Unit) (fun _u => ⟨[(0, ptr n 0), (3, .slice (some ⟨q, at', none⟩) 1 (cp - at')), (5, i64 (at' : Int))], [⟨n, (rdr n q N cp (at' + 1) (0)).cells, 137, 4⟩]⟩) (fun _u => True) ?_ ?_
  ·
    -- region 4
    refine Sat.region ?_
    refine Tr.move rfl rfl rfl ?_
    refine Tr.nilChk rfl rfl rfl ?_
    refine Tr.fld rfl rfl rfl Try.underlying137 rfl Sz3 (by decide) _ rfl ?_
    refine Tr.load1 rfl rfl rfl Try.underlying3 rfl (by first | exact mem0 | exact mem1 | exact mem2 | exact mem3 | exact mem4 | exact mem5 | exact mem6 | exact mem7 | (repeat (first | exact List.mem_cons_self | refine List.mem_cons_of_mem _ ?_ | refine mem_seg ?_))) (by first | exact Reader.get_fAt (by first | assumption | (simp [hx]; done) | exact Reader.zero_ok  | exact rdr_ok _ _ _ _ _ _ | exact ⟨rfl⟩) | exact (by first | rfl | exact get_words (by first | omega | (simp [hx]; done) | (simp [hx]; omega)) | exact get_bytes (by first | omega | (simp [hx]; done) | (simp [hx]; omega)) | exact get_ints (by first | omega | (simp [hx]; done) | (simp [hx]; omega)))) ?_
    have hfA4 : (rdr n q N cp (at' + 1) 0).fAt = ((at' + 1 : Nat) : Int) := rfl
    refine Tr.sub_i64 rfl rfl rfl rfl (by omega) ?_
    refine Tr.assign rfl rfl rfl ?_
    refine Tr.nil ?_
    refine at_n ?_
    refine ⟨(), trivial, weak_of (wk1 rfl (wk1 rfl (wk1 (congrArg (fun z => some (i64 z)) (show (rdr n q N cp (at' + 1) 0).fAt - 1 = (at' : Int) by simp [rdr])) wk0))) (wh1 (by first | exact mem0 | exact mem1 | exact mem2 | exact mem3 | exact mem4 | exact mem5 | exact mem6 | exact mem7 | (repeat (first | exact List.mem_cons_self | refine List.mem_cons_of_mem _ ?_ | refine mem_seg ?_))) wh0) (by repeat (first | exact ns_nil | refine ns_keep rfl ?_ | refine ns_skip ?_))⟩
  ·
    intro _u hj
    skip
    refine Sat.seq ?_
    -- region 5
    refine Sat.region ?_
    refine Tr.move rfl rfl rfl ?_
    first
      | refine Tr.idxSl1 rfl rfl rfl rfl Try.underlying27 Sz5 0 rfl (by omega) ?_
      | refine Tr.idxSlO rfl rfl rfl rfl Try.underlying27 Sz5 0 rfl (by omega) ?_
    refine Tr.loadE rfl rfl rfl Try.underlying5 rfl (by first | (simp; done) | (simp; exact hW.2.2) | (simp [Cx.with]; omega)) ((by have := hW.2.1 at' _ (get_bytes (by omega)); rwa [Nat.zero_add] at this)) ?_
    refine Tr.not_u8 rfl rfl rfl ?_
    refine Tr.callV rfl rfl rfl rfl Body128 (bits_lz8 _) (fun _ _ => trivial) ?_
    refine Tr.add_i64 rfl rfl rfl rfl (by omega) ?_
    refine Tr.assign rfl rfl rfl ?_
    refine Tr.nil ?_
    refine at_n ?_
    refine Sat.seq ?_
    -- region 6
    refine Sat.region ?_
    refine Tr.move rfl rfl rfl ?_
    refine Tr.move rfl rfl rfl ?_
    refine Tr.sub_i64 rfl rfl rfl rfl (by omega) ?_
    refine Tr.conv rfl rfl rfl Try.underlying3 Try.underlying24 (cv_i64_u64 _) ?_
    refine Tr.callL (L := [RB n q N cp (at' + 1) (0)]) rfl rfl rfl rfl rfl Body127 (rd_take_more n q N cp (at' + 1) (wordOf (8 - ((bLen (255 ^^^ (xs.getD at' 0)).toNat : Nat) : Int) + 1 - 1)) (by omega) hN hbig (by rw [hcw]; omega)) rem_here (by intro m hm; exact ⟨_, List.mem_singleton.2 rfl, (List.mem_singleton.1 hm).symm⟩) (fun w h => own_blk h (by first | exact mem0 | exact mem1 | exact mem2 | exact mem3 | exact mem4 | exact mem5 | exact mem6 | exact mem7 | (repeat (first | exact List.mem_cons_self | refine List.mem_cons_of_mem _ ?_ | refine mem_seg ?_)))) ?_
    rintro v2 out2 ⟨rfl, rfl⟩
    refine Tr.move rfl rfl rfl ?_
    refine Tr.extract rfl rfl rfl rfl ?_
    refine Tr.extract rfl rfl rfl rfl ?_
    refine Tr.assign rfl rfl rfl ?_
    refine Tr.assign rfl rfl rfl ?_
    refine Tr.nil ?_
    refine at_n ?_
    refine Sat.seq ?_
    refine Sat.seq ?_
    -- region 7
    refine Sat.region ?_
    refine Tr.move rfl rfl rfl ?_
    refine Tr.not rfl rfl rfl ?_
    refine Tr.nil ?_
    refine at_n ?_
    refine Sat.cond_t rfl (rfl) ?_
    refine Sat.seq ?_
    -- region 8
    refine Sat.region ?_
    refine Tr.move rfl rfl rfl ?_
    refine Tr.move rfl rfl rfl ?_
    refine Tr.move rfl rfl rfl ?_
    refine Tr.nilChk rfl rfl rfl ?_
    refine Tr.fld rfl rfl rfl Try.underlying137 rfl Sz35 (by decide) _ rfl ?_
    refine Tr.load1 rfl rfl rfl Try.underlying35 rfl (by first | exact mem0 | exact mem1 | exact mem2 | exact mem3 | exact mem4 | exact mem5 | exact mem6 | exact mem7 | (repeat (first | exact List.mem_cons_self | refine List.mem_cons_of_mem _ ?_ | refine mem_seg ?_))) (by first | exact Reader.get_fErr (by first | assumption | (simp [hx]; done) | exact Reader.zero_ok  | exact rdr_ok _ _ _ _ _ _ | exact ⟨rfl⟩) | exact (by first | rfl | exact get_words (by first | omega | (simp [hx]; done) | (simp [hx]; omega)) | exact get_bytes (by first | omega | (simp [hx]; done) | (simp [hx]; omega)) | exact get_ints (by first | omega | (simp [hx]; done) | (simp [hx]; omega)))) ?_
    refine Tr.callL (L := [RB n q N cp (at' + 1) (5)]) rfl rfl rfl rfl rfl Body129 (rd_fail n q N cp (at' + 1) 5 at' 5) rem_here (by intro m hm; exact ⟨_, List.mem_singleton.2 rfl, (List.mem_singleton.1 hm).symm⟩) (fun w h => own_blk h (by first | exact mem0 | exact mem1 | exact mem2 | exact mem3 | exact mem4 | exact mem5 | exact mem6 | exact mem7 | (repeat (first | exact List.mem_cons_self | refine List.mem_cons_of_mem _ ?_ | refine mem_seg ?_)))) ?_
    rintro v2 out2 ⟨rfl, rfl⟩
    refine Tr.nil ?_
    refine at_n ?_
    refine Sat.seq ?_
    -- region 9
    refine Sat.region ?_
    refine Tr.assign rfl rfl (show evIn _ _ = some (u64 0) from rfl) ?_
    refine Tr.nil ?_
    refine at_n ?_
    refine Sat.ret ?_
    refine at_r ?_
    refine en_r ?_
    refine ⟨_, [RB n q N cp (at') (5)], res_tmp rfl rfl, (by intro b hb; rw [List.mem_singleton.1 hb]; exact mem0), nodup1, ?_⟩
    exact ⟨rfl, rfl⟩

set_option maxRecDepth 100000 in
set_option maxHeartbeats 2000000 in
theorem rd_num_bad (n q N cp at' : Nat) (xs : List UInt8) (hx : xs.length = N) (hat : at' ≤ N) (hN : N ≤ cp) (hbig : N ≤ 1000000) (hk2 : at' + (cntB (xs.getD at' 0)) ≤ N) (hz : ¬ szN (numV xs at').toNat = (cntB (xs.getD at' 0))) : Meets Try.prog 82 [ptr n 0] [n] (fun W => BlkOk W (RB n q N cp (at') (0)) ∧ Sees W q 0 (bytesV xs) ∧ q ≠ n) (fun v out => v = u64 0 ∧ out = [RB n q N cp (at') (4)]) := by
  intro W hW
  have hb8 := b8_le (xs.getD at' 0)
  have hcw := cnt_word (xs.getD at' 0)
  have hcn : (cntB (xs.getD at' 0)) = 9 - bLen (255 ^^^ (xs.getD at' 0)).toNat := rfl
  refine calls_of (hp0 := [RB n q N cp (at') (0)]) Try.func82 rfl 73 Try.ntmps82 rfl (HRep.one hW.1) ?_
  refine Sat.seq ?_
  -- region 0
  refine Sat.region ?_
  refine Tr.assign rfl rfl (show evIn _ _ = some (u64 0) from rfl) ?_
  refine Tr.nil ?_
  refine at_n ?_
  refine Sat.seq ?_
  -- region 1
  refine Sat.region ?_
  refine Tr.move rfl rfl rfl ?_
  refine Tr.callL (L := [RB n q N cp (at') (0)]) rfl rfl rfl rfl rfl Body127 (rd_take_first n q N cp at' (by omega) hN hbig) rem_here (by intro m hm; exact ⟨_, List.mem_singleton.2 rfl, (List.mem_singleton.1 hm).symm⟩) (fun w h => own_blk h (by first | exact mem0 | exact mem1 | exact mem2 | exact mem3 | exact mem4 | exact mem5 | exact mem6 | exact mem7 | (repeat (first | exact List.mem_cons_self | refine List.mem_cons_of_mem _ ?_ | refine mem_seg ?_)))) ?_
  rintro v2 out2 ⟨rfl, rfl⟩
  refine Tr.move rfl rfl rfl ?_
  refine Tr.extract rfl rfl rfl rfl ?_
  refine Tr.extract rfl rfl rfl rfl ?_
  refine Tr.assign rfl rfl rfl ?_
  refine Tr.assign rfl rfl rfl ?_
  refine Tr.nil ?_
  refine at_n ?_
  refine Sat.seq ?_
  refine Sat.seq ?_
  -- region 2
  refine Sat.region ?_
  refine Tr.move rfl rfl rfl ?_
  refine Tr.not rfl rfl rfl ?_
  refine Tr.nil ?_
  refine at_n ?_
  refine Sat.cond_f rfl (rfl) ?_
  refine Sat.skip ?_
  refine at_n ?_
  refine Sat.join (ι := Unit) (fun _u => ⟨[(0, ptr n 0), (3, .slice (some ⟨q, at', none⟩) 1 (cp - at')), (5, i64 (at' : Int))], [⟨n, (rdr n q N cp (at' + 1) (0)).cells, 137, 4⟩]⟩) (fun _u => True) ?_ ?_
  ·
    -- region 4
    refine Sat.region ?_
    refine Tr.move rfl rfl rfl ?_
    refine Tr.nilChk rfl rfl rfl ?_
    refine Tr.fld rfl rfl rfl Try.underlying137 rfl Sz3 (by decide) _ rfl ?_
    refine Tr.load1 rfl rfl rfl Try.underlying3 rfl (by first | exact mem0 | exact mem1 | exact mem2 | exact mem3 | exact mem4 | exact mem5 | exact mem6 | exact mem7 | (repeat (first | exact List.mem_cons_self | refine List.mem_cons_of_mem _ ?_ | refine mem_seg ?_))) (by first | exact Reader.get_fAt (by first | assumption | (simp [hx]; done) | exact Reader.zero_ok  | exact rdr_ok _ _ _ _ _ _ | exact ⟨rfl⟩) | exact (by first | rfl | exact get_words (by first | omega | (simp [hx]; done) | (simp [hx]; omega)) | exact get_bytes (by first | omega | (simp [hx]; done) | (simp [hx]; omega)) | exact get_ints (by first | omega | (simp [hx]; done) | (simp [hx]; omega)))) ?_
    have hfA4 : (rdr n q N cp (at' + 1) 0).fAt = ((at' + 1 : Nat) : Int) := rfl
    refine Tr.sub_i64 rfl rfl rfl rfl (by omega) ?_
    refine Tr.assign rfl rfl rfl ?_
    refine Tr.nil ?_
    refine at_n ?_
    refine ⟨(), trivial, weak_of (wk1 rfl (wk1 rfl (wk1 (congrArg (fun z => some (i64 z)) (show (rdr n q N cp (at' + 1) 0).fAt - 1 = (at' : Int) by simp [rdr])) wk0))) (wh1 (by first | exact mem0 | exact mem1 | exact mem2 | exact mem3 | exact mem4 | exact mem5 | exact mem6 | exact mem7 | (repeat (first | exact List.mem_cons_self | refine List.mem_cons_of_mem _ ?_ | refine mem_seg ?_))) wh0) (by repeat (first | exact ns_nil | refine ns_keep rfl ?_ | refine ns_skip ?_))⟩
  ·
    intro _u hj
    skip
    refine Sat.seq ?_
    -- region 5
    refine Sat.region ?_
    refine Tr.move rfl rfl rfl ?_
    first
      | refine Tr.idxSl1 rfl rfl rfl rfl Try.underlying27 Sz5 0 rfl (by omega) ?_
      | refine Tr.idxSlO rfl rfl rfl rfl Try.underlying27 Sz5 0 rfl (by omega) ?_
    refine Tr.loadE rfl rfl rfl Try.underlying5 rfl (by first | (simp; done) | (simp; exact hW.2.2) | (simp [Cx.with]; omega)) ((by have := hW.2.1 at' _ (get_bytes (by omega)); rwa [Nat.zero_add] at this)) ?_
    refine Tr.not_u8 rfl rfl rfl ?_
    refine Tr.callV rfl rfl rfl rfl Body128 (bits_lz8 _) (fun _ _ => trivial) ?_
    refine Tr.add_i64 rfl rfl rfl rfl (by omega) ?_
    refine Tr.assign rfl rfl rfl ?_
    refine Tr.nil ?_
    refine at_n ?_
    refine Sat.seq ?_
    -- region 6
    refine Sat.region ?_
    refine Tr.move rfl rfl rfl ?_
    refine Tr.move rfl rfl rfl ?_
    refine Tr.sub_i64 rfl rfl rfl rfl (by omega) ?_
    refine Tr.conv rfl rfl rfl Try.underlying3 Try.underlying24 (cv_i64_u64 _) ?_
    refine Tr.callL (L := [RB n q N cp (at' + 1) (0)]) rfl rfl rfl rfl rfl Body127 (rd_take_ok n q N cp (at' + 1) (wordOf (8 - ((bLen (255 ^^^ (xs.getD at' 0)).toNat : Nat) : Int) + 1 - 1)) (by omega) hN hbig (by rw [hcw]; omega)) rem_here (by intro m hm; exact ⟨_, List.mem_singleton.2 rfl, (List.mem_singleton.1 hm).symm⟩) (fun w h => own_blk h (by first | exact mem0 | exact mem1 | exact mem2 | exact mem3 | exact mem4 | exact mem5 | exact mem6 | exact mem7 | (repeat (first | exact List.mem_cons_self | refine List.mem_cons_of_mem _ ?_ | refine mem_seg ?_)))) ?_
    rintro v2 out2 ⟨rfl, rfl⟩
    refine Tr.move rfl rfl rfl ?_
    refine Tr.extract rfl rfl rfl rfl ?_
    refine Tr.extract rfl rfl rfl rfl ?_
    refine Tr.assign rfl rfl rfl ?_
    refine Tr.assign rfl rfl rfl ?_
    refine Tr.nil ?_
    refine at_n ?_
    refine Sat.seq ?_
    refine Sat.seq ?_
    -- region 7
    refine Sat.region ?_
    refine Tr.move rfl rfl rfl ?_
    refine Tr.not rfl rfl rfl ?_
    refine Tr.nil ?_
    refine at_n ?_
    refine Sat.cond_f rfl (rfl) ?_
    refine Sat.skip ?_
    refine at_n ?_
    refine Sat.join (ι := Unit) (fun _u => ⟨[(0, ptr n 0), (5, i64 (at' : Int)), (6, i64 (8 - ((bLen (255 ^^^ (xs.getD at' 0)).toNat : Nat) : Int) + 1)), (7, .slice (some ⟨q, if cp = at' + 1 then 0 else 0 + (at' + 1) * 1, none⟩) (wordOf (8 - ((bLen (255 ^^^ (xs.getD at' 0)).toNat : Nat) : Int) + 1 - 1)).toNat (cp - (at' + 1))), (8, u64 (foldB (headV (xs.getD at' 0)) ((xs.drop (at' + 1)).take 0)))], [⟨n, (rdr n q N cp (at' + 1 + (wordOf (8 - ((bLen (255 ^^^ (xs.getD at' 0)).toNat : Nat) : Int) + 1 - 1)).toNat) (0)).cells, 137, 4⟩]⟩) (fun _u => True) ?_ ?_
    ·
      -- region 10
      refine Sat.draw [(0, 0), (0, 1), (1, 2), (0, 3), (0, 4), (0, 5), (0, 6), (0, 7)] Mixed (by kernel_rfl) ?_
      refine Tr.move rfl rfl rfl ?_
      first
        | refine Tr.idxSl1 rfl rfl rfl rfl Try.underlying27 Sz5 0 rfl (by omega) ?_
        | refine Tr.idxSlO rfl rfl rfl rfl Try.underlying27 Sz5 0 rfl (by omega) ?_
      refine Tr.loadE rfl rfl rfl Try.underlying5 rfl (by first | (simp; done) | (simp; exact hW.2.2) | (simp [Cx.with]; omega)) ((by have := hW.2.1 at' _ (get_bytes (by omega)); rwa [Nat.zero_add] at this)) ?_
      refine Tr.move rfl rfl rfl ?_
      refine Tr.shr_u8w rfl rfl (show evIn _ _ = some (u8 255) from rfl) rfl (cntB (xs.getD at' 0)) (by omega) ?_
      refine Tr.and_u8 rfl rfl rfl rfl ?_
      refine Tr.conv rfl rfl rfl Try.underlying5 Try.underlying24 (cv_u8_u64 _) ?_
      refine Tr.assign rfl rfl rfl ?_
      refine Tr.nil ?_
      refine at_n ?_
      refine ⟨(), trivial, weak_of (wk1 rfl (wk1 rfl (wk1 rfl (wk1 rfl (wk1 rfl wk0))))) (wh1 (by first | exact mem0 | exact mem1 | exact mem2 | exact mem3 | exact mem4 | exact mem5 | exact mem6 | exact mem7 | (repeat (first | exact List.mem_cons_self | refine List.mem_cons_of_mem _ ?_ | refine mem_seg ?_))) wh0) (by repeat (first | exact ns_nil | refine ns_keep rfl ?_ | refine ns_skip ?_))⟩
    ·
      intro _u hj
      skip
      refine Sat.seq ?_
      refine Sat.seq ?_
      -- region 11
      refine Sat.region ?_
      refine Tr.move rfl rfl rfl ?_
      refine Tr.lenSl rfl rfl rfl Try.underlying27 ?_
      refine Tr.move rfl rfl rfl ?_
      refine Tr.nil ?_
      refine at_n ?_
      refine Sat.block ?_
      refine Sat.loop (ι := Nat) (fun j => ⟨[(0, ptr n 0), (5, i64 (at' : Int)), (6, i64 (8 - ((bLen (255 ^^^ (xs.getD at' 0)).toNat : Nat) : Int) + 1)), (53, .slice (some ⟨q, if cp = at' + 1 then 0 else 0 + (at' + 1) * 1, none⟩) (wordOf (8 - ((bLen (255 ^^^ (xs.getD at' 0)).toNat : Nat) : Int) + 1 - 1)).toNat (cp - (at' + 1))), (54, i64 ((wordOf (8 - ((bLen (255 ^^^ (xs.getD at' 0)).toNat : Nat) : Int) + 1 - 1)).toNat : Int)), (55, i64 (j : Int)), (8, u64 (foldB (headV (xs.getD at' 0)) ((xs.drop (at' + 1)).take j)))], [⟨n, (rdr n q N cp (at' + 1 + (wordOf (8 - ((bLen (255 ^^^ (xs.getD at' 0)).toNat : Nat) : Int) + 1 - 1)).toNat) (0)).cells, 137, 4⟩]⟩) (fun j => j ≤ (wordOf (8 - ((bLen (255 ^^^ (xs.getD at' 0)).toNat : Nat) : Int) + 1 - 1)).toNat) (fun j => (wordOf (8 - ((bLen (255 ^^^ (xs.getD at' 0)).toNat : Nat) : Int) + 1 - 1)).toNat - j) (0) ?_ ?_ ?_
      · exact Nat.zero_le _
      · exact weak_of (wk1 rfl (wk1 rfl (wk1 rfl (wk1 rfl (wk1 rfl (wk1 rfl (wk1 rfl wk0))))))) (wh1 (by first | exact mem0 | exact mem1 | exact mem2 | exact mem3 | exact mem4 | exact mem5 | exact mem6 | exact mem7 | (repeat (first | exact List.mem_cons_self | refine List.mem_cons_of_mem _ ?_ | refine mem_seg ?_))) wh0) (by repeat (first | exact ns_nil | refine ns_keep rfl ?_ | refine ns_skip ?_))
      ·
        rintro j hj
        refine Sat.seq ?_
        -- region 12
        refine Sat.region ?_
        refine Tr.lss rfl rfl rfl rfl rfl ?_
        refine Tr.nil ?_
        refine at_n ?_
        refine Sat.seq ?_
        first
          | refine Sat.condP rfl (fun hc2 => ?_) (fun hc2 => ?_)
          | refine Sat.condNP rfl (fun hc2 => ?_) (fun hc2 => ?_)
          | refine Sat.cond rfl (fun hc2 => ?_) (fun hc2 => ?_)
        ·
          have hj2 : j < (wordOf (8 - ((bLen (255 ^^^ (xs.getD at' 0)).toNat : Nat) : Int) + 1 - 1)).toNat := by omega
          refine Sat.skip ?_
          refine at_n ?_
          refine Sat.seq ?_
          refine Sat.block ?_
          refine Sat.seq ?_
          -- region 13
          refine Sat.region ?_
          first
            | refine Tr.idxSl1 rfl rfl rfl rfl Try.underlying27 Sz5 _ rfl (by omega) ?_
            | refine Tr.idxSlO rfl rfl rfl rfl Try.underlying27 Sz5 _ rfl (by omega) ?_
            | refine Tr.idxSl1 rfl rfl rfl rfl Try.underlying27 Sz5 _ (toNat_back (by omega)) (by omega) ?_
            | refine Tr.idxSlO rfl rfl rfl rfl Try.underlying27 Sz5 _ (toNat_back (by omega)) (by omega) ?_
          refine Tr.loadE rfl rfl rfl Try.underlying5 rfl (by first | (simp; done) | (simp; exact hW.2.2) | (simp [Cx.with]; omega)) ((by have h9 := hW.2.1 (at' + 1 + j) _ (get_bytes (by omega)); rw [if_neg (by omega)]; rw [Nat.zero_add] at h9; rw [show 0 + (at' + 1) * 1 + j = at' + 1 + j by omega]; exact h9)) ?_
          refine Tr.assign rfl rfl rfl ?_
          refine Tr.nil ?_
          refine at_n ?_
          -- region 14
          refine Sat.region ?_
          refine Tr.move rfl rfl rfl ?_
          refine Tr.shl_u64 rfl rfl rfl rfl 8 rfl (by decide) ?_
          refine Tr.move rfl rfl rfl ?_
          refine Tr.conv rfl rfl rfl Try.underlying5 Try.underlying24 (cv_u8_u64 _) ?_
          refine Tr.or_u64 rfl rfl rfl rfl ?_
          refine Tr.assign rfl rfl rfl ?_
          refine Tr.nil ?_
          refine bl_n ?_
          refine at_n ?_
          -- region 15
          refine Sat.region ?_
          refine Tr.add_i64 rfl rfl rfl rfl (by omega) ?_
          refine Tr.move rfl rfl rfl ?_
          refine Tr.nil ?_
          refine at_n ?_
          exact ⟨j + 1, by omega, by omega, weak_of (wk1 rfl (wk1 rfl (wk1 rfl (wk1 rfl (wk1 rfl (wk1 rfl (wk1 (by rw [foldB_step xs (at' + 1) j _ (by omega)]; rfl) wk0))))))) (wh1 (by first | exact mem0 | exact mem1 | exact mem2 | exact mem3 | exact mem4 | exact mem5 | exact mem6 | exact mem7 | (repeat (first | exact List.mem_cons_self | refine List.mem_cons_of_mem _ ?_ | refine mem_seg ?_))) wh0) (by repeat (first | exact ns_nil | refine ns_keep rfl ?_ | refine ns_skip ?_))⟩
        ·
          have hj2 : j = (cntB (xs.getD at' 0)) - 1 := by omega
          refine Sat.exit ?_
          refine at_x ?_
          refine at_x ?_
          refine bl_h ?_
          refine at_n ?_
          refine Sat.seq ?_
          refine Sat.seq ?_
          -- region 16
          refine Sat.region ?_
          have hnv : numV xs at' = foldB (headV (xs.getD at' 0)) ((xs.drop (at' + 1)).take j) := by rw [numV, hj2]

          refine Tr.move rfl rfl rfl ?_
          refine Tr.callV rfl rfl rfl rfl Body130 (oct_size _) (fun _ _ => trivial) ?_
          refine Tr.move rfl rfl rfl ?_
          refine Tr.nei rfl rfl rfl rfl (show (!decide _) = true from congrArg not (decide_eq_false (by rw [← hnv]; omega))) ?_
          refine Tr.nil ?_
          refine at_n ?_
          refine Sat.cond_t rfl (rfl) ?_
          refine Sat.seq ?_
          -- region 17
          refine Sat.region ?_
          refine Tr.move rfl rfl rfl ?_
          refine Tr.move rfl rfl rfl ?_
          refine Tr.callL (L := [RB n q N cp (at' + 1 + (wordOf (8 - ((bLen (255 ^^^ (xs.getD at' 0)).toNat : Nat) : Int) + 1 - 1)).toNat) (0)]) rfl rfl rfl rfl rfl Body129 (rd_fail n q N cp (at' + 1 + (wordOf (8 - ((bLen (255 ^^^ (xs.getD at' 0)).toNat : Nat) : Int) + 1 - 1)).toNat) 0 at' 4) rem_here (by intro m hm; exact ⟨_, List.mem_singleton.2 rfl, (List.mem_singleton.1 hm).symm⟩) (fun w h => own_blk h (by first | exact mem0 | exact mem1 | exact mem2 | exact mem3 | exact mem4 | exact mem5 | exact mem6 | exact mem7 | (repeat (first | exact List.mem_cons_self | refine List.mem_cons_of_mem _ ?_ | refine mem_seg ?_)))) ?_
          rintro v2 out2 ⟨rfl, rfl⟩
          refine Tr.nil ?_
          refine at_n ?_
          refine Sat.seq ?_
          -- region 18
          refine Sat.region ?_
          refine Tr.assign rfl rfl (show evIn _ _ = some (u64 0) from rfl) ?_
          refine Tr.nil ?_
          refine at_n ?_
          refine Sat.ret ?_
          refine at_r ?_
          refine en_r ?_
          refine ⟨_, [RB n q N cp (at') (4)], res_tmp rfl rfl, (by intro b hb; rw [List.mem_singleton.1 hb]; exact mem0), nodup1, ?_⟩
          exact ⟨rfl, rfl⟩

set_option maxRecDepth 100000 in
set_option maxHeartbeats 2000000 in
theorem rd_num_ok (n q N cp at' : Nat) (xs : List UInt8) (hx : xs.length = N) (hat : at' ≤ N) (hN : N ≤ cp) (hbig : N ≤ 1000000) (hk2 : at' + (cntB (xs.getD at' 0)) ≤ N) (hz : szN (numV xs at').toNat = (cntB (xs.getD at' 0))) : Meets Try.prog 82 [ptr n 0] [n] (fun W => BlkOk W (RB n q N cp (at') (0)) ∧ Sees W q 0 (bytesV xs) ∧ q ≠ n) (fun v out => v = u64 (numV xs at') ∧ out = [RB n q N cp (at' + (cntB (xs.getD at' 0))) (0)]) := by
  intro W hW
  have hb8 := b8_le (xs.getD at' 0)
  have hcw := cnt_word (xs.getD at' 0)
  have hcn : (cntB (xs.getD at' 0)) = 9 - bLen (255 ^^^ (xs.getD at' 0)).toNat := rfl
  refine calls_of (hp0 := [RB n q N cp (at') (0)]) Try.func82 rfl 73 Try.ntmps82 rfl (HRep.one hW.1) ?_
  refine Sat.seq ?_
  -- region 0
  refine Sat.region ?_
  refine Tr.assign rfl rfl (show evIn _ _ = some (u64 0) from rfl) ?_
  refine Tr.nil ?_
  refine at_n ?_
  refine Sat.seq ?_
  -- region 1
  refine Sat.region ?_
  refine Tr.move rfl rfl rfl ?_
  refine Tr.callL (L := [RB n q N cp (at') (0)]) rfl rfl rfl rfl rfl Body127 (rd_take_first n q N cp at' (by omega) hN hbig) rem_here (by intro m hm; exact ⟨_, List.mem_singleton.2 rfl, (List.mem_singleton.1 hm).symm⟩) (fun w h => own_blk h (by first | exact mem0 | exact mem1 | exact mem2 | exact mem3 | exact mem4 | exact mem5 | exact mem6 | exact mem7 | (repeat (first | exact List.mem_cons_self | refine List.mem_cons_of_mem _ ?_ | refine mem_seg ?_)))) ?_
  rintro v2 out2 ⟨rfl, rfl⟩
  refine Tr.move rfl rfl rfl ?_
  refine Tr.extract rfl rfl rfl rfl ?_
  refine Tr.extract rfl rfl rfl rfl ?_
  refine Tr.assign rfl rfl rfl ?_
  refine Tr.assign rfl rfl rfl ?_
  refine Tr.nil ?_
  refine at_n ?_
  refine Sat.seq ?_
  refine Sat.seq ?_
  -- region 2
  refine Sat.region ?_
  refine Tr.move rfl rfl rfl ?_
  refine Tr.not rfl rfl rfl ?_
  refine Tr.nil ?_
  refine at_n ?_
  refine Sat.cond_f rfl (rfl) ?_
  refine Sat.skip ?_
  refine at_n ?_
  refine Sat.join (ι := Unit) (fun _u => ⟨[(0, ptr n 0), (3, .slice (some ⟨q, at', none⟩) 1 (cp - at')), (5, i64 (at' : Int))], [⟨n, (rdr n q N cp (at' + 1) (0)).cells, 137, 4⟩]⟩) (fun _u => True) ?_ ?_
  ·
    -- region 4
    refine Sat.region ?_
    refine Tr.move rfl rfl rfl ?_
    refine Tr.nilChk rfl rfl rfl ?_
    refine Tr.fld rfl rfl rfl Try.underlying137 rfl Sz3 (by decide) _ rfl ?_
    refine Tr.load1 rfl rfl rfl Try.underlying3 rfl (by first | exact mem0 | exact mem1 | exact mem2 | exact mem3 | exact mem4 | exact mem5 | exact mem6 | exact mem7 | (repeat (first | exact List.mem_cons_self | refine List.mem_cons_of_mem _ ?_ | refine mem_seg ?_))) (by first | exact Reader.get_fAt (by first | assumption | (simp [hx]; done) | exact Reader.zero_ok  | exact rdr_ok _ _ _ _ _ _ | exact ⟨rfl⟩) | exact (by first | rfl | exact get_words (by first | omega | (simp [hx]; done) | (simp [hx]; omega)) | exact get_bytes (by first | omega | (simp [hx]; done) | (simp [hx]; omega)) | exact get_ints (by first | omega | (simp [hx]; done) | (simp [hx]; omega)))) ?_
    have hfA4 : (rdr n q N cp (at' + 1) 0).fAt = ((at' + 1 : Nat) : Int) := rfl
    refine Tr.sub_i64 rfl rfl rfl rfl (by omega) ?_
    refine Tr.assign rfl rfl rfl ?_
    refine Tr.nil ?_
    refine at_n ?_
    refine ⟨(), trivial, weak_of (wk1 rfl (wk1 rfl (wk1 (congrArg (fun z => some (i64 z)) (show (rdr n q N cp (at' + 1) 0).fAt - 1 = (at' : Int) by simp [rdr])) wk0))) (wh1 (by first | exact mem0 | exact mem1 | exact mem2 | exact mem3 | exact mem4 | exact mem5 | exact mem6 | exact mem7 | (repeat (first | exact List.mem_cons_self | refine List.mem_cons_of_mem _ ?_ | refine mem_seg ?_))) wh0) (by repeat (first | exact ns_nil | refine ns_keep rfl ?_ | refine ns_skip ?_))⟩
  ·
    intro _u hj
    skip
    refine Sat.seq ?_
    -- region 5
    refine Sat.region ?_
    refine Tr.move rfl rfl rfl ?_
    first
      | refine Tr.idxSl1 rfl rfl rfl rfl Try.underlying27 Sz5 0 rfl (by omega) ?_
      | refine Tr.idxSlO rfl rfl rfl rfl Try.underlying27 Sz5 0 rfl (by omega) ?_
    refine Tr.loadE rfl rfl rfl Try.underlying5 rfl (by first | (simp; done) | (simp; exact hW.2.2) | (simp [Cx.with]; omega)) ((by have := hW.2.1 at' _ (get_bytes (by omega)); rwa [Nat.zero_add] at this)) ?_
    refine Tr.not_u8 rfl rfl rfl ?_
    refine Tr.callV rfl rfl rfl rfl Body128 (bits_lz8 _) (fun _ _ => trivial) ?_
    refine Tr.add_i64 rfl rfl rfl rfl (by omega) ?_
    refine Tr.assign rfl rfl rfl ?_
    refine Tr.nil ?_
    refine at_n ?_
    refine Sat.seq ?_
    -- region 6
    refine Sat.region ?_
    refine Tr.move rfl rfl rfl ?_
    refine Tr.move rfl rfl rfl ?_
    refine Tr.sub_i64 rfl rfl rfl rfl (by omega) ?_
    refine Tr.conv rfl rfl rfl Try.underlying3 Try.underlying24 (cv_i64_u64 _) ?_
    refine Tr.callL (L := [RB n q N cp (at' + 1) (0)]) rfl rfl rfl rfl rfl Body127 (rd_take_ok n q N cp (at' + 1) (wordOf (8 - ((bLen (255 ^^^ (xs.getD at' 0)).toNat : Nat) : Int) + 1 - 1)) (by omega) hN hbig (by rw [hcw]; omega)) rem_here (by intro m hm; exact ⟨_, List.mem_singleton.2 rfl, (List.mem_singleton.1 hm).symm⟩) (fun w h => own_blk h (by first | exact mem0 | exact mem1 | exact mem2 | exact mem3 | exact mem4 | exact mem5 | exact mem6 | exact mem7 | (repeat (first | exact List.mem_cons_self | refine List.mem_cons_of_mem _ ?_ | refine mem_seg ?_)))) ?_
    rintro v2 out2 ⟨rfl, rfl⟩
    refine Tr.move rfl rfl rfl ?_
    refine Tr.extract rfl rfl rfl rfl ?_
    refine Tr.extract rfl rfl rfl rfl ?_
    refine Tr.assign rfl rfl rfl ?_
    refine Tr.assign rfl rfl rfl ?_
    refine Tr.nil ?_
    refine at_n ?_
    refine Sat.seq ?_
    refine Sat.seq ?_
    -- region 7
    refine Sat.region ?_
    refine Tr.move rfl rfl rfl ?_
    refine Tr.not rfl rfl rfl ?_
    refine Tr.nil ?_
    refine at_n ?_
    refine Sat.cond_f rfl (rfl) ?_
    refine Sat.skip ?_
    refine at_n ?_
    refine Sat.join (ι := Unit) (fun _u => ⟨[(0, ptr n 0), (5, i64 (at' : Int)), (6, i64 (8 - ((bLen (255 ^^^ (xs.getD at' 0)).toNat : Nat) : Int) + 1)), (7, .slice (some ⟨q, if cp = at' + 1 then 0 else 0 + (at' + 1) * 1, none⟩) (wordOf (8 - ((bLen (255 ^^^ (xs.getD at' 0)).toNat : Nat) : Int) + 1 - 1)).toNat (cp - (at' + 1))), (8, u64 (foldB (headV (xs.getD at' 0)) ((xs.drop (at' + 1)).take 0)))], [⟨n, (rdr n q N cp (at' + 1 + (wordOf (8 - ((bLen (255 ^^^ (xs.getD at' 0)).toNat : Nat) : Int) + 1 - 1)).toNat) (0)).cells, 137, 4⟩]⟩) (fun _u => True) ?_ ?_
    ·
      -- region 10
      refine Sat.draw [(0, 0), (0, 1), (1, 2), (0, 3), (0, 4), (0, 5), (0, 6), (0, 7)] Mixed (by kernel_rfl) ?_
      refine Tr.move rfl rfl rfl ?_
      first
        | refine Tr.idxSl1 rfl rfl rfl rfl Try.underlying27 Sz5 0 rfl (by omega) ?_
        | refine Tr.idxSlO rfl rfl rfl rfl Try.underlying27 Sz5 0 rfl (by omega) ?_
      refine Tr.loadE rfl rfl rfl Try.underlying5 rfl (by first | (simp; done) | (simp; exact hW.2.2) | (simp [Cx.with]; omega)) ((by have := hW.2.1 at' _ (get_bytes (by omega)); rwa [Nat.zero_add] at this)) ?_
      refine Tr.move rfl rfl rfl ?_
      refine Tr.shr_u8w rfl rfl (show evIn _ _ = some (u8 255) from rfl) rfl (cntB (xs.getD at' 0)) (by omega) ?_
      refine Tr.and_u8 rfl rfl rfl rfl ?_
      refine Tr.conv rfl rfl rfl Try.underlying5 Try.underlying24 (cv_u8_u64 _) ?_
      refine Tr.assign rfl rfl rfl ?_
      refine Tr.nil ?_
      refine at_n ?_
      refine ⟨(), trivial, weak_of (wk1 rfl (wk1 rfl (wk1 rfl (wk1 rfl (wk1 rfl wk0))))) (wh1 (by first | exact mem0 | exact mem1 | exact mem2 | exact mem3 | exact mem4 | exact mem5 | exact mem6 | exact mem7 | (repeat (first | exact List.mem_cons_self | refine List.mem_cons_of_mem _ ?_ | refine mem_seg ?_))) wh0) (by repeat (first | exact ns_nil | refine ns_keep rfl ?_ | refine ns_skip ?_))⟩
    ·
      intro _u hj
      skip
      refine Sat.seq ?_
      refine Sat.seq ?_
      -- region 11
      refine Sat.region ?_
      refine Tr.move rfl rfl rfl ?_
      refine Tr.lenSl rfl rfl rfl Try.underlying27 ?_
      refine Tr.move rfl rfl rfl ?_
      refine Tr.nil ?_
      refine at_n ?_
      refine Sat.block ?_
      refine Sat.loop (ι := Nat) (fun j => ⟨[(0, ptr n 0), (5, i64 (at' : Int)), (6, i64 (8 - ((bLen (255 ^^^ (xs.getD at' 0)).toNat : Nat) : Int) + 1)), (53, .slice (some ⟨q, if cp = at' + 1 then 0 else 0 + (at' + 1) * 1, none⟩) (wordOf (8 - ((bLen (255 ^^^ (xs.getD at' 0)).toNat : Nat) : Int) + 1 - 1)).toNat (cp - (at' + 1))), (54, i64 ((wordOf (8 - ((bLen (255 ^^^ (xs.getD at' 0)).toNat : Nat) : Int) + 1 - 1)).toNat : Int)), (55, i64 (j : Int)), (8, u64 (foldB (headV (xs.getD at' 0)) ((xs.drop (at' + 1)).take j)))], [⟨n, (rdr n q N cp (at' + 1 + (wordOf (8 - ((bLen (255 ^^^ (xs.getD at' 0)).toNat : Nat) : Int) + 1 - 1)).toNat) (0)).cells, 137, 4⟩]⟩) (fun j => j ≤ (wordOf (8 - ((bLen (255 ^^^ (xs.getD at' 0)).toNat : Nat) : Int) + 1 - 1)).toNat) (fun j => (wordOf (8 - ((bLen (255 ^^^ (xs.getD at' 0)).toNat : Nat) : Int) + 1 - 1)).toNat - j) (0) ?_ ?_ ?_
      · exact Nat.zero_le _
      · exact weak_of (wk1 rfl (wk1 rfl (wk1 rfl (wk1 rfl (wk1 rfl (wk1 rfl (wk1 rfl wk0))))))) (wh1 (by first | exact mem0 | exact mem1 | exact mem2 | exact mem3 | exact mem4 | exact mem5 | exact mem6 | exact mem7 | (repeat (first | exact List.mem_cons_self | refine List.mem_cons_of_mem _ ?_ | refine mem_seg ?_))) wh0) (by repeat (first | exact ns_nil | refine ns_keep rfl ?_ | refine ns_skip ?_))
      ·
        rintro j hj
        refine Sat.seq ?_
        -- region 12
        refine Sat.region ?_
        refine Tr.lss rfl rfl rfl rfl rfl ?_
        refine Tr.nil ?_
        refine at_n ?_
        refine Sat.seq ?_
        first
          | refine Sat.condP rfl (fun hc2 => ?_) (fun hc2 => ?_)
          | refine Sat.condNP rfl (fun hc2 => ?_) (fun hc2 => ?_)
          | refine Sat.cond rfl (fun hc2 => ?_) (fun hc2 => ?_)
        ·
          have hj2 : j < (wordOf (8 - ((bLen (255 ^^^ (xs.getD at' 0)).toNat : Nat) : Int) + 1 - 1)).toNat := by omega
          refine Sat.skip ?_
          refine at_n ?_
          refine Sat.seq ?_
          refine Sat.block ?_
          refine Sat.seq ?_
          -- region 13
          refine Sat.region ?_
          first
            | refine Tr.idxSl1 rfl rfl rfl rfl Try.underlying27 Sz5 _ rfl (by omega) ?_
            | refine Tr.idxSlO rfl rfl rfl rfl Try.underlying27 Sz5 _ rfl (by omega) ?_
            | refine Tr.idxSl1 rfl rfl rfl rfl Try.underlying27 Sz5 _ (toNat_back (by omega)) (by omega) ?_
            | refine Tr.idxSlO rfl rfl rfl rfl Try.underlying27 Sz5 _ (toNat_back (by omega)) (by omega) ?_
          refine Tr.loadE rfl rfl rfl Try.underlying5 rfl (by first | (simp; done) | (simp; exact hW.2.2) | (simp [Cx.with]; omega)) ((by have h9 := hW.2.1 (at' + 1 + j) _ (get_bytes (by omega)); rw [if_neg (by omega)]; rw [Nat.zero_add] at h9; rw [show 0 + (at' + 1) * 1 + j = at' + 1 + j by omega]; exact h9)) ?_
          refine Tr.assign rfl rfl rfl ?_
          refine Tr.nil ?_
          refine at_n ?_
          -- region 14
          refine Sat.region ?_
          refine Tr.move rfl rfl rfl ?_
          refine Tr.shl_u64 rfl rfl rfl rfl 8 rfl (by decide) ?_
          refine Tr.move rfl rfl rfl ?_
          refine Tr.conv rfl rfl rfl Try.underlying5 Try.underlying24 (cv_u8_u64 _) ?_
          refine Tr.or_u64 rfl rfl rfl rfl ?_
          refine Tr.assign rfl rfl rfl ?_
          refine Tr.nil ?_
          refine bl_n ?_
          refine at_n ?_
          -- region 15
          refine Sat.region ?_
          refine Tr.add_i64 rfl rfl rfl rfl (by omega) ?_
          refine Tr.move rfl rfl rfl ?_
          refine Tr.nil ?_
          refine at_n ?_
          exact ⟨j + 1, by omega, by omega, weak_of (wk1 rfl (wk1 rfl (wk1 rfl (wk1 rfl (wk1 rfl (wk1 rfl (wk1 (by rw [foldB_step xs (at' + 1) j _ (by omega)]; rfl) wk0))))))) (wh1 (by first | exact mem0 | exact mem1 | exact mem2 | exact mem3 | exact mem4 | exact mem5 | exact mem6 | exact mem7 | (repeat (first | exact List.mem_cons_self | refine List.mem_cons_of_mem _ ?_ | refine mem_seg ?_))) wh0) (by repeat (first | exact ns_nil | refine ns_keep rfl ?_ | refine ns_skip ?_))⟩
        ·
          have hj2 : j = (cntB (xs.getD at' 0)) - 1 := by omega
          refine Sat.exit ?_
          refine at_x ?_
          refine at_x ?_
          refine bl_h ?_
          refine at_n ?_
          refine Sat.seq ?_
          refine Sat.seq ?_
          -- region 16
          refine Sat.region ?_
          have hnv : numV xs at' = foldB (headV (xs.getD at' 0)) ((xs.drop (at' + 1)).take j) := by rw [numV, hj2]

          refine Tr.move rfl rfl rfl ?_
          refine Tr.callV rfl rfl rfl rfl Body130 (oct_size _) (fun _ _ => trivial) ?_
          refine Tr.move rfl rfl rfl ?_
          refine Tr.nei rfl rfl rfl rfl (show (!decide _) = false from congrArg not (decide_eq_true (by rw [← hnv, hz]; omega))) ?_
          refine Tr.nil ?_
          refine at_n ?_
          refine Sat.cond_f rfl (rfl) ?_
          refine Sat.skip ?_
          refine at_n ?_
          refine Sat.seq ?_
          -- region 19
          refine Sat.region ?_
          refine Tr.move rfl rfl rfl ?_
          refine Tr.assign rfl rfl rfl ?_
          refine Tr.nil ?_
          refine at_n ?_
          refine Sat.ret ?_
          refine en_r ?_
          refine ⟨_, [RB n q N cp (at' + (cntB (xs.getD at' 0))) (0)], res_tmp rfl rfl, (by intro b hb; rw [List.mem_singleton.1 hb, show at' + (cntB (xs.getD at' 0)) = at' + 1 + (wordOf (8 - ((bLen (255 ^^^ (xs.getD at' 0)).toNat : Nat) : Int) + 1 - 1)).toNat by rw [hcw]; omega]; exact mem0), nodup1, ?_⟩
          exact ⟨by rw [hnv], rfl⟩


theorem rd_take_pos (n q N cp at' : Nat) (k : UInt64) (hN : N ≤ cp) (hbig : N ≤ 1000000) (hk : at' + k.toNat ≤ N) (hk0 : 0 < k.toNat) : Meets Try.prog 127 [ptr n 0, u64 k] [n] (fun W => BlkOk W (RB n q N cp at' 0)) (fun v out => v = .tuple #[.slice (some ⟨q, at', none⟩) k.toNat (cp - at'), .bool true] ∧ out = [RB n q N cp (at' + k.toNat) 0]) := by
  have := rd_take_ok n q N cp at' k (by omega) hN hbig hk
  rw [if_neg (by omega), Nat.zero_add, Nat.mul_one] at this
  exact this
/-- what Number reads: the number, where the reader then stands, its error -/
def numR (xs : List UInt8) (a : Nat) (e : Int) : UInt64 × Nat × Int :=
  if ¬ e = 0 then (0, a, e) else if xs.length ≤ a then (0, a, 5) else if xs.length < a + cntB (xs.getD a 0) then (0, a, 5) else if szN (numV xs a).toNat = cntB (xs.getD a 0) then (numV xs a, a + cntB (xs.getD a 0), 0) else (0, a, 4)
theorem numR_at (xs : List UInt8) (a : Nat) (e : Int) (h : a ≤ xs.length) : (numR xs a e).2.1 ≤ xs.length := by
  unfold numR
  split
  · exact h
  split
  · exact h
  split
  · exact h
  split
  · simp only; omega
  · exact h
theorem rd_Number (n q N cp at' : Nat) (e : Int) (xs : List UInt8) (hx : xs.length = N) (hat : at' ≤ N) (hN : N ≤ cp) (hbig : N ≤ 1000000) : Meets Try.prog 82 [ptr n 0] [n] (fun W => BlkOk W (RB n q N cp at' e) ∧ Sees W q 0 (bytesV xs) ∧ q ≠ n)
    (fun v out => v = u64 (numR xs at' e).1 ∧ out = [RB n q N cp (numR xs at' e).2.1 (numR xs at' e).2.2]) := by
  unfold numR
  by_cases he : e = 0
  · subst he
    rw [if_neg (by simp)]
    by_cases h1 : xs.length ≤ at'
    · rw [if_pos h1]; exact rd_num_end n q N cp at' xs hx hat hN hbig (by omega)
    · rw [if_neg h1]
      by_cases h2 : xs.length < at' + cntB (xs.getD at' 0)
      · rw [if_pos h2]; exact rd_num_short n q N cp at' xs hx hat hN hbig (by omega) (by omega)
      · rw [if_neg h2]
        by_cases h3 : szN (numV xs at').toNat = cntB (xs.getD at' 0)
        · rw [if_pos h3]; exact rd_num_ok n q N cp at' xs hx hat hN hbig (by omega) h3
        · rw [if_neg h3]; exact rd_num_bad n q N cp at' xs hx hat hN hbig (by omega) h3
  · rw [if_pos he]; exact rd_num_err n q N cp at' e xs hx hat hN hbig he


set_option maxRecDepth 100000 in
set_option maxHeartbeats 2000000 in
theorem rd_dig_err (n q N cp at' : Nat) (e : Int) (xs : List UInt8) (hx : xs.length = N) (hat : at' ≤ N) (hN : N ≤ cp) (hbig : N ≤ 1000000) (he : ¬ e = 0) : Meets Try.prog 81 [ptr n 0] [n] (fun W => BlkOk W (RB n q N cp (at') (e)) ∧ Sees W q 0 (bytesV xs) ∧ q ≠ n) (fun v out => v = agg (bytesV (List.replicate 32 0)) ∧ out = [RB n q N cp (at') (e)]) := by
  intro W hW
  refine calls_of (hp0 := [RB n q N cp (at') (e)]) Try.func81 rfl 16 Try.ntmps81 rfl (HRep.one hW.1) ?_
  refine Sat.seq ?_
  -- region 0
  refine Sat.region ?_
  refine Tr.alloc (cs := (bytesV (List.replicate 32 0))) rfl Zr25 rfl ?_
  intro n2 hn2 hf2
  refine Tr.nil ?_
  refine at_n ?_
  refine Sat.seq ?_
  -- region 1
  refine Sat.region ?_
  refine Tr.move rfl rfl rfl ?_
  refine Tr.callL (L := [RB n q N cp (at') (e)]) rfl rfl rfl rfl rfl Body127 (rd_take_err n q N cp at' e 32 hat hN hbig he) (rem_there rem_here) (by intro m hm; exact ⟨_, List.mem_singleton.2 rfl, (List.mem_singleton.1 hm).symm⟩) (fun w h => own_blk h (by first | exact mem0 | exact mem1 | exact mem2 | exact mem3 | exact mem4 | exact mem5 | exact mem6 | exact mem7 | (repeat (first | exact List.mem_cons_self | refine List.mem_cons_of_mem _ ?_ | refine mem_seg ?_)))) ?_
  rintro v2 out2 ⟨rfl, rfl⟩
  refine Tr.move rfl rfl rfl ?_
  refine Tr.extract rfl rfl rfl rfl ?_
  refine Tr.extract rfl rfl rfl rfl ?_
  refine Tr.assign rfl rfl rfl ?_
  refine Tr.assign rfl rfl rfl ?_
  refine Tr.nil ?_
  refine at_n ?_
  refine Sat.seq ?_
  refine Sat.seq ?_
  -- region 2
  refine Sat.region ?_
  refine Tr.move rfl rfl rfl ?_
  refine Tr.not rfl rfl rfl ?_
  refine Tr.nil ?_
  refine at_n ?_
  refine Sat.cond_t rfl (rfl) ?_
  refine Sat.seq ?_
  -- region 3
  refine Sat.region ?_
  refine Tr.build (cs := bytesV (List.replicate 32 0)) rfl rfl rfl (fun w => by kernel_rfl) ?_
  first
    | refine Tr.storeAll rfl rfl rfl rfl (by first | exact bytesV_cell _ | simp [isCell]) Sz25 (by first | assumption | (simp [hx]; done) | (rw [bytesV, List.length_map]; assumption)) (by first | exact mem0 | exact mem1 | exact mem2 | exact mem3 | exact mem4 | exact mem5 | exact mem6 | exact mem7 | (repeat (first | exact List.mem_cons_self | refine List.mem_cons_of_mem _ ?_ | refine mem_seg ?_))) (by first | assumption | (simp [hx]; done) | (rw [bytesV, List.length_map]; assumption)) (by first | exact upd0 | exact upd1 | exact upd2 | exact upd3 | exact upd4 | exact upd5 | exact upd6 | exact upd7 | (repeat (first | exact upd0 | apply Upd.tail | apply Upd.seg))) ?_
    | refine Tr.storeN _ rfl rfl rfl rfl rfl (by first | exact bytesV_cell _ | simp [isCell]) Sz25 (by first | assumption | (simp [hx]; done) | (rw [bytesV, List.length_map]; assumption)) (by first | exact mem0 | exact mem1 | exact mem2 | exact mem3 | exact mem4 | exact mem5 | exact mem6 | exact mem7 | (repeat (first | exact List.mem_cons_self | refine List.mem_cons_of_mem _ ?_ | refine mem_seg ?_))) (by first | assumption | (simp [hx]; done) | (rw [bytesV, List.length_map]; assumption)) (by exact rfl) (by first | exact upd0 | exact upd1 | exact upd2 | exact upd3 | exact upd4 | exact upd5 | exact upd6 | exact upd7 | (repeat (first | exact upd0 | apply Upd.tail | apply Upd.seg))) ?_
  refine Tr.nil ?_
  refine at_n ?_
  refine Sat.ret ?_
  refine at_r ?_
  refine en_r ?_
  refine ⟨_, [RB n q N cp (at') (e)], res_cell rfl rfl Try.underlying25 rfl Sz25 (by first | exact mem0 | exact mem1 | exact mem2 | exact mem3 | exact mem4 | exact mem5 | exact mem6 | exact mem7 | (repeat (first | exact List.mem_cons_self | refine List.mem_cons_of_mem _ ?_ | refine mem_seg ?_))) (by simp), (by intro b hb; rw [List.mem_singleton.1 hb]; first | exact mem0 | exact mem1), nodup1, ?_⟩
  exact ⟨rfl, rfl⟩

set_option maxRecDepth 100000 in
set_option maxHeartbeats 2000000 in
theorem rd_dig_more (n q N cp at' : Nat) (xs : List UInt8) (hx : xs.length = N) (hat : at' ≤ N) (hN : N ≤ cp) (hbig : N ≤ 1000000) (hk : N < at' + 32) : Meets Try.prog 81 [ptr n 0] [n] (fun W => BlkOk W (RB n q N cp (at') (0)) ∧ Sees W q 0 (bytesV xs) ∧ q ≠ n) (fun v out => v = agg (bytesV (List.replicate 32 0)) ∧ out = [RB n q N cp (at') (5)]) := by
  intro W hW
  refine calls_of (hp0 := [RB n q N cp (at') (0)]) Try.func81 rfl 16 Try.ntmps81 rfl (HRep.one hW.1) ?_
  refine Sat.seq ?_
  -- region 0
  refine Sat.region ?_
  refine Tr.alloc (cs := (bytesV (List.replicate 32 0))) rfl Zr25 rfl ?_
  intro n2 hn2 hf2
  refine Tr.nil ?_
  refine at_n ?_
  refine Sat.seq ?_
  -- region 1
  refine Sat.region ?_
  refine Tr.move rfl rfl rfl ?_
  refine Tr.callL (L := [RB n q N cp (at') (0)]) rfl rfl rfl rfl rfl Body127 (rd_take_more n q N cp at' 32 hat hN hbig hk) (rem_there rem_here) (by intro m hm; exact ⟨_, List.mem_singleton.2 rfl, (List.mem_singleton.1 hm).symm⟩) (fun w h => own_blk h (by first | exact mem0 | exact mem1 | exact mem2 | exact mem3 | exact mem4 | exact mem5 | exact mem6 | exact mem7 | (repeat (first | exact List.mem_cons_self | refine List.mem_cons_of_mem _ ?_ | refine mem_seg ?_)))) ?_
  rintro v2 out2 ⟨rfl, rfl⟩
  refine Tr.move rfl rfl rfl ?_
  refine Tr.extract rfl rfl rfl rfl ?_
  refine Tr.extract rfl rfl rfl rfl ?_
  refine Tr.assign rfl rfl rfl ?_
  refine Tr.assign rfl rfl rfl ?_
  refine Tr.nil ?_
  refine at_n ?_
  refine Sat.seq ?_
  refine Sat.seq ?_
  -- region 2
  refine Sat.region ?_
  refine Tr.move rfl rfl rfl ?_
  refine Tr.not rfl rfl rfl ?_
  refine Tr.nil ?_
  refine at_n ?_
  refine Sat.cond_t rfl (rfl) ?_
  refine Sat.seq ?_
  -- region 3
  refine Sat.region ?_
  refine Tr.build (cs := bytesV (List.replicate 32 0)) rfl rfl rfl (fun w => by kernel_rfl) ?_
  first
    | refine Tr.storeAll rfl rfl rfl rfl (by first | exact bytesV_cell _ | simp [isCell]) Sz25 (by first | assumption | (simp [hx]; done) | (rw [bytesV, List.length_map]; assumption)) (by first | exact mem0 | exact mem1 | exact mem2 | exact mem3 | exact mem4 | exact mem5 | exact mem6 | exact mem7 | (repeat (first | exact List.mem_cons_self | refine List.mem_cons_of_mem _ ?_ | refine mem_seg ?_))) (by first | assumption | (simp [hx]; done) | (rw [bytesV, List.length_map]; assumption)) (by first | exact upd0 | exact upd1 | exact upd2 | exact upd3 | exact upd4 | exact upd5 | exact upd6 | exact upd7 | (repeat (first | exact upd0 | apply Upd.tail | apply Upd.seg))) ?_
    | refine Tr.storeN _ rfl rfl rfl rfl rfl (by first | exact bytesV_cell _ | simp [isCell]) Sz25 (by first | assumption | (simp [hx]; done) | (rw [bytesV, List.length_map]; assumption)) (by first | exact mem0 | exact mem1 | exact mem2 | exact mem3 | exact mem4 | exact mem5 | exact mem6 | exact mem7 | (repeat (first | exact List.mem_cons_self | refine List.mem_cons_of_mem _ ?_ | refine mem_seg ?_))) (by first | assumption | (simp [hx]; done) | (rw [bytesV, List.length_map]; assumption)) (by exact rfl) (by first | exact upd0 | exact upd1 | exact upd2 | exact upd3 | exact upd4 | exact upd5 | exact upd6 | exact upd7 | (repeat (first | exact upd0 | apply Upd.tail | apply Upd.seg))) ?_
  refine Tr.nil ?_
  refine at_n ?_
  refine Sat.ret ?_
  refine at_r ?_
  refine en_r ?_
  refine ⟨_, [RB n q N cp (at') (5)], res_cell rfl rfl Try.underlying25 rfl Sz25 (by first | exact mem0 | exact mem1 | exact mem2 | exact mem3 | exact mem4 | exact mem5 | exact mem6 | exact mem7 | (repeat (first | exact List.mem_cons_self | refine List.mem_cons_of_mem _ ?_ | refine mem_seg ?_))) (by simp), (by intro b hb; rw [List.mem_singleton.1 hb]; first | exact mem0 | exact mem1), nodup1, ?_⟩
  exact ⟨rfl, rfl⟩


theorem sees_cut {w : World} {q : Nat} {xs : List UInt8} (h : Sees w q 0 (bytesV xs)) (a k : Nat) : Sees w q a (bytesV ((xs.drop a).take k)) := fun j v hj => by
  simp only [bytesV, List.map_take, List.map_drop, List.getElem?_take] at hj
  split at hj
  · rw [List.getElem?_drop] at hj
    have := h (a + j) v hj
    rwa [Nat.zero_add] at this
  · cases hj


set_option maxRecDepth 100000 in
set_option maxHeartbeats 2000000 in
theorem rd_dig_ok (n q N cp at' : Nat) (xs : List UInt8) (hx : xs.length = N) (hat : at' ≤ N) (hN : N ≤ cp) (hbig : N ≤ 1000000) (hk : at' + 32 ≤ N) : Meets Try.prog 81 [ptr n 0] [n] (fun W => BlkOk W (RB n q N cp (at') (0)) ∧ Sees W q 0 (bytesV xs) ∧ q ≠ n) (fun v out => v = agg (bytesV ((xs.drop at').take 32)) ∧ out = [RB n q N cp (at' + 32) (0)]) := by
  intro W hW
  have hdl : ((xs.drop at').take 32).length = 32 := by simp; omega
  refine calls_of (hp0 := [RB n q N cp (at') (0)]) Try.func81 rfl 16 Try.ntmps81 rfl (HRep.one hW.1) ?_
  refine Sat.seq ?_
  -- region 0
  refine Sat.region ?_
  refine Tr.alloc (cs := (bytesV (List.replicate 32 0))) rfl Zr25 rfl ?_
  intro n2 hn2 hf2
  refine Tr.nil ?_
  refine at_n ?_
  refine Sat.seq ?_
  -- region 1
  refine Sat.region ?_
  refine Tr.move rfl rfl rfl ?_
  refine Tr.callL (L := [RB n q N cp (at') (0)]) rfl rfl rfl rfl rfl Body127 (rd_take_pos n q N cp at' 32 hN hbig hk (by decide)) (rem_there rem_here) (by intro m hm; exact ⟨_, List.mem_singleton.2 rfl, (List.mem_singleton.1 hm).symm⟩) (fun w h => own_blk h (by first | exact mem0 | exact mem1 | exact mem2 | exact mem3 | exact mem4 | exact mem5 | exact mem6 | exact mem7 | (repeat (first | exact List.mem_cons_self | refine List.mem_cons_of_mem _ ?_ | refine mem_seg ?_)))) ?_
  rintro v2 out2 ⟨rfl, rfl⟩
  refine Tr.move rfl rfl rfl ?_
  refine Tr.extract rfl rfl rfl rfl ?_
  refine Tr.extract rfl rfl rfl rfl ?_
  refine Tr.assign rfl rfl rfl ?_
  refine Tr.assign rfl rfl rfl ?_
  refine Tr.nil ?_
  refine at_n ?_
  refine Sat.seq ?_
  refine Sat.seq ?_
  -- region 2
  refine Sat.region ?_
  refine Tr.move rfl rfl rfl ?_
  refine Tr.not rfl rfl rfl ?_
  refine Tr.nil ?_
  refine at_n ?_
  refine Sat.cond_f rfl (rfl) ?_
  refine Sat.skip ?_
  refine at_n ?_
  refine Sat.seq ?_
  -- region 4
  refine Sat.region ?_
  refine Tr.move rfl rfl rfl ?_
  refine Tr.s2a rfl rfl rfl Try.underlying25 (by decide) ?_
  refine Tr.loadEN (bytesV ((xs.drop at').take 32)) rfl rfl rfl Try.underlying25 rfl Sz25 (by simp; exact hW.2.2) (by rw [bytesV, List.length_map]; exact hdl) (sees_cut hW.2.1 at' 32) ?_
  first
    | refine Tr.storeAll rfl rfl rfl rfl (by first | exact bytesV_cell _ | simp [isCell]) Sz25 (by first | assumption | (simp [hx]; done) | (rw [bytesV, List.length_map]; assumption)) (by first | exact mem0 | exact mem1 | exact mem2 | exact mem3 | exact mem4 | exact mem5 | exact mem6 | exact mem7 | (repeat (first | exact List.mem_cons_self | refine List.mem_cons_of_mem _ ?_ | refine mem_seg ?_))) (by first | assumption | (simp [hx]; done) | (rw [bytesV, List.length_map]; assumption)) (by first | exact upd0 | exact upd1 | exact upd2 | exact upd3 | exact upd4 | exact upd5 | exact upd6 | exact upd7 | (repeat (first | exact upd0 | apply Upd.tail | apply Upd.seg))) ?_
    | refine Tr.storeN _ rfl rfl rfl rfl rfl (by first | exact bytesV_cell _ | simp [isCell]) Sz25 (by first | assumption | (simp [hx]; done) | (rw [bytesV, List.length_map]; assumption)) (by first | exact mem0 | exact mem1 | exact mem2 | exact mem3 | exact mem4 | exact mem5 | exact mem6 | exact mem7 | (repeat (first | exact List.mem_cons_self | refine List.mem_cons_of_mem _ ?_ | refine mem_seg ?_))) (by first | assumption | (simp [hx]; done) | (rw [bytesV, List.length_map]; assumption)) (by exact rfl) (by first | exact upd0 | exact upd1 | exact upd2 | exact upd3 | exact upd4 | exact upd5 | exact upd6 | exact upd7 | (repeat (first | exact upd0 | apply Upd.tail | apply Upd.seg))) ?_
  refine Tr.nil ?_
  refine at_n ?_
  refine Sat.ret ?_
  refine en_r ?_
  refine ⟨_, [RB n q N cp (at' + 32) (0)], res_cell rfl rfl Try.underlying25 rfl Sz25 (by first | exact mem0 | exact mem1 | exact mem2 | exact mem3 | exact mem4 | exact mem5 | exact mem6 | exact mem7 | (repeat (first | exact List.mem_cons_self | refine List.mem_cons_of_mem _ ?_ | refine mem_seg ?_))) (by rw [bytesV, List.length_map]; exact hdl), (by intro b hb; rw [List.mem_singleton.1 hb]; first | exact mem0 | exact mem1), nodup1, ?_⟩
  exact ⟨rfl, rfl⟩


def digR (xs : List UInt8) (a : Nat) (e : Int) : List UInt8 × Nat × Int :=
  if ¬ e = 0 then (List.replicate 32 0, a, e) else if xs.length < a + 32 then (List.replicate 32 0, a, 5) else ((xs.drop a).take 32, a + 32, 0)
theorem digR_at (xs : List UInt8) (a : Nat) (e : Int) (h : a ≤ xs.length) : (digR xs a e).2.1 ≤ xs.length ∧ (digR xs a e).1.length = 32 := by
  unfold digR
  split
  · exact ⟨h, rfl⟩
  split
  · exact ⟨h, rfl⟩
  · exact ⟨by simp only; omega, by simp; omega⟩
theorem rd_Digest (n q N cp at' : Nat) (e : Int) (xs : List UInt8) (hx : xs.length = N) (hat : at' ≤ N) (hN : N ≤ cp) (hbig : N ≤ 1000000) : Meets Try.prog 81 [ptr n 0] [n] (fun W => BlkOk W (RB n q N cp at' e) ∧ Sees W q 0 (bytesV xs) ∧ q ≠ n)
    (fun v out => v = agg (bytesV (digR xs at' e).1) ∧ out = [RB n q N cp (digR xs at' e).2.1 (digR xs at' e).2.2]) := by
  unfold digR
  by_cases he : e = 0
  · subst he
    rw [if_neg (by simp)]
    by_cases h1 : xs.length < at' + 32
    · rw [if_pos h1]; exact rd_dig_more n q N cp at' xs hx hat hN hbig (by omega)
    · rw [if_neg h1]; exact rd_dig_ok n q N cp at' xs hx hat hN hbig (by omega)
  · rw [if_pos he]; exact rd_dig_err n q N cp at' e xs hx hat hN hbig he


end Go.Proofs.Ytejjamifnombhaa
