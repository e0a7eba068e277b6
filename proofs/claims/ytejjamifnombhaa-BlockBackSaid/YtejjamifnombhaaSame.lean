/- Contracts that compare blocks: slices.Equal, Same, and the kit package. Conditions: what the rows hold. -/
import Derived.Test.YtejjamifnombhaaBody
import Derived.Laws.Externs
namespace Go.Proofs.Ytejjamifnombhaa
open Go Hw
set_option linter.unusedVariables false
set_option linter.unusedSimpArgs false

set_option maxRecDepth 100000 in
set_option maxHeartbeats 1000000 in
theorem seq_eq (p q : Option Addr) (n c1 c2 : Nat) (xs bs : List (List UInt8)) (hra : ∀ l ∈ xs, l.length = 32) (hrb : ∀ l ∈ bs, l.length = 32) (ha : xs.length = n) (hb : bs.length = n) (hn : n ≤ 1000000) : Meets Try.prog 47 [.slice p n c1, .slice q n c2] [] (fun W => SeesP W p (flatB xs) ∧ SeesP W q (flatB bs)) (fun v out => v = .bool (decide (xs = bs)) ∧ out = []) := by
  intro W hW
  refine calls_of (hp0 := []) Try.func47 rfl 26 Try.ntmps47 rfl (HRep.nil _) ?_
  refine Sat.seq ?_
  -- region 0
  refine Sat.region ?_
  refine Tr.assign rfl rfl rfl ?_
  refine Tr.nil ?_
  refine at_n ?_
  refine Sat.seq ?_
  refine Sat.seq ?_
  -- region 1
  refine Sat.region ?_
  refine Tr.move rfl rfl rfl ?_
  refine Tr.lenSl rfl rfl rfl Try.underlying26 ?_
  refine Tr.move rfl rfl rfl ?_
  refine Tr.lenSl rfl rfl rfl Try.underlying26 ?_
  refine Tr.nei rfl rfl rfl rfl (show (!decide _) = false from congrArg not (decide_eq_true (rfl))) ?_
  refine Tr.nil ?_
  refine at_n ?_
  refine Sat.cond_f rfl (rfl) ?_
  refine Sat.skip ?_
  refine at_n ?_
  refine Sat.seq ?_
  refine Sat.seq ?_
  -- region 3
  refine Sat.region ?_
  refine Tr.move rfl rfl rfl ?_
  refine Tr.lenSl rfl rfl rfl Try.underlying26 ?_
  refine Tr.move rfl rfl rfl ?_
  refine Tr.nil ?_
  refine at_n ?_
  refine Sat.block ?_
  refine Sat.loop (ι := Nat) (fun k => ⟨[(0, .slice p n c1), (1, .slice q n c2), (12, i64 (n : Int)), (13, i64 (k : Int))], []⟩) (fun k => k ≤ n ∧ xs.take k = bs.take k) (fun k => n - k) (0) ?_ ?_ ?_
  · exact ⟨by omega, rfl⟩
  · exact weak_of (wk1 rfl (wk1 rfl (wk1 rfl (wk1 rfl wk0)))) wh0 (by repeat (first | exact ns_nil | refine ns_keep rfl ?_ | refine ns_skip ?_))
  ·
    rintro k ⟨hk, hg⟩
    refine Sat.seq ?_
    -- region 4
    refine Sat.region ?_
    refine Tr.lss rfl rfl rfl rfl rfl ?_
    refine Tr.nil ?_
    refine at_n ?_
    refine Sat.seq ?_
    first
      | refine Sat.condP rfl (fun hc1 => ?_) (fun hc1 => ?_)
      | refine Sat.condNP rfl (fun hc1 => ?_) (fun hc1 => ?_)
      | refine Sat.cond rfl (fun hc1 => ?_) (fun hc1 => ?_)
    ·
      have hk2 : k < n := by omega
      obtain ⟨b1, o1, hp1, hs1⟩ := hW.1.at (by rw [flatB_length hra]; omega)
      obtain ⟨b2, o2, hp2, hs2⟩ := hW.2.at (by rw [flatB_length hrb]; omega)
      have r1 : (xs.getD k []).length = 32 := getD_len hra (by omega)
      have r2 : (bs.getD k []).length = 32 := getD_len hrb (by omega)
      refine Sat.skip ?_
      refine at_n ?_
      refine Sat.seq ?_
      refine Sat.block ?_
      refine Sat.seq ?_
      -- region 5
      refine Sat.region ?_
      refine Tr.move rfl rfl rfl ?_
      refine Tr.assign rfl rfl rfl ?_
      refine Tr.nil ?_
      refine at_n ?_
      refine Sat.seq ?_
      -- region 6
      refine Sat.draw [(0, 0), (0, 1), (0, 2), (1, 3), (0, 4), (0, 5), (0, 6), (1, 7), (0, 8)] Mixed (by kernel_rfl) ?_
      refine Tr.move rfl rfl rfl ?_
      refine Tr.move rfl rfl rfl ?_
      refine Tr.idxSlP 32 rfl rfl rfl hp1 rfl Try.underlying26 Sz25 k rfl (by omega) ?_
      refine Tr.loadEN (bytesV (xs.getD k [])) rfl rfl rfl Try.underlying25 rfl Sz25 (by simp) (by rw [bytesV, List.length_map]; exact getD_len hra (by omega)) (sees_row hra hs1 (by omega)) ?_
      refine Tr.move rfl rfl rfl ?_
      refine Tr.move rfl rfl rfl ?_
      refine Tr.idxSlP 32 rfl rfl rfl hp2 rfl Try.underlying26 Sz25 k rfl (by omega) ?_
      refine Tr.loadEN (bytesV (bs.getD k [])) rfl rfl rfl Try.underlying25 rfl Sz25 (by simp) (by rw [bytesV, List.length_map]; exact getD_len hrb (by omega)) (sees_row hrb hs2 (by omega)) ?_
      refine Tr.neq_bytes rfl rfl rfl rfl Try.eqGuardType25 Try.underlying25 Try.underlying5 Sz5 (by first | assumption | (simp; done) | (rw [bytesV, List.length_map]; assumption)) (by first | assumption | (simp; done) | (rw [bytesV, List.length_map]; assumption)) rfl ?_
      refine Tr.nil ?_
      refine at_n ?_
      first
        | refine Sat.condP rfl (fun hc2 => ?_) (fun hc2 => ?_)
        | refine Sat.condNP rfl (fun hc2 => ?_) (fun hc2 => ?_)
        | refine Sat.cond rfl (fun hc2 => ?_) (fun hc2 => ?_)
      ·
        refine Sat.seq ?_
        -- region 7
        refine Sat.region ?_
        refine Tr.assign rfl rfl rfl ?_
        refine Tr.nil ?_
        refine at_n ?_
        refine Sat.ret ?_
        refine bl_r ?_
        refine at_r ?_
        refine at_r ?_
        refine bl_r ?_
        refine at_r ?_
        refine en_r ?_
        refine ⟨_, [], res_tmp rfl rfl, (by simp), (by simp), ?_, rfl⟩
        first
          | (rw [decide_eq_false (fun e => hc2 (by rw [e]))]; done)
          | (rw [List.take_of_length_le (by omega), List.take_of_length_le (by omega)] at hg; rw [decide_eq_true hg]; done)
      ·
        refine Sat.skip ?_
        refine bl_n ?_
        refine at_n ?_
        -- region 8
        refine Sat.region ?_
        refine Tr.add_i64 rfl rfl rfl rfl (by omega) ?_
        refine Tr.move rfl rfl rfl ?_
        refine Tr.nil ?_
        refine at_n ?_
        exact ⟨k + 1, ⟨by omega, take_step [] (by omega) (by omega) hg hc2⟩, by omega, weak_of (wk1 rfl (wk1 rfl (wk1 rfl (wk1 rfl wk0)))) wh0 (by repeat (first | exact ns_nil | refine ns_keep rfl ?_ | refine ns_skip ?_))⟩
    ·
      obtain rfl : k = n := by omega
      refine Sat.exit ?_
      refine at_x ?_
      refine at_x ?_
      refine bl_h ?_
      refine at_n ?_
      refine Sat.seq ?_
      -- region 9
      refine Sat.region ?_
      refine Tr.assign rfl rfl rfl ?_
      refine Tr.nil ?_
      refine at_n ?_
      refine Sat.ret ?_
      refine en_r ?_
      refine ⟨_, [], res_tmp rfl rfl, (by simp), (by simp), ?_, rfl⟩
      first
        | (rw [decide_eq_false (fun e => hc2 (by rw [e]))]; done)
        | (rw [List.take_of_length_le (by omega), List.take_of_length_le (by omega)] at hg; rw [decide_eq_true hg]; done)

set_option maxRecDepth 100000 in
set_option maxHeartbeats 1000000 in
theorem seq_ne (p q : Option Addr) (n m c1 c2 : Nat) (xs bs : List (List UInt8)) (hra : ∀ l ∈ xs, l.length = 32) (hrb : ∀ l ∈ bs, l.length = 32) (ha : xs.length = n) (hb : bs.length = m) (hn : n ≤ 1000000) (hnm : n ≠ m) : Meets Try.prog 47 [.slice p n c1, .slice q m c2] [] (fun W => SeesP W p (flatB xs) ∧ SeesP W q (flatB bs)) (fun v out => v = .bool (decide (xs = bs)) ∧ out = []) := by
  intro W hW
  refine calls_of (hp0 := []) Try.func47 rfl 26 Try.ntmps47 rfl (HRep.nil _) ?_
  refine Sat.seq ?_
  -- region 0
  refine Sat.region ?_
  refine Tr.assign rfl rfl rfl ?_
  refine Tr.nil ?_
  refine at_n ?_
  refine Sat.seq ?_
  refine Sat.seq ?_
  -- region 1
  refine Sat.region ?_
  refine Tr.move rfl rfl rfl ?_
  refine Tr.lenSl rfl rfl rfl Try.underlying26 ?_
  refine Tr.move rfl rfl rfl ?_
  refine Tr.lenSl rfl rfl rfl Try.underlying26 ?_
  refine Tr.nei rfl rfl rfl rfl (show (!decide _) = true from congrArg not (decide_eq_false (by omega))) ?_
  refine Tr.nil ?_
  refine at_n ?_
  refine Sat.cond_t rfl (rfl) ?_
  refine Sat.seq ?_
  -- region 2
  refine Sat.region ?_
  refine Tr.assign rfl rfl rfl ?_
  refine Tr.nil ?_
  refine at_n ?_
  refine Sat.ret ?_
  refine at_r ?_
  refine en_r ?_
  refine ⟨_, [], res_tmp rfl rfl, (by simp), (by simp), ?_, rfl⟩
  rw [decide_eq_false (fun e => hnm (by rw [← ha, ← hb, e]))]


theorem seq_any (p q : Option Addr) (n m c1 c2 : Nat) (xs ys : List (List UInt8)) (hx : ∀ l ∈ xs, l.length = 32) (hy : ∀ l ∈ ys, l.length = 32) (h1 : xs.length = n) (h2 : ys.length = m) (hn : n ≤ 1000000) :
    Meets Try.prog 47 [.slice p n c1, .slice q m c2] [] (fun W => SeesP W p (flatB xs) ∧ SeesP W q (flatB ys)) (fun v out => v = .bool (decide (xs = ys)) ∧ out = []) := by
  by_cases h : n = m
  · subst h; exact seq_eq p q n c1 c2 xs ys hx hy h1 h2 hn
  · exact seq_ne p q n m c1 c2 xs ys hx hy h1 h2 hn h

theorem digests_any2 (p q : Option Addr) (n m c1 c2 : Nat) (xs ys : List (List UInt8)) (hx : ∀ l ∈ xs, l.length = 32) (hy : ∀ l ∈ ys, l.length = 32) (h1 : xs.length = n) (h2 : ys.length = m) (hn : n ≤ 1000000) :
    Meets Try.prog 45 [.slice p n c1, .slice q m c2] [] (fun W => SeesP W p (flatB xs) ∧ SeesP W q (flatB ys)) (fun v out => v = .bool (decide (xs = ys)) ∧ out = []) := by
  by_cases h : n = m
  · subst h; exact digests_eq p q n c1 c2 xs ys hx hy h1 h2 hn
  · exact digests_ne p q n m c1 c2 xs ys hx hy h1 h2 hn h



def sameB (A B : Block) (la lb : List (List UInt8)) (da db : List UInt8) : Bool := decide (A.fWriter = B.fWriter) && (decide ((A.fSeq.toNat : Int) = (B.fSeq.toNat : Int)) && (decide (A.fPrev = B.fPrev) && (decide (la = lb) && (decide (da = db) && decide (A.fSig = B.fSig)))))


set_option maxRecDepth 100000 in
set_option maxHeartbeats 2000000 in
theorem kit_block (A B : Block) (hA : A.ok) (hB : B.ok) (la lb : List (List UInt8)) (da db : List UInt8) (hn : A.fLinks.n ≤ 1000000) : Meets Try.prog 13 [agg A.cells, agg B.cells] [] (fun W => (RowsAt W A.fLinks 32 la ∧ BytesAt W A.fData da) ∧ (RowsAt W B.fLinks 32 lb ∧ BytesAt W B.fData db)) (fun v out => v = .bool (sameB A B la lb da db) ∧ out = []) := by
  intro W hW
  refine calls_of (hp0 := []) Try.func13 rfl 47 Try.ntmps13 rfl (HRep.nil _) ?_
  refine Sat.seq ?_
  -- region 0
  refine Sat.region ?_
  refine Tr.boxA rfl rfl ?_
  intro n2 hn2 hf2
  refine Tr.boxA rfl rfl ?_
  intro n3 hn3 hf3
  refine Tr.assign rfl rfl rfl ?_
  refine Tr.nil ?_
  refine at_n ?_
  refine Sat.seq ?_
  -- region 1
  refine Sat.region ?_
  refine Tr.fld rfl rfl rfl Try.underlying31 rfl Sz23 (by decide) _ rfl ?_
  first
    | refine Tr.loadN (bytesV _) rfl rfl rfl Try.underlying23 rfl Sz23 (by first | exact mem0 | exact mem1 | exact mem2 | exact mem3 | exact mem4 | exact mem5 | exact mem6 | exact mem7 | (repeat (first | exact List.mem_cons_self | refine List.mem_cons_of_mem _ ?_ | refine mem_seg ?_))) (Block.row_fWriter (by first | assumption | (simp [hA.l_fWriter, hB.l_fWriter, hA.l_fPrev, hB.l_fPrev, hA.l_fSig, hB.l_fSig]; done) | exact Block.zero_ok | exact Vote.zero_ok | exact Reader.zero_ok )) (Block.rl_fWriter (by first | assumption | (simp [hA.l_fWriter, hB.l_fWriter, hA.l_fPrev, hB.l_fPrev, hA.l_fSig, hB.l_fSig]; done) | exact Block.zero_ok | exact Vote.zero_ok | exact Reader.zero_ok )) ?_
  refine Tr.fld rfl rfl rfl Try.underlying31 rfl Sz23 (by decide) _ rfl ?_
  first
    | refine Tr.loadN (bytesV _) rfl rfl rfl Try.underlying23 rfl Sz23 (by first | exact mem0 | exact mem1 | exact mem2 | exact mem3 | exact mem4 | exact mem5 | exact mem6 | exact mem7 | (repeat (first | exact List.mem_cons_self | refine List.mem_cons_of_mem _ ?_ | refine mem_seg ?_))) (Block.row_fWriter (by first | assumption | (simp [hA.l_fWriter, hB.l_fWriter, hA.l_fPrev, hB.l_fPrev, hA.l_fSig, hB.l_fSig]; done) | exact Block.zero_ok | exact Vote.zero_ok | exact Reader.zero_ok )) (Block.rl_fWriter (by first | assumption | (simp [hA.l_fWriter, hB.l_fWriter, hA.l_fPrev, hB.l_fPrev, hA.l_fSig, hB.l_fSig]; done) | exact Block.zero_ok | exact Vote.zero_ok | exact Reader.zero_ok )) ?_
  refine two (fun r hr k => Tr.eql_bytes rfl rfl rfl rfl Try.eqGuardType23 Try.underlying23 Try.underlying5 Sz5 (by first | assumption | (simp [hA.l_fWriter, hB.l_fWriter, hA.l_fPrev, hB.l_fPrev, hA.l_fSig, hB.l_fSig]; done) | (rw [bytesV, List.length_map]; assumption)) (by first | assumption | (simp [hA.l_fWriter, hB.l_fWriter, hA.l_fPrev, hB.l_fPrev, hA.l_fSig, hB.l_fSig]; done) | (rw [bytesV, List.length_map]; assumption)) hr k) (fun hs1_40 => ?_) (fun hs1_40 => ?_)
  ·
    first | have hs1_4 := of_decide_eq_true hs1_40 | have hs1_4 := of_decide_eq_false hs1_40 | have hs1_4 := nd_t hs1_40 | have hs1_4 := nd_f hs1_40 | have hs1_4 := hs1_40
    refine Tr.move rfl rfl rfl ?_
    refine Tr.fld rfl rfl rfl Try.underlying31 rfl Sz24 (by decide) _ rfl ?_
    refine Tr.load1 rfl rfl rfl Try.underlying24 rfl (by first | exact mem0 | exact mem1 | exact mem2 | exact mem3 | exact mem4 | exact mem5 | exact mem6 | exact mem7 | (repeat (first | exact List.mem_cons_self | refine List.mem_cons_of_mem _ ?_ | refine mem_seg ?_))) (by first | exact Block.get_fSeq (by first | assumption | (simp [hA.l_fWriter, hB.l_fWriter, hA.l_fPrev, hB.l_fPrev, hA.l_fSig, hB.l_fSig]; done) | exact Block.zero_ok | exact Vote.zero_ok | exact Reader.zero_ok ) | exact (by first | rfl | exact get_words (by first | omega | (simp [hA.l_fWriter, hB.l_fWriter, hA.l_fPrev, hB.l_fPrev, hA.l_fSig, hB.l_fSig]; done) | (simp [hA.l_fWriter, hB.l_fWriter, hA.l_fPrev, hB.l_fPrev, hA.l_fSig, hB.l_fSig]; omega)) | exact get_bytes (by first | omega | (simp [hA.l_fWriter, hB.l_fWriter, hA.l_fPrev, hB.l_fPrev, hA.l_fSig, hB.l_fSig]; done) | (simp [hA.l_fWriter, hB.l_fWriter, hA.l_fPrev, hB.l_fPrev, hA.l_fSig, hB.l_fSig]; omega)) | exact get_ints (by first | omega | (simp [hA.l_fWriter, hB.l_fWriter, hA.l_fPrev, hB.l_fPrev, hA.l_fSig, hB.l_fSig]; done) | (simp [hA.l_fWriter, hB.l_fWriter, hA.l_fPrev, hB.l_fPrev, hA.l_fSig, hB.l_fSig]; omega)))) ?_
    refine Tr.fld rfl rfl rfl Try.underlying31 rfl Sz24 (by decide) _ rfl ?_
    refine Tr.load1 rfl rfl rfl Try.underlying24 rfl (by first | exact mem0 | exact mem1 | exact mem2 | exact mem3 | exact mem4 | exact mem5 | exact mem6 | exact mem7 | (repeat (first | exact List.mem_cons_self | refine List.mem_cons_of_mem _ ?_ | refine mem_seg ?_))) (by first | exact Block.get_fSeq (by first | assumption | (simp [hA.l_fWriter, hB.l_fWriter, hA.l_fPrev, hB.l_fPrev, hA.l_fSig, hB.l_fSig]; done) | exact Block.zero_ok | exact Vote.zero_ok | exact Reader.zero_ok ) | exact (by first | rfl | exact get_words (by first | omega | (simp [hA.l_fWriter, hB.l_fWriter, hA.l_fPrev, hB.l_fPrev, hA.l_fSig, hB.l_fSig]; done) | (simp [hA.l_fWriter, hB.l_fWriter, hA.l_fPrev, hB.l_fPrev, hA.l_fSig, hB.l_fSig]; omega)) | exact get_bytes (by first | omega | (simp [hA.l_fWriter, hB.l_fWriter, hA.l_fPrev, hB.l_fPrev, hA.l_fSig, hB.l_fSig]; done) | (simp [hA.l_fWriter, hB.l_fWriter, hA.l_fPrev, hB.l_fPrev, hA.l_fSig, hB.l_fSig]; omega)) | exact get_ints (by first | omega | (simp [hA.l_fWriter, hB.l_fWriter, hA.l_fPrev, hB.l_fPrev, hA.l_fSig, hB.l_fSig]; done) | (simp [hA.l_fWriter, hB.l_fWriter, hA.l_fPrev, hB.l_fPrev, hA.l_fSig, hB.l_fSig]; omega)))) ?_
    refine two (fun r hr k => Tr.eqi rfl rfl rfl rfl hr k) (fun hs1_100 => ?_) (fun hs1_100 => ?_)
    ·
      first | have hs1_10 := of_decide_eq_true hs1_100 | have hs1_10 := of_decide_eq_false hs1_100 | have hs1_10 := nd_t hs1_100 | have hs1_10 := nd_f hs1_100 | have hs1_10 := hs1_100
      refine Tr.pick rfl rfl rfl rfl rfl rfl ?_
      refine Tr.move rfl rfl rfl ?_
      refine Tr.fld rfl rfl rfl Try.underlying31 rfl Sz25 (by decide) _ rfl ?_
      first
        | refine Tr.loadN (bytesV _) rfl rfl rfl Try.underlying25 rfl Sz25 (by first | exact mem0 | exact mem1 | exact mem2 | exact mem3 | exact mem4 | exact mem5 | exact mem6 | exact mem7 | (repeat (first | exact List.mem_cons_self | refine List.mem_cons_of_mem _ ?_ | refine mem_seg ?_))) (Block.row_fPrev (by first | assumption | (simp [hA.l_fWriter, hB.l_fWriter, hA.l_fPrev, hB.l_fPrev, hA.l_fSig, hB.l_fSig]; done) | exact Block.zero_ok | exact Vote.zero_ok | exact Reader.zero_ok )) (Block.rl_fPrev (by first | assumption | (simp [hA.l_fWriter, hB.l_fWriter, hA.l_fPrev, hB.l_fPrev, hA.l_fSig, hB.l_fSig]; done) | exact Block.zero_ok | exact Vote.zero_ok | exact Reader.zero_ok )) ?_
      refine Tr.fld rfl rfl rfl Try.underlying31 rfl Sz25 (by decide) _ rfl ?_
      first
        | refine Tr.loadN (bytesV _) rfl rfl rfl Try.underlying25 rfl Sz25 (by first | exact mem0 | exact mem1 | exact mem2 | exact mem3 | exact mem4 | exact mem5 | exact mem6 | exact mem7 | (repeat (first | exact List.mem_cons_self | refine List.mem_cons_of_mem _ ?_ | refine mem_seg ?_))) (Block.row_fPrev (by first | assumption | (simp [hA.l_fWriter, hB.l_fWriter, hA.l_fPrev, hB.l_fPrev, hA.l_fSig, hB.l_fSig]; done) | exact Block.zero_ok | exact Vote.zero_ok | exact Reader.zero_ok )) (Block.rl_fPrev (by first | assumption | (simp [hA.l_fWriter, hB.l_fWriter, hA.l_fPrev, hB.l_fPrev, hA.l_fSig, hB.l_fSig]; done) | exact Block.zero_ok | exact Vote.zero_ok | exact Reader.zero_ok )) ?_
      refine two (fun r hr k => Tr.eql_bytes rfl rfl rfl rfl Try.eqGuardType25 Try.underlying25 Try.underlying5 Sz5 (by first | assumption | (simp [hA.l_fWriter, hB.l_fWriter, hA.l_fPrev, hB.l_fPrev, hA.l_fSig, hB.l_fSig]; done) | (rw [bytesV, List.length_map]; assumption)) (by first | assumption | (simp [hA.l_fWriter, hB.l_fWriter, hA.l_fPrev, hB.l_fPrev, hA.l_fSig, hB.l_fSig]; done) | (rw [bytesV, List.length_map]; assumption)) hr k) (fun hs1_170 => ?_) (fun hs1_170 => ?_)
      ·
        first | have hs1_17 := of_decide_eq_true hs1_170 | have hs1_17 := of_decide_eq_false hs1_170 | have hs1_17 := nd_t hs1_170 | have hs1_17 := nd_f hs1_170 | have hs1_17 := hs1_170
        refine Tr.pick rfl rfl rfl rfl rfl rfl ?_
        refine Tr.move rfl rfl rfl ?_
        refine Tr.fld rfl rfl rfl Try.underlying31 rfl Sz26 (by decide) _ rfl ?_
        refine Tr.load1 rfl rfl rfl Try.underlying26 rfl (by first | exact mem0 | exact mem1 | exact mem2 | exact mem3 | exact mem4 | exact mem5 | exact mem6 | exact mem7 | (repeat (first | exact List.mem_cons_self | refine List.mem_cons_of_mem _ ?_ | refine mem_seg ?_))) (by first | exact Block.get_fLinks (by first | assumption | (simp [hA.l_fWriter, hB.l_fWriter, hA.l_fPrev, hB.l_fPrev, hA.l_fSig, hB.l_fSig]; done) | exact Block.zero_ok | exact Vote.zero_ok | exact Reader.zero_ok ) | exact (by first | rfl | exact get_words (by first | omega | (simp [hA.l_fWriter, hB.l_fWriter, hA.l_fPrev, hB.l_fPrev, hA.l_fSig, hB.l_fSig]; done) | (simp [hA.l_fWriter, hB.l_fWriter, hA.l_fPrev, hB.l_fPrev, hA.l_fSig, hB.l_fSig]; omega)) | exact get_bytes (by first | omega | (simp [hA.l_fWriter, hB.l_fWriter, hA.l_fPrev, hB.l_fPrev, hA.l_fSig, hB.l_fSig]; done) | (simp [hA.l_fWriter, hB.l_fWriter, hA.l_fPrev, hB.l_fPrev, hA.l_fSig, hB.l_fSig]; omega)) | exact get_ints (by first | omega | (simp [hA.l_fWriter, hB.l_fWriter, hA.l_fPrev, hB.l_fPrev, hA.l_fSig, hB.l_fSig]; done) | (simp [hA.l_fWriter, hB.l_fWriter, hA.l_fPrev, hB.l_fPrev, hA.l_fSig, hB.l_fSig]; omega)))) ?_
        refine Tr.fld rfl rfl rfl Try.underlying31 rfl Sz26 (by decide) _ rfl ?_
        refine Tr.load1 rfl rfl rfl Try.underlying26 rfl (by first | exact mem0 | exact mem1 | exact mem2 | exact mem3 | exact mem4 | exact mem5 | exact mem6 | exact mem7 | (repeat (first | exact List.mem_cons_self | refine List.mem_cons_of_mem _ ?_ | refine mem_seg ?_))) (by first | exact Block.get_fLinks (by first | assumption | (simp [hA.l_fWriter, hB.l_fWriter, hA.l_fPrev, hB.l_fPrev, hA.l_fSig, hB.l_fSig]; done) | exact Block.zero_ok | exact Vote.zero_ok | exact Reader.zero_ok ) | exact (by first | rfl | exact get_words (by first | omega | (simp [hA.l_fWriter, hB.l_fWriter, hA.l_fPrev, hB.l_fPrev, hA.l_fSig, hB.l_fSig]; done) | (simp [hA.l_fWriter, hB.l_fWriter, hA.l_fPrev, hB.l_fPrev, hA.l_fSig, hB.l_fSig]; omega)) | exact get_bytes (by first | omega | (simp [hA.l_fWriter, hB.l_fWriter, hA.l_fPrev, hB.l_fPrev, hA.l_fSig, hB.l_fSig]; done) | (simp [hA.l_fWriter, hB.l_fWriter, hA.l_fPrev, hB.l_fPrev, hA.l_fSig, hB.l_fSig]; omega)) | exact get_ints (by first | omega | (simp [hA.l_fWriter, hB.l_fWriter, hA.l_fPrev, hB.l_fPrev, hA.l_fSig, hB.l_fSig]; done) | (simp [hA.l_fWriter, hB.l_fWriter, hA.l_fPrev, hB.l_fPrev, hA.l_fSig, hB.l_fSig]; omega)))) ?_
        refine Tr.callB rfl rfl rfl rfl Body45 (digests_any2 _ _ _ _ _ _ la lb hW.1.1.row hW.2.1.row hW.1.1.len hW.2.1.len hn) (fun w h => ⟨seesP_ext h rfl hW.1.1.see, seesP_ext h rfl hW.2.1.see⟩) (fun hs1_240 => ?_) (fun hs1_240 => ?_)
        ·
          first | have hs1_24 := of_decide_eq_true hs1_240 | have hs1_24 := of_decide_eq_false hs1_240 | have hs1_24 := nd_t hs1_240 | have hs1_24 := nd_f hs1_240 | have hs1_24 := hs1_240
          refine Tr.pick rfl rfl rfl rfl rfl rfl ?_
          refine Tr.move rfl rfl rfl ?_
          refine Tr.fld rfl rfl rfl Try.underlying31 rfl Sz27 (by decide) _ rfl ?_
          refine Tr.load1 rfl rfl rfl Try.underlying27 rfl (by first | exact mem0 | exact mem1 | exact mem2 | exact mem3 | exact mem4 | exact mem5 | exact mem6 | exact mem7 | (repeat (first | exact List.mem_cons_self | refine List.mem_cons_of_mem _ ?_ | refine mem_seg ?_))) (by first | exact Block.get_fData (by first | assumption | (simp [hA.l_fWriter, hB.l_fWriter, hA.l_fPrev, hB.l_fPrev, hA.l_fSig, hB.l_fSig]; done) | exact Block.zero_ok | exact Vote.zero_ok | exact Reader.zero_ok ) | exact (by first | rfl | exact get_words (by first | omega | (simp [hA.l_fWriter, hB.l_fWriter, hA.l_fPrev, hB.l_fPrev, hA.l_fSig, hB.l_fSig]; done) | (simp [hA.l_fWriter, hB.l_fWriter, hA.l_fPrev, hB.l_fPrev, hA.l_fSig, hB.l_fSig]; omega)) | exact get_bytes (by first | omega | (simp [hA.l_fWriter, hB.l_fWriter, hA.l_fPrev, hB.l_fPrev, hA.l_fSig, hB.l_fSig]; done) | (simp [hA.l_fWriter, hB.l_fWriter, hA.l_fPrev, hB.l_fPrev, hA.l_fSig, hB.l_fSig]; omega)) | exact get_ints (by first | omega | (simp [hA.l_fWriter, hB.l_fWriter, hA.l_fPrev, hB.l_fPrev, hA.l_fSig, hB.l_fSig]; done) | (simp [hA.l_fWriter, hB.l_fWriter, hA.l_fPrev, hB.l_fPrev, hA.l_fSig, hB.l_fSig]; omega)))) ?_
          refine Tr.toStr rfl rfl rfl Try.underlying27 Try.underlying5 Try.underlying9 (fun w h => seesP_ext h rfl hW.1.2.see) hW.1.2.len ?_
          refine Tr.fld rfl rfl rfl Try.underlying31 rfl Sz27 (by decide) _ rfl ?_
          refine Tr.load1 rfl rfl rfl Try.underlying27 rfl (by first | exact mem0 | exact mem1 | exact mem2 | exact mem3 | exact mem4 | exact mem5 | exact mem6 | exact mem7 | (repeat (first | exact List.mem_cons_self | refine List.mem_cons_of_mem _ ?_ | refine mem_seg ?_))) (by first | exact Block.get_fData (by first | assumption | (simp [hA.l_fWriter, hB.l_fWriter, hA.l_fPrev, hB.l_fPrev, hA.l_fSig, hB.l_fSig]; done) | exact Block.zero_ok | exact Vote.zero_ok | exact Reader.zero_ok ) | exact (by first | rfl | exact get_words (by first | omega | (simp [hA.l_fWriter, hB.l_fWriter, hA.l_fPrev, hB.l_fPrev, hA.l_fSig, hB.l_fSig]; done) | (simp [hA.l_fWriter, hB.l_fWriter, hA.l_fPrev, hB.l_fPrev, hA.l_fSig, hB.l_fSig]; omega)) | exact get_bytes (by first | omega | (simp [hA.l_fWriter, hB.l_fWriter, hA.l_fPrev, hB.l_fPrev, hA.l_fSig, hB.l_fSig]; done) | (simp [hA.l_fWriter, hB.l_fWriter, hA.l_fPrev, hB.l_fPrev, hA.l_fSig, hB.l_fSig]; omega)) | exact get_ints (by first | omega | (simp [hA.l_fWriter, hB.l_fWriter, hA.l_fPrev, hB.l_fPrev, hA.l_fSig, hB.l_fSig]; done) | (simp [hA.l_fWriter, hB.l_fWriter, hA.l_fPrev, hB.l_fPrev, hA.l_fSig, hB.l_fSig]; omega)))) ?_
          refine Tr.toStr rfl rfl rfl Try.underlying27 Try.underlying5 Try.underlying9 (fun w h => seesP_ext h rfl hW.2.2.see) hW.2.2.len ?_
          refine two (fun r hr k => Tr.eql_str rfl rfl rfl rfl hr k) (fun hs1_330 => ?_) (fun hs1_330 => ?_)
          ·
            first | have hs1_33 := of_decide_eq_true hs1_330 | have hs1_33 := of_decide_eq_false hs1_330 | have hs1_33 := nd_t hs1_330 | have hs1_33 := nd_f hs1_330 | have hs1_33 := hs1_330
            refine Tr.pick rfl rfl rfl rfl rfl rfl ?_
            refine Tr.move rfl rfl rfl ?_
            refine Tr.fld rfl rfl rfl Try.underlying31 rfl Sz29 (by decide) _ rfl ?_
            first
              | refine Tr.loadN (bytesV _) rfl rfl rfl Try.underlying29 rfl Sz29 (by first | exact mem0 | exact mem1 | exact mem2 | exact mem3 | exact mem4 | exact mem5 | exact mem6 | exact mem7 | (repeat (first | exact List.mem_cons_self | refine List.mem_cons_of_mem _ ?_ | refine mem_seg ?_))) (Block.row_fSig (by first | assumption | (simp [hA.l_fWriter, hB.l_fWriter, hA.l_fPrev, hB.l_fPrev, hA.l_fSig, hB.l_fSig]; done) | exact Block.zero_ok | exact Vote.zero_ok | exact Reader.zero_ok )) (Block.rl_fSig (by first | assumption | (simp [hA.l_fWriter, hB.l_fWriter, hA.l_fPrev, hB.l_fPrev, hA.l_fSig, hB.l_fSig]; done) | exact Block.zero_ok | exact Vote.zero_ok | exact Reader.zero_ok )) ?_
            refine Tr.fld rfl rfl rfl Try.underlying31 rfl Sz29 (by decide) _ rfl ?_
            first
              | refine Tr.loadN (bytesV _) rfl rfl rfl Try.underlying29 rfl Sz29 (by first | exact mem0 | exact mem1 | exact mem2 | exact mem3 | exact mem4 | exact mem5 | exact mem6 | exact mem7 | (repeat (first | exact List.mem_cons_self | refine List.mem_cons_of_mem _ ?_ | refine mem_seg ?_))) (Block.row_fSig (by first | assumption | (simp [hA.l_fWriter, hB.l_fWriter, hA.l_fPrev, hB.l_fPrev, hA.l_fSig, hB.l_fSig]; done) | exact Block.zero_ok | exact Vote.zero_ok | exact Reader.zero_ok )) (Block.rl_fSig (by first | assumption | (simp [hA.l_fWriter, hB.l_fWriter, hA.l_fPrev, hB.l_fPrev, hA.l_fSig, hB.l_fSig]; done) | exact Block.zero_ok | exact Vote.zero_ok | exact Reader.zero_ok )) ?_
            refine Tr.eql_bytes rfl rfl rfl rfl Try.eqGuardType29 Try.underlying29 Try.underlying5 Sz5 (by first | assumption | (simp [hA.l_fWriter, hB.l_fWriter, hA.l_fPrev, hB.l_fPrev, hA.l_fSig, hB.l_fSig]; done) | (rw [bytesV, List.length_map]; assumption)) (by first | assumption | (simp [hA.l_fWriter, hB.l_fWriter, hA.l_fPrev, hB.l_fPrev, hA.l_fSig, hB.l_fSig]; done) | (rw [bytesV, List.length_map]; assumption)) rfl ?_
            refine Tr.pick rfl rfl rfl rfl rfl rfl ?_
            refine Tr.assign rfl rfl rfl ?_
            refine Tr.nil ?_
            refine at_n ?_
            refine Sat.ret ?_
            refine en_r ?_
            refine ⟨_, [], res_tmp rfl rfl, (by simp), (by simp), ?_, rfl⟩
            simp_all [sameB]
          ·
            first | have hs1_33 := of_decide_eq_true hs1_330 | have hs1_33 := of_decide_eq_false hs1_330 | have hs1_33 := nd_t hs1_330 | have hs1_33 := nd_f hs1_330 | have hs1_33 := hs1_330
            refine Tr.pick rfl rfl rfl rfl rfl rfl ?_
            refine Tr.move rfl rfl rfl ?_
            refine Tr.skp rfl rfl ?_
            refine Tr.skp rfl rfl ?_
            refine Tr.skp rfl rfl ?_
            refine Tr.skp rfl rfl ?_
            refine Tr.skp rfl rfl ?_
            refine Tr.pick rfl rfl rfl rfl rfl rfl ?_
            refine Tr.assign rfl rfl rfl ?_
            refine Tr.nil ?_
            refine at_n ?_
            refine Sat.ret ?_
            refine en_r ?_
            refine ⟨_, [], res_tmp rfl rfl, (by simp), (by simp), ?_, rfl⟩
            simp_all [sameB]
        ·
          first | have hs1_24 := of_decide_eq_true hs1_240 | have hs1_24 := of_decide_eq_false hs1_240 | have hs1_24 := nd_t hs1_240 | have hs1_24 := nd_f hs1_240 | have hs1_24 := hs1_240
          refine Tr.pick rfl rfl rfl rfl rfl rfl ?_
          refine Tr.move rfl rfl rfl ?_
          refine Tr.skp rfl rfl ?_
          refine Tr.skp rfl rfl ?_
          refine Tr.skp rfl rfl ?_
          refine Tr.skp rfl rfl ?_
          refine Tr.skp rfl rfl ?_
          refine Tr.skp rfl rfl ?_
          refine Tr.skp rfl rfl ?_
          refine Tr.pick rfl rfl rfl rfl rfl rfl ?_
          refine Tr.move rfl rfl rfl ?_
          refine Tr.skp rfl rfl ?_
          refine Tr.skp rfl rfl ?_
          refine Tr.skp rfl rfl ?_
          refine Tr.skp rfl rfl ?_
          refine Tr.skp rfl rfl ?_
          refine Tr.pick rfl rfl rfl rfl rfl rfl ?_
          refine Tr.assign rfl rfl rfl ?_
          refine Tr.nil ?_
          refine at_n ?_
          refine Sat.ret ?_
          refine en_r ?_
          refine ⟨_, [], res_tmp rfl rfl, (by simp), (by simp), ?_, rfl⟩
          simp_all [sameB]
      ·
        first | have hs1_17 := of_decide_eq_true hs1_170 | have hs1_17 := of_decide_eq_false hs1_170 | have hs1_17 := nd_t hs1_170 | have hs1_17 := nd_f hs1_170 | have hs1_17 := hs1_170
        refine Tr.pick rfl rfl rfl rfl rfl rfl ?_
        refine Tr.move rfl rfl rfl ?_
        refine Tr.skp rfl rfl ?_
        refine Tr.skp rfl rfl ?_
        refine Tr.skp rfl rfl ?_
        refine Tr.skp rfl rfl ?_
        refine Tr.skp rfl rfl ?_
        refine Tr.pick rfl rfl rfl rfl rfl rfl ?_
        refine Tr.move rfl rfl rfl ?_
        refine Tr.skp rfl rfl ?_
        refine Tr.skp rfl rfl ?_
        refine Tr.skp rfl rfl ?_
        refine Tr.skp rfl rfl ?_
        refine Tr.skp rfl rfl ?_
        refine Tr.skp rfl rfl ?_
        refine Tr.skp rfl rfl ?_
        refine Tr.pick rfl rfl rfl rfl rfl rfl ?_
        refine Tr.move rfl rfl rfl ?_
        refine Tr.skp rfl rfl ?_
        refine Tr.skp rfl rfl ?_
        refine Tr.skp rfl rfl ?_
        refine Tr.skp rfl rfl ?_
        refine Tr.skp rfl rfl ?_
        refine Tr.pick rfl rfl rfl rfl rfl rfl ?_
        refine Tr.assign rfl rfl rfl ?_
        refine Tr.nil ?_
        refine at_n ?_
        refine Sat.ret ?_
        refine en_r ?_
        refine ⟨_, [], res_tmp rfl rfl, (by simp), (by simp), ?_, rfl⟩
        simp_all [sameB]
    ·
      first | have hs1_10 := of_decide_eq_true hs1_100 | have hs1_10 := of_decide_eq_false hs1_100 | have hs1_10 := nd_t hs1_100 | have hs1_10 := nd_f hs1_100 | have hs1_10 := hs1_100
      refine Tr.pick rfl rfl rfl rfl rfl rfl ?_
      refine Tr.move rfl rfl rfl ?_
      refine Tr.skp rfl rfl ?_
      refine Tr.skp rfl rfl ?_
      refine Tr.skp rfl rfl ?_
      refine Tr.skp rfl rfl ?_
      refine Tr.skp rfl rfl ?_
      refine Tr.pick rfl rfl rfl rfl rfl rfl ?_
      refine Tr.move rfl rfl rfl ?_
      refine Tr.skp rfl rfl ?_
      refine Tr.skp rfl rfl ?_
      refine Tr.skp rfl rfl ?_
      refine Tr.skp rfl rfl ?_
      refine Tr.skp rfl rfl ?_
      refine Tr.pick rfl rfl rfl rfl rfl rfl ?_
      refine Tr.move rfl rfl rfl ?_
      refine Tr.skp rfl rfl ?_
      refine Tr.skp rfl rfl ?_
      refine Tr.skp rfl rfl ?_
      refine Tr.skp rfl rfl ?_
      refine Tr.skp rfl rfl ?_
      refine Tr.skp rfl rfl ?_
      refine Tr.skp rfl rfl ?_
      refine Tr.pick rfl rfl rfl rfl rfl rfl ?_
      refine Tr.move rfl rfl rfl ?_
      refine Tr.skp rfl rfl ?_
      refine Tr.skp rfl rfl ?_
      refine Tr.skp rfl rfl ?_
      refine Tr.skp rfl rfl ?_
      refine Tr.skp rfl rfl ?_
      refine Tr.pick rfl rfl rfl rfl rfl rfl ?_
      refine Tr.assign rfl rfl rfl ?_
      refine Tr.nil ?_
      refine at_n ?_
      refine Sat.ret ?_
      refine en_r ?_
      refine ⟨_, [], res_tmp rfl rfl, (by simp), (by simp), ?_, rfl⟩
      simp_all [sameB]
  ·
    first | have hs1_4 := of_decide_eq_true hs1_40 | have hs1_4 := of_decide_eq_false hs1_40 | have hs1_4 := nd_t hs1_40 | have hs1_4 := nd_f hs1_40 | have hs1_4 := hs1_40
    refine Tr.move rfl rfl rfl ?_
    refine Tr.skp rfl rfl ?_
    refine Tr.skp rfl rfl ?_
    refine Tr.skp rfl rfl ?_
    refine Tr.skp rfl rfl ?_
    refine Tr.skp rfl rfl ?_
    refine Tr.pick rfl rfl rfl rfl rfl rfl ?_
    refine Tr.move rfl rfl rfl ?_
    refine Tr.skp rfl rfl ?_
    refine Tr.skp rfl rfl ?_
    refine Tr.skp rfl rfl ?_
    refine Tr.skp rfl rfl ?_
    refine Tr.skp rfl rfl ?_
    refine Tr.pick rfl rfl rfl rfl rfl rfl ?_
    refine Tr.move rfl rfl rfl ?_
    refine Tr.skp rfl rfl ?_
    refine Tr.skp rfl rfl ?_
    refine Tr.skp rfl rfl ?_
    refine Tr.skp rfl rfl ?_
    refine Tr.skp rfl rfl ?_
    refine Tr.pick rfl rfl rfl rfl rfl rfl ?_
    refine Tr.move rfl rfl rfl ?_
    refine Tr.skp rfl rfl ?_
    refine Tr.skp rfl rfl ?_
    refine Tr.skp rfl rfl ?_
    refine Tr.skp rfl rfl ?_
    refine Tr.skp rfl rfl ?_
    refine Tr.skp rfl rfl ?_
    refine Tr.skp rfl rfl ?_
    refine Tr.pick rfl rfl rfl rfl rfl rfl ?_
    refine Tr.move rfl rfl rfl ?_
    refine Tr.skp rfl rfl ?_
    refine Tr.skp rfl rfl ?_
    refine Tr.skp rfl rfl ?_
    refine Tr.skp rfl rfl ?_
    refine Tr.skp rfl rfl ?_
    refine Tr.pick rfl rfl rfl rfl rfl rfl ?_
    refine Tr.assign rfl rfl rfl ?_
    refine Tr.nil ?_
    refine at_n ?_
    refine Sat.ret ?_
    refine en_r ?_
    refine ⟨_, [], res_tmp rfl rfl, (by simp), (by simp), ?_, rfl⟩
    simp_all [sameB]

set_option maxRecDepth 100000 in
set_option maxHeartbeats 2000000 in
theorem block_same (A B : Block) (hA : A.ok) (hB : B.ok) (la lb : List (List UInt8)) (da db : List UInt8) (hn : A.fLinks.n ≤ 1000000) : Meets Try.prog 15 [agg A.cells, agg B.cells] [] (fun W => (RowsAt W A.fLinks 32 la ∧ BytesAt W A.fData da) ∧ (RowsAt W B.fLinks 32 lb ∧ BytesAt W B.fData db)) (fun v out => v = .bool (sameB A B la lb da db) ∧ out = []) := by
  intro W hW
  refine calls_of (hp0 := []) Try.func15 rfl 45 Try.ntmps15 rfl (HRep.nil _) ?_
  refine Sat.seq ?_
  -- region 0
  refine Sat.region ?_
  refine Tr.boxA rfl rfl ?_
  intro n2 hn2 hf2
  refine Tr.boxA rfl rfl ?_
  intro n3 hn3 hf3
  refine Tr.assign rfl rfl rfl ?_
  refine Tr.nil ?_
  refine at_n ?_
  refine Sat.seq ?_
  -- region 1
  refine Sat.region ?_
  refine Tr.fld rfl rfl rfl Try.underlying31 rfl Sz23 (by decide) _ rfl ?_
  first
    | refine Tr.loadN (bytesV _) rfl rfl rfl Try.underlying23 rfl Sz23 (by first | exact mem0 | exact mem1 | exact mem2 | exact mem3 | exact mem4 | exact mem5 | exact mem6 | exact mem7 | (repeat (first | exact List.mem_cons_self | refine List.mem_cons_of_mem _ ?_ | refine mem_seg ?_))) (Block.row_fWriter (by first | assumption | (simp [hA.l_fWriter, hB.l_fWriter, hA.l_fPrev, hB.l_fPrev, hA.l_fSig, hB.l_fSig]; done) | exact Block.zero_ok | exact Vote.zero_ok | exact Reader.zero_ok )) (Block.rl_fWriter (by first | assumption | (simp [hA.l_fWriter, hB.l_fWriter, hA.l_fPrev, hB.l_fPrev, hA.l_fSig, hB.l_fSig]; done) | exact Block.zero_ok | exact Vote.zero_ok | exact Reader.zero_ok )) ?_
  refine Tr.fld rfl rfl rfl Try.underlying31 rfl Sz23 (by decide) _ rfl ?_
  first
    | refine Tr.loadN (bytesV _) rfl rfl rfl Try.underlying23 rfl Sz23 (by first | exact mem0 | exact mem1 | exact mem2 | exact mem3 | exact mem4 | exact mem5 | exact mem6 | exact mem7 | (repeat (first | exact List.mem_cons_self | refine List.mem_cons_of_mem _ ?_ | refine mem_seg ?_))) (Block.row_fWriter (by first | assumption | (simp [hA.l_fWriter, hB.l_fWriter, hA.l_fPrev, hB.l_fPrev, hA.l_fSig, hB.l_fSig]; done) | exact Block.zero_ok | exact Vote.zero_ok | exact Reader.zero_ok )) (Block.rl_fWriter (by first | assumption | (simp [hA.l_fWriter, hB.l_fWriter, hA.l_fPrev, hB.l_fPrev, hA.l_fSig, hB.l_fSig]; done) | exact Block.zero_ok | exact Vote.zero_ok | exact Reader.zero_ok )) ?_
  refine two (fun r hr k => Tr.eql_bytes rfl rfl rfl rfl Try.eqGuardType23 Try.underlying23 Try.underlying5 Sz5 (by first | assumption | (simp [hA.l_fWriter, hB.l_fWriter, hA.l_fPrev, hB.l_fPrev, hA.l_fSig, hB.l_fSig]; done) | (rw [bytesV, List.length_map]; assumption)) (by first | assumption | (simp [hA.l_fWriter, hB.l_fWriter, hA.l_fPrev, hB.l_fPrev, hA.l_fSig, hB.l_fSig]; done) | (rw [bytesV, List.length_map]; assumption)) hr k) (fun hs1_40 => ?_) (fun hs1_40 => ?_)
  ·
    first | have hs1_4 := of_decide_eq_true hs1_40 | have hs1_4 := of_decide_eq_false hs1_40 | have hs1_4 := nd_t hs1_40 | have hs1_4 := nd_f hs1_40 | have hs1_4 := hs1_40
    refine Tr.move rfl rfl rfl ?_
    refine Tr.fld rfl rfl rfl Try.underlying31 rfl Sz24 (by decide) _ rfl ?_
    refine Tr.load1 rfl rfl rfl Try.underlying24 rfl (by first | exact mem0 | exact mem1 | exact mem2 | exact mem3 | exact mem4 | exact mem5 | exact mem6 | exact mem7 | (repeat (first | exact List.mem_cons_self | refine List.mem_cons_of_mem _ ?_ | refine mem_seg ?_))) (by first | exact Block.get_fSeq (by first | assumption | (simp [hA.l_fWriter, hB.l_fWriter, hA.l_fPrev, hB.l_fPrev, hA.l_fSig, hB.l_fSig]; done) | exact Block.zero_ok | exact Vote.zero_ok | exact Reader.zero_ok ) | exact (by first | rfl | exact get_words (by first | omega | (simp [hA.l_fWriter, hB.l_fWriter, hA.l_fPrev, hB.l_fPrev, hA.l_fSig, hB.l_fSig]; done) | (simp [hA.l_fWriter, hB.l_fWriter, hA.l_fPrev, hB.l_fPrev, hA.l_fSig, hB.l_fSig]; omega)) | exact get_bytes (by first | omega | (simp [hA.l_fWriter, hB.l_fWriter, hA.l_fPrev, hB.l_fPrev, hA.l_fSig, hB.l_fSig]; done) | (simp [hA.l_fWriter, hB.l_fWriter, hA.l_fPrev, hB.l_fPrev, hA.l_fSig, hB.l_fSig]; omega)) | exact get_ints (by first | omega | (simp [hA.l_fWriter, hB.l_fWriter, hA.l_fPrev, hB.l_fPrev, hA.l_fSig, hB.l_fSig]; done) | (simp [hA.l_fWriter, hB.l_fWriter, hA.l_fPrev, hB.l_fPrev, hA.l_fSig, hB.l_fSig]; omega)))) ?_
    refine Tr.fld rfl rfl rfl Try.underlying31 rfl Sz24 (by decide) _ rfl ?_
    refine Tr.load1 rfl rfl rfl Try.underlying24 rfl (by first | exact mem0 | exact mem1 | exact mem2 | exact mem3 | exact mem4 | exact mem5 | exact mem6 | exact mem7 | (repeat (first | exact List.mem_cons_self | refine List.mem_cons_of_mem _ ?_ | refine mem_seg ?_))) (by first | exact Block.get_fSeq (by first | assumption | (simp [hA.l_fWriter, hB.l_fWriter, hA.l_fPrev, hB.l_fPrev, hA.l_fSig, hB.l_fSig]; done) | exact Block.zero_ok | exact Vote.zero_ok | exact Reader.zero_ok ) | exact (by first | rfl | exact get_words (by first | omega | (simp [hA.l_fWriter, hB.l_fWriter, hA.l_fPrev, hB.l_fPrev, hA.l_fSig, hB.l_fSig]; done) | (simp [hA.l_fWriter, hB.l_fWriter, hA.l_fPrev, hB.l_fPrev, hA.l_fSig, hB.l_fSig]; omega)) | exact get_bytes (by first | omega | (simp [hA.l_fWriter, hB.l_fWriter, hA.l_fPrev, hB.l_fPrev, hA.l_fSig, hB.l_fSig]; done) | (simp [hA.l_fWriter, hB.l_fWriter, hA.l_fPrev, hB.l_fPrev, hA.l_fSig, hB.l_fSig]; omega)) | exact get_ints (by first | omega | (simp [hA.l_fWriter, hB.l_fWriter, hA.l_fPrev, hB.l_fPrev, hA.l_fSig, hB.l_fSig]; done) | (simp [hA.l_fWriter, hB.l_fWriter, hA.l_fPrev, hB.l_fPrev, hA.l_fSig, hB.l_fSig]; omega)))) ?_
    refine two (fun r hr k => Tr.eqi rfl rfl rfl rfl hr k) (fun hs1_100 => ?_) (fun hs1_100 => ?_)
    ·
      first | have hs1_10 := of_decide_eq_true hs1_100 | have hs1_10 := of_decide_eq_false hs1_100 | have hs1_10 := nd_t hs1_100 | have hs1_10 := nd_f hs1_100 | have hs1_10 := hs1_100
      refine Tr.pick rfl rfl rfl rfl rfl rfl ?_
      refine Tr.move rfl rfl rfl ?_
      refine Tr.fld rfl rfl rfl Try.underlying31 rfl Sz25 (by decide) _ rfl ?_
      first
        | refine Tr.loadN (bytesV _) rfl rfl rfl Try.underlying25 rfl Sz25 (by first | exact mem0 | exact mem1 | exact mem2 | exact mem3 | exact mem4 | exact mem5 | exact mem6 | exact mem7 | (repeat (first | exact List.mem_cons_self | refine List.mem_cons_of_mem _ ?_ | refine mem_seg ?_))) (Block.row_fPrev (by first | assumption | (simp [hA.l_fWriter, hB.l_fWriter, hA.l_fPrev, hB.l_fPrev, hA.l_fSig, hB.l_fSig]; done) | exact Block.zero_ok | exact Vote.zero_ok | exact Reader.zero_ok )) (Block.rl_fPrev (by first | assumption | (simp [hA.l_fWriter, hB.l_fWriter, hA.l_fPrev, hB.l_fPrev, hA.l_fSig, hB.l_fSig]; done) | exact Block.zero_ok | exact Vote.zero_ok | exact Reader.zero_ok )) ?_
      refine Tr.fld rfl rfl rfl Try.underlying31 rfl Sz25 (by decide) _ rfl ?_
      first
        | refine Tr.loadN (bytesV _) rfl rfl rfl Try.underlying25 rfl Sz25 (by first | exact mem0 | exact mem1 | exact mem2 | exact mem3 | exact mem4 | exact mem5 | exact mem6 | exact mem7 | (repeat (first | exact List.mem_cons_self | refine List.mem_cons_of_mem _ ?_ | refine mem_seg ?_))) (Block.row_fPrev (by first | assumption | (simp [hA.l_fWriter, hB.l_fWriter, hA.l_fPrev, hB.l_fPrev, hA.l_fSig, hB.l_fSig]; done) | exact Block.zero_ok | exact Vote.zero_ok | exact Reader.zero_ok )) (Block.rl_fPrev (by first | assumption | (simp [hA.l_fWriter, hB.l_fWriter, hA.l_fPrev, hB.l_fPrev, hA.l_fSig, hB.l_fSig]; done) | exact Block.zero_ok | exact Vote.zero_ok | exact Reader.zero_ok )) ?_
      refine two (fun r hr k => Tr.eql_bytes rfl rfl rfl rfl Try.eqGuardType25 Try.underlying25 Try.underlying5 Sz5 (by first | assumption | (simp [hA.l_fWriter, hB.l_fWriter, hA.l_fPrev, hB.l_fPrev, hA.l_fSig, hB.l_fSig]; done) | (rw [bytesV, List.length_map]; assumption)) (by first | assumption | (simp [hA.l_fWriter, hB.l_fWriter, hA.l_fPrev, hB.l_fPrev, hA.l_fSig, hB.l_fSig]; done) | (rw [bytesV, List.length_map]; assumption)) hr k) (fun hs1_170 => ?_) (fun hs1_170 => ?_)
      ·
        first | have hs1_17 := of_decide_eq_true hs1_170 | have hs1_17 := of_decide_eq_false hs1_170 | have hs1_17 := nd_t hs1_170 | have hs1_17 := nd_f hs1_170 | have hs1_17 := hs1_170
        refine Tr.pick rfl rfl rfl rfl rfl rfl ?_
        refine Tr.move rfl rfl rfl ?_
        refine Tr.fld rfl rfl rfl Try.underlying31 rfl Sz29 (by decide) _ rfl ?_
        first
          | refine Tr.loadN (bytesV _) rfl rfl rfl Try.underlying29 rfl Sz29 (by first | exact mem0 | exact mem1 | exact mem2 | exact mem3 | exact mem4 | exact mem5 | exact mem6 | exact mem7 | (repeat (first | exact List.mem_cons_self | refine List.mem_cons_of_mem _ ?_ | refine mem_seg ?_))) (Block.row_fSig (by first | assumption | (simp [hA.l_fWriter, hB.l_fWriter, hA.l_fPrev, hB.l_fPrev, hA.l_fSig, hB.l_fSig]; done) | exact Block.zero_ok | exact Vote.zero_ok | exact Reader.zero_ok )) (Block.rl_fSig (by first | assumption | (simp [hA.l_fWriter, hB.l_fWriter, hA.l_fPrev, hB.l_fPrev, hA.l_fSig, hB.l_fSig]; done) | exact Block.zero_ok | exact Vote.zero_ok | exact Reader.zero_ok )) ?_
        refine Tr.fld rfl rfl rfl Try.underlying31 rfl Sz29 (by decide) _ rfl ?_
        first
          | refine Tr.loadN (bytesV _) rfl rfl rfl Try.underlying29 rfl Sz29 (by first | exact mem0 | exact mem1 | exact mem2 | exact mem3 | exact mem4 | exact mem5 | exact mem6 | exact mem7 | (repeat (first | exact List.mem_cons_self | refine List.mem_cons_of_mem _ ?_ | refine mem_seg ?_))) (Block.row_fSig (by first | assumption | (simp [hA.l_fWriter, hB.l_fWriter, hA.l_fPrev, hB.l_fPrev, hA.l_fSig, hB.l_fSig]; done) | exact Block.zero_ok | exact Vote.zero_ok | exact Reader.zero_ok )) (Block.rl_fSig (by first | assumption | (simp [hA.l_fWriter, hB.l_fWriter, hA.l_fPrev, hB.l_fPrev, hA.l_fSig, hB.l_fSig]; done) | exact Block.zero_ok | exact Vote.zero_ok | exact Reader.zero_ok )) ?_
        refine two (fun r hr k => Tr.eql_bytes rfl rfl rfl rfl Try.eqGuardType29 Try.underlying29 Try.underlying5 Sz5 (by first | assumption | (simp [hA.l_fWriter, hB.l_fWriter, hA.l_fPrev, hB.l_fPrev, hA.l_fSig, hB.l_fSig]; done) | (rw [bytesV, List.length_map]; assumption)) (by first | assumption | (simp [hA.l_fWriter, hB.l_fWriter, hA.l_fPrev, hB.l_fPrev, hA.l_fSig, hB.l_fSig]; done) | (rw [bytesV, List.length_map]; assumption)) hr k) (fun hs1_240 => ?_) (fun hs1_240 => ?_)
        ·
          first | have hs1_24 := of_decide_eq_true hs1_240 | have hs1_24 := of_decide_eq_false hs1_240 | have hs1_24 := nd_t hs1_240 | have hs1_24 := nd_f hs1_240 | have hs1_24 := hs1_240
          refine Tr.pick rfl rfl rfl rfl rfl rfl ?_
          refine Tr.move rfl rfl rfl ?_
          refine Tr.fld rfl rfl rfl Try.underlying31 rfl Sz26 (by decide) _ rfl ?_
          refine Tr.load1 rfl rfl rfl Try.underlying26 rfl (by first | exact mem0 | exact mem1 | exact mem2 | exact mem3 | exact mem4 | exact mem5 | exact mem6 | exact mem7 | (repeat (first | exact List.mem_cons_self | refine List.mem_cons_of_mem _ ?_ | refine mem_seg ?_))) (by first | exact Block.get_fLinks (by first | assumption | (simp [hA.l_fWriter, hB.l_fWriter, hA.l_fPrev, hB.l_fPrev, hA.l_fSig, hB.l_fSig]; done) | exact Block.zero_ok | exact Vote.zero_ok | exact Reader.zero_ok ) | exact (by first | rfl | exact get_words (by first | omega | (simp [hA.l_fWriter, hB.l_fWriter, hA.l_fPrev, hB.l_fPrev, hA.l_fSig, hB.l_fSig]; done) | (simp [hA.l_fWriter, hB.l_fWriter, hA.l_fPrev, hB.l_fPrev, hA.l_fSig, hB.l_fSig]; omega)) | exact get_bytes (by first | omega | (simp [hA.l_fWriter, hB.l_fWriter, hA.l_fPrev, hB.l_fPrev, hA.l_fSig, hB.l_fSig]; done) | (simp [hA.l_fWriter, hB.l_fWriter, hA.l_fPrev, hB.l_fPrev, hA.l_fSig, hB.l_fSig]; omega)) | exact get_ints (by first | omega | (simp [hA.l_fWriter, hB.l_fWriter, hA.l_fPrev, hB.l_fPrev, hA.l_fSig, hB.l_fSig]; done) | (simp [hA.l_fWriter, hB.l_fWriter, hA.l_fPrev, hB.l_fPrev, hA.l_fSig, hB.l_fSig]; omega)))) ?_
          refine Tr.fld rfl rfl rfl Try.underlying31 rfl Sz26 (by decide) _ rfl ?_
          refine Tr.load1 rfl rfl rfl Try.underlying26 rfl (by first | exact mem0 | exact mem1 | exact mem2 | exact mem3 | exact mem4 | exact mem5 | exact mem6 | exact mem7 | (repeat (first | exact List.mem_cons_self | refine List.mem_cons_of_mem _ ?_ | refine mem_seg ?_))) (by first | exact Block.get_fLinks (by first | assumption | (simp [hA.l_fWriter, hB.l_fWriter, hA.l_fPrev, hB.l_fPrev, hA.l_fSig, hB.l_fSig]; done) | exact Block.zero_ok | exact Vote.zero_ok | exact Reader.zero_ok ) | exact (by first | rfl | exact get_words (by first | omega | (simp [hA.l_fWriter, hB.l_fWriter, hA.l_fPrev, hB.l_fPrev, hA.l_fSig, hB.l_fSig]; done) | (simp [hA.l_fWriter, hB.l_fWriter, hA.l_fPrev, hB.l_fPrev, hA.l_fSig, hB.l_fSig]; omega)) | exact get_bytes (by first | omega | (simp [hA.l_fWriter, hB.l_fWriter, hA.l_fPrev, hB.l_fPrev, hA.l_fSig, hB.l_fSig]; done) | (simp [hA.l_fWriter, hB.l_fWriter, hA.l_fPrev, hB.l_fPrev, hA.l_fSig, hB.l_fSig]; omega)) | exact get_ints (by first | omega | (simp [hA.l_fWriter, hB.l_fWriter, hA.l_fPrev, hB.l_fPrev, hA.l_fSig, hB.l_fSig]; done) | (simp [hA.l_fWriter, hB.l_fWriter, hA.l_fPrev, hB.l_fPrev, hA.l_fSig, hB.l_fSig]; omega)))) ?_
          refine Tr.callB rfl rfl rfl rfl Body47 (seq_any _ _ _ _ _ _ la lb hW.1.1.row hW.2.1.row hW.1.1.len hW.2.1.len hn) (fun w h => ⟨seesP_ext h rfl hW.1.1.see, seesP_ext h rfl hW.2.1.see⟩) (fun hs1_310 => ?_) (fun hs1_310 => ?_)
          ·
            first | have hs1_31 := of_decide_eq_true hs1_310 | have hs1_31 := of_decide_eq_false hs1_310 | have hs1_31 := nd_t hs1_310 | have hs1_31 := nd_f hs1_310 | have hs1_31 := hs1_310
            refine Tr.pick rfl rfl rfl rfl rfl rfl ?_
            refine Tr.move rfl rfl rfl ?_
            refine Tr.fld rfl rfl rfl Try.underlying31 rfl Sz27 (by decide) _ rfl ?_
            refine Tr.load1 rfl rfl rfl Try.underlying27 rfl (by first | exact mem0 | exact mem1 | exact mem2 | exact mem3 | exact mem4 | exact mem5 | exact mem6 | exact mem7 | (repeat (first | exact List.mem_cons_self | refine List.mem_cons_of_mem _ ?_ | refine mem_seg ?_))) (by first | exact Block.get_fData (by first | assumption | (simp [hA.l_fWriter, hB.l_fWriter, hA.l_fPrev, hB.l_fPrev, hA.l_fSig, hB.l_fSig]; done) | exact Block.zero_ok | exact Vote.zero_ok | exact Reader.zero_ok ) | exact (by first | rfl | exact get_words (by first | omega | (simp [hA.l_fWriter, hB.l_fWriter, hA.l_fPrev, hB.l_fPrev, hA.l_fSig, hB.l_fSig]; done) | (simp [hA.l_fWriter, hB.l_fWriter, hA.l_fPrev, hB.l_fPrev, hA.l_fSig, hB.l_fSig]; omega)) | exact get_bytes (by first | omega | (simp [hA.l_fWriter, hB.l_fWriter, hA.l_fPrev, hB.l_fPrev, hA.l_fSig, hB.l_fSig]; done) | (simp [hA.l_fWriter, hB.l_fWriter, hA.l_fPrev, hB.l_fPrev, hA.l_fSig, hB.l_fSig]; omega)) | exact get_ints (by first | omega | (simp [hA.l_fWriter, hB.l_fWriter, hA.l_fPrev, hB.l_fPrev, hA.l_fSig, hB.l_fSig]; done) | (simp [hA.l_fWriter, hB.l_fWriter, hA.l_fPrev, hB.l_fPrev, hA.l_fSig, hB.l_fSig]; omega)))) ?_
            refine Tr.fld rfl rfl rfl Try.underlying31 rfl Sz27 (by decide) _ rfl ?_
            refine Tr.load1 rfl rfl rfl Try.underlying27 rfl (by first | exact mem0 | exact mem1 | exact mem2 | exact mem3 | exact mem4 | exact mem5 | exact mem6 | exact mem7 | (repeat (first | exact List.mem_cons_self | refine List.mem_cons_of_mem _ ?_ | refine mem_seg ?_))) (by first | exact Block.get_fData (by first | assumption | (simp [hA.l_fWriter, hB.l_fWriter, hA.l_fPrev, hB.l_fPrev, hA.l_fSig, hB.l_fSig]; done) | exact Block.zero_ok | exact Vote.zero_ok | exact Reader.zero_ok ) | exact (by first | rfl | exact get_words (by first | omega | (simp [hA.l_fWriter, hB.l_fWriter, hA.l_fPrev, hB.l_fPrev, hA.l_fSig, hB.l_fSig]; done) | (simp [hA.l_fWriter, hB.l_fWriter, hA.l_fPrev, hB.l_fPrev, hA.l_fSig, hB.l_fSig]; omega)) | exact get_bytes (by first | omega | (simp [hA.l_fWriter, hB.l_fWriter, hA.l_fPrev, hB.l_fPrev, hA.l_fSig, hB.l_fSig]; done) | (simp [hA.l_fWriter, hB.l_fWriter, hA.l_fPrev, hB.l_fPrev, hA.l_fSig, hB.l_fSig]; omega)) | exact get_ints (by first | omega | (simp [hA.l_fWriter, hB.l_fWriter, hA.l_fPrev, hB.l_fPrev, hA.l_fSig, hB.l_fSig]; done) | (simp [hA.l_fWriter, hB.l_fWriter, hA.l_fPrev, hB.l_fPrev, hA.l_fSig, hB.l_fSig]; omega)))) ?_
            refine Tr.callV rfl rfl rfl rfl Body48 (bytes_equal _ _ _ _ _ _ da db hW.1.2.len hW.2.2.len) (fun w h => ⟨seesP_ext h rfl hW.1.2.see, seesP_ext h rfl hW.2.2.see⟩) ?_
            refine Tr.pick rfl rfl rfl rfl rfl rfl ?_
            refine Tr.assign rfl rfl rfl ?_
            refine Tr.nil ?_
            refine at_n ?_
            refine Sat.ret ?_
            refine en_r ?_
            refine ⟨_, [], res_tmp rfl rfl, (by simp), (by simp), ?_, rfl⟩
            simp_all [sameB]
          ·
            first | have hs1_31 := of_decide_eq_true hs1_310 | have hs1_31 := of_decide_eq_false hs1_310 | have hs1_31 := nd_t hs1_310 | have hs1_31 := nd_f hs1_310 | have hs1_31 := hs1_310
            refine Tr.pick rfl rfl rfl rfl rfl rfl ?_
            refine Tr.move rfl rfl rfl ?_
            refine Tr.skp rfl rfl ?_
            refine Tr.skp rfl rfl ?_
            refine Tr.skp rfl rfl ?_
            refine Tr.skp rfl rfl ?_
            refine Tr.skp rfl rfl ?_
            refine Tr.pick rfl rfl rfl rfl rfl rfl ?_
            refine Tr.assign rfl rfl rfl ?_
            refine Tr.nil ?_
            refine at_n ?_
            refine Sat.ret ?_
            refine en_r ?_
            refine ⟨_, [], res_tmp rfl rfl, (by simp), (by simp), ?_, rfl⟩
            simp_all [sameB]
        ·
          first | have hs1_24 := of_decide_eq_true hs1_240 | have hs1_24 := of_decide_eq_false hs1_240 | have hs1_24 := nd_t hs1_240 | have hs1_24 := nd_f hs1_240 | have hs1_24 := hs1_240
          refine Tr.pick rfl rfl rfl rfl rfl rfl ?_
          refine Tr.move rfl rfl rfl ?_
          refine Tr.skp rfl rfl ?_
          refine Tr.skp rfl rfl ?_
          refine Tr.skp rfl rfl ?_
          refine Tr.skp rfl rfl ?_
          refine Tr.skp rfl rfl ?_
          refine Tr.pick rfl rfl rfl rfl rfl rfl ?_
          refine Tr.move rfl rfl rfl ?_
          refine Tr.skp rfl rfl ?_
          refine Tr.skp rfl rfl ?_
          refine Tr.skp rfl rfl ?_
          refine Tr.skp rfl rfl ?_
          refine Tr.skp rfl rfl ?_
          refine Tr.pick rfl rfl rfl rfl rfl rfl ?_
          refine Tr.assign rfl rfl rfl ?_
          refine Tr.nil ?_
          refine at_n ?_
          refine Sat.ret ?_
          refine en_r ?_
          refine ⟨_, [], res_tmp rfl rfl, (by simp), (by simp), ?_, rfl⟩
          simp_all [sameB]
      ·
        first | have hs1_17 := of_decide_eq_true hs1_170 | have hs1_17 := of_decide_eq_false hs1_170 | have hs1_17 := nd_t hs1_170 | have hs1_17 := nd_f hs1_170 | have hs1_17 := hs1_170
        refine Tr.pick rfl rfl rfl rfl rfl rfl ?_
        refine Tr.move rfl rfl rfl ?_
        refine Tr.skp rfl rfl ?_
        refine Tr.skp rfl rfl ?_
        refine Tr.skp rfl rfl ?_
        refine Tr.skp rfl rfl ?_
        refine Tr.skp rfl rfl ?_
        refine Tr.pick rfl rfl rfl rfl rfl rfl ?_
        refine Tr.move rfl rfl rfl ?_
        refine Tr.skp rfl rfl ?_
        refine Tr.skp rfl rfl ?_
        refine Tr.skp rfl rfl ?_
        refine Tr.skp rfl rfl ?_
        refine Tr.skp rfl rfl ?_
        refine Tr.pick rfl rfl rfl rfl rfl rfl ?_
        refine Tr.move rfl rfl rfl ?_
        refine Tr.skp rfl rfl ?_
        refine Tr.skp rfl rfl ?_
        refine Tr.skp rfl rfl ?_
        refine Tr.skp rfl rfl ?_
        refine Tr.skp rfl rfl ?_
        refine Tr.pick rfl rfl rfl rfl rfl rfl ?_
        refine Tr.assign rfl rfl rfl ?_
        refine Tr.nil ?_
        refine at_n ?_
        refine Sat.ret ?_
        refine en_r ?_
        refine ⟨_, [], res_tmp rfl rfl, (by simp), (by simp), ?_, rfl⟩
        simp_all [sameB]
    ·
      first | have hs1_10 := of_decide_eq_true hs1_100 | have hs1_10 := of_decide_eq_false hs1_100 | have hs1_10 := nd_t hs1_100 | have hs1_10 := nd_f hs1_100 | have hs1_10 := hs1_100
      refine Tr.pick rfl rfl rfl rfl rfl rfl ?_
      refine Tr.move rfl rfl rfl ?_
      refine Tr.skp rfl rfl ?_
      refine Tr.skp rfl rfl ?_
      refine Tr.skp rfl rfl ?_
      refine Tr.skp rfl rfl ?_
      refine Tr.skp rfl rfl ?_
      refine Tr.pick rfl rfl rfl rfl rfl rfl ?_
      refine Tr.move rfl rfl rfl ?_
      refine Tr.skp rfl rfl ?_
      refine Tr.skp rfl rfl ?_
      refine Tr.skp rfl rfl ?_
      refine Tr.skp rfl rfl ?_
      refine Tr.skp rfl rfl ?_
      refine Tr.pick rfl rfl rfl rfl rfl rfl ?_
      refine Tr.move rfl rfl rfl ?_
      refine Tr.skp rfl rfl ?_
      refine Tr.skp rfl rfl ?_
      refine Tr.skp rfl rfl ?_
      refine Tr.skp rfl rfl ?_
      refine Tr.skp rfl rfl ?_
      refine Tr.pick rfl rfl rfl rfl rfl rfl ?_
      refine Tr.move rfl rfl rfl ?_
      refine Tr.skp rfl rfl ?_
      refine Tr.skp rfl rfl ?_
      refine Tr.skp rfl rfl ?_
      refine Tr.skp rfl rfl ?_
      refine Tr.skp rfl rfl ?_
      refine Tr.pick rfl rfl rfl rfl rfl rfl ?_
      refine Tr.assign rfl rfl rfl ?_
      refine Tr.nil ?_
      refine at_n ?_
      refine Sat.ret ?_
      refine en_r ?_
      refine ⟨_, [], res_tmp rfl rfl, (by simp), (by simp), ?_, rfl⟩
      simp_all [sameB]
  ·
    first | have hs1_4 := of_decide_eq_true hs1_40 | have hs1_4 := of_decide_eq_false hs1_40 | have hs1_4 := nd_t hs1_40 | have hs1_4 := nd_f hs1_40 | have hs1_4 := hs1_40
    refine Tr.move rfl rfl rfl ?_
    refine Tr.skp rfl rfl ?_
    refine Tr.skp rfl rfl ?_
    refine Tr.skp rfl rfl ?_
    refine Tr.skp rfl rfl ?_
    refine Tr.skp rfl rfl ?_
    refine Tr.pick rfl rfl rfl rfl rfl rfl ?_
    refine Tr.move rfl rfl rfl ?_
    refine Tr.skp rfl rfl ?_
    refine Tr.skp rfl rfl ?_
    refine Tr.skp rfl rfl ?_
    refine Tr.skp rfl rfl ?_
    refine Tr.skp rfl rfl ?_
    refine Tr.pick rfl rfl rfl rfl rfl rfl ?_
    refine Tr.move rfl rfl rfl ?_
    refine Tr.skp rfl rfl ?_
    refine Tr.skp rfl rfl ?_
    refine Tr.skp rfl rfl ?_
    refine Tr.skp rfl rfl ?_
    refine Tr.skp rfl rfl ?_
    refine Tr.pick rfl rfl rfl rfl rfl rfl ?_
    refine Tr.move rfl rfl rfl ?_
    refine Tr.skp rfl rfl ?_
    refine Tr.skp rfl rfl ?_
    refine Tr.skp rfl rfl ?_
    refine Tr.skp rfl rfl ?_
    refine Tr.skp rfl rfl ?_
    refine Tr.pick rfl rfl rfl rfl rfl rfl ?_
    refine Tr.move rfl rfl rfl ?_
    refine Tr.skp rfl rfl ?_
    refine Tr.skp rfl rfl ?_
    refine Tr.skp rfl rfl ?_
    refine Tr.skp rfl rfl ?_
    refine Tr.skp rfl rfl ?_
    refine Tr.pick rfl rfl rfl rfl rfl rfl ?_
    refine Tr.assign rfl rfl rfl ?_
    refine Tr.nil ?_
    refine at_n ?_
    refine Sat.ret ?_
    refine en_r ?_
    refine ⟨_, [], res_tmp rfl rfl, (by simp), (by simp), ?_, rfl⟩
    simp_all [sameB]

end Go.Proofs.Ytejjamifnombhaa
