/- What the law BlockParents returns. Conditions: what the rows hold. -/
import Derived.Test.YtjeggfgbcafenaaBlock
import Derived.Laws.Externs
namespace Go.Proofs.Ytjeggfgbcafenaa
open Go Hw
set_option linter.unusedVariables false
set_option linter.unusedSimpArgs false


theorem digests_any (p q : Option Addr) (n m c1 c2 : Nat) (xs ys : List (List UInt8)) (hx : ∀ l ∈ xs, l.length = 32) (hy : ∀ l ∈ ys, l.length = 32) (h1 : xs.length = n) (h2 : ys.length = m) (hn : n ≤ 1000000) :
    Meets Try.prog 16 [.slice p n c1, .slice q m c2] [] (fun W => SeesP W p (flatB xs) ∧ SeesP W q (flatB ys)) (fun v out => v = .bool (decide (xs = ys)) ∧ out = []) := by
  by_cases h : n = m
  · subst h; exact digests_eq p q n c1 c2 xs ys hx hy h1 h2 hn
  · exact digests_ne p q n m c1 c2 xs ys hx hy h1 h2 hn h
theorem digests_same (p q : Option Addr) (n m c1 c2 : Nat) (xs ys : List (List UInt8)) (hx : ∀ l ∈ xs, l.length = 32) (hy : ∀ l ∈ ys, l.length = 32) (h1 : xs.length = n) (h2 : ys.length = m) (hn : n ≤ 1000000) (he : xs = ys) :
    Meets Try.prog 16 [.slice p n c1, .slice q m c2] [] (fun W => SeesP W p (flatB xs) ∧ SeesP W q (flatB ys)) (fun v out => v = .bool true ∧ out = []) := by
  have := digests_any p q n m c1 c2 xs ys hx hy h1 h2 hn
  rwa [decide_eq_true he] at this
theorem cmpB_rng' (a b : List UInt8) : -1 ≤ cmpB a b ∧ cmpB a b ≤ 1 := by rcases cmpB_cases a b with h | h | h <;> omega
theorem cmpB_want1 {a b : List UInt8} (h : (!(Op.bytesLess a b || a == b)) = true) : cmpB a b = 1 := by
  simp at h
  rcases cmpB_cases a b with e | e | e
  · rw [← cmpB_less, h.1] at e; cases e
  · exact absurd ((cmpB_zero a b).1 e) h.2
  · exact e
theorem cmpB_want0 {a b : List UInt8} (h : (!(Op.bytesLess a b || a == b)) = false) : (if Op.bytesLess a b = true then (-1 : Int) else 0) = cmpB a b := by
  by_cases hb : Op.bytesLess a b = true
  · rw [if_pos hb, (cmpB_less a b).1 hb]
  · rw [if_neg hb]
    simp [hb] at h
    exact ((cmpB_zero a b).2 h).symm
theorem check_parts {B : Block} {ls : List (List UInt8)} (h : bcheck B ls = 0) : bheadB B = false ∧ linksBad B.fPrev ls = false := by
  unfold bcheck at h
  by_cases h1 : bheadB B = true
  · rw [if_pos h1] at h; cases h
  · by_cases h2 : linksBad B.fPrev ls = true
    · rw [if_neg h1, if_pos h2] at h; cases h
    · exact ⟨by simpa using h1, by simpa using h2⟩
theorem links_lt {prev : List UInt8} {ls : List (List UInt8)} (h : linksBad prev ls = false) : ∀ i, i < ls.length → ls.getD i [] ≠ prev ∧ ∀ j, j < i → cmpB (ls.getD j []) (ls.getD i []) < 0 := by
  intro i
  have hb : ∀ i, i < ls.length → badAt prev ls i = false := fun i hi => by
    rw [linksBad, List.any_eq_false] at h
    simpa using h i (List.mem_range.2 hi)
  induction i with
  | zero => exact fun hi => ⟨by have := hb 0 hi; unfold badAt at this; simp only [Bool.or_eq_false_iff, decide_eq_false_iff_not] at this; exact this.2.1, fun j hj => by omega⟩
  | succ i ih =>
    intro hi
    have hb1 := hb (i + 1) hi
    unfold badAt at hb1
    simp only [Bool.or_eq_false_iff, decide_eq_false_iff_not, Bool.and_eq_false_iff, Nat.add_sub_cancel] at hb1
    have hs : cmpB (ls.getD i []) (ls.getD (i + 1) []) < 0 := by
      rcases hb1.2.2 with h | h
      · omega
      · omega
    refine ⟨hb1.2.1, fun j hj => ?_⟩
    rcases Nat.lt_or_ge j i with hji | hji
    · have := (ih (by omega)).2 j hji
      exact (cmpB_trans _ _ _ (by omega) (by omega)).2 (.inl this)
    · obtain rfl : j = i := by omega
      exact hs
theorem links_apart {prev : List UInt8} {ls : List (List UInt8)} (h : linksBad prev ls = false) {i j : Nat} (hi : i < ls.length) (hj : j < i) : ¬ ls.getD i [] = ls.getD j [] := fun e => by
  have := (links_lt h i hi).2 j hj
  rw [e, cmpB_self] at this
  omega
theorem prev_apart {prev : List UInt8} {ls : List (List UInt8)} (h : linksBad prev ls = false) {i j : Nat} (hi : i < (prev :: ls).length) (hj : j < i) : ¬ (prev :: ls).getD i [] = (prev :: ls).getD j [] := by
  obtain ⟨i, rfl⟩ : ∃ k, i = k + 1 := ⟨i - 1, by omega⟩
  simp only [List.length_cons] at hi
  rw [List.getD_cons_succ]
  cases j with
  | zero => rw [List.getD_cons_zero]; exact (links_lt h i (by omega)).1
  | succ j => rw [List.getD_cons_succ]; exact links_apart h (by omega) (by omega)
theorem parents_own_z (B : Block) (hB : B.ok) (ls : List (List UInt8)) (q1 c1 q2 c2 : Nat) (hn : B.fLinks.n ≤ 500000) (hs : (B.fSeq.toNat : Int) = 0) (h0 : 0 < B.fLinks.n) :
    Meets Try.prog 14 [agg (ownB B q1 c1 q2 c2).cells] [] (fun W => RowsAt W (ownB B q1 c1 q2 c2).fLinks 32 ls) (fun v out => FreshRow v out (flatB ls) 25 B.fLinks.n 32) := parents_0 (ownB B q1 c1 q2 c2) (ownB_ok hB q1 c1 q2 c2) ls hn hs h0
theorem parents_own_s (B : Block) (hB : B.ok) (ls : List (List UInt8)) (q1 c1 q2 c2 : Nat) (hn : B.fLinks.n ≤ 500000) (hs : ¬ (B.fSeq.toNat : Int) = 0) :
    Meets Try.prog 14 [agg (ownB B q1 c1 q2 c2).cells] [] (fun W => RowsAt W (ownB B q1 c1 q2 c2).fLinks 32 ls) (fun v out => FreshRow v out (flatB (B.fPrev :: ls)) 25 (1 + B.fLinks.n) 32) := parents_s (ownB B q1 c1 q2 c2) (ownB_ok hB q1 c1 q2 c2) ls hn hs
theorem own_rows {C : Cx} {hp : List Blk} {w : World} {q c n m : Nat} {T : TypeId} {k : Nat} {ls : List (List UInt8)} (h : HRep C hp w) (hb : (⟨q, flatB ls, T, k⟩ : Blk) ∈ hp) (hl : ls.length = n) (hr : ∀ l ∈ ls, l.length = m) (hc : n ≤ c) (hn : n ≤ 1000000) : RowsAt w ⟨some ⟨q, 0, none⟩, n, c⟩ m ls :=
  ⟨hl, hr, hc, SeesP.of (sees_own h hb), by simp only [maxLen]; omega, fun e => by cases e⟩


set_option maxRecDepth 100000 in
set_option maxHeartbeats 4000000 in
theorem law15_lives  : Meets Try.prog 10 [] [] (fun _ => True) (fun v out => v = .bool true ∧ out = []) := by
  intro W hW
  refine calls_of (hp0 := []) Try.func10 rfl 36 Try.ntmps10 rfl (HRep.nil _) ?_
  refine Sat.seq ?_
  -- region 0
  refine Sat.region ?_
  refine Tr.assign rfl rfl rfl ?_
  refine Tr.nil ?_
  refine at_n ?_
  refine Sat.seq ?_
  -- region 1
  refine Sat.region ?_
  refine Tr.build (cs := bytesV (1 :: List.replicate 31 0)) rfl rfl rfl (fun w => by kernel_rfl) ?_
  refine Tr.build (cs := bytesV (2 :: List.replicate 31 0)) rfl rfl rfl (fun w => by kernel_rfl) ?_
  refine Tr.alloc (cs := (bytesV (List.replicate 32 0))) rfl Zr25 rfl ?_
  intro n1 hn1 hf1
  refine Tr.alloc (cs := (bytesV (List.replicate 32 0))) rfl Zr25 rfl ?_
  intro n2 hn2 hf2
  first
    | refine Tr.storeAll rfl rfl rfl rfl (by simp [isCell]) Sz25 (by first | assumption | (simp; done) | (rw [bytesV, List.length_map]; assumption)) (by first | exact mem0 | exact mem1 | exact mem2 | exact mem3 | exact mem4 | exact mem5 | exact mem6 | exact mem7) (by first | assumption | (simp; done) | (rw [bytesV, List.length_map]; assumption)) (by first | exact upd0 | exact upd1 | exact upd2 | exact upd3 | exact upd4 | exact upd5 | exact upd6 | exact upd7) ?_
    | refine Tr.storeN _ rfl rfl rfl rfl rfl (by simp [isCell]) Sz25 (by first | assumption | (simp; done) | (rw [bytesV, List.length_map]; assumption)) (by first | exact mem0 | exact mem1 | exact mem2 | exact mem3 | exact mem4 | exact mem5 | exact mem6 | exact mem7) (by first | assumption | (simp; done) | (rw [bytesV, List.length_map]; assumption)) (by exact rfl) (by first | exact upd0 | exact upd1 | exact upd2 | exact upd3 | exact upd4 | exact upd5 | exact upd6 | exact upd7) ?_
  first
    | refine Tr.storeAll rfl rfl rfl rfl (by simp [isCell]) Sz25 (by first | assumption | (simp; done) | (rw [bytesV, List.length_map]; assumption)) (by first | exact mem0 | exact mem1 | exact mem2 | exact mem3 | exact mem4 | exact mem5 | exact mem6 | exact mem7) (by first | assumption | (simp; done) | (rw [bytesV, List.length_map]; assumption)) (by first | exact upd0 | exact upd1 | exact upd2 | exact upd3 | exact upd4 | exact upd5 | exact upd6 | exact upd7) ?_
    | refine Tr.storeN _ rfl rfl rfl rfl rfl (by simp [isCell]) Sz25 (by first | assumption | (simp; done) | (rw [bytesV, List.length_map]; assumption)) (by first | exact mem0 | exact mem1 | exact mem2 | exact mem3 | exact mem4 | exact mem5 | exact mem6 | exact mem7) (by first | assumption | (simp; done) | (rw [bytesV, List.length_map]; assumption)) (by exact rfl) (by first | exact upd0 | exact upd1 | exact upd2 | exact upd3 | exact upd4 | exact upd5 | exact upd6 | exact upd7) ?_
  refine Tr.nil ?_
  refine at_n ?_
  refine Sat.seq ?_
  -- region 2
  refine Sat.region ?_
  refine Tr.build (cs := (⟨List.replicate 32 0, 0, List.replicate 32 0, Sl.nil, Sl.nil, List.replicate 64 0⟩ : Block).cells) rfl rfl rfl (fun w => by kernel_rfl) ?_
  refine Tr.callV rfl rfl rfl rfl Body13 (block_check (⟨List.replicate 32 0, 0, List.replicate 32 0, Sl.nil, Sl.nil, List.replicate 64 0⟩ : Block) ⟨rfl, rfl, rfl⟩ []) (fun w h => ⟨rfl, by simp, Nat.le_refl _, SeesP.nil, by decide, fun _ => rfl⟩) ?_
  refine Tr.eqi rfl rfl rfl rfl (decide_eq_true (by rfl)) ?_
  refine Tr.move rfl rfl rfl ?_
  refine Tr.build (cs := (⟨List.replicate 32 0, 1, List.replicate 32 0, Sl.nil, Sl.nil, List.replicate 64 0⟩ : Block).cells) rfl rfl rfl (fun w => by kernel_rfl) ?_
  refine Tr.callV rfl rfl rfl rfl Body13 (block_check (⟨List.replicate 32 0, 1, List.replicate 32 0, Sl.nil, Sl.nil, List.replicate 64 0⟩ : Block) ⟨rfl, rfl, rfl⟩ []) (fun w h => ⟨rfl, by simp, Nat.le_refl _, SeesP.nil, by decide, fun _ => rfl⟩) ?_
  refine Tr.eqi rfl rfl rfl rfl (decide_eq_true (by rfl)) ?_
  refine Tr.pick rfl rfl rfl rfl rfl rfl ?_
  refine Tr.move rfl rfl rfl ?_
  refine Tr.build (cs := bytesV (List.replicate 32 0)) rfl rfl rfl (fun w => by kernel_rfl) ?_
  refine Tr.mkRow (z := agg (bytesV (List.replicate 32 0))) [agg (bytesV (List.replicate 32 0))] (flatB [(List.replicate 32 0)]) rfl rfl rfl Try.underlying26 Sz25 Zr25 rfl rfl (by intro v hv; simp at hv; rcases hv with rfl | rfl <;> rfl) (by decide) (by rfl) ?_
  intro q15
  refine Tr.build (cs := (⟨List.replicate 32 0, 0, List.replicate 32 0, ⟨some ⟨q15, 0, none⟩, 1, 1⟩, Sl.nil, List.replicate 64 0⟩ : Block).cells) rfl rfl rfl (fun w => by kernel_rfl) ?_
  refine Tr.callV rfl rfl rfl rfl Body13 (block_check (⟨List.replicate 32 0, 0, List.replicate 32 0, ⟨some ⟨q15, 0, none⟩, 1, 1⟩, Sl.nil, List.replicate 64 0⟩ : Block) ⟨rfl, rfl, rfl⟩ [(List.replicate 32 0)]) (fun w h => own_rows h mem0 rfl (by intro l hl; simp at hl; rcases hl with rfl | rfl <;> rfl) (by decide) (by decide)) ?_
  refine Tr.eqi rfl rfl rfl rfl (decide_eq_true (by rfl)) ?_
  refine Tr.pick rfl rfl rfl rfl rfl rfl ?_
  refine Tr.move rfl rfl rfl ?_
  first
    | refine Tr.loadAll rfl rfl rfl Try.underlying25 rfl Sz25 (by first | exact mem0 | exact mem1 | exact mem2 | exact mem3 | exact mem4 | exact mem5 | exact mem6 | exact mem7) (by first | assumption | (simp; done) | (rw [bytesV, List.length_map]; assumption)) ?_
    | refine Tr.loadN _ rfl rfl rfl Try.underlying25 rfl Sz25 (by first | exact mem0 | exact mem1 | exact mem2 | exact mem3 | exact mem4 | exact mem5 | exact mem6 | exact mem7) (by exact rfl) (by first | assumption | (simp; done) | (rw [bytesV, List.length_map]; assumption)) ?_
  first
    | refine Tr.loadAll rfl rfl rfl Try.underlying25 rfl Sz25 (by first | exact mem0 | exact mem1 | exact mem2 | exact mem3 | exact mem4 | exact mem5 | exact mem6 | exact mem7) (by first | assumption | (simp; done) | (rw [bytesV, List.length_map]; assumption)) ?_
    | refine Tr.loadN _ rfl rfl rfl Try.underlying25 rfl Sz25 (by first | exact mem0 | exact mem1 | exact mem2 | exact mem3 | exact mem4 | exact mem5 | exact mem6 | exact mem7) (by exact rfl) (by first | assumption | (simp; done) | (rw [bytesV, List.length_map]; assumption)) ?_
  refine Tr.mkRow (z := agg (bytesV (List.replicate 32 0))) [agg (bytesV (2 :: List.replicate 31 0)), agg (bytesV (1 :: List.replicate 31 0))] (flatB [(2 :: List.replicate 31 0), (1 :: List.replicate 31 0)]) rfl rfl rfl Try.underlying26 Sz25 Zr25 rfl rfl (by intro v hv; simp at hv; rcases hv with rfl | rfl <;> rfl) (by decide) (by rfl) ?_
  intro q23
  refine Tr.build (cs := (⟨List.replicate 32 0, 0, List.replicate 32 0, ⟨some ⟨q23, 0, none⟩, 2, 2⟩, Sl.nil, List.replicate 64 0⟩ : Block).cells) rfl rfl rfl (fun w => by kernel_rfl) ?_
  refine Tr.callV rfl rfl rfl rfl Body13 (block_check (⟨List.replicate 32 0, 0, List.replicate 32 0, ⟨some ⟨q23, 0, none⟩, 2, 2⟩, Sl.nil, List.replicate 64 0⟩ : Block) ⟨rfl, rfl, rfl⟩ [(2 :: List.replicate 31 0), (1 :: List.replicate 31 0)]) (fun w h => own_rows h mem0 rfl (by intro l hl; simp at hl; rcases hl with rfl | rfl <;> rfl) (by decide) (by decide)) ?_
  refine Tr.eqi rfl rfl rfl rfl (decide_eq_true (by rfl)) ?_
  refine Tr.pick rfl rfl rfl rfl rfl rfl ?_
  refine Tr.move rfl rfl rfl ?_
  first
    | refine Tr.loadAll rfl rfl rfl Try.underlying25 rfl Sz25 (by first | exact mem0 | exact mem1 | exact mem2 | exact mem3 | exact mem4 | exact mem5 | exact mem6 | exact mem7) (by first | assumption | (simp; done) | (rw [bytesV, List.length_map]; assumption)) ?_
    | refine Tr.loadN _ rfl rfl rfl Try.underlying25 rfl Sz25 (by first | exact mem0 | exact mem1 | exact mem2 | exact mem3 | exact mem4 | exact mem5 | exact mem6 | exact mem7) (by exact rfl) (by first | assumption | (simp; done) | (rw [bytesV, List.length_map]; assumption)) ?_
  first
    | refine Tr.loadAll rfl rfl rfl Try.underlying25 rfl Sz25 (by first | exact mem0 | exact mem1 | exact mem2 | exact mem3 | exact mem4 | exact mem5 | exact mem6 | exact mem7) (by first | assumption | (simp; done) | (rw [bytesV, List.length_map]; assumption)) ?_
    | refine Tr.loadN _ rfl rfl rfl Try.underlying25 rfl Sz25 (by first | exact mem0 | exact mem1 | exact mem2 | exact mem3 | exact mem4 | exact mem5 | exact mem6 | exact mem7) (by exact rfl) (by first | assumption | (simp; done) | (rw [bytesV, List.length_map]; assumption)) ?_
  refine Tr.mkRow (z := agg (bytesV (List.replicate 32 0))) [agg (bytesV (1 :: List.replicate 31 0)), agg (bytesV (2 :: List.replicate 31 0))] (flatB [(1 :: List.replicate 31 0), (2 :: List.replicate 31 0)]) rfl rfl rfl Try.underlying26 Sz25 Zr25 rfl rfl (by intro v hv; simp at hv; rcases hv with rfl | rfl <;> rfl) (by decide) (by rfl) ?_
  intro q31
  refine Tr.build (cs := (⟨List.replicate 32 0, 0, List.replicate 32 0, ⟨some ⟨q31, 0, none⟩, 2, 2⟩, Sl.nil, List.replicate 64 0⟩ : Block).cells) rfl rfl rfl (fun w => by kernel_rfl) ?_
  refine Tr.callV rfl rfl rfl rfl Body13 (block_check (⟨List.replicate 32 0, 0, List.replicate 32 0, ⟨some ⟨q31, 0, none⟩, 2, 2⟩, Sl.nil, List.replicate 64 0⟩ : Block) ⟨rfl, rfl, rfl⟩ [(1 :: List.replicate 31 0), (2 :: List.replicate 31 0)]) (fun w h => own_rows h mem0 rfl (by intro l hl; simp at hl; rcases hl with rfl | rfl <;> rfl) (by decide) (by decide)) ?_
  refine Tr.eqi rfl rfl rfl rfl (decide_eq_true (by rfl)) ?_
  refine Tr.pick rfl rfl rfl rfl rfl rfl ?_
  refine Tr.assign rfl rfl rfl ?_
  refine Tr.nil ?_
  refine at_n ?_
  refine Sat.ret ?_
  refine en_r ?_
  refine ⟨_, [], res_tmp rfl rfl, (by simp), (by simp), ?_, rfl⟩
  rfl

set_option maxRecDepth 100000 in
set_option maxHeartbeats 4000000 in
theorem law_parents_nil (B : Block) (hB : B.ok) (ls : List (List UInt8)) (ld : List UInt8) (x y z : List UInt8) (hx : x.length = 32) (hy : y.length = 32) (hz : z.length = 32) (hs : (B.fSeq.toNat : Int) = 0) (h0 : B.fLinks.n = 0) : Meets Try.prog 3 [agg B.cells, agg (bytesV x), agg (bytesV y), agg (bytesV z)] [] (fun W => RowsAt W B.fLinks 32 ls ∧ BytesAt W B.fData ld) (fun v out => v = .bool true ∧ out = []) := by
  intro W hW
  have hD := hW.2
  replace hW := hW.1
  have hwl := hW.len
  have hxy := cmpB_rng' x y
  have hyx := cmpB_rng' y x
  have hrp : ∀ l ∈ B.fPrev :: ls, l.length = 32 := by
    intro l hl
    rcases List.mem_cons.1 hl with rfl | hl
    · exact hB.l_fPrev
    · exact hW.row l hl
  refine calls_of (hp0 := []) Try.func3 rfl 119 Try.ntmps3 rfl (HRep.nil _) ?_
  refine Sat.seq ?_
  -- region 0
  refine Sat.region ?_
  refine Tr.boxA rfl rfl ?_
  intro n4 hn4 hf4
  refine Tr.boxA rfl rfl ?_
  intro n5 hn5 hf5
  refine Tr.boxA rfl rfl ?_
  intro n6 hn6 hf6
  refine Tr.boxA rfl rfl ?_
  intro n7 hn7 hf7
  refine Tr.assign rfl rfl rfl ?_
  refine Tr.nil ?_
  refine at_n ?_
  refine Sat.seq ?_
  refine Sat.seq ?_
  -- region 1
  refine Sat.region ?_
  refine Tr.callV rfl rfl rfl rfl Body10 (law15_lives) (fun _ _ => trivial) ?_
  refine Tr.not rfl rfl rfl ?_
  refine Tr.nil ?_
  refine at_n ?_
  refine Sat.cond_f rfl (rfl) ?_
  refine Sat.skip ?_
  refine at_n ?_
  refine Sat.seq ?_
  refine Sat.seq ?_
  -- region 3
  refine Sat.region ?_
  refine Tr.loadAll rfl rfl rfl Try.underlying31 rfl Sz31 (by first | exact mem0 | exact mem1 | exact mem2 | exact mem3 | exact mem4 | exact mem5 | exact mem6 | exact mem7) (Block.length (by first | assumption | (simp [hx, hy, hz, hB.l_fPrev]; done) | exact Block.zero_ok | exact Vote.zero_ok )) ?_
  refine Tr.mkRow (z := agg Block.zero.cells) [agg B.cells] ([B].map Block.cells).flatten rfl rfl rfl Try.underlying34 Sz31 Block.zr rfl rfl (by intro v hv; rw [List.mem_singleton.1 hv]; simp [Value.cells, Block.length hB]) (by decide) (by simp [Value.cells]) ?_
  intro q17
  refine Tr.callB rfl rfl rfl rfl Body11 (light_blocks q17 0 1 1 [B] (by intro b hb; rw [List.mem_singleton.1 hb]; exact hB) rfl (by decide) 1) (fun w h => sees_own h mem0) (fun hs3_20 => ?_) (fun hs3_20 => ?_)
  ·
    first | have hs3_2 := of_decide_eq_true hs3_20 | have hs3_2 := of_decide_eq_false hs3_20 | have hs3_2 := nd_t hs3_20 | have hs3_2 := nd_f hs3_20 | have hs3_2 := hs3_20
    have hl40 : B.fLinks.n ≤ 40 ∧ B.fData.n ≤ 2000 := by simp [lightB] at hs3_2; omega
    refine Tr.not rfl rfl rfl ?_
    refine Tr.nil ?_
    refine at_n ?_
    refine Sat.cond_f rfl rfl ?_
    refine Sat.skip ?_
    refine at_n ?_
    refine Sat.seq ?_
    -- region 5
    refine Sat.region ?_
    refine Tr.assign rfl rfl rfl ?_
    refine Tr.nil ?_
    refine at_n ?_
    refine Sat.join (ι := Unit) (fun _u => ⟨[(4, ptr n4 0), (5, ptr n5 0), (6, ptr n6 0), (7, ptr n7 0), (9, i64 (if Op.bytesLess x y = true then -1 else 0))], [⟨n7, bytesV z, 25, (bytesV z).length⟩, ⟨n6, bytesV y, 25, (bytesV y).length⟩, ⟨n5, bytesV x, 25, (bytesV x).length⟩, ⟨n4, B.cells, 31, B.cells.length⟩]⟩) (fun _u => True) ?_ ?_
    ·
      refine Sat.seq ?_
      -- region 6
      refine Sat.draw [(0, 0), (1, 1), (0, 2), (1, 3), (0, 4)] Mixed (by kernel_rfl) ?_
      refine Tr.sliceArr rfl rfl rfl Try.underlying25 Sz5 ?_
      refine Tr.toStr rfl rfl rfl Try.underlying27 Try.underlying5 Try.underlying9 (fun w h => SeesP.of (sees_own h (by first | exact mem0 | exact mem1 | exact mem2 | exact mem3 | exact mem4 | exact mem5 | exact mem6 | exact mem7))) (by simp [hx, hy, hz, hB.l_fPrev]) ?_
      refine Tr.sliceArr rfl rfl rfl Try.underlying25 Sz5 ?_
      refine Tr.toStr rfl rfl rfl Try.underlying27 Try.underlying5 Try.underlying9 (fun w h => SeesP.of (sees_own h (by first | exact mem0 | exact mem1 | exact mem2 | exact mem3 | exact mem4 | exact mem5 | exact mem6 | exact mem7))) (by simp [hx, hy, hz, hB.l_fPrev]) ?_
      refine Tr.lss_str rfl rfl rfl rfl rfl ?_
      refine Tr.nil ?_
      refine at_n ?_
      refine Sat.cond rfl (fun hc2 => ?_) (fun hc2 => ?_)
      ·
        -- region 7
        refine Sat.region ?_
        refine Tr.assign rfl rfl rfl ?_
        refine Tr.nil ?_
        refine at_n ?_
        refine ⟨(), trivial, weak_of (wk1 rfl (wk1 rfl (wk1 rfl (wk1 rfl (wk1 (by first | (rw [if_pos hc2]; rfl) | (rw [if_neg (by rw [hc2]; decide)]; rfl)) wk0))))) (wh1 (by first | exact mem0 | exact mem1 | exact mem2 | exact mem3 | exact mem4 | exact mem5 | exact mem6 | exact mem7) (wh1 (by first | exact mem0 | exact mem1 | exact mem2 | exact mem3 | exact mem4 | exact mem5 | exact mem6 | exact mem7) (wh1 (by first | exact mem0 | exact mem1 | exact mem2 | exact mem3 | exact mem4 | exact mem5 | exact mem6 | exact mem7) (wh1 (by first | exact mem0 | exact mem1 | exact mem2 | exact mem3 | exact mem4 | exact mem5 | exact mem6 | exact mem7) wh0)))) (by repeat (first | exact ns_nil | refine ns_keep rfl ?_ | refine ns_skip ?_))⟩
      ·
        refine Sat.skip ?_
        refine at_n ?_
        refine ⟨(), trivial, weak_of (wk1 rfl (wk1 rfl (wk1 rfl (wk1 rfl (wk1 (by first | (rw [if_pos hc2]; rfl) | (rw [if_neg (by rw [hc2]; decide)]; rfl)) wk0))))) (wh1 (by first | exact mem0 | exact mem1 | exact mem2 | exact mem3 | exact mem4 | exact mem5 | exact mem6 | exact mem7) (wh1 (by first | exact mem0 | exact mem1 | exact mem2 | exact mem3 | exact mem4 | exact mem5 | exact mem6 | exact mem7) (wh1 (by first | exact mem0 | exact mem1 | exact mem2 | exact mem3 | exact mem4 | exact mem5 | exact mem6 | exact mem7) (wh1 (by first | exact mem0 | exact mem1 | exact mem2 | exact mem3 | exact mem4 | exact mem5 | exact mem6 | exact mem7) wh0)))) (by repeat (first | exact ns_nil | refine ns_keep rfl ?_ | refine ns_skip ?_))⟩
    ·
      intro _u hj
      skip
      refine Sat.join (ι := Unit) (fun _u => ⟨[(4, ptr n4 0), (5, ptr n5 0), (6, ptr n6 0), (7, ptr n7 0), (9, i64 (cmpB x y))], [⟨n7, bytesV z, 25, (bytesV z).length⟩, ⟨n6, bytesV y, 25, (bytesV y).length⟩, ⟨n5, bytesV x, 25, (bytesV x).length⟩, ⟨n4, B.cells, 31, B.cells.length⟩]⟩) (fun _u => True) ?_ ?_
      ·
        refine Sat.seq ?_
        -- region 8
        refine Sat.draw [(0, 0), (1, 1), (0, 2), (1, 3), (0, 4)] Mixed (by kernel_rfl) ?_
        refine Tr.sliceArr rfl rfl rfl Try.underlying25 Sz5 ?_
        refine Tr.toStr rfl rfl rfl Try.underlying27 Try.underlying5 Try.underlying9 (fun w h => SeesP.of (sees_own h (by first | exact mem0 | exact mem1 | exact mem2 | exact mem3 | exact mem4 | exact mem5 | exact mem6 | exact mem7))) (by simp [hx, hy, hz, hB.l_fPrev]) ?_
        refine Tr.sliceArr rfl rfl rfl Try.underlying25 Sz5 ?_
        refine Tr.toStr rfl rfl rfl Try.underlying27 Try.underlying5 Try.underlying9 (fun w h => SeesP.of (sees_own h (by first | exact mem0 | exact mem1 | exact mem2 | exact mem3 | exact mem4 | exact mem5 | exact mem6 | exact mem7))) (by simp [hx, hy, hz, hB.l_fPrev]) ?_
        refine Tr.gtr_str rfl rfl rfl rfl rfl ?_
        refine Tr.nil ?_
        refine at_n ?_
        refine Sat.cond rfl (fun hc3 => ?_) (fun hc3 => ?_)
        ·
          -- region 9
          refine Sat.region ?_
          refine Tr.assign rfl rfl rfl ?_
          refine Tr.nil ?_
          refine at_n ?_
          refine ⟨(), trivial, weak_of (wk1 rfl (wk1 rfl (wk1 rfl (wk1 rfl (wk1 (by first | (rw [cmpB_want1 hc3]; rfl) | (rw [← cmpB_want0 hc3]; rfl)) wk0))))) (wh1 (by first | exact mem0 | exact mem1 | exact mem2 | exact mem3 | exact mem4 | exact mem5 | exact mem6 | exact mem7) (wh1 (by first | exact mem0 | exact mem1 | exact mem2 | exact mem3 | exact mem4 | exact mem5 | exact mem6 | exact mem7) (wh1 (by first | exact mem0 | exact mem1 | exact mem2 | exact mem3 | exact mem4 | exact mem5 | exact mem6 | exact mem7) (wh1 (by first | exact mem0 | exact mem1 | exact mem2 | exact mem3 | exact mem4 | exact mem5 | exact mem6 | exact mem7) wh0)))) (by repeat (first | exact ns_nil | refine ns_keep rfl ?_ | refine ns_skip ?_))⟩
        ·
          refine Sat.skip ?_
          refine at_n ?_
          refine ⟨(), trivial, weak_of (wk1 rfl (wk1 rfl (wk1 rfl (wk1 rfl (wk1 (by first | (rw [cmpB_want1 hc3]; rfl) | (rw [← cmpB_want0 hc3]; rfl)) wk0))))) (wh1 (by first | exact mem0 | exact mem1 | exact mem2 | exact mem3 | exact mem4 | exact mem5 | exact mem6 | exact mem7) (wh1 (by first | exact mem0 | exact mem1 | exact mem2 | exact mem3 | exact mem4 | exact mem5 | exact mem6 | exact mem7) (wh1 (by first | exact mem0 | exact mem1 | exact mem2 | exact mem3 | exact mem4 | exact mem5 | exact mem6 | exact mem7) (wh1 (by first | exact mem0 | exact mem1 | exact mem2 | exact mem3 | exact mem4 | exact mem5 | exact mem6 | exact mem7) wh0)))) (by repeat (first | exact ns_nil | refine ns_keep rfl ?_ | refine ns_skip ?_))⟩
      ·
        intro _u hj
        skip
        refine Sat.seq ?_
        refine Sat.join (ι := Unit) (fun _u => ⟨[(4, ptr n4 0), (60, .bool false)], [⟨n4, B.cells, 31, B.cells.length⟩]⟩) (fun _u => True) ?_ ?_
        ·
          -- region 10
          refine Sat.region ?_
          first
            | refine Tr.loadAll rfl rfl rfl Try.underlying25 rfl Sz25 (by first | exact mem0 | exact mem1 | exact mem2 | exact mem3 | exact mem4 | exact mem5 | exact mem6 | exact mem7) (by first | assumption | (simp [hx, hy, hz, hB.l_fPrev]; done) | (rw [bytesV, List.length_map]; assumption)) ?_
            | refine Tr.loadN _ rfl rfl rfl Try.underlying25 rfl Sz25 (by first | exact mem0 | exact mem1 | exact mem2 | exact mem3 | exact mem4 | exact mem5 | exact mem6 | exact mem7) (by exact rfl) (by first | assumption | (simp [hx, hy, hz, hB.l_fPrev]; done) | (rw [bytesV, List.length_map]; assumption)) ?_
          first
            | refine Tr.loadAll rfl rfl rfl Try.underlying25 rfl Sz25 (by first | exact mem0 | exact mem1 | exact mem2 | exact mem3 | exact mem4 | exact mem5 | exact mem6 | exact mem7) (by first | assumption | (simp [hx, hy, hz, hB.l_fPrev]; done) | (rw [bytesV, List.length_map]; assumption)) ?_
            | refine Tr.loadN _ rfl rfl rfl Try.underlying25 rfl Sz25 (by first | exact mem0 | exact mem1 | exact mem2 | exact mem3 | exact mem4 | exact mem5 | exact mem6 | exact mem7) (by exact rfl) (by first | assumption | (simp [hx, hy, hz, hB.l_fPrev]; done) | (rw [bytesV, List.length_map]; assumption)) ?_
          refine Tr.callV rfl rfl rfl rfl Body12 (block_cmp _ _ (by first | assumption | (simp [hx, hy, hz, hB.l_fPrev]; done)) (by first | assumption | (simp [hx, hy, hz, hB.l_fPrev]; done))) (fun _ _ => trivial) ?_
          refine Tr.move rfl rfl rfl ?_
          refine Tr.nei rfl rfl rfl rfl (show (!decide _) = false from congrArg not (decide_eq_true (rfl))) ?_
          refine Tr.move rfl rfl rfl ?_
          first
            | refine Tr.loadAll rfl rfl rfl Try.underlying25 rfl Sz25 (by first | exact mem0 | exact mem1 | exact mem2 | exact mem3 | exact mem4 | exact mem5 | exact mem6 | exact mem7) (by first | assumption | (simp [hx, hy, hz, hB.l_fPrev]; done) | (rw [bytesV, List.length_map]; assumption)) ?_
            | refine Tr.loadN _ rfl rfl rfl Try.underlying25 rfl Sz25 (by first | exact mem0 | exact mem1 | exact mem2 | exact mem3 | exact mem4 | exact mem5 | exact mem6 | exact mem7) (by exact rfl) (by first | assumption | (simp [hx, hy, hz, hB.l_fPrev]; done) | (rw [bytesV, List.length_map]; assumption)) ?_
          first
            | refine Tr.loadAll rfl rfl rfl Try.underlying25 rfl Sz25 (by first | exact mem0 | exact mem1 | exact mem2 | exact mem3 | exact mem4 | exact mem5 | exact mem6 | exact mem7) (by first | assumption | (simp [hx, hy, hz, hB.l_fPrev]; done) | (rw [bytesV, List.length_map]; assumption)) ?_
            | refine Tr.loadN _ rfl rfl rfl Try.underlying25 rfl Sz25 (by first | exact mem0 | exact mem1 | exact mem2 | exact mem3 | exact mem4 | exact mem5 | exact mem6 | exact mem7) (by exact rfl) (by first | assumption | (simp [hx, hy, hz, hB.l_fPrev]; done) | (rw [bytesV, List.length_map]; assumption)) ?_
          refine Tr.callV rfl rfl rfl rfl Body12 (block_cmp _ _ (by first | assumption | (simp [hx, hy, hz, hB.l_fPrev]; done)) (by first | assumption | (simp [hx, hy, hz, hB.l_fPrev]; done))) (fun _ _ => trivial) ?_
          refine Tr.move rfl rfl rfl ?_
          refine Tr.neg_i64 rfl rfl rfl (by omega) ?_
          refine Tr.nei rfl rfl rfl rfl (show (!decide _) = false from congrArg not (decide_eq_true (by rw [cmpB_neg x y]))) ?_
          refine Tr.pick rfl rfl rfl rfl rfl rfl ?_
          refine Tr.move rfl rfl rfl ?_
          first
            | refine Tr.loadAll rfl rfl rfl Try.underlying25 rfl Sz25 (by first | exact mem0 | exact mem1 | exact mem2 | exact mem3 | exact mem4 | exact mem5 | exact mem6 | exact mem7) (by first | assumption | (simp [hx, hy, hz, hB.l_fPrev]; done) | (rw [bytesV, List.length_map]; assumption)) ?_
            | refine Tr.loadN _ rfl rfl rfl Try.underlying25 rfl Sz25 (by first | exact mem0 | exact mem1 | exact mem2 | exact mem3 | exact mem4 | exact mem5 | exact mem6 | exact mem7) (by exact rfl) (by first | assumption | (simp [hx, hy, hz, hB.l_fPrev]; done) | (rw [bytesV, List.length_map]; assumption)) ?_
          first
            | refine Tr.loadAll rfl rfl rfl Try.underlying25 rfl Sz25 (by first | exact mem0 | exact mem1 | exact mem2 | exact mem3 | exact mem4 | exact mem5 | exact mem6 | exact mem7) (by first | assumption | (simp [hx, hy, hz, hB.l_fPrev]; done) | (rw [bytesV, List.length_map]; assumption)) ?_
            | refine Tr.loadN _ rfl rfl rfl Try.underlying25 rfl Sz25 (by first | exact mem0 | exact mem1 | exact mem2 | exact mem3 | exact mem4 | exact mem5 | exact mem6 | exact mem7) (by exact rfl) (by first | assumption | (simp [hx, hy, hz, hB.l_fPrev]; done) | (rw [bytesV, List.length_map]; assumption)) ?_
          refine Tr.callV rfl rfl rfl rfl Body12 (block_cmp _ _ (by first | assumption | (simp [hx, hy, hz, hB.l_fPrev]; done)) (by first | assumption | (simp [hx, hy, hz, hB.l_fPrev]; done))) (fun _ _ => trivial) ?_
          refine two (fun r hr k => Tr.leq rfl rfl rfl rfl hr k) (fun hs10_170 => ?_) (fun hs10_170 => ?_)
          ·
            first | have hs10_17 := of_decide_eq_true hs10_170 | have hs10_17 := of_decide_eq_false hs10_170 | have hs10_17 := nd_t hs10_170 | have hs10_17 := nd_f hs10_170 | have hs10_17 := hs10_170
            refine Tr.move rfl rfl rfl ?_
            first
              | refine Tr.loadAll rfl rfl rfl Try.underlying25 rfl Sz25 (by first | exact mem0 | exact mem1 | exact mem2 | exact mem3 | exact mem4 | exact mem5 | exact mem6 | exact mem7) (by first | assumption | (simp [hx, hy, hz, hB.l_fPrev]; done) | (rw [bytesV, List.length_map]; assumption)) ?_
              | refine Tr.loadN _ rfl rfl rfl Try.underlying25 rfl Sz25 (by first | exact mem0 | exact mem1 | exact mem2 | exact mem3 | exact mem4 | exact mem5 | exact mem6 | exact mem7) (by exact rfl) (by first | assumption | (simp [hx, hy, hz, hB.l_fPrev]; done) | (rw [bytesV, List.length_map]; assumption)) ?_
            first
              | refine Tr.loadAll rfl rfl rfl Try.underlying25 rfl Sz25 (by first | exact mem0 | exact mem1 | exact mem2 | exact mem3 | exact mem4 | exact mem5 | exact mem6 | exact mem7) (by first | assumption | (simp [hx, hy, hz, hB.l_fPrev]; done) | (rw [bytesV, List.length_map]; assumption)) ?_
              | refine Tr.loadN _ rfl rfl rfl Try.underlying25 rfl Sz25 (by first | exact mem0 | exact mem1 | exact mem2 | exact mem3 | exact mem4 | exact mem5 | exact mem6 | exact mem7) (by exact rfl) (by first | assumption | (simp [hx, hy, hz, hB.l_fPrev]; done) | (rw [bytesV, List.length_map]; assumption)) ?_
            refine Tr.callV rfl rfl rfl rfl Body12 (block_cmp _ _ (by first | assumption | (simp [hx, hy, hz, hB.l_fPrev]; done)) (by first | assumption | (simp [hx, hy, hz, hB.l_fPrev]; done))) (fun _ _ => trivial) ?_
            refine two (fun r hr k => Tr.leq rfl rfl rfl rfl hr k) (fun hs10_220 => ?_) (fun hs10_220 => ?_)
            ·
              first | have hs10_22 := of_decide_eq_true hs10_220 | have hs10_22 := of_decide_eq_false hs10_220 | have hs10_22 := nd_t hs10_220 | have hs10_22 := nd_f hs10_220 | have hs10_22 := hs10_220
              refine Tr.pick rfl rfl rfl rfl rfl rfl ?_
              refine Tr.move rfl rfl rfl ?_
              first
                | refine Tr.loadAll rfl rfl rfl Try.underlying25 rfl Sz25 (by first | exact mem0 | exact mem1 | exact mem2 | exact mem3 | exact mem4 | exact mem5 | exact mem6 | exact mem7) (by first | assumption | (simp [hx, hy, hz, hB.l_fPrev]; done) | (rw [bytesV, List.length_map]; assumption)) ?_
                | refine Tr.loadN _ rfl rfl rfl Try.underlying25 rfl Sz25 (by first | exact mem0 | exact mem1 | exact mem2 | exact mem3 | exact mem4 | exact mem5 | exact mem6 | exact mem7) (by exact rfl) (by first | assumption | (simp [hx, hy, hz, hB.l_fPrev]; done) | (rw [bytesV, List.length_map]; assumption)) ?_
              first
                | refine Tr.loadAll rfl rfl rfl Try.underlying25 rfl Sz25 (by first | exact mem0 | exact mem1 | exact mem2 | exact mem3 | exact mem4 | exact mem5 | exact mem6 | exact mem7) (by first | assumption | (simp [hx, hy, hz, hB.l_fPrev]; done) | (rw [bytesV, List.length_map]; assumption)) ?_
                | refine Tr.loadN _ rfl rfl rfl Try.underlying25 rfl Sz25 (by first | exact mem0 | exact mem1 | exact mem2 | exact mem3 | exact mem4 | exact mem5 | exact mem6 | exact mem7) (by exact rfl) (by first | assumption | (simp [hx, hy, hz, hB.l_fPrev]; done) | (rw [bytesV, List.length_map]; assumption)) ?_
              refine Tr.callV rfl rfl rfl rfl Body12 (block_cmp _ _ (by first | assumption | (simp [hx, hy, hz, hB.l_fPrev]; done)) (by first | assumption | (simp [hx, hy, hz, hB.l_fPrev]; done))) (fun _ _ => trivial) ?_
              refine Tr.gtr rfl rfl rfl rfl (decide_eq_false (by have := (cmpB_trans x y z hs10_17 hs10_22).1; omega)) ?_
              refine Tr.pick rfl rfl rfl rfl rfl rfl ?_
              refine Tr.pick rfl rfl rfl rfl rfl rfl ?_
              refine Tr.nil ?_
              refine at_n ?_
              refine ⟨(), trivial, weak_of (wk1 rfl (wk1 rfl wk0)) (wh1 (by first | exact mem0 | exact mem1 | exact mem2 | exact mem3 | exact mem4 | exact mem5 | exact mem6 | exact mem7) wh0) (by repeat (first | exact ns_nil | refine ns_keep rfl ?_ | refine ns_skip ?_))⟩
            ·
              first | have hs10_22 := of_decide_eq_true hs10_220 | have hs10_22 := of_decide_eq_false hs10_220 | have hs10_22 := nd_t hs10_220 | have hs10_22 := nd_f hs10_220 | have hs10_22 := hs10_220
              refine Tr.pick rfl rfl rfl rfl rfl rfl ?_
              refine Tr.move rfl rfl rfl ?_
              refine Tr.skp rfl rfl ?_
              refine Tr.skp rfl rfl ?_
              refine Tr.skp rfl rfl ?_
              refine Tr.skp rfl rfl ?_
              refine Tr.pick rfl rfl rfl rfl rfl rfl ?_
              refine Tr.pick rfl rfl rfl rfl rfl rfl ?_
              refine Tr.nil ?_
              refine at_n ?_
              refine ⟨(), trivial, weak_of (wk1 rfl (wk1 rfl wk0)) (wh1 (by first | exact mem0 | exact mem1 | exact mem2 | exact mem3 | exact mem4 | exact mem5 | exact mem6 | exact mem7) wh0) (by repeat (first | exact ns_nil | refine ns_keep rfl ?_ | refine ns_skip ?_))⟩
          ·
            first | have hs10_17 := of_decide_eq_true hs10_170 | have hs10_17 := of_decide_eq_false hs10_170 | have hs10_17 := nd_t hs10_170 | have hs10_17 := nd_f hs10_170 | have hs10_17 := hs10_170
            refine Tr.move rfl rfl rfl ?_
            refine Tr.skp rfl rfl ?_
            refine Tr.skp rfl rfl ?_
            refine Tr.skp rfl rfl ?_
            refine Tr.skp rfl rfl ?_
            refine Tr.pick rfl rfl rfl rfl rfl rfl ?_
            refine Tr.move rfl rfl rfl ?_
            refine Tr.skp rfl rfl ?_
            refine Tr.skp rfl rfl ?_
            refine Tr.skp rfl rfl ?_
            refine Tr.skp rfl rfl ?_
            refine Tr.pick rfl rfl rfl rfl rfl rfl ?_
            refine Tr.pick rfl rfl rfl rfl rfl rfl ?_
            refine Tr.nil ?_
            refine at_n ?_
            refine ⟨(), trivial, weak_of (wk1 rfl (wk1 rfl wk0)) (wh1 (by first | exact mem0 | exact mem1 | exact mem2 | exact mem3 | exact mem4 | exact mem5 | exact mem6 | exact mem7) wh0) (by repeat (first | exact ns_nil | refine ns_keep rfl ?_ | refine ns_skip ?_))⟩
        ·
          intro _u hj
          skip
          refine Sat.cond_f rfl (rfl) ?_
          refine Sat.skip ?_
          refine at_n ?_
          refine Sat.seq ?_
          refine Sat.seq ?_
          -- region 12
          refine Sat.region ?_
          refine Tr.loadAll rfl rfl rfl Try.underlying31 rfl Sz31 (by first | exact mem0 | exact mem1 | exact mem2 | exact mem3 | exact mem4 | exact mem5 | exact mem6 | exact mem7) (Block.length (by first | assumption | (simp [hx, hy, hz, hB.l_fPrev]; done) | exact Block.zero_ok | exact Vote.zero_ok )) ?_
          refine Tr.callV rfl rfl rfl rfl Body13 (block_check B hB ls) (fun w h => rows_ext h rfl hW) ?_
          refine Tr.nei rfl rfl rfl rfl rfl ?_
          refine Tr.nil ?_
          refine at_n ?_
          first
            | refine Sat.condP rfl (fun hc5 => ?_) (fun hc5 => ?_)
            | refine Sat.condNP rfl (fun hc5 => ?_) (fun hc5 => ?_)
            | refine Sat.cond rfl (fun hc5 => ?_) (fun hc5 => ?_)
          ·
            refine Sat.seq ?_
            -- region 13
            refine Sat.region ?_
            refine Tr.assign rfl rfl rfl ?_
            refine Tr.nil ?_
            refine at_n ?_
            refine Sat.ret ?_
            refine at_r ?_
            refine en_r ?_
            refine ⟨_, [], res_tmp rfl rfl, (by simp), (by simp), ?_, rfl⟩
            rfl
          ·
            have hlb := (check_parts hc5).2
            refine Sat.skip ?_
            refine at_n ?_
            refine Sat.seq ?_
            -- region 14
            refine Sat.region ?_
            refine Tr.loadAll rfl rfl rfl Try.underlying31 rfl Sz31 (by first | exact mem0 | exact mem1 | exact mem2 | exact mem3 | exact mem4 | exact mem5 | exact mem6 | exact mem7) (Block.length (by first | assumption | (simp [hx, hy, hz, hB.l_fPrev]; done) | exact Block.zero_ok | exact Vote.zero_ok )) ?_
            refine Tr.call rfl rfl rfl rfl Body15 (kit_own_block B hB ls ld (by omega) (by omega)) (OwnedBlock.loose _ _ _) (fun w h => ⟨rows_ext h rfl hW, bytes_ext h rfl hD⟩) ?_
            rintro v1 out1 ⟨q1, c1, q2, c2, rfl, hc1, hc2, rfl⟩
            refine Tr.callV rfl rfl rfl rfl Body14 (parents_nil (ownB B q1 c1 q2 c2) (ownB_ok hB q1 c1 q2 c2) ls (by show B.fLinks.n ≤ _; omega) hs h0) (fun w h => own_rows h mem1 hW.len hW.row hc1 (by omega)) ?_
            refine Tr.assign rfl rfl rfl ?_
            refine Tr.nil ?_
            refine at_n ?_
            refine Sat.seq ?_
            -- region 15
            refine Sat.region ?_
            refine Tr.assign rfl rfl rfl ?_
            refine Tr.nil ?_
            refine at_n ?_
            refine Sat.seq ?_
            refine Sat.seq ?_
            -- region 16
            refine Sat.region ?_
            refine Tr.fld rfl rfl rfl Try.underlying31 rfl Sz24 (by decide) _ rfl ?_
            refine Tr.load1 rfl rfl rfl Try.underlying24 rfl (by first | exact mem0 | exact mem1 | exact mem2 | exact mem3 | exact mem4 | exact mem5 | exact mem6 | exact mem7) (by first | exact Block.get_fSeq (by first | assumption | (simp [hx, hy, hz, hB.l_fPrev]; done) | exact Block.zero_ok | exact Vote.zero_ok ) | exact (by first | rfl | exact get_words (by first | omega | (simp [hx, hy, hz, hB.l_fPrev]; done) | (simp [hx, hy, hz, hB.l_fPrev]; omega)) | exact get_bytes (by first | omega | (simp [hx, hy, hz, hB.l_fPrev]; done) | (simp [hx, hy, hz, hB.l_fPrev]; omega)) | exact get_ints (by first | omega | (simp [hx, hy, hz, hB.l_fPrev]; done) | (simp [hx, hy, hz, hB.l_fPrev]; omega)))) ?_
            refine Tr.gtr rfl rfl rfl rfl (decide_eq_false (by omega)) ?_
            refine Tr.nil ?_
            refine at_n ?_
            refine Sat.cond_f rfl rfl ?_
            refine Sat.skip ?_
            refine at_n ?_
            refine Sat.seq ?_
            refine Sat.seq ?_
            -- region 18
            refine Sat.draw [(0, 0), (0, 1), (0, 2), (0, 3), (1, 4), (0, 5), (0, 6), (0, 7), (0, 8), (0, 9), (0, 10), (0, 11), (0, 12), (0, 13), (1, 14), (0, 15), (1, 16), (0, 17), (0, 18), (0, 19), (0, 20), (0, 21), (0, 22), (0, 23), (0, 24), (1, 25), (3, 26), (0, 27), (0, 28)] Mixed (by kernel_rfl) ?_
            refine Tr.move rfl rfl rfl ?_
            refine Tr.lenSl rfl rfl rfl Try.underlying26 ?_
            refine Tr.move rfl rfl rfl ?_
            refine Tr.fld rfl rfl rfl Try.underlying31 rfl Sz26 (by decide) _ rfl ?_
            refine Tr.load1 rfl rfl rfl Try.underlying26 rfl (by first | exact mem0 | exact mem1 | exact mem2 | exact mem3 | exact mem4 | exact mem5 | exact mem6 | exact mem7) (by first | exact Block.get_fLinks (by first | assumption | (simp [hx, hy, hz, hB.l_fPrev]; done) | exact Block.zero_ok | exact Vote.zero_ok ) | exact (by first | rfl | exact get_words (by first | omega | (simp [hx, hy, hz, hB.l_fPrev]; done) | (simp [hx, hy, hz, hB.l_fPrev]; omega)) | exact get_bytes (by first | omega | (simp [hx, hy, hz, hB.l_fPrev]; done) | (simp [hx, hy, hz, hB.l_fPrev]; omega)) | exact get_ints (by first | omega | (simp [hx, hy, hz, hB.l_fPrev]; done) | (simp [hx, hy, hz, hB.l_fPrev]; omega)))) ?_
            refine Tr.lenSl rfl rfl rfl Try.underlying26 ?_
            refine Tr.add_i64 rfl rfl rfl rfl (by omega) ?_
            refine Tr.nei rfl rfl rfl rfl (show (!decide _) = false from congrArg not (decide_eq_true (by omega))) ?_
            refine Tr.move rfl rfl rfl ?_
            refine Tr.move rfl rfl rfl ?_
            refine Tr.eqi rfl rfl rfl rfl (decide_eq_false (by decide)) ?_
            refine Tr.move rfl rfl rfl ?_
            refine Tr.skp rfl rfl ?_
            refine Tr.skp rfl rfl ?_
            refine Tr.skp rfl rfl ?_
            refine Tr.skp rfl rfl ?_
            refine Tr.skp rfl rfl ?_
            refine Tr.skp rfl rfl ?_
            refine Tr.pick rfl rfl rfl rfl rfl rfl ?_
            refine Tr.pick rfl rfl rfl rfl rfl rfl ?_
            refine Tr.move rfl rfl rfl ?_
            refine Tr.move rfl rfl rfl ?_
            refine Tr.move rfl rfl rfl ?_
            refine Tr.sliceLoNil rfl rfl rfl rfl Try.underlying26 Sz25 ?_
            refine Tr.fld rfl rfl rfl Try.underlying31 rfl Sz26 (by decide) _ rfl ?_
            refine Tr.load1 rfl rfl rfl Try.underlying26 rfl (by first | exact mem0 | exact mem1 | exact mem2 | exact mem3 | exact mem4 | exact mem5 | exact mem6 | exact mem7) (by first | exact Block.get_fLinks (by first | assumption | (simp [hx, hy, hz, hB.l_fPrev]; done) | exact Block.zero_ok | exact Vote.zero_ok ) | exact (by first | rfl | exact get_words (by first | omega | (simp [hx, hy, hz, hB.l_fPrev]; done) | (simp [hx, hy, hz, hB.l_fPrev]; omega)) | exact get_bytes (by first | omega | (simp [hx, hy, hz, hB.l_fPrev]; done) | (simp [hx, hy, hz, hB.l_fPrev]; omega)) | exact get_ints (by first | omega | (simp [hx, hy, hz, hB.l_fPrev]; done) | (simp [hx, hy, hz, hB.l_fPrev]; omega)))) ?_
            refine Tr.callV rfl rfl rfl rfl Body16 (digests_same _ _ _ _ _ _ ([] : List (List UInt8)) ls (by simp) hW.row rfl hW.len (by omega) (List.eq_nil_of_length_eq_zero (by rw [hW.len]; exact h0)).symm) (fun w h => ⟨SeesP.nil, seesP_ext h rfl hW.see⟩) ?_
            refine Tr.not rfl rfl rfl ?_
            refine Tr.pick rfl rfl rfl rfl rfl rfl ?_
            refine Tr.nil ?_
            refine at_n ?_
            refine Sat.cond_f rfl rfl ?_
            refine Sat.skip ?_
            refine at_n ?_
            refine Sat.seq ?_
            refine Sat.seq ?_
            -- region 20
            refine Sat.region ?_
            refine Tr.assign rfl rfl rfl ?_
            refine Tr.nil ?_
            refine at_n ?_
            refine Sat.block ?_
            refine Sat.loop (ι := Unit) (fun _u => ⟨[(10, .slice none 0 0), (12, i64 (0 : Int))], []⟩) (fun _u => True) (fun _u => 0) (()) ?_ ?_ ?_
            · trivial
            · exact weak_of (wk1 rfl (wk1 rfl wk0)) wh0 (by repeat (first | exact ns_nil | refine ns_keep rfl ?_ | refine ns_skip ?_))
            ·
              rintro _ _
              refine Sat.seq ?_
              refine Sat.seq ?_
              -- region 21
              refine Sat.region ?_
              refine Tr.move rfl rfl rfl ?_
              refine Tr.move rfl rfl rfl ?_
              refine Tr.lenSl rfl rfl rfl Try.underlying26 ?_
              refine Tr.lss rfl rfl rfl rfl (decide_eq_false (by decide)) ?_
              refine Tr.nil ?_
              refine at_n ?_
              refine Sat.cond_f rfl (rfl) ?_
              refine Sat.exit ?_
              refine at_x ?_
              refine at_x ?_
              refine bl_h ?_
              refine at_n ?_
              refine Sat.seq ?_
              -- region 28
              refine Sat.region ?_
              refine Tr.assign rfl rfl rfl ?_
              refine Tr.nil ?_
              refine at_n ?_
              refine Sat.ret ?_
              refine en_r ?_
              refine ⟨_, [], res_tmp rfl rfl, (by simp), (by simp), ?_, rfl⟩
              rfl
  ·
    first | have hs3_2 := of_decide_eq_true hs3_20 | have hs3_2 := of_decide_eq_false hs3_20 | have hs3_2 := nd_t hs3_20 | have hs3_2 := nd_f hs3_20 | have hs3_2 := hs3_20
    skip
    refine Tr.not rfl rfl rfl ?_
    refine Tr.nil ?_
    refine at_n ?_
    refine Sat.cond_t rfl rfl ?_
    refine Sat.seq ?_
    -- region 4
    refine Sat.region ?_
    refine Tr.assign rfl rfl rfl ?_
    refine Tr.nil ?_
    refine at_n ?_
    refine Sat.ret ?_
    refine at_r ?_
    refine en_r ?_
    refine ⟨_, [], res_tmp rfl rfl, (by simp), (by simp), ?_, rfl⟩
    rfl

set_option maxRecDepth 100000 in
set_option maxHeartbeats 4000000 in
theorem law_parents_z (B : Block) (hB : B.ok) (ls : List (List UInt8)) (ld : List UInt8) (x y z : List UInt8) (hx : x.length = 32) (hy : y.length = 32) (hz : z.length = 32) (hs : (B.fSeq.toNat : Int) = 0) (h0 : 0 < B.fLinks.n) : Meets Try.prog 3 [agg B.cells, agg (bytesV x), agg (bytesV y), agg (bytesV z)] [] (fun W => RowsAt W B.fLinks 32 ls ∧ BytesAt W B.fData ld) (fun v out => v = .bool true ∧ out = []) := by
  intro W hW
  have hD := hW.2
  replace hW := hW.1
  have hwl := hW.len
  have hxy := cmpB_rng' x y
  have hyx := cmpB_rng' y x
  have hrp : ∀ l ∈ B.fPrev :: ls, l.length = 32 := by
    intro l hl
    rcases List.mem_cons.1 hl with rfl | hl
    · exact hB.l_fPrev
    · exact hW.row l hl
  refine calls_of (hp0 := []) Try.func3 rfl 119 Try.ntmps3 rfl (HRep.nil _) ?_
  refine Sat.seq ?_
  -- region 0
  refine Sat.region ?_
  refine Tr.boxA rfl rfl ?_
  intro n4 hn4 hf4
  refine Tr.boxA rfl rfl ?_
  intro n5 hn5 hf5
  refine Tr.boxA rfl rfl ?_
  intro n6 hn6 hf6
  refine Tr.boxA rfl rfl ?_
  intro n7 hn7 hf7
  refine Tr.assign rfl rfl rfl ?_
  refine Tr.nil ?_
  refine at_n ?_
  refine Sat.seq ?_
  refine Sat.seq ?_
  -- region 1
  refine Sat.region ?_
  refine Tr.callV rfl rfl rfl rfl Body10 (law15_lives) (fun _ _ => trivial) ?_
  refine Tr.not rfl rfl rfl ?_
  refine Tr.nil ?_
  refine at_n ?_
  refine Sat.cond_f rfl (rfl) ?_
  refine Sat.skip ?_
  refine at_n ?_
  refine Sat.seq ?_
  refine Sat.seq ?_
  -- region 3
  refine Sat.region ?_
  refine Tr.loadAll rfl rfl rfl Try.underlying31 rfl Sz31 (by first | exact mem0 | exact mem1 | exact mem2 | exact mem3 | exact mem4 | exact mem5 | exact mem6 | exact mem7) (Block.length (by first | assumption | (simp [hx, hy, hz, hB.l_fPrev]; done) | exact Block.zero_ok | exact Vote.zero_ok )) ?_
  refine Tr.mkRow (z := agg Block.zero.cells) [agg B.cells] ([B].map Block.cells).flatten rfl rfl rfl Try.underlying34 Sz31 Block.zr rfl rfl (by intro v hv; rw [List.mem_singleton.1 hv]; simp [Value.cells, Block.length hB]) (by decide) (by simp [Value.cells]) ?_
  intro q17
  refine Tr.callB rfl rfl rfl rfl Body11 (light_blocks q17 0 1 1 [B] (by intro b hb; rw [List.mem_singleton.1 hb]; exact hB) rfl (by decide) 1) (fun w h => sees_own h mem0) (fun hs3_20 => ?_) (fun hs3_20 => ?_)
  ·
    first | have hs3_2 := of_decide_eq_true hs3_20 | have hs3_2 := of_decide_eq_false hs3_20 | have hs3_2 := nd_t hs3_20 | have hs3_2 := nd_f hs3_20 | have hs3_2 := hs3_20
    have hl40 : B.fLinks.n ≤ 40 ∧ B.fData.n ≤ 2000 := by simp [lightB] at hs3_2; omega
    refine Tr.not rfl rfl rfl ?_
    refine Tr.nil ?_
    refine at_n ?_
    refine Sat.cond_f rfl rfl ?_
    refine Sat.skip ?_
    refine at_n ?_
    refine Sat.seq ?_
    -- region 5
    refine Sat.region ?_
    refine Tr.assign rfl rfl rfl ?_
    refine Tr.nil ?_
    refine at_n ?_
    refine Sat.join (ι := Unit) (fun _u => ⟨[(4, ptr n4 0), (5, ptr n5 0), (6, ptr n6 0), (7, ptr n7 0), (9, i64 (if Op.bytesLess x y = true then -1 else 0))], [⟨n7, bytesV z, 25, (bytesV z).length⟩, ⟨n6, bytesV y, 25, (bytesV y).length⟩, ⟨n5, bytesV x, 25, (bytesV x).length⟩, ⟨n4, B.cells, 31, B.cells.length⟩]⟩) (fun _u => True) ?_ ?_
    ·
      refine Sat.seq ?_
      -- region 6
      refine Sat.draw [(0, 0), (1, 1), (0, 2), (1, 3), (0, 4)] Mixed (by kernel_rfl) ?_
      refine Tr.sliceArr rfl rfl rfl Try.underlying25 Sz5 ?_
      refine Tr.toStr rfl rfl rfl Try.underlying27 Try.underlying5 Try.underlying9 (fun w h => SeesP.of (sees_own h (by first | exact mem0 | exact mem1 | exact mem2 | exact mem3 | exact mem4 | exact mem5 | exact mem6 | exact mem7))) (by simp [hx, hy, hz, hB.l_fPrev]) ?_
      refine Tr.sliceArr rfl rfl rfl Try.underlying25 Sz5 ?_
      refine Tr.toStr rfl rfl rfl Try.underlying27 Try.underlying5 Try.underlying9 (fun w h => SeesP.of (sees_own h (by first | exact mem0 | exact mem1 | exact mem2 | exact mem3 | exact mem4 | exact mem5 | exact mem6 | exact mem7))) (by simp [hx, hy, hz, hB.l_fPrev]) ?_
      refine Tr.lss_str rfl rfl rfl rfl rfl ?_
      refine Tr.nil ?_
      refine at_n ?_
      refine Sat.cond rfl (fun hc2 => ?_) (fun hc2 => ?_)
      ·
        -- region 7
        refine Sat.region ?_
        refine Tr.assign rfl rfl rfl ?_
        refine Tr.nil ?_
        refine at_n ?_
        refine ⟨(), trivial, weak_of (wk1 rfl (wk1 rfl (wk1 rfl (wk1 rfl (wk1 (by first | (rw [if_pos hc2]; rfl) | (rw [if_neg (by rw [hc2]; decide)]; rfl)) wk0))))) (wh1 (by first | exact mem0 | exact mem1 | exact mem2 | exact mem3 | exact mem4 | exact mem5 | exact mem6 | exact mem7) (wh1 (by first | exact mem0 | exact mem1 | exact mem2 | exact mem3 | exact mem4 | exact mem5 | exact mem6 | exact mem7) (wh1 (by first | exact mem0 | exact mem1 | exact mem2 | exact mem3 | exact mem4 | exact mem5 | exact mem6 | exact mem7) (wh1 (by first | exact mem0 | exact mem1 | exact mem2 | exact mem3 | exact mem4 | exact mem5 | exact mem6 | exact mem7) wh0)))) (by repeat (first | exact ns_nil | refine ns_keep rfl ?_ | refine ns_skip ?_))⟩
      ·
        refine Sat.skip ?_
        refine at_n ?_
        refine ⟨(), trivial, weak_of (wk1 rfl (wk1 rfl (wk1 rfl (wk1 rfl (wk1 (by first | (rw [if_pos hc2]; rfl) | (rw [if_neg (by rw [hc2]; decide)]; rfl)) wk0))))) (wh1 (by first | exact mem0 | exact mem1 | exact mem2 | exact mem3 | exact mem4 | exact mem5 | exact mem6 | exact mem7) (wh1 (by first | exact mem0 | exact mem1 | exact mem2 | exact mem3 | exact mem4 | exact mem5 | exact mem6 | exact mem7) (wh1 (by first | exact mem0 | exact mem1 | exact mem2 | exact mem3 | exact mem4 | exact mem5 | exact mem6 | exact mem7) (wh1 (by first | exact mem0 | exact mem1 | exact mem2 | exact mem3 | exact mem4 | exact mem5 | exact mem6 | exact mem7) wh0)))) (by repeat (first | exact ns_nil | refine ns_keep rfl ?_ | refine ns_skip ?_))⟩
    ·
      intro _u hj
      skip
      refine Sat.join (ι := Unit) (fun _u => ⟨[(4, ptr n4 0), (5, ptr n5 0), (6, ptr n6 0), (7, ptr n7 0), (9, i64 (cmpB x y))], [⟨n7, bytesV z, 25, (bytesV z).length⟩, ⟨n6, bytesV y, 25, (bytesV y).length⟩, ⟨n5, bytesV x, 25, (bytesV x).length⟩, ⟨n4, B.cells, 31, B.cells.length⟩]⟩) (fun _u => True) ?_ ?_
      ·
        refine Sat.seq ?_
        -- region 8
        refine Sat.draw [(0, 0), (1, 1), (0, 2), (1, 3), (0, 4)] Mixed (by kernel_rfl) ?_
        refine Tr.sliceArr rfl rfl rfl Try.underlying25 Sz5 ?_
        refine Tr.toStr rfl rfl rfl Try.underlying27 Try.underlying5 Try.underlying9 (fun w h => SeesP.of (sees_own h (by first | exact mem0 | exact mem1 | exact mem2 | exact mem3 | exact mem4 | exact mem5 | exact mem6 | exact mem7))) (by simp [hx, hy, hz, hB.l_fPrev]) ?_
        refine Tr.sliceArr rfl rfl rfl Try.underlying25 Sz5 ?_
        refine Tr.toStr rfl rfl rfl Try.underlying27 Try.underlying5 Try.underlying9 (fun w h => SeesP.of (sees_own h (by first | exact mem0 | exact mem1 | exact mem2 | exact mem3 | exact mem4 | exact mem5 | exact mem6 | exact mem7))) (by simp [hx, hy, hz, hB.l_fPrev]) ?_
        refine Tr.gtr_str rfl rfl rfl rfl rfl ?_
        refine Tr.nil ?_
        refine at_n ?_
        refine Sat.cond rfl (fun hc3 => ?_) (fun hc3 => ?_)
        ·
          -- region 9
          refine Sat.region ?_
          refine Tr.assign rfl rfl rfl ?_
          refine Tr.nil ?_
          refine at_n ?_
          refine ⟨(), trivial, weak_of (wk1 rfl (wk1 rfl (wk1 rfl (wk1 rfl (wk1 (by first | (rw [cmpB_want1 hc3]; rfl) | (rw [← cmpB_want0 hc3]; rfl)) wk0))))) (wh1 (by first | exact mem0 | exact mem1 | exact mem2 | exact mem3 | exact mem4 | exact mem5 | exact mem6 | exact mem7) (wh1 (by first | exact mem0 | exact mem1 | exact mem2 | exact mem3 | exact mem4 | exact mem5 | exact mem6 | exact mem7) (wh1 (by first | exact mem0 | exact mem1 | exact mem2 | exact mem3 | exact mem4 | exact mem5 | exact mem6 | exact mem7) (wh1 (by first | exact mem0 | exact mem1 | exact mem2 | exact mem3 | exact mem4 | exact mem5 | exact mem6 | exact mem7) wh0)))) (by repeat (first | exact ns_nil | refine ns_keep rfl ?_ | refine ns_skip ?_))⟩
        ·
          refine Sat.skip ?_
          refine at_n ?_
          refine ⟨(), trivial, weak_of (wk1 rfl (wk1 rfl (wk1 rfl (wk1 rfl (wk1 (by first | (rw [cmpB_want1 hc3]; rfl) | (rw [← cmpB_want0 hc3]; rfl)) wk0))))) (wh1 (by first | exact mem0 | exact mem1 | exact mem2 | exact mem3 | exact mem4 | exact mem5 | exact mem6 | exact mem7) (wh1 (by first | exact mem0 | exact mem1 | exact mem2 | exact mem3 | exact mem4 | exact mem5 | exact mem6 | exact mem7) (wh1 (by first | exact mem0 | exact mem1 | exact mem2 | exact mem3 | exact mem4 | exact mem5 | exact mem6 | exact mem7) (wh1 (by first | exact mem0 | exact mem1 | exact mem2 | exact mem3 | exact mem4 | exact mem5 | exact mem6 | exact mem7) wh0)))) (by repeat (first | exact ns_nil | refine ns_keep rfl ?_ | refine ns_skip ?_))⟩
      ·
        intro _u hj
        skip
        refine Sat.seq ?_
        refine Sat.join (ι := Unit) (fun _u => ⟨[(4, ptr n4 0), (60, .bool false)], [⟨n4, B.cells, 31, B.cells.length⟩]⟩) (fun _u => True) ?_ ?_
        ·
          -- region 10
          refine Sat.region ?_
          first
            | refine Tr.loadAll rfl rfl rfl Try.underlying25 rfl Sz25 (by first | exact mem0 | exact mem1 | exact mem2 | exact mem3 | exact mem4 | exact mem5 | exact mem6 | exact mem7) (by first | assumption | (simp [hx, hy, hz, hB.l_fPrev]; done) | (rw [bytesV, List.length_map]; assumption)) ?_
            | refine Tr.loadN _ rfl rfl rfl Try.underlying25 rfl Sz25 (by first | exact mem0 | exact mem1 | exact mem2 | exact mem3 | exact mem4 | exact mem5 | exact mem6 | exact mem7) (by exact rfl) (by first | assumption | (simp [hx, hy, hz, hB.l_fPrev]; done) | (rw [bytesV, List.length_map]; assumption)) ?_
          first
            | refine Tr.loadAll rfl rfl rfl Try.underlying25 rfl Sz25 (by first | exact mem0 | exact mem1 | exact mem2 | exact mem3 | exact mem4 | exact mem5 | exact mem6 | exact mem7) (by first | assumption | (simp [hx, hy, hz, hB.l_fPrev]; done) | (rw [bytesV, List.length_map]; assumption)) ?_
            | refine Tr.loadN _ rfl rfl rfl Try.underlying25 rfl Sz25 (by first | exact mem0 | exact mem1 | exact mem2 | exact mem3 | exact mem4 | exact mem5 | exact mem6 | exact mem7) (by exact rfl) (by first | assumption | (simp [hx, hy, hz, hB.l_fPrev]; done) | (rw [bytesV, List.length_map]; assumption)) ?_
          refine Tr.callV rfl rfl rfl rfl Body12 (block_cmp _ _ (by first | assumption | (simp [hx, hy, hz, hB.l_fPrev]; done)) (by first | assumption | (simp [hx, hy, hz, hB.l_fPrev]; done))) (fun _ _ => trivial) ?_
          refine Tr.move rfl rfl rfl ?_
          refine Tr.nei rfl rfl rfl rfl (show (!decide _) = false from congrArg not (decide_eq_true (rfl))) ?_
          refine Tr.move rfl rfl rfl ?_
          first
            | refine Tr.loadAll rfl rfl rfl Try.underlying25 rfl Sz25 (by first | exact mem0 | exact mem1 | exact mem2 | exact mem3 | exact mem4 | exact mem5 | exact mem6 | exact mem7) (by first | assumption | (simp [hx, hy, hz, hB.l_fPrev]; done) | (rw [bytesV, List.length_map]; assumption)) ?_
            | refine Tr.loadN _ rfl rfl rfl Try.underlying25 rfl Sz25 (by first | exact mem0 | exact mem1 | exact mem2 | exact mem3 | exact mem4 | exact mem5 | exact mem6 | exact mem7) (by exact rfl) (by first | assumption | (simp [hx, hy, hz, hB.l_fPrev]; done) | (rw [bytesV, List.length_map]; assumption)) ?_
          first
            | refine Tr.loadAll rfl rfl rfl Try.underlying25 rfl Sz25 (by first | exact mem0 | exact mem1 | exact mem2 | exact mem3 | exact mem4 | exact mem5 | exact mem6 | exact mem7) (by first | assumption | (simp [hx, hy, hz, hB.l_fPrev]; done) | (rw [bytesV, List.length_map]; assumption)) ?_
            | refine Tr.loadN _ rfl rfl rfl Try.underlying25 rfl Sz25 (by first | exact mem0 | exact mem1 | exact mem2 | exact mem3 | exact mem4 | exact mem5 | exact mem6 | exact mem7) (by exact rfl) (by first | assumption | (simp [hx, hy, hz, hB.l_fPrev]; done) | (rw [bytesV, List.length_map]; assumption)) ?_
          refine Tr.callV rfl rfl rfl rfl Body12 (block_cmp _ _ (by first | assumption | (simp [hx, hy, hz, hB.l_fPrev]; done)) (by first | assumption | (simp [hx, hy, hz, hB.l_fPrev]; done))) (fun _ _ => trivial) ?_
          refine Tr.move rfl rfl rfl ?_
          refine Tr.neg_i64 rfl rfl rfl (by omega) ?_
          refine Tr.nei rfl rfl rfl rfl (show (!decide _) = false from congrArg not (decide_eq_true (by rw [cmpB_neg x y]))) ?_
          refine Tr.pick rfl rfl rfl rfl rfl rfl ?_
          refine Tr.move rfl rfl rfl ?_
          first
            | refine Tr.loadAll rfl rfl rfl Try.underlying25 rfl Sz25 (by first | exact mem0 | exact mem1 | exact mem2 | exact mem3 | exact mem4 | exact mem5 | exact mem6 | exact mem7) (by first | assumption | (simp [hx, hy, hz, hB.l_fPrev]; done) | (rw [bytesV, List.length_map]; assumption)) ?_
            | refine Tr.loadN _ rfl rfl rfl Try.underlying25 rfl Sz25 (by first | exact mem0 | exact mem1 | exact mem2 | exact mem3 | exact mem4 | exact mem5 | exact mem6 | exact mem7) (by exact rfl) (by first | assumption | (simp [hx, hy, hz, hB.l_fPrev]; done) | (rw [bytesV, List.length_map]; assumption)) ?_
          first
            | refine Tr.loadAll rfl rfl rfl Try.underlying25 rfl Sz25 (by first | exact mem0 | exact mem1 | exact mem2 | exact mem3 | exact mem4 | exact mem5 | exact mem6 | exact mem7) (by first | assumption | (simp [hx, hy, hz, hB.l_fPrev]; done) | (rw [bytesV, List.length_map]; assumption)) ?_
            | refine Tr.loadN _ rfl rfl rfl Try.underlying25 rfl Sz25 (by first | exact mem0 | exact mem1 | exact mem2 | exact mem3 | exact mem4 | exact mem5 | exact mem6 | exact mem7) (by exact rfl) (by first | assumption | (simp [hx, hy, hz, hB.l_fPrev]; done) | (rw [bytesV, List.length_map]; assumption)) ?_
          refine Tr.callV rfl rfl rfl rfl Body12 (block_cmp _ _ (by first | assumption | (simp [hx, hy, hz, hB.l_fPrev]; done)) (by first | assumption | (simp [hx, hy, hz, hB.l_fPrev]; done))) (fun _ _ => trivial) ?_
          refine two (fun r hr k => Tr.leq rfl rfl rfl rfl hr k) (fun hs10_170 => ?_) (fun hs10_170 => ?_)
          ·
            first | have hs10_17 := of_decide_eq_true hs10_170 | have hs10_17 := of_decide_eq_false hs10_170 | have hs10_17 := nd_t hs10_170 | have hs10_17 := nd_f hs10_170 | have hs10_17 := hs10_170
            refine Tr.move rfl rfl rfl ?_
            first
              | refine Tr.loadAll rfl rfl rfl Try.underlying25 rfl Sz25 (by first | exact mem0 | exact mem1 | exact mem2 | exact mem3 | exact mem4 | exact mem5 | exact mem6 | exact mem7) (by first | assumption | (simp [hx, hy, hz, hB.l_fPrev]; done) | (rw [bytesV, List.length_map]; assumption)) ?_
              | refine Tr.loadN _ rfl rfl rfl Try.underlying25 rfl Sz25 (by first | exact mem0 | exact mem1 | exact mem2 | exact mem3 | exact mem4 | exact mem5 | exact mem6 | exact mem7) (by exact rfl) (by first | assumption | (simp [hx, hy, hz, hB.l_fPrev]; done) | (rw [bytesV, List.length_map]; assumption)) ?_
            first
              | refine Tr.loadAll rfl rfl rfl Try.underlying25 rfl Sz25 (by first | exact mem0 | exact mem1 | exact mem2 | exact mem3 | exact mem4 | exact mem5 | exact mem6 | exact mem7) (by first | assumption | (simp [hx, hy, hz, hB.l_fPrev]; done) | (rw [bytesV, List.length_map]; assumption)) ?_
              | refine Tr.loadN _ rfl rfl rfl Try.underlying25 rfl Sz25 (by first | exact mem0 | exact mem1 | exact mem2 | exact mem3 | exact mem4 | exact mem5 | exact mem6 | exact mem7) (by exact rfl) (by first | assumption | (simp [hx, hy, hz, hB.l_fPrev]; done) | (rw [bytesV, List.length_map]; assumption)) ?_
            refine Tr.callV rfl rfl rfl rfl Body12 (block_cmp _ _ (by first | assumption | (simp [hx, hy, hz, hB.l_fPrev]; done)) (by first | assumption | (simp [hx, hy, hz, hB.l_fPrev]; done))) (fun _ _ => trivial) ?_
            refine two (fun r hr k => Tr.leq rfl rfl rfl rfl hr k) (fun hs10_220 => ?_) (fun hs10_220 => ?_)
            ·
              first | have hs10_22 := of_decide_eq_true hs10_220 | have hs10_22 := of_decide_eq_false hs10_220 | have hs10_22 := nd_t hs10_220 | have hs10_22 := nd_f hs10_220 | have hs10_22 := hs10_220
              refine Tr.pick rfl rfl rfl rfl rfl rfl ?_
              refine Tr.move rfl rfl rfl ?_
              first
                | refine Tr.loadAll rfl rfl rfl Try.underlying25 rfl Sz25 (by first | exact mem0 | exact mem1 | exact mem2 | exact mem3 | exact mem4 | exact mem5 | exact mem6 | exact mem7) (by first | assumption | (simp [hx, hy, hz, hB.l_fPrev]; done) | (rw [bytesV, List.length_map]; assumption)) ?_
                | refine Tr.loadN _ rfl rfl rfl Try.underlying25 rfl Sz25 (by first | exact mem0 | exact mem1 | exact mem2 | exact mem3 | exact mem4 | exact mem5 | exact mem6 | exact mem7) (by exact rfl) (by first | assumption | (simp [hx, hy, hz, hB.l_fPrev]; done) | (rw [bytesV, List.length_map]; assumption)) ?_
              first
                | refine Tr.loadAll rfl rfl rfl Try.underlying25 rfl Sz25 (by first | exact mem0 | exact mem1 | exact mem2 | exact mem3 | exact mem4 | exact mem5 | exact mem6 | exact mem7) (by first | assumption | (simp [hx, hy, hz, hB.l_fPrev]; done) | (rw [bytesV, List.length_map]; assumption)) ?_
                | refine Tr.loadN _ rfl rfl rfl Try.underlying25 rfl Sz25 (by first | exact mem0 | exact mem1 | exact mem2 | exact mem3 | exact mem4 | exact mem5 | exact mem6 | exact mem7) (by exact rfl) (by first | assumption | (simp [hx, hy, hz, hB.l_fPrev]; done) | (rw [bytesV, List.length_map]; assumption)) ?_
              refine Tr.callV rfl rfl rfl rfl Body12 (block_cmp _ _ (by first | assumption | (simp [hx, hy, hz, hB.l_fPrev]; done)) (by first | assumption | (simp [hx, hy, hz, hB.l_fPrev]; done))) (fun _ _ => trivial) ?_
              refine Tr.gtr rfl rfl rfl rfl (decide_eq_false (by have := (cmpB_trans x y z hs10_17 hs10_22).1; omega)) ?_
              refine Tr.pick rfl rfl rfl rfl rfl rfl ?_
              refine Tr.pick rfl rfl rfl rfl rfl rfl ?_
              refine Tr.nil ?_
              refine at_n ?_
              refine ⟨(), trivial, weak_of (wk1 rfl (wk1 rfl wk0)) (wh1 (by first | exact mem0 | exact mem1 | exact mem2 | exact mem3 | exact mem4 | exact mem5 | exact mem6 | exact mem7) wh0) (by repeat (first | exact ns_nil | refine ns_keep rfl ?_ | refine ns_skip ?_))⟩
            ·
              first | have hs10_22 := of_decide_eq_true hs10_220 | have hs10_22 := of_decide_eq_false hs10_220 | have hs10_22 := nd_t hs10_220 | have hs10_22 := nd_f hs10_220 | have hs10_22 := hs10_220
              refine Tr.pick rfl rfl rfl rfl rfl rfl ?_
              refine Tr.move rfl rfl rfl ?_
              refine Tr.skp rfl rfl ?_
              refine Tr.skp rfl rfl ?_
              refine Tr.skp rfl rfl ?_
              refine Tr.skp rfl rfl ?_
              refine Tr.pick rfl rfl rfl rfl rfl rfl ?_
              refine Tr.pick rfl rfl rfl rfl rfl rfl ?_
              refine Tr.nil ?_
              refine at_n ?_
              refine ⟨(), trivial, weak_of (wk1 rfl (wk1 rfl wk0)) (wh1 (by first | exact mem0 | exact mem1 | exact mem2 | exact mem3 | exact mem4 | exact mem5 | exact mem6 | exact mem7) wh0) (by repeat (first | exact ns_nil | refine ns_keep rfl ?_ | refine ns_skip ?_))⟩
          ·
            first | have hs10_17 := of_decide_eq_true hs10_170 | have hs10_17 := of_decide_eq_false hs10_170 | have hs10_17 := nd_t hs10_170 | have hs10_17 := nd_f hs10_170 | have hs10_17 := hs10_170
            refine Tr.move rfl rfl rfl ?_
            refine Tr.skp rfl rfl ?_
            refine Tr.skp rfl rfl ?_
            refine Tr.skp rfl rfl ?_
            refine Tr.skp rfl rfl ?_
            refine Tr.pick rfl rfl rfl rfl rfl rfl ?_
            refine Tr.move rfl rfl rfl ?_
            refine Tr.skp rfl rfl ?_
            refine Tr.skp rfl rfl ?_
            refine Tr.skp rfl rfl ?_
            refine Tr.skp rfl rfl ?_
            refine Tr.pick rfl rfl rfl rfl rfl rfl ?_
            refine Tr.pick rfl rfl rfl rfl rfl rfl ?_
            refine Tr.nil ?_
            refine at_n ?_
            refine ⟨(), trivial, weak_of (wk1 rfl (wk1 rfl wk0)) (wh1 (by first | exact mem0 | exact mem1 | exact mem2 | exact mem3 | exact mem4 | exact mem5 | exact mem6 | exact mem7) wh0) (by repeat (first | exact ns_nil | refine ns_keep rfl ?_ | refine ns_skip ?_))⟩
        ·
          intro _u hj
          skip
          refine Sat.cond_f rfl (rfl) ?_
          refine Sat.skip ?_
          refine at_n ?_
          refine Sat.seq ?_
          refine Sat.seq ?_
          -- region 12
          refine Sat.region ?_
          refine Tr.loadAll rfl rfl rfl Try.underlying31 rfl Sz31 (by first | exact mem0 | exact mem1 | exact mem2 | exact mem3 | exact mem4 | exact mem5 | exact mem6 | exact mem7) (Block.length (by first | assumption | (simp [hx, hy, hz, hB.l_fPrev]; done) | exact Block.zero_ok | exact Vote.zero_ok )) ?_
          refine Tr.callV rfl rfl rfl rfl Body13 (block_check B hB ls) (fun w h => rows_ext h rfl hW) ?_
          refine Tr.nei rfl rfl rfl rfl rfl ?_
          refine Tr.nil ?_
          refine at_n ?_
          first
            | refine Sat.condP rfl (fun hc5 => ?_) (fun hc5 => ?_)
            | refine Sat.condNP rfl (fun hc5 => ?_) (fun hc5 => ?_)
            | refine Sat.cond rfl (fun hc5 => ?_) (fun hc5 => ?_)
          ·
            refine Sat.seq ?_
            -- region 13
            refine Sat.region ?_
            refine Tr.assign rfl rfl rfl ?_
            refine Tr.nil ?_
            refine at_n ?_
            refine Sat.ret ?_
            refine at_r ?_
            refine en_r ?_
            refine ⟨_, [], res_tmp rfl rfl, (by simp), (by simp), ?_, rfl⟩
            rfl
          ·
            have hlb := (check_parts hc5).2
            refine Sat.skip ?_
            refine at_n ?_
            refine Sat.seq ?_
            -- region 14
            refine Sat.region ?_
            refine Tr.loadAll rfl rfl rfl Try.underlying31 rfl Sz31 (by first | exact mem0 | exact mem1 | exact mem2 | exact mem3 | exact mem4 | exact mem5 | exact mem6 | exact mem7) (Block.length (by first | assumption | (simp [hx, hy, hz, hB.l_fPrev]; done) | exact Block.zero_ok | exact Vote.zero_ok )) ?_
            refine Tr.call rfl rfl rfl rfl Body15 (kit_own_block B hB ls ld (by omega) (by omega)) (OwnedBlock.loose _ _ _) (fun w h => ⟨rows_ext h rfl hW, bytes_ext h rfl hD⟩) ?_
            rintro v1 out1 ⟨q1, c1, q2, c2, rfl, hc1, hc2, rfl⟩
            refine Tr.call rfl rfl rfl rfl Body14 (parents_own_z B hB ls q1 c1 q2 c2 (by omega) hs h0) (FreshRow.loose _ _ _ _) (fun w h => own_rows h mem1 hW.len hW.row hc1 (by omega)) ?_
            rintro v3 out3 ⟨q3, c3, rfl, hc3, rfl⟩
            refine Tr.assign rfl rfl rfl ?_
            refine Tr.nil ?_
            refine at_n ?_
            refine Sat.seq ?_
            -- region 15
            refine Sat.region ?_
            refine Tr.assign rfl rfl rfl ?_
            refine Tr.nil ?_
            refine at_n ?_
            refine Sat.seq ?_
            refine Sat.seq ?_
            -- region 16
            refine Sat.region ?_
            refine Tr.fld rfl rfl rfl Try.underlying31 rfl Sz24 (by decide) _ rfl ?_
            refine Tr.load1 rfl rfl rfl Try.underlying24 rfl (by first | exact mem0 | exact mem1 | exact mem2 | exact mem3 | exact mem4 | exact mem5 | exact mem6 | exact mem7) (by first | exact Block.get_fSeq (by first | assumption | (simp [hx, hy, hz, hB.l_fPrev]; done) | exact Block.zero_ok | exact Vote.zero_ok ) | exact (by first | rfl | exact get_words (by first | omega | (simp [hx, hy, hz, hB.l_fPrev]; done) | (simp [hx, hy, hz, hB.l_fPrev]; omega)) | exact get_bytes (by first | omega | (simp [hx, hy, hz, hB.l_fPrev]; done) | (simp [hx, hy, hz, hB.l_fPrev]; omega)) | exact get_ints (by first | omega | (simp [hx, hy, hz, hB.l_fPrev]; done) | (simp [hx, hy, hz, hB.l_fPrev]; omega)))) ?_
            refine Tr.gtr rfl rfl rfl rfl (decide_eq_false (by omega)) ?_
            refine Tr.nil ?_
            refine at_n ?_
            refine Sat.cond_f rfl rfl ?_
            refine Sat.skip ?_
            refine at_n ?_
            refine Sat.seq ?_
            refine Sat.seq ?_
            -- region 18
            refine Sat.draw [(0, 0), (0, 1), (0, 2), (0, 3), (1, 4), (0, 5), (0, 6), (0, 7), (0, 8), (0, 9), (0, 10), (0, 11), (0, 12), (0, 13), (1, 14), (0, 15), (1, 16), (0, 17), (0, 18), (0, 19), (0, 20), (0, 21), (0, 22), (0, 23), (0, 24), (1, 25), (3, 26), (0, 27), (0, 28)] Mixed (by kernel_rfl) ?_
            refine Tr.move rfl rfl rfl ?_
            refine Tr.lenSl rfl rfl rfl Try.underlying26 ?_
            refine Tr.move rfl rfl rfl ?_
            refine Tr.fld rfl rfl rfl Try.underlying31 rfl Sz26 (by decide) _ rfl ?_
            refine Tr.load1 rfl rfl rfl Try.underlying26 rfl (by first | exact mem0 | exact mem1 | exact mem2 | exact mem3 | exact mem4 | exact mem5 | exact mem6 | exact mem7) (by first | exact Block.get_fLinks (by first | assumption | (simp [hx, hy, hz, hB.l_fPrev]; done) | exact Block.zero_ok | exact Vote.zero_ok ) | exact (by first | rfl | exact get_words (by first | omega | (simp [hx, hy, hz, hB.l_fPrev]; done) | (simp [hx, hy, hz, hB.l_fPrev]; omega)) | exact get_bytes (by first | omega | (simp [hx, hy, hz, hB.l_fPrev]; done) | (simp [hx, hy, hz, hB.l_fPrev]; omega)) | exact get_ints (by first | omega | (simp [hx, hy, hz, hB.l_fPrev]; done) | (simp [hx, hy, hz, hB.l_fPrev]; omega)))) ?_
            refine Tr.lenSl rfl rfl rfl Try.underlying26 ?_
            refine Tr.add_i64 rfl rfl rfl rfl (by omega) ?_
            refine Tr.nei rfl rfl rfl rfl (show (!decide _) = false from congrArg not (decide_eq_true (by omega))) ?_
            refine Tr.move rfl rfl rfl ?_
            refine Tr.move rfl rfl rfl ?_
            refine Tr.eqi rfl rfl rfl rfl (decide_eq_false (by decide)) ?_
            refine Tr.move rfl rfl rfl ?_
            refine Tr.skp rfl rfl ?_
            refine Tr.skp rfl rfl ?_
            refine Tr.skp rfl rfl ?_
            refine Tr.skp rfl rfl ?_
            refine Tr.skp rfl rfl ?_
            refine Tr.skp rfl rfl ?_
            refine Tr.pick rfl rfl rfl rfl rfl rfl ?_
            refine Tr.pick rfl rfl rfl rfl rfl rfl ?_
            refine Tr.move rfl rfl rfl ?_
            refine Tr.move rfl rfl rfl ?_
            refine Tr.move rfl rfl rfl ?_
            refine Tr.sliceLoN 0 rfl rfl rfl rfl rfl (by omega) hc3 Try.underlying26 Sz25 ?_
            refine Tr.fld rfl rfl rfl Try.underlying31 rfl Sz26 (by decide) _ rfl ?_
            refine Tr.load1 rfl rfl rfl Try.underlying26 rfl (by first | exact mem0 | exact mem1 | exact mem2 | exact mem3 | exact mem4 | exact mem5 | exact mem6 | exact mem7) (by first | exact Block.get_fLinks (by first | assumption | (simp [hx, hy, hz, hB.l_fPrev]; done) | exact Block.zero_ok | exact Vote.zero_ok ) | exact (by first | rfl | exact get_words (by first | omega | (simp [hx, hy, hz, hB.l_fPrev]; done) | (simp [hx, hy, hz, hB.l_fPrev]; omega)) | exact get_bytes (by first | omega | (simp [hx, hy, hz, hB.l_fPrev]; done) | (simp [hx, hy, hz, hB.l_fPrev]; omega)) | exact get_ints (by first | omega | (simp [hx, hy, hz, hB.l_fPrev]; done) | (simp [hx, hy, hz, hB.l_fPrev]; omega)))) ?_
            refine Tr.callV rfl rfl rfl rfl Body16 (digests_same _ _ _ _ _ _ (ls.drop 0) ls (fun l hl => hW.row l (List.mem_of_mem_drop hl)) hW.row (by simp [hW.len]; try omega) hW.len (by omega) (List.drop_zero ..)) (fun w h => ⟨SeesP.of (sees_rows_drop hW.row (by simp [hW.len]; try omega) hc3 (sees_own h (by first | exact mem0 | exact mem1 | exact mem2 | exact mem3 | exact mem4 | exact mem5 | exact mem6 | exact mem7))), seesP_ext h rfl hW.see⟩) ?_
            refine Tr.not rfl rfl rfl ?_
            refine Tr.pick rfl rfl rfl rfl rfl rfl ?_
            refine Tr.nil ?_
            refine at_n ?_
            refine Sat.cond_f rfl rfl ?_
            refine Sat.skip ?_
            refine at_n ?_
            refine Sat.seq ?_
            refine Sat.seq ?_
            -- region 20
            refine Sat.region ?_
            refine Tr.assign rfl rfl rfl ?_
            refine Tr.nil ?_
            refine at_n ?_
            refine Sat.block ?_
            refine Sat.loop (ι := Nat) (fun i => ⟨[(10, .slice (some ⟨q3, 0, none⟩) B.fLinks.n c3), (12, i64 (i : Int))], [⟨q3, flatB ls, 25, c3 * 32⟩]⟩) (fun i => i ≤ B.fLinks.n) (fun i => B.fLinks.n - i) (0) ?_ ?_ ?_
            · omega
            · exact weak_of (wk1 rfl (wk1 rfl wk0)) (wh1 (by first | exact mem0 | exact mem1 | exact mem2 | exact mem3 | exact mem4 | exact mem5 | exact mem6 | exact mem7) wh0) (by repeat (first | exact ns_nil | refine ns_keep rfl ?_ | refine ns_skip ?_))
            ·
              rintro i hi
              refine Sat.seq ?_
              refine Sat.seq ?_
              -- region 21
              refine Sat.region ?_
              refine Tr.move rfl rfl rfl ?_
              refine Tr.move rfl rfl rfl ?_
              refine Tr.lenSl rfl rfl rfl Try.underlying26 ?_
              refine Tr.lss rfl rfl rfl rfl rfl ?_
              refine Tr.nil ?_
              refine at_n ?_
              first
                | refine Sat.condP rfl (fun hc8 => ?_) (fun hc8 => ?_)
                | refine Sat.condNP rfl (fun hc8 => ?_) (fun hc8 => ?_)
                | refine Sat.cond rfl (fun hc8 => ?_) (fun hc8 => ?_)
              ·
                have hi2 : i < B.fLinks.n := by omega
                refine Sat.skip ?_
                refine at_n ?_
                refine Sat.seq ?_
                refine Sat.block ?_
                refine Sat.seq ?_
                -- region 23
                refine Sat.region ?_
                refine Tr.assign rfl rfl rfl ?_
                refine Tr.nil ?_
                refine at_n ?_
                refine Sat.block ?_
                refine Sat.loop (ι := Nat) (fun j => ⟨[(10, .slice (some ⟨q3, 0, none⟩) B.fLinks.n c3), (12, i64 (i : Int)), (13, i64 (j : Int))], [⟨q3, flatB ls, 25, c3 * 32⟩]⟩) (fun j => j ≤ i) (fun j => i - j) (0) ?_ ?_ ?_
                · omega
                · exact weak_of (wk1 rfl (wk1 rfl (wk1 rfl wk0))) (wh1 (by first | exact mem0 | exact mem1 | exact mem2 | exact mem3 | exact mem4 | exact mem5 | exact mem6 | exact mem7) wh0) (by repeat (first | exact ns_nil | refine ns_keep rfl ?_ | refine ns_skip ?_))
                ·
                  rintro j hj
                  refine Sat.seq ?_
                  refine Sat.seq ?_
                  -- region 24
                  refine Sat.region ?_
                  refine Tr.move rfl rfl rfl ?_
                  refine Tr.move rfl rfl rfl ?_
                  refine Tr.lss rfl rfl rfl rfl rfl ?_
                  refine Tr.nil ?_
                  refine at_n ?_
                  first
                    | refine Sat.condP rfl (fun hc9 => ?_) (fun hc9 => ?_)
                    | refine Sat.condNP rfl (fun hc9 => ?_) (fun hc9 => ?_)
                    | refine Sat.cond rfl (fun hc9 => ?_) (fun hc9 => ?_)
                  ·
                    have hji : j < i := by omega
                    have hri : (ls.getD i []).length = 32 := getD_len hW.row (by simp [hW.len]; try omega)
                    have hrj : (ls.getD j []).length = 32 := getD_len hW.row (by simp [hW.len]; try omega)
                    refine Sat.skip ?_
                    refine at_n ?_
                    refine Sat.seq ?_
                    refine Sat.block ?_
                    refine Sat.seq ?_
                    -- region 26
                    refine Sat.draw [(0, 0), (0, 1), (0, 2), (1, 3), (0, 4), (0, 5), (0, 6), (1, 7), (0, 8)] Mixed (by kernel_rfl) ?_
                    refine Tr.move rfl rfl rfl ?_
                    refine Tr.move rfl rfl rfl ?_
                    first
                      | refine Tr.idxSl 32 rfl rfl rfl rfl Try.underlying26 Sz25 _ rfl (by omega) ?_
                      | refine Tr.idxSl 32 rfl rfl rfl rfl Try.underlying26 Sz25 _ (toNat_back (by omega)) (by omega) ?_
                    refine Tr.loadSN (bytesV (ls.getD i [])) rfl rfl rfl Try.underlying25 rfl Sz25 (bytesV_len (getD_len hW.row (by simp [hW.len]; try omega))) (fun w h => sees_row hW.row (sees_own h (by first | exact mem0 | exact mem1 | exact mem2 | exact mem3 | exact mem4 | exact mem5 | exact mem6 | exact mem7)) (by simp [hW.len]; try omega)) ?_
                    refine Tr.move rfl rfl rfl ?_
                    refine Tr.move rfl rfl rfl ?_
                    first
                      | refine Tr.idxSl 32 rfl rfl rfl rfl Try.underlying26 Sz25 _ rfl (by omega) ?_
                      | refine Tr.idxSl 32 rfl rfl rfl rfl Try.underlying26 Sz25 _ (toNat_back (by omega)) (by omega) ?_
                    refine Tr.loadSN (bytesV (ls.getD j [])) rfl rfl rfl Try.underlying25 rfl Sz25 (bytesV_len (getD_len hW.row (by simp [hW.len]; try omega))) (fun w h => sees_row hW.row (sees_own h (by first | exact mem0 | exact mem1 | exact mem2 | exact mem3 | exact mem4 | exact mem5 | exact mem6 | exact mem7)) (by simp [hW.len]; try omega)) ?_
                    refine Tr.eql_bytes rfl rfl rfl rfl Try.eqGuardType25 Try.underlying25 Try.underlying5 Sz5 (by first | assumption | (simp [hx, hy, hz, hB.l_fPrev]; done) | (rw [bytesV, List.length_map]; assumption)) (by first | assumption | (simp [hx, hy, hz, hB.l_fPrev]; done) | (rw [bytesV, List.length_map]; assumption)) (decide_eq_false (links_apart hlb (by simp [hW.len]; try omega) hji)) ?_
                    refine Tr.nil ?_
                    refine at_n ?_
                    refine Sat.cond_f rfl (rfl) ?_
                    refine Sat.skip ?_
                    refine bl_n ?_
                    refine at_n ?_
                    -- region 25
                    refine Sat.region ?_
                    refine Tr.move rfl rfl rfl ?_
                    refine Tr.add_i64 rfl rfl rfl rfl (by omega) ?_
                    refine Tr.assign rfl rfl rfl ?_
                    refine Tr.nil ?_
                    refine at_n ?_
                    exact ⟨j + 1, by omega, by omega, weak_of (wk1 rfl (wk1 rfl (wk1 rfl wk0))) (wh1 (by first | exact mem0 | exact mem1 | exact mem2 | exact mem3 | exact mem4 | exact mem5 | exact mem6 | exact mem7) wh0) (by repeat (first | exact ns_nil | refine ns_keep rfl ?_ | refine ns_skip ?_))⟩
                  ·
                    have hji2 : j = i := by omega
                    refine Sat.exit ?_
                    refine at_x ?_
                    refine at_x ?_
                    refine bl_h ?_
                    refine bl_n ?_
                    refine at_n ?_
                    -- region 22
                    refine Sat.region ?_
                    refine Tr.move rfl rfl rfl ?_
                    refine Tr.add_i64 rfl rfl rfl rfl (by omega) ?_
                    refine Tr.assign rfl rfl rfl ?_
                    refine Tr.nil ?_
                    refine at_n ?_
                    exact ⟨i + 1, by omega, by omega, weak_of (wk1 rfl (wk1 rfl wk0)) (wh1 (by first | exact mem0 | exact mem1 | exact mem2 | exact mem3 | exact mem4 | exact mem5 | exact mem6 | exact mem7) wh0) (by repeat (first | exact ns_nil | refine ns_keep rfl ?_ | refine ns_skip ?_))⟩
              ·
                refine Sat.exit ?_
                refine at_x ?_
                refine at_x ?_
                refine bl_h ?_
                refine at_n ?_
                refine Sat.seq ?_
                -- region 28
                refine Sat.region ?_
                refine Tr.assign rfl rfl rfl ?_
                refine Tr.nil ?_
                refine at_n ?_
                refine Sat.ret ?_
                refine en_r ?_
                refine ⟨_, [], res_tmp rfl rfl, (by simp), (by simp), ?_, rfl⟩
                rfl
  ·
    first | have hs3_2 := of_decide_eq_true hs3_20 | have hs3_2 := of_decide_eq_false hs3_20 | have hs3_2 := nd_t hs3_20 | have hs3_2 := nd_f hs3_20 | have hs3_2 := hs3_20
    skip
    refine Tr.not rfl rfl rfl ?_
    refine Tr.nil ?_
    refine at_n ?_
    refine Sat.cond_t rfl rfl ?_
    refine Sat.seq ?_
    -- region 4
    refine Sat.region ?_
    refine Tr.assign rfl rfl rfl ?_
    refine Tr.nil ?_
    refine at_n ?_
    refine Sat.ret ?_
    refine at_r ?_
    refine en_r ?_
    refine ⟨_, [], res_tmp rfl rfl, (by simp), (by simp), ?_, rfl⟩
    rfl

set_option maxRecDepth 100000 in
set_option maxHeartbeats 4000000 in
theorem law_parents_s (B : Block) (hB : B.ok) (ls : List (List UInt8)) (ld : List UInt8) (x y z : List UInt8) (hx : x.length = 32) (hy : y.length = 32) (hz : z.length = 32) (hs : ¬ (B.fSeq.toNat : Int) = 0) : Meets Try.prog 3 [agg B.cells, agg (bytesV x), agg (bytesV y), agg (bytesV z)] [] (fun W => RowsAt W B.fLinks 32 ls ∧ BytesAt W B.fData ld) (fun v out => v = .bool true ∧ out = []) := by
  intro W hW
  have hD := hW.2
  replace hW := hW.1
  have hwl := hW.len
  have hxy := cmpB_rng' x y
  have hyx := cmpB_rng' y x
  have hrp : ∀ l ∈ B.fPrev :: ls, l.length = 32 := by
    intro l hl
    rcases List.mem_cons.1 hl with rfl | hl
    · exact hB.l_fPrev
    · exact hW.row l hl
  refine calls_of (hp0 := []) Try.func3 rfl 119 Try.ntmps3 rfl (HRep.nil _) ?_
  refine Sat.seq ?_
  -- region 0
  refine Sat.region ?_
  refine Tr.boxA rfl rfl ?_
  intro n4 hn4 hf4
  refine Tr.boxA rfl rfl ?_
  intro n5 hn5 hf5
  refine Tr.boxA rfl rfl ?_
  intro n6 hn6 hf6
  refine Tr.boxA rfl rfl ?_
  intro n7 hn7 hf7
  refine Tr.assign rfl rfl rfl ?_
  refine Tr.nil ?_
  refine at_n ?_
  refine Sat.seq ?_
  refine Sat.seq ?_
  -- region 1
  refine Sat.region ?_
  refine Tr.callV rfl rfl rfl rfl Body10 (law15_lives) (fun _ _ => trivial) ?_
  refine Tr.not rfl rfl rfl ?_
  refine Tr.nil ?_
  refine at_n ?_
  refine Sat.cond_f rfl (rfl) ?_
  refine Sat.skip ?_
  refine at_n ?_
  refine Sat.seq ?_
  refine Sat.seq ?_
  -- region 3
  refine Sat.region ?_
  refine Tr.loadAll rfl rfl rfl Try.underlying31 rfl Sz31 (by first | exact mem0 | exact mem1 | exact mem2 | exact mem3 | exact mem4 | exact mem5 | exact mem6 | exact mem7) (Block.length (by first | assumption | (simp [hx, hy, hz, hB.l_fPrev]; done) | exact Block.zero_ok | exact Vote.zero_ok )) ?_
  refine Tr.mkRow (z := agg Block.zero.cells) [agg B.cells] ([B].map Block.cells).flatten rfl rfl rfl Try.underlying34 Sz31 Block.zr rfl rfl (by intro v hv; rw [List.mem_singleton.1 hv]; simp [Value.cells, Block.length hB]) (by decide) (by simp [Value.cells]) ?_
  intro q17
  refine Tr.callB rfl rfl rfl rfl Body11 (light_blocks q17 0 1 1 [B] (by intro b hb; rw [List.mem_singleton.1 hb]; exact hB) rfl (by decide) 1) (fun w h => sees_own h mem0) (fun hs3_20 => ?_) (fun hs3_20 => ?_)
  ·
    first | have hs3_2 := of_decide_eq_true hs3_20 | have hs3_2 := of_decide_eq_false hs3_20 | have hs3_2 := nd_t hs3_20 | have hs3_2 := nd_f hs3_20 | have hs3_2 := hs3_20
    have hl40 : B.fLinks.n ≤ 40 ∧ B.fData.n ≤ 2000 := by simp [lightB] at hs3_2; omega
    refine Tr.not rfl rfl rfl ?_
    refine Tr.nil ?_
    refine at_n ?_
    refine Sat.cond_f rfl rfl ?_
    refine Sat.skip ?_
    refine at_n ?_
    refine Sat.seq ?_
    -- region 5
    refine Sat.region ?_
    refine Tr.assign rfl rfl rfl ?_
    refine Tr.nil ?_
    refine at_n ?_
    refine Sat.join (ι := Unit) (fun _u => ⟨[(4, ptr n4 0), (5, ptr n5 0), (6, ptr n6 0), (7, ptr n7 0), (9, i64 (if Op.bytesLess x y = true then -1 else 0))], [⟨n7, bytesV z, 25, (bytesV z).length⟩, ⟨n6, bytesV y, 25, (bytesV y).length⟩, ⟨n5, bytesV x, 25, (bytesV x).length⟩, ⟨n4, B.cells, 31, B.cells.length⟩]⟩) (fun _u => True) ?_ ?_
    ·
      refine Sat.seq ?_
      -- region 6
      refine Sat.draw [(0, 0), (1, 1), (0, 2), (1, 3), (0, 4)] Mixed (by kernel_rfl) ?_
      refine Tr.sliceArr rfl rfl rfl Try.underlying25 Sz5 ?_
      refine Tr.toStr rfl rfl rfl Try.underlying27 Try.underlying5 Try.underlying9 (fun w h => SeesP.of (sees_own h (by first | exact mem0 | exact mem1 | exact mem2 | exact mem3 | exact mem4 | exact mem5 | exact mem6 | exact mem7))) (by simp [hx, hy, hz, hB.l_fPrev]) ?_
      refine Tr.sliceArr rfl rfl rfl Try.underlying25 Sz5 ?_
      refine Tr.toStr rfl rfl rfl Try.underlying27 Try.underlying5 Try.underlying9 (fun w h => SeesP.of (sees_own h (by first | exact mem0 | exact mem1 | exact mem2 | exact mem3 | exact mem4 | exact mem5 | exact mem6 | exact mem7))) (by simp [hx, hy, hz, hB.l_fPrev]) ?_
      refine Tr.lss_str rfl rfl rfl rfl rfl ?_
      refine Tr.nil ?_
      refine at_n ?_
      refine Sat.cond rfl (fun hc2 => ?_) (fun hc2 => ?_)
      ·
        -- region 7
        refine Sat.region ?_
        refine Tr.assign rfl rfl rfl ?_
        refine Tr.nil ?_
        refine at_n ?_
        refine ⟨(), trivial, weak_of (wk1 rfl (wk1 rfl (wk1 rfl (wk1 rfl (wk1 (by first | (rw [if_pos hc2]; rfl) | (rw [if_neg (by rw [hc2]; decide)]; rfl)) wk0))))) (wh1 (by first | exact mem0 | exact mem1 | exact mem2 | exact mem3 | exact mem4 | exact mem5 | exact mem6 | exact mem7) (wh1 (by first | exact mem0 | exact mem1 | exact mem2 | exact mem3 | exact mem4 | exact mem5 | exact mem6 | exact mem7) (wh1 (by first | exact mem0 | exact mem1 | exact mem2 | exact mem3 | exact mem4 | exact mem5 | exact mem6 | exact mem7) (wh1 (by first | exact mem0 | exact mem1 | exact mem2 | exact mem3 | exact mem4 | exact mem5 | exact mem6 | exact mem7) wh0)))) (by repeat (first | exact ns_nil | refine ns_keep rfl ?_ | refine ns_skip ?_))⟩
      ·
        refine Sat.skip ?_
        refine at_n ?_
        refine ⟨(), trivial, weak_of (wk1 rfl (wk1 rfl (wk1 rfl (wk1 rfl (wk1 (by first | (rw [if_pos hc2]; rfl) | (rw [if_neg (by rw [hc2]; decide)]; rfl)) wk0))))) (wh1 (by first | exact mem0 | exact mem1 | exact mem2 | exact mem3 | exact mem4 | exact mem5 | exact mem6 | exact mem7) (wh1 (by first | exact mem0 | exact mem1 | exact mem2 | exact mem3 | exact mem4 | exact mem5 | exact mem6 | exact mem7) (wh1 (by first | exact mem0 | exact mem1 | exact mem2 | exact mem3 | exact mem4 | exact mem5 | exact mem6 | exact mem7) (wh1 (by first | exact mem0 | exact mem1 | exact mem2 | exact mem3 | exact mem4 | exact mem5 | exact mem6 | exact mem7) wh0)))) (by repeat (first | exact ns_nil | refine ns_keep rfl ?_ | refine ns_skip ?_))⟩
    ·
      intro _u hj
      skip
      refine Sat.join (ι := Unit) (fun _u => ⟨[(4, ptr n4 0), (5, ptr n5 0), (6, ptr n6 0), (7, ptr n7 0), (9, i64 (cmpB x y))], [⟨n7, bytesV z, 25, (bytesV z).length⟩, ⟨n6, bytesV y, 25, (bytesV y).length⟩, ⟨n5, bytesV x, 25, (bytesV x).length⟩, ⟨n4, B.cells, 31, B.cells.length⟩]⟩) (fun _u => True) ?_ ?_
      ·
        refine Sat.seq ?_
        -- region 8
        refine Sat.draw [(0, 0), (1, 1), (0, 2), (1, 3), (0, 4)] Mixed (by kernel_rfl) ?_
        refine Tr.sliceArr rfl rfl rfl Try.underlying25 Sz5 ?_
        refine Tr.toStr rfl rfl rfl Try.underlying27 Try.underlying5 Try.underlying9 (fun w h => SeesP.of (sees_own h (by first | exact mem0 | exact mem1 | exact mem2 | exact mem3 | exact mem4 | exact mem5 | exact mem6 | exact mem7))) (by simp [hx, hy, hz, hB.l_fPrev]) ?_
        refine Tr.sliceArr rfl rfl rfl Try.underlying25 Sz5 ?_
        refine Tr.toStr rfl rfl rfl Try.underlying27 Try.underlying5 Try.underlying9 (fun w h => SeesP.of (sees_own h (by first | exact mem0 | exact mem1 | exact mem2 | exact mem3 | exact mem4 | exact mem5 | exact mem6 | exact mem7))) (by simp [hx, hy, hz, hB.l_fPrev]) ?_
        refine Tr.gtr_str rfl rfl rfl rfl rfl ?_
        refine Tr.nil ?_
        refine at_n ?_
        refine Sat.cond rfl (fun hc3 => ?_) (fun hc3 => ?_)
        ·
          -- region 9
          refine Sat.region ?_
          refine Tr.assign rfl rfl rfl ?_
          refine Tr.nil ?_
          refine at_n ?_
          refine ⟨(), trivial, weak_of (wk1 rfl (wk1 rfl (wk1 rfl (wk1 rfl (wk1 (by first | (rw [cmpB_want1 hc3]; rfl) | (rw [← cmpB_want0 hc3]; rfl)) wk0))))) (wh1 (by first | exact mem0 | exact mem1 | exact mem2 | exact mem3 | exact mem4 | exact mem5 | exact mem6 | exact mem7) (wh1 (by first | exact mem0 | exact mem1 | exact mem2 | exact mem3 | exact mem4 | exact mem5 | exact mem6 | exact mem7) (wh1 (by first | exact mem0 | exact mem1 | exact mem2 | exact mem3 | exact mem4 | exact mem5 | exact mem6 | exact mem7) (wh1 (by first | exact mem0 | exact mem1 | exact mem2 | exact mem3 | exact mem4 | exact mem5 | exact mem6 | exact mem7) wh0)))) (by repeat (first | exact ns_nil | refine ns_keep rfl ?_ | refine ns_skip ?_))⟩
        ·
          refine Sat.skip ?_
          refine at_n ?_
          refine ⟨(), trivial, weak_of (wk1 rfl (wk1 rfl (wk1 rfl (wk1 rfl (wk1 (by first | (rw [cmpB_want1 hc3]; rfl) | (rw [← cmpB_want0 hc3]; rfl)) wk0))))) (wh1 (by first | exact mem0 | exact mem1 | exact mem2 | exact mem3 | exact mem4 | exact mem5 | exact mem6 | exact mem7) (wh1 (by first | exact mem0 | exact mem1 | exact mem2 | exact mem3 | exact mem4 | exact mem5 | exact mem6 | exact mem7) (wh1 (by first | exact mem0 | exact mem1 | exact mem2 | exact mem3 | exact mem4 | exact mem5 | exact mem6 | exact mem7) (wh1 (by first | exact mem0 | exact mem1 | exact mem2 | exact mem3 | exact mem4 | exact mem5 | exact mem6 | exact mem7) wh0)))) (by repeat (first | exact ns_nil | refine ns_keep rfl ?_ | refine ns_skip ?_))⟩
      ·
        intro _u hj
        skip
        refine Sat.seq ?_
        refine Sat.join (ι := Unit) (fun _u => ⟨[(4, ptr n4 0), (60, .bool false)], [⟨n4, B.cells, 31, B.cells.length⟩]⟩) (fun _u => True) ?_ ?_
        ·
          -- region 10
          refine Sat.region ?_
          first
            | refine Tr.loadAll rfl rfl rfl Try.underlying25 rfl Sz25 (by first | exact mem0 | exact mem1 | exact mem2 | exact mem3 | exact mem4 | exact mem5 | exact mem6 | exact mem7) (by first | assumption | (simp [hx, hy, hz, hB.l_fPrev]; done) | (rw [bytesV, List.length_map]; assumption)) ?_
            | refine Tr.loadN _ rfl rfl rfl Try.underlying25 rfl Sz25 (by first | exact mem0 | exact mem1 | exact mem2 | exact mem3 | exact mem4 | exact mem5 | exact mem6 | exact mem7) (by exact rfl) (by first | assumption | (simp [hx, hy, hz, hB.l_fPrev]; done) | (rw [bytesV, List.length_map]; assumption)) ?_
          first
            | refine Tr.loadAll rfl rfl rfl Try.underlying25 rfl Sz25 (by first | exact mem0 | exact mem1 | exact mem2 | exact mem3 | exact mem4 | exact mem5 | exact mem6 | exact mem7) (by first | assumption | (simp [hx, hy, hz, hB.l_fPrev]; done) | (rw [bytesV, List.length_map]; assumption)) ?_
            | refine Tr.loadN _ rfl rfl rfl Try.underlying25 rfl Sz25 (by first | exact mem0 | exact mem1 | exact mem2 | exact mem3 | exact mem4 | exact mem5 | exact mem6 | exact mem7) (by exact rfl) (by first | assumption | (simp [hx, hy, hz, hB.l_fPrev]; done) | (rw [bytesV, List.length_map]; assumption)) ?_
          refine Tr.callV rfl rfl rfl rfl Body12 (block_cmp _ _ (by first | assumption | (simp [hx, hy, hz, hB.l_fPrev]; done)) (by first | assumption | (simp [hx, hy, hz, hB.l_fPrev]; done))) (fun _ _ => trivial) ?_
          refine Tr.move rfl rfl rfl ?_
          refine Tr.nei rfl rfl rfl rfl (show (!decide _) = false from congrArg not (decide_eq_true (rfl))) ?_
          refine Tr.move rfl rfl rfl ?_
          first
            | refine Tr.loadAll rfl rfl rfl Try.underlying25 rfl Sz25 (by first | exact mem0 | exact mem1 | exact mem2 | exact mem3 | exact mem4 | exact mem5 | exact mem6 | exact mem7) (by first | assumption | (simp [hx, hy, hz, hB.l_fPrev]; done) | (rw [bytesV, List.length_map]; assumption)) ?_
            | refine Tr.loadN _ rfl rfl rfl Try.underlying25 rfl Sz25 (by first | exact mem0 | exact mem1 | exact mem2 | exact mem3 | exact mem4 | exact mem5 | exact mem6 | exact mem7) (by exact rfl) (by first | assumption | (simp [hx, hy, hz, hB.l_fPrev]; done) | (rw [bytesV, List.length_map]; assumption)) ?_
          first
            | refine Tr.loadAll rfl rfl rfl Try.underlying25 rfl Sz25 (by first | exact mem0 | exact mem1 | exact mem2 | exact mem3 | exact mem4 | exact mem5 | exact mem6 | exact mem7) (by first | assumption | (simp [hx, hy, hz, hB.l_fPrev]; done) | (rw [bytesV, List.length_map]; assumption)) ?_
            | refine Tr.loadN _ rfl rfl rfl Try.underlying25 rfl Sz25 (by first | exact mem0 | exact mem1 | exact mem2 | exact mem3 | exact mem4 | exact mem5 | exact mem6 | exact mem7) (by exact rfl) (by first | assumption | (simp [hx, hy, hz, hB.l_fPrev]; done) | (rw [bytesV, List.length_map]; assumption)) ?_
          refine Tr.callV rfl rfl rfl rfl Body12 (block_cmp _ _ (by first | assumption | (simp [hx, hy, hz, hB.l_fPrev]; done)) (by first | assumption | (simp [hx, hy, hz, hB.l_fPrev]; done))) (fun _ _ => trivial) ?_
          refine Tr.move rfl rfl rfl ?_
          refine Tr.neg_i64 rfl rfl rfl (by omega) ?_
          refine Tr.nei rfl rfl rfl rfl (show (!decide _) = false from congrArg not (decide_eq_true (by rw [cmpB_neg x y]))) ?_
          refine Tr.pick rfl rfl rfl rfl rfl rfl ?_
          refine Tr.move rfl rfl rfl ?_
          first
            | refine Tr.loadAll rfl rfl rfl Try.underlying25 rfl Sz25 (by first | exact mem0 | exact mem1 | exact mem2 | exact mem3 | exact mem4 | exact mem5 | exact mem6 | exact mem7) (by first | assumption | (simp [hx, hy, hz, hB.l_fPrev]; done) | (rw [bytesV, List.length_map]; assumption)) ?_
            | refine Tr.loadN _ rfl rfl rfl Try.underlying25 rfl Sz25 (by first | exact mem0 | exact mem1 | exact mem2 | exact mem3 | exact mem4 | exact mem5 | exact mem6 | exact mem7) (by exact rfl) (by first | assumption | (simp [hx, hy, hz, hB.l_fPrev]; done) | (rw [bytesV, List.length_map]; assumption)) ?_
          first
            | refine Tr.loadAll rfl rfl rfl Try.underlying25 rfl Sz25 (by first | exact mem0 | exact mem1 | exact mem2 | exact mem3 | exact mem4 | exact mem5 | exact mem6 | exact mem7) (by first | assumption | (simp [hx, hy, hz, hB.l_fPrev]; done) | (rw [bytesV, List.length_map]; assumption)) ?_
            | refine Tr.loadN _ rfl rfl rfl Try.underlying25 rfl Sz25 (by first | exact mem0 | exact mem1 | exact mem2 | exact mem3 | exact mem4 | exact mem5 | exact mem6 | exact mem7) (by exact rfl) (by first | assumption | (simp [hx, hy, hz, hB.l_fPrev]; done) | (rw [bytesV, List.length_map]; assumption)) ?_
          refine Tr.callV rfl rfl rfl rfl Body12 (block_cmp _ _ (by first | assumption | (simp [hx, hy, hz, hB.l_fPrev]; done)) (by first | assumption | (simp [hx, hy, hz, hB.l_fPrev]; done))) (fun _ _ => trivial) ?_
          refine two (fun r hr k => Tr.leq rfl rfl rfl rfl hr k) (fun hs10_170 => ?_) (fun hs10_170 => ?_)
          ·
            first | have hs10_17 := of_decide_eq_true hs10_170 | have hs10_17 := of_decide_eq_false hs10_170 | have hs10_17 := nd_t hs10_170 | have hs10_17 := nd_f hs10_170 | have hs10_17 := hs10_170
            refine Tr.move rfl rfl rfl ?_
            first
              | refine Tr.loadAll rfl rfl rfl Try.underlying25 rfl Sz25 (by first | exact mem0 | exact mem1 | exact mem2 | exact mem3 | exact mem4 | exact mem5 | exact mem6 | exact mem7) (by first | assumption | (simp [hx, hy, hz, hB.l_fPrev]; done) | (rw [bytesV, List.length_map]; assumption)) ?_
              | refine Tr.loadN _ rfl rfl rfl Try.underlying25 rfl Sz25 (by first | exact mem0 | exact mem1 | exact mem2 | exact mem3 | exact mem4 | exact mem5 | exact mem6 | exact mem7) (by exact rfl) (by first | assumption | (simp [hx, hy, hz, hB.l_fPrev]; done) | (rw [bytesV, List.length_map]; assumption)) ?_
            first
              | refine Tr.loadAll rfl rfl rfl Try.underlying25 rfl Sz25 (by first | exact mem0 | exact mem1 | exact mem2 | exact mem3 | exact mem4 | exact mem5 | exact mem6 | exact mem7) (by first | assumption | (simp [hx, hy, hz, hB.l_fPrev]; done) | (rw [bytesV, List.length_map]; assumption)) ?_
              | refine Tr.loadN _ rfl rfl rfl Try.underlying25 rfl Sz25 (by first | exact mem0 | exact mem1 | exact mem2 | exact mem3 | exact mem4 | exact mem5 | exact mem6 | exact mem7) (by exact rfl) (by first | assumption | (simp [hx, hy, hz, hB.l_fPrev]; done) | (rw [bytesV, List.length_map]; assumption)) ?_
            refine Tr.callV rfl rfl rfl rfl Body12 (block_cmp _ _ (by first | assumption | (simp [hx, hy, hz, hB.l_fPrev]; done)) (by first | assumption | (simp [hx, hy, hz, hB.l_fPrev]; done))) (fun _ _ => trivial) ?_
            refine two (fun r hr k => Tr.leq rfl rfl rfl rfl hr k) (fun hs10_220 => ?_) (fun hs10_220 => ?_)
            ·
              first | have hs10_22 := of_decide_eq_true hs10_220 | have hs10_22 := of_decide_eq_false hs10_220 | have hs10_22 := nd_t hs10_220 | have hs10_22 := nd_f hs10_220 | have hs10_22 := hs10_220
              refine Tr.pick rfl rfl rfl rfl rfl rfl ?_
              refine Tr.move rfl rfl rfl ?_
              first
                | refine Tr.loadAll rfl rfl rfl Try.underlying25 rfl Sz25 (by first | exact mem0 | exact mem1 | exact mem2 | exact mem3 | exact mem4 | exact mem5 | exact mem6 | exact mem7) (by first | assumption | (simp [hx, hy, hz, hB.l_fPrev]; done) | (rw [bytesV, List.length_map]; assumption)) ?_
                | refine Tr.loadN _ rfl rfl rfl Try.underlying25 rfl Sz25 (by first | exact mem0 | exact mem1 | exact mem2 | exact mem3 | exact mem4 | exact mem5 | exact mem6 | exact mem7) (by exact rfl) (by first | assumption | (simp [hx, hy, hz, hB.l_fPrev]; done) | (rw [bytesV, List.length_map]; assumption)) ?_
              first
                | refine Tr.loadAll rfl rfl rfl Try.underlying25 rfl Sz25 (by first | exact mem0 | exact mem1 | exact mem2 | exact mem3 | exact mem4 | exact mem5 | exact mem6 | exact mem7) (by first | assumption | (simp [hx, hy, hz, hB.l_fPrev]; done) | (rw [bytesV, List.length_map]; assumption)) ?_
                | refine Tr.loadN _ rfl rfl rfl Try.underlying25 rfl Sz25 (by first | exact mem0 | exact mem1 | exact mem2 | exact mem3 | exact mem4 | exact mem5 | exact mem6 | exact mem7) (by exact rfl) (by first | assumption | (simp [hx, hy, hz, hB.l_fPrev]; done) | (rw [bytesV, List.length_map]; assumption)) ?_
              refine Tr.callV rfl rfl rfl rfl Body12 (block_cmp _ _ (by first | assumption | (simp [hx, hy, hz, hB.l_fPrev]; done)) (by first | assumption | (simp [hx, hy, hz, hB.l_fPrev]; done))) (fun _ _ => trivial) ?_
              refine Tr.gtr rfl rfl rfl rfl (decide_eq_false (by have := (cmpB_trans x y z hs10_17 hs10_22).1; omega)) ?_
              refine Tr.pick rfl rfl rfl rfl rfl rfl ?_
              refine Tr.pick rfl rfl rfl rfl rfl rfl ?_
              refine Tr.nil ?_
              refine at_n ?_
              refine ⟨(), trivial, weak_of (wk1 rfl (wk1 rfl wk0)) (wh1 (by first | exact mem0 | exact mem1 | exact mem2 | exact mem3 | exact mem4 | exact mem5 | exact mem6 | exact mem7) wh0) (by repeat (first | exact ns_nil | refine ns_keep rfl ?_ | refine ns_skip ?_))⟩
            ·
              first | have hs10_22 := of_decide_eq_true hs10_220 | have hs10_22 := of_decide_eq_false hs10_220 | have hs10_22 := nd_t hs10_220 | have hs10_22 := nd_f hs10_220 | have hs10_22 := hs10_220
              refine Tr.pick rfl rfl rfl rfl rfl rfl ?_
              refine Tr.move rfl rfl rfl ?_
              refine Tr.skp rfl rfl ?_
              refine Tr.skp rfl rfl ?_
              refine Tr.skp rfl rfl ?_
              refine Tr.skp rfl rfl ?_
              refine Tr.pick rfl rfl rfl rfl rfl rfl ?_
              refine Tr.pick rfl rfl rfl rfl rfl rfl ?_
              refine Tr.nil ?_
              refine at_n ?_
              refine ⟨(), trivial, weak_of (wk1 rfl (wk1 rfl wk0)) (wh1 (by first | exact mem0 | exact mem1 | exact mem2 | exact mem3 | exact mem4 | exact mem5 | exact mem6 | exact mem7) wh0) (by repeat (first | exact ns_nil | refine ns_keep rfl ?_ | refine ns_skip ?_))⟩
          ·
            first | have hs10_17 := of_decide_eq_true hs10_170 | have hs10_17 := of_decide_eq_false hs10_170 | have hs10_17 := nd_t hs10_170 | have hs10_17 := nd_f hs10_170 | have hs10_17 := hs10_170
            refine Tr.move rfl rfl rfl ?_
            refine Tr.skp rfl rfl ?_
            refine Tr.skp rfl rfl ?_
            refine Tr.skp rfl rfl ?_
            refine Tr.skp rfl rfl ?_
            refine Tr.pick rfl rfl rfl rfl rfl rfl ?_
            refine Tr.move rfl rfl rfl ?_
            refine Tr.skp rfl rfl ?_
            refine Tr.skp rfl rfl ?_
            refine Tr.skp rfl rfl ?_
            refine Tr.skp rfl rfl ?_
            refine Tr.pick rfl rfl rfl rfl rfl rfl ?_
            refine Tr.pick rfl rfl rfl rfl rfl rfl ?_
            refine Tr.nil ?_
            refine at_n ?_
            refine ⟨(), trivial, weak_of (wk1 rfl (wk1 rfl wk0)) (wh1 (by first | exact mem0 | exact mem1 | exact mem2 | exact mem3 | exact mem4 | exact mem5 | exact mem6 | exact mem7) wh0) (by repeat (first | exact ns_nil | refine ns_keep rfl ?_ | refine ns_skip ?_))⟩
        ·
          intro _u hj
          skip
          refine Sat.cond_f rfl (rfl) ?_
          refine Sat.skip ?_
          refine at_n ?_
          refine Sat.seq ?_
          refine Sat.seq ?_
          -- region 12
          refine Sat.region ?_
          refine Tr.loadAll rfl rfl rfl Try.underlying31 rfl Sz31 (by first | exact mem0 | exact mem1 | exact mem2 | exact mem3 | exact mem4 | exact mem5 | exact mem6 | exact mem7) (Block.length (by first | assumption | (simp [hx, hy, hz, hB.l_fPrev]; done) | exact Block.zero_ok | exact Vote.zero_ok )) ?_
          refine Tr.callV rfl rfl rfl rfl Body13 (block_check B hB ls) (fun w h => rows_ext h rfl hW) ?_
          refine Tr.nei rfl rfl rfl rfl rfl ?_
          refine Tr.nil ?_
          refine at_n ?_
          first
            | refine Sat.condP rfl (fun hc5 => ?_) (fun hc5 => ?_)
            | refine Sat.condNP rfl (fun hc5 => ?_) (fun hc5 => ?_)
            | refine Sat.cond rfl (fun hc5 => ?_) (fun hc5 => ?_)
          ·
            refine Sat.seq ?_
            -- region 13
            refine Sat.region ?_
            refine Tr.assign rfl rfl rfl ?_
            refine Tr.nil ?_
            refine at_n ?_
            refine Sat.ret ?_
            refine at_r ?_
            refine en_r ?_
            refine ⟨_, [], res_tmp rfl rfl, (by simp), (by simp), ?_, rfl⟩
            rfl
          ·
            have hlb := (check_parts hc5).2
            refine Sat.skip ?_
            refine at_n ?_
            refine Sat.seq ?_
            -- region 14
            refine Sat.region ?_
            refine Tr.loadAll rfl rfl rfl Try.underlying31 rfl Sz31 (by first | exact mem0 | exact mem1 | exact mem2 | exact mem3 | exact mem4 | exact mem5 | exact mem6 | exact mem7) (Block.length (by first | assumption | (simp [hx, hy, hz, hB.l_fPrev]; done) | exact Block.zero_ok | exact Vote.zero_ok )) ?_
            refine Tr.call rfl rfl rfl rfl Body15 (kit_own_block B hB ls ld (by omega) (by omega)) (OwnedBlock.loose _ _ _) (fun w h => ⟨rows_ext h rfl hW, bytes_ext h rfl hD⟩) ?_
            rintro v1 out1 ⟨q1, c1, q2, c2, rfl, hc1, hc2, rfl⟩
            refine Tr.call rfl rfl rfl rfl Body14 (parents_own_s B hB ls q1 c1 q2 c2 (by omega) hs) (FreshRow.loose _ _ _ _) (fun w h => own_rows h mem1 hW.len hW.row hc1 (by omega)) ?_
            rintro v3 out3 ⟨q3, c3, rfl, hc3, rfl⟩
            refine Tr.assign rfl rfl rfl ?_
            refine Tr.nil ?_
            refine at_n ?_
            refine Sat.seq ?_
            -- region 15
            refine Sat.region ?_
            refine Tr.assign rfl rfl rfl ?_
            refine Tr.nil ?_
            refine at_n ?_
            refine Sat.seq ?_
            refine Sat.seq ?_
            -- region 16
            refine Sat.region ?_
            refine Tr.fld rfl rfl rfl Try.underlying31 rfl Sz24 (by decide) _ rfl ?_
            refine Tr.load1 rfl rfl rfl Try.underlying24 rfl (by first | exact mem0 | exact mem1 | exact mem2 | exact mem3 | exact mem4 | exact mem5 | exact mem6 | exact mem7) (by first | exact Block.get_fSeq (by first | assumption | (simp [hx, hy, hz, hB.l_fPrev]; done) | exact Block.zero_ok | exact Vote.zero_ok ) | exact (by first | rfl | exact get_words (by first | omega | (simp [hx, hy, hz, hB.l_fPrev]; done) | (simp [hx, hy, hz, hB.l_fPrev]; omega)) | exact get_bytes (by first | omega | (simp [hx, hy, hz, hB.l_fPrev]; done) | (simp [hx, hy, hz, hB.l_fPrev]; omega)) | exact get_ints (by first | omega | (simp [hx, hy, hz, hB.l_fPrev]; done) | (simp [hx, hy, hz, hB.l_fPrev]; omega)))) ?_
            refine Tr.gtr rfl rfl rfl rfl (decide_eq_true (by omega)) ?_
            refine Tr.nil ?_
            refine at_n ?_
            refine Sat.cond_t rfl rfl ?_
            -- region 17
            refine Sat.region ?_
            refine Tr.assign rfl rfl rfl ?_
            refine Tr.nil ?_
            refine at_n ?_
            refine Sat.seq ?_
            refine Sat.seq ?_
            -- region 18
            refine Sat.draw [(0, 0), (0, 1), (0, 2), (0, 3), (1, 4), (0, 5), (0, 6), (0, 7), (0, 8), (0, 9), (0, 10), (0, 11), (0, 12), (0, 13), (1, 14), (0, 15), (1, 16), (0, 17), (0, 18), (0, 19), (0, 20), (0, 21), (0, 22), (0, 23), (0, 24), (1, 25), (3, 26), (0, 27), (0, 28)] Mixed (by kernel_rfl) ?_
            refine Tr.move rfl rfl rfl ?_
            refine Tr.lenSl rfl rfl rfl Try.underlying26 ?_
            refine Tr.move rfl rfl rfl ?_
            refine Tr.fld rfl rfl rfl Try.underlying31 rfl Sz26 (by decide) _ rfl ?_
            refine Tr.load1 rfl rfl rfl Try.underlying26 rfl (by first | exact mem0 | exact mem1 | exact mem2 | exact mem3 | exact mem4 | exact mem5 | exact mem6 | exact mem7) (by first | exact Block.get_fLinks (by first | assumption | (simp [hx, hy, hz, hB.l_fPrev]; done) | exact Block.zero_ok | exact Vote.zero_ok ) | exact (by first | rfl | exact get_words (by first | omega | (simp [hx, hy, hz, hB.l_fPrev]; done) | (simp [hx, hy, hz, hB.l_fPrev]; omega)) | exact get_bytes (by first | omega | (simp [hx, hy, hz, hB.l_fPrev]; done) | (simp [hx, hy, hz, hB.l_fPrev]; omega)) | exact get_ints (by first | omega | (simp [hx, hy, hz, hB.l_fPrev]; done) | (simp [hx, hy, hz, hB.l_fPrev]; omega)))) ?_
            refine Tr.lenSl rfl rfl rfl Try.underlying26 ?_
            refine Tr.add_i64 rfl rfl rfl rfl (by omega) ?_
            refine Tr.nei rfl rfl rfl rfl (show (!decide _) = false from congrArg not (decide_eq_true (by omega))) ?_
            refine Tr.move rfl rfl rfl ?_
            refine Tr.move rfl rfl rfl ?_
            refine Tr.eqi rfl rfl rfl rfl (decide_eq_true (rfl)) ?_
            refine Tr.move rfl rfl rfl ?_
            refine Tr.move rfl rfl rfl ?_
            first
              | refine Tr.idxSl 32 rfl rfl rfl rfl Try.underlying26 Sz25 0 rfl (by omega) ?_
            refine Tr.loadSN (bytesV ((B.fPrev :: ls).getD 0 [])) rfl rfl rfl Try.underlying25 rfl Sz25 (bytesV_len (getD_len hrp (by simp [hW.len]; try omega))) (fun w h => sees_row hrp (sees_own h (by first | exact mem0 | exact mem1 | exact mem2 | exact mem3 | exact mem4 | exact mem5 | exact mem6 | exact mem7)) (by simp [hW.len]; try omega)) ?_
            refine Tr.fld rfl rfl rfl Try.underlying31 rfl Sz25 (by decide) _ rfl ?_
            first
              | refine Tr.loadN (bytesV _) rfl rfl rfl Try.underlying25 rfl Sz25 (by first | exact mem0 | exact mem1 | exact mem2 | exact mem3 | exact mem4 | exact mem5 | exact mem6 | exact mem7) (Block.row_fPrev (by first | assumption | (simp [hx, hy, hz, hB.l_fPrev]; done) | exact Block.zero_ok | exact Vote.zero_ok )) (Block.rl_fPrev (by first | assumption | (simp [hx, hy, hz, hB.l_fPrev]; done) | exact Block.zero_ok | exact Vote.zero_ok )) ?_
            refine Tr.neq_bytes rfl rfl rfl rfl Try.eqGuardType25 Try.underlying25 Try.underlying5 Sz5 (by first | assumption | (simp [hx, hy, hz, hB.l_fPrev]; done) | (rw [bytesV, List.length_map]; assumption)) (by first | assumption | (simp [hx, hy, hz, hB.l_fPrev]; done) | (rw [bytesV, List.length_map]; assumption)) (show (!decide _) = false from congrArg not (decide_eq_true (rfl))) ?_
            refine Tr.pick rfl rfl rfl rfl rfl rfl ?_
            refine Tr.pick rfl rfl rfl rfl rfl rfl ?_
            refine Tr.move rfl rfl rfl ?_
            refine Tr.move rfl rfl rfl ?_
            refine Tr.move rfl rfl rfl ?_
            refine Tr.sliceLoN 1 rfl rfl rfl rfl rfl (by omega) hc3 Try.underlying26 Sz25 ?_
            refine Tr.fld rfl rfl rfl Try.underlying31 rfl Sz26 (by decide) _ rfl ?_
            refine Tr.load1 rfl rfl rfl Try.underlying26 rfl (by first | exact mem0 | exact mem1 | exact mem2 | exact mem3 | exact mem4 | exact mem5 | exact mem6 | exact mem7) (by first | exact Block.get_fLinks (by first | assumption | (simp [hx, hy, hz, hB.l_fPrev]; done) | exact Block.zero_ok | exact Vote.zero_ok ) | exact (by first | rfl | exact get_words (by first | omega | (simp [hx, hy, hz, hB.l_fPrev]; done) | (simp [hx, hy, hz, hB.l_fPrev]; omega)) | exact get_bytes (by first | omega | (simp [hx, hy, hz, hB.l_fPrev]; done) | (simp [hx, hy, hz, hB.l_fPrev]; omega)) | exact get_ints (by first | omega | (simp [hx, hy, hz, hB.l_fPrev]; done) | (simp [hx, hy, hz, hB.l_fPrev]; omega)))) ?_
            refine Tr.callV rfl rfl rfl rfl Body16 (digests_same _ _ _ _ _ _ ((B.fPrev :: ls).drop 1) ls (fun l hl => hrp l (List.mem_of_mem_drop hl)) hW.row (by simp [hW.len]; try omega) hW.len (by omega) rfl) (fun w h => ⟨SeesP.of (sees_rows_drop hrp (by simp [hW.len]; try omega) hc3 (sees_own h (by first | exact mem0 | exact mem1 | exact mem2 | exact mem3 | exact mem4 | exact mem5 | exact mem6 | exact mem7))), seesP_ext h rfl hW.see⟩) ?_
            refine Tr.not rfl rfl rfl ?_
            refine Tr.pick rfl rfl rfl rfl rfl rfl ?_
            refine Tr.nil ?_
            refine at_n ?_
            refine Sat.cond_f rfl rfl ?_
            refine Sat.skip ?_
            refine at_n ?_
            refine Sat.seq ?_
            refine Sat.seq ?_
            -- region 20
            refine Sat.region ?_
            refine Tr.assign rfl rfl rfl ?_
            refine Tr.nil ?_
            refine at_n ?_
            refine Sat.block ?_
            refine Sat.loop (ι := Nat) (fun i => ⟨[(10, .slice (some ⟨q3, 0, none⟩) (1 + B.fLinks.n) c3), (12, i64 (i : Int))], [⟨q3, flatB (B.fPrev :: ls), 25, c3 * 32⟩]⟩) (fun i => i ≤ (1 + B.fLinks.n)) (fun i => (1 + B.fLinks.n) - i) (0) ?_ ?_ ?_
            · omega
            · exact weak_of (wk1 rfl (wk1 rfl wk0)) (wh1 (by first | exact mem0 | exact mem1 | exact mem2 | exact mem3 | exact mem4 | exact mem5 | exact mem6 | exact mem7) wh0) (by repeat (first | exact ns_nil | refine ns_keep rfl ?_ | refine ns_skip ?_))
            ·
              rintro i hi
              refine Sat.seq ?_
              refine Sat.seq ?_
              -- region 21
              refine Sat.region ?_
              refine Tr.move rfl rfl rfl ?_
              refine Tr.move rfl rfl rfl ?_
              refine Tr.lenSl rfl rfl rfl Try.underlying26 ?_
              refine Tr.lss rfl rfl rfl rfl rfl ?_
              refine Tr.nil ?_
              refine at_n ?_
              first
                | refine Sat.condP rfl (fun hc8 => ?_) (fun hc8 => ?_)
                | refine Sat.condNP rfl (fun hc8 => ?_) (fun hc8 => ?_)
                | refine Sat.cond rfl (fun hc8 => ?_) (fun hc8 => ?_)
              ·
                have hi2 : i < (1 + B.fLinks.n) := by omega
                refine Sat.skip ?_
                refine at_n ?_
                refine Sat.seq ?_
                refine Sat.block ?_
                refine Sat.seq ?_
                -- region 23
                refine Sat.region ?_
                refine Tr.assign rfl rfl rfl ?_
                refine Tr.nil ?_
                refine at_n ?_
                refine Sat.block ?_
                refine Sat.loop (ι := Nat) (fun j => ⟨[(10, .slice (some ⟨q3, 0, none⟩) (1 + B.fLinks.n) c3), (12, i64 (i : Int)), (13, i64 (j : Int))], [⟨q3, flatB (B.fPrev :: ls), 25, c3 * 32⟩]⟩) (fun j => j ≤ i) (fun j => i - j) (0) ?_ ?_ ?_
                · omega
                · exact weak_of (wk1 rfl (wk1 rfl (wk1 rfl wk0))) (wh1 (by first | exact mem0 | exact mem1 | exact mem2 | exact mem3 | exact mem4 | exact mem5 | exact mem6 | exact mem7) wh0) (by repeat (first | exact ns_nil | refine ns_keep rfl ?_ | refine ns_skip ?_))
                ·
                  rintro j hj
                  refine Sat.seq ?_
                  refine Sat.seq ?_
                  -- region 24
                  refine Sat.region ?_
                  refine Tr.move rfl rfl rfl ?_
                  refine Tr.move rfl rfl rfl ?_
                  refine Tr.lss rfl rfl rfl rfl rfl ?_
                  refine Tr.nil ?_
                  refine at_n ?_
                  first
                    | refine Sat.condP rfl (fun hc9 => ?_) (fun hc9 => ?_)
                    | refine Sat.condNP rfl (fun hc9 => ?_) (fun hc9 => ?_)
                    | refine Sat.cond rfl (fun hc9 => ?_) (fun hc9 => ?_)
                  ·
                    have hji : j < i := by omega
                    have hri : ((B.fPrev :: ls).getD i []).length = 32 := getD_len hrp (by simp [hW.len]; try omega)
                    have hrj : ((B.fPrev :: ls).getD j []).length = 32 := getD_len hrp (by simp [hW.len]; try omega)
                    refine Sat.skip ?_
                    refine at_n ?_
                    refine Sat.seq ?_
                    refine Sat.block ?_
                    refine Sat.seq ?_
                    -- region 26
                    refine Sat.draw [(0, 0), (0, 1), (0, 2), (1, 3), (0, 4), (0, 5), (0, 6), (1, 7), (0, 8)] Mixed (by kernel_rfl) ?_
                    refine Tr.move rfl rfl rfl ?_
                    refine Tr.move rfl rfl rfl ?_
                    first
                      | refine Tr.idxSl 32 rfl rfl rfl rfl Try.underlying26 Sz25 _ rfl (by omega) ?_
                      | refine Tr.idxSl 32 rfl rfl rfl rfl Try.underlying26 Sz25 _ (toNat_back (by omega)) (by omega) ?_
                    refine Tr.loadSN (bytesV ((B.fPrev :: ls).getD i [])) rfl rfl rfl Try.underlying25 rfl Sz25 (bytesV_len (getD_len hrp (by simp [hW.len]; try omega))) (fun w h => sees_row hrp (sees_own h (by first | exact mem0 | exact mem1 | exact mem2 | exact mem3 | exact mem4 | exact mem5 | exact mem6 | exact mem7)) (by simp [hW.len]; try omega)) ?_
                    refine Tr.move rfl rfl rfl ?_
                    refine Tr.move rfl rfl rfl ?_
                    first
                      | refine Tr.idxSl 32 rfl rfl rfl rfl Try.underlying26 Sz25 _ rfl (by omega) ?_
                      | refine Tr.idxSl 32 rfl rfl rfl rfl Try.underlying26 Sz25 _ (toNat_back (by omega)) (by omega) ?_
                    refine Tr.loadSN (bytesV ((B.fPrev :: ls).getD j [])) rfl rfl rfl Try.underlying25 rfl Sz25 (bytesV_len (getD_len hrp (by simp [hW.len]; try omega))) (fun w h => sees_row hrp (sees_own h (by first | exact mem0 | exact mem1 | exact mem2 | exact mem3 | exact mem4 | exact mem5 | exact mem6 | exact mem7)) (by simp [hW.len]; try omega)) ?_
                    refine Tr.eql_bytes rfl rfl rfl rfl Try.eqGuardType25 Try.underlying25 Try.underlying5 Sz5 (by first | assumption | (simp [hx, hy, hz, hB.l_fPrev]; done) | (rw [bytesV, List.length_map]; assumption)) (by first | assumption | (simp [hx, hy, hz, hB.l_fPrev]; done) | (rw [bytesV, List.length_map]; assumption)) (decide_eq_false (prev_apart hlb (by simp [hW.len]; try omega) hji)) ?_
                    refine Tr.nil ?_
                    refine at_n ?_
                    refine Sat.cond_f rfl (rfl) ?_
                    refine Sat.skip ?_
                    refine bl_n ?_
                    refine at_n ?_
                    -- region 25
                    refine Sat.region ?_
                    refine Tr.move rfl rfl rfl ?_
                    refine Tr.add_i64 rfl rfl rfl rfl (by omega) ?_
                    refine Tr.assign rfl rfl rfl ?_
                    refine Tr.nil ?_
                    refine at_n ?_
                    exact ⟨j + 1, by omega, by omega, weak_of (wk1 rfl (wk1 rfl (wk1 rfl wk0))) (wh1 (by first | exact mem0 | exact mem1 | exact mem2 | exact mem3 | exact mem4 | exact mem5 | exact mem6 | exact mem7) wh0) (by repeat (first | exact ns_nil | refine ns_keep rfl ?_ | refine ns_skip ?_))⟩
                  ·
                    have hji2 : j = i := by omega
                    refine Sat.exit ?_
                    refine at_x ?_
                    refine at_x ?_
                    refine bl_h ?_
                    refine bl_n ?_
                    refine at_n ?_
                    -- region 22
                    refine Sat.region ?_
                    refine Tr.move rfl rfl rfl ?_
                    refine Tr.add_i64 rfl rfl rfl rfl (by omega) ?_
                    refine Tr.assign rfl rfl rfl ?_
                    refine Tr.nil ?_
                    refine at_n ?_
                    exact ⟨i + 1, by omega, by omega, weak_of (wk1 rfl (wk1 rfl wk0)) (wh1 (by first | exact mem0 | exact mem1 | exact mem2 | exact mem3 | exact mem4 | exact mem5 | exact mem6 | exact mem7) wh0) (by repeat (first | exact ns_nil | refine ns_keep rfl ?_ | refine ns_skip ?_))⟩
              ·
                refine Sat.exit ?_
                refine at_x ?_
                refine at_x ?_
                refine bl_h ?_
                refine at_n ?_
                refine Sat.seq ?_
                -- region 28
                refine Sat.region ?_
                refine Tr.assign rfl rfl rfl ?_
                refine Tr.nil ?_
                refine at_n ?_
                refine Sat.ret ?_
                refine en_r ?_
                refine ⟨_, [], res_tmp rfl rfl, (by simp), (by simp), ?_, rfl⟩
                rfl
  ·
    first | have hs3_2 := of_decide_eq_true hs3_20 | have hs3_2 := of_decide_eq_false hs3_20 | have hs3_2 := nd_t hs3_20 | have hs3_2 := nd_f hs3_20 | have hs3_2 := hs3_20
    skip
    refine Tr.not rfl rfl rfl ?_
    refine Tr.nil ?_
    refine at_n ?_
    refine Sat.cond_t rfl rfl ?_
    refine Sat.seq ?_
    -- region 4
    refine Sat.region ?_
    refine Tr.assign rfl rfl rfl ?_
    refine Tr.nil ?_
    refine at_n ?_
    refine Sat.ret ?_
    refine at_r ?_
    refine en_r ?_
    refine ⟨_, [], res_tmp rfl rfl, (by simp), (by simp), ?_, rfl⟩
    rfl

end Go.Proofs.Ytjeggfgbcafenaa
