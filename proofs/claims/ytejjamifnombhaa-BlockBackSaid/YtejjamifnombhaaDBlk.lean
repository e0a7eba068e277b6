/- Blocks as plain data, and the contracts of package block over them. Conditions: what the rows hold. -/
import Derived.Test.YtejjamifnombhaaRead
import Derived.Laws.Externs
namespace Go.Proofs.Ytejjamifnombhaa
open Go Hw
set_option linter.unusedVariables false
set_option linter.unusedSimpArgs false


/-- a block as plain data -/
structure DB where
  w : List UInt8
  seq : UInt64
  prev : List UInt8
  ls : List (List UInt8)
  ds : List UInt8
  sg : List UInt8
deriving DecidableEq
def DB.zero : DB := ⟨List.replicate 32 0, 0, List.replicate 32 0, [], [], List.replicate 64 0⟩
def DB.head (D : DB) : Bool := decide ((4294967295 : Int) < (D.seq.toNat : Int)) || (!decide (decide (D.prev = List.replicate 32 0) = decide ((D.seq.toNat : Int) = 0)) || (decide ((16 : Int) < (D.ls.length : Int)) || decide ((512 : Int) < (D.ds.length : Int))))
def DB.check (D : DB) : Int := if D.head = true then 2 else (if linksBad D.prev D.ls = true then 2 else 0)
def DB.body (D : DB) : List UInt8 := D.w ++ numB D.seq ++ D.prev ++ numB (UInt64.ofNat D.ls.length) ++ D.ls.flatten ++ (numB (UInt64.ofNat D.ds.length) ++ D.ds)
def DB.bytes (D : DB) : List UInt8 := D.body ++ D.sg
/-- the lengths that the types ask -/
structure DB.ok (D : DB) : Prop where
  w : D.w.length = 32
  prev : D.prev.length = 32
  sg : D.sg.length = 64
  ls : ∀ l ∈ D.ls, l.length = 32
structure BlockIs (W : World) (B : Block) (D : DB) : Prop where
  ok : B.ok
  w : B.fWriter = D.w
  seq : B.fSeq = D.seq
  prev : B.fPrev = D.prev
  ls : RowsAt W B.fLinks 32 D.ls
  ds : BytesAt W B.fData D.ds
  sg : B.fSig = D.sg
theorem BlockIs.dok {W : World} {B : Block} {D : DB} (h : BlockIs W B D) : D.ok := ⟨by rw [← h.w]; exact h.ok.l_fWriter, by rw [← h.prev]; exact h.ok.l_fPrev, by rw [← h.sg]; exact h.ok.l_fSig, h.ls.row⟩
theorem BlockIs.check {W : World} {B : Block} {D : DB} (h : BlockIs W B D) : bcheck B D.ls = D.check := by
  simp only [bcheck, bheadB, DB.check, DB.head, h.seq, h.prev, h.ls.len, h.ds.len]
theorem BlockIs.body {W : World} {B : Block} {D : DB} (h : BlockIs W B D) : bodyB B D.ls D.ds = D.body := by
  simp only [bodyB, DB.body, h.w, h.seq, h.prev, h.ls.len, h.ds.len]
theorem BlockIs.bytes {W : World} {B : Block} {D : DB} (h : BlockIs W B D) : bytesB B D.ls D.ds = D.bytes := by
  simp only [bytesB, DB.bytes, h.body, h.sg]
theorem acc_rows {s : Sl} {bl : List Blk} {ls : List (List UInt8)} {E : TypeId} {n : Nat} {w : World} (h : Acc s bl (flatB ls) E n 32) (hl : Lies bl w) (hr : ∀ l ∈ ls, l.length = 32) (hn : ls.length = n) (hm : n ≤ 1000000) : RowsAt w s 32 ls :=
  ⟨by rw [h.num, hn], hr, h.cap, h.see hl, by rw [h.num]; unfold maxLen; omega, h.nilc⟩
theorem acc_bytes {s : Sl} {bl : List Blk} {l : List UInt8} {E : TypeId} {n : Nat} {w : World} (h : Acc s bl (bytesV l) E n 1) (hl : Lies bl w) (hn : l.length = n) (hm : n ≤ 1000000) : BytesAt w s l :=
  ⟨by rw [h.num, hn], h.cap, h.see hl, by rw [h.num]; unfold maxLen; omega, h.nilc⟩
/-- what is read: the data of a block -/
def readP (xs : List UInt8) : DB × Nat × Int :=
  let r1 := digR xs 0 0
  let r2 := numR xs r1.2.1 r1.2.2
  let r3 := digR xs r2.2.1 r2.2.2
  let r4 := numR xs r3.2.1 r3.2.2
  let r5 := digsR xs (min r4.1.toNat 17) r4.2.1 r4.2.2
  let r6 := blkR xs r5.2.1 r5.2.2
  let r7 := takR xs 64 r6.2.1 r6.2.2
  (⟨r1.1, r2.1, r3.1, r5.1, r6.1.getD [], r7.1 ++ (List.replicate 64 0).drop r7.1.length⟩, r7.2)
def readD (xs : List UInt8) : DB × Int :=
  if endR xs.length (readP xs).2.1 (readP xs).2.2 = 0 ∧ (readP xs).1.check = 0 then ((readP xs).1, 0) else (DB.zero, 4)
theorem readD_bad {xs : List UInt8} (h : ¬ (endR xs.length (readP xs).2.1 (readP xs).2.2 = 0 ∧ (readP xs).1.check = 0)) : readD xs = (DB.zero, 4) := if_neg h
theorem readD_ok {xs : List UInt8} (h : endR xs.length (readP xs).2.1 (readP xs).2.2 = 0 ∧ (readP xs).1.check = 0) : readD xs = ((readP xs).1, 0) := if_pos h
theorem bcheck_D {B : Block} {D : DB} (h1 : B.fSeq = D.seq) (h2 : B.fPrev = D.prev) (h3 : B.fLinks.n = D.ls.length) (h4 : B.fData.n = D.ds.length) : bcheck B D.ls = D.check := by
  have e : bheadB B = D.head := by
    unfold bheadB DB.head
    rw [h1, h2, h3, h4]
  unfold bcheck DB.check
  rw [e, h2]
theorem zero_is (W : World) : BlockIs W Block.zero DB.zero := ⟨Block.zero_ok, rfl, rfl, rfl, ⟨rfl, fun l hl => (by cases hl), Nat.le_refl _, SeesP.nil, Nat.zero_le _, fun _ => rfl⟩, ⟨rfl, Nat.le_refl _, SeesP.nil, Nat.zero_le _, fun _ => rfl⟩, rfl⟩
theorem fin_bad {xs : List UInt8} {out : List Blk} (h : ¬ (endR xs.length (readP xs).2.1 (readP xs).2.2 = 0 ∧ (readP xs).1.check = 0)) : ∃ B : Block, B.ok ∧ Value.tuple #[agg Block.zero.cells, i64 4] = .tuple #[agg B.cells, i64 (readD xs).2] ∧ ∀ W2, Lies out W2 → BlockIs W2 B (readD xs).1 := by
  rw [readD_bad h]
  exact ⟨Block.zero, Block.zero_ok, rfl, fun W2 _ => zero_is W2⟩
theorem fin_ok {xs : List UInt8} {out : List Blk} {B : Block} (h : endR xs.length (readP xs).2.1 (readP xs).2.2 = 0 ∧ (readP xs).1.check = 0) (hok : B.ok) (hB : ∀ W2, Lies out W2 → BlockIs W2 B (readP xs).1) : ∃ B' : Block, B'.ok ∧ Value.tuple #[agg B.cells, i64 0] = .tuple #[agg B'.cells, i64 (readD xs).2] ∧ ∀ W2, Lies out W2 → BlockIs W2 B' (readD xs).1 := by
  rw [readD_ok h]
  exact ⟨B, hok, rfl, hB⟩


set_option maxRecDepth 100000 in
set_option maxHeartbeats 4000000 in
theorem block_read (p : Option Addr) (n c : Nat) (xs : List UInt8) (hl : xs.length = n) (hp : p = none → n = 0) (hn : n ≤ 90000) : Meets Try.prog 9 [.slice p n c] [] (fun W => SeesP W p (bytesV xs)) (fun v out => ∃ B : Block, B.ok ∧ v = .tuple #[agg B.cells, i64 (readD xs).2] ∧ ∀ W2, Lies out W2 → BlockIs W2 B (readD xs).1) := by
  intro W hW
  obtain ⟨l1, r1, h1⟩ : ∃ l r, digR xs 0 0 = (l, r) := ⟨_, _, rfl⟩
  obtain ⟨a1, e1⟩ := r1
  obtain ⟨x2, r2, h2⟩ : ∃ l r, numR xs a1 e1 = (l, r) := ⟨_, _, rfl⟩
  obtain ⟨a2, e2⟩ := r2
  obtain ⟨l3, r3, h3⟩ : ∃ l r, digR xs a2 e2 = (l, r) := ⟨_, _, rfl⟩
  obtain ⟨a3, e3⟩ := r3
  obtain ⟨x4, r4, h4⟩ : ∃ l r, numR xs a3 e3 = (l, r) := ⟨_, _, rfl⟩
  obtain ⟨a4, e4⟩ := r4
  obtain ⟨ls, r5, h5⟩ : ∃ l r, digsR xs (min x4.toNat 17) a4 e4 = (l, r) := ⟨_, _, rfl⟩
  obtain ⟨a5, e5⟩ := r5
  obtain ⟨o, r6, h6⟩ : ∃ l r, blkR xs a5 e5 = (l, r) := ⟨_, _, rfl⟩
  obtain ⟨a6, e6⟩ := r6
  obtain ⟨l7, r7, h7⟩ : ∃ l r, takR xs 64 a6 e6 = (l, r) := ⟨_, _, rfl⟩
  obtain ⟨a7, e7⟩ := r7
  have hrp : readP xs = ((⟨l1, x2, l3, ls, o.getD [], l7 ++ (List.replicate 64 0).drop l7.length⟩ : DB), a7, e7) := by simp only [readP, h1, h2, h3, h4, h5, h6, h7]
  have hd1 := digE_le h1 hl (Nat.zero_le _)
  have hd2 := numE_le h2 hl hd1.1
  have hd3 := digE_le h3 hl hd2
  have hd4 := numE_le h4 hl hd3.1
  have hd5 := digsR_at (e := e4) hl hd4 (min x4.toNat 17)
  rw [h5] at hd5
  have hd6 := blkE_le h6 hl hd5.1
  have hd7 := takE_le h7 hl hd6.1
  have hs64 : (l7 ++ (List.replicate 64 0).drop l7.length).length = 64 := by rcases hd7.2 with h | h <;> simp [h]
  have okX : ∀ s2 s3, ({ Block.zero with fWriter := l1, fSeq := x2, fPrev := l3, fLinks := s2, fData := s3, fSig := l7 ++ Block.zero.fSig.drop l7.length } : Block).ok := fun s2 s3 => ⟨hd1.2, hd3.2, hs64⟩
  refine calls_of (hp0 := []) Try.func9 rfl 26 Try.ntmps9 rfl (HRep.nil _) ?_
  refine Sat.seq ?_
  -- region 0
  refine Sat.region ?_
  refine Tr.alloc (cs := Block.zero.cells) rfl Block.zr rfl ?_
  intro n2 hn2 hf2
  refine Tr.assign rfl rfl rfl ?_
  refine Tr.nil ?_
  refine at_n ?_
  refine Sat.seq ?_
  -- region 1
  refine Sat.region ?_
  refine Tr.move rfl rfl rfl ?_
  refine Tr.call4 rfl rfl rfl rfl rfl Body37 (oct_Read p n c xs hl hp hn) (fun w h => seesP_ext h rfl hW) ?_
  rintro v7 out7 ⟨n4, q4, cp4, rfl, hcp, rfl⟩
  refine Tr.assign rfl rfl rfl ?_
  refine Tr.nil ?_
  refine at_n ?_
  refine Sat.seq ?_
  -- region 2
  refine Sat.region ?_
  refine Tr.move rfl rfl rfl ?_
  refine Tr.call4 rfl rfl rfl rfl rfl Body39 (mk_head n4) (fun _ _ => trivial) ?_
  rintro v9 out9 ⟨c1, rfl, rfl⟩
  refine Tr.move rfl rfl rfl ?_
  refine Tr.call4 rfl rfl rfl rfl rfl Body40 (mk_links n4) (fun _ _ => trivial) ?_
  rintro v11 out11 ⟨c2, rfl, rfl⟩
  refine Tr.move rfl rfl rfl ?_
  refine Tr.call4 rfl rfl rfl rfl rfl Body41 (mk_tail n4) (fun _ _ => trivial) ?_
  rintro v13 out13 ⟨c3, rfl, rfl⟩
  refine Tr.mkRow (z := .nilFunc) [.func (.func 80) #[] #[ptr c1 0], .func (.func 83) #[] #[ptr c2 0], .func (.func 84) #[] #[ptr c3 0]] [.func (.func 80) #[] #[ptr c1 0], .func (.func 83) #[] #[ptr c2 0], .func (.func 84) #[] #[ptr c3 0]] rfl rfl rfl Try.underlying138 Sz94 Zr94 rfl rfl (by intro v hv; simp only [List.mem_cons, List.not_mem_nil, or_false] at hv; rcases hv with rfl | rfl | rfl <;> rfl) (by decide) rfl ?_
  intro r14
  refine Tr.nd (fun hnd => ?_)
  simp only [RB, blk, List.map_cons, List.map_nil, List.map_append, List.cons_append, List.nil_append, List.nodup_cons, List.mem_cons, List.not_mem_nil, or_false] at hnd
  have hne : Hid (r14 ≠ n4 ∧ c1 ≠ n4 ∧ c2 ≠ n4 ∧ c3 ≠ n4 ∧ q4 ≠ n4) := ⟨by refine ⟨?_, ?_, ?_, ?_, ?_⟩ <;> (intro e; simp [e] at hnd)⟩
  clear hnd
  refine Tr.callL (L := [RB n4 q4 n cp4 0 0]) rfl rfl rfl rfl rfl Body38 (block_build r14 n4 q4 n cp4 c1 c2 c3 xs hl hcp hn hne.out.1 hne.out.2.1 hne.out.2.2.1 hne.out.2.2.2.1 hne.out.2.2.2.2 l1 a1 e1 x2 a2 e2 l3 a3 e3 h1 h2 h3 x4 a4 e4 h4 ls a5 e5 h5 o a6 e6 h6 l7 a7 e7 h7) (pm_cons (by repeat (first | exact rem_here | apply rem_there | apply rem_seg)) pm_nil) (lent_ok rfl) (fun w h => ⟨own_blk h (by first | exact mem0 | exact mem1 | exact mem2 | exact mem3 | exact mem4 | exact mem5 | exact mem6 | exact mem7 | (repeat (first | exact List.mem_cons_self | refine List.mem_cons_of_mem _ ?_ | refine mem_seg ?_))), sees_own h (by first | exact mem0 | exact mem1 | exact mem2 | exact mem3 | exact mem4 | exact mem5 | exact mem6 | exact mem7 | (repeat (first | exact List.mem_cons_self | refine List.mem_cons_of_mem _ ?_ | refine mem_seg ?_))), ⟨(own_blk h (by first | exact mem0 | exact mem1 | exact mem2 | exact mem3 | exact mem4 | exact mem5 | exact mem6 | exact mem7 | (repeat (first | exact List.mem_cons_self | refine List.mem_cons_of_mem _ ?_ | refine mem_seg ?_)))).cell (o := 0) rfl, (own_blk (B := ⟨r14, [.func (.func 80) #[] #[ptr c1 0], .func (.func 83) #[] #[ptr c2 0], .func (.func 84) #[] #[ptr c3 0]], _, _⟩) h (by first | exact mem0 | exact mem1 | exact mem2 | exact mem3 | exact mem4 | exact mem5 | exact mem6 | exact mem7 | (repeat (first | exact List.mem_cons_self | refine List.mem_cons_of_mem _ ?_ | refine mem_seg ?_)))).cell (o := 1) rfl, (own_blk (B := ⟨r14, [.func (.func 80) #[] #[ptr c1 0], .func (.func 83) #[] #[ptr c2 0], .func (.func 84) #[] #[ptr c3 0]], _, _⟩) h (by first | exact mem0 | exact mem1 | exact mem2 | exact mem3 | exact mem4 | exact mem5 | exact mem6 | exact mem7 | (repeat (first | exact List.mem_cons_self | refine List.mem_cons_of_mem _ ?_ | refine mem_seg ?_)))).cell (o := 2) rfl⟩, (own_blk (B := ⟨c1, _, _, _⟩) h (by first | exact mem0 | exact mem1 | exact mem2 | exact mem3 | exact mem4 | exact mem5 | exact mem6 | exact mem7 | (repeat (first | exact List.mem_cons_self | refine List.mem_cons_of_mem _ ?_ | refine mem_seg ?_)))).cell (o := 0) rfl, (own_blk (B := ⟨c2, _, _, _⟩) h (by first | exact mem0 | exact mem1 | exact mem2 | exact mem3 | exact mem4 | exact mem5 | exact mem6 | exact mem7 | (repeat (first | exact List.mem_cons_self | refine List.mem_cons_of_mem _ ?_ | refine mem_seg ?_)))).cell (o := 0) rfl, (own_blk (B := ⟨c3, _, _, _⟩) h (by first | exact mem0 | exact mem1 | exact mem2 | exact mem3 | exact mem4 | exact mem5 | exact mem6 | exact mem7 | (repeat (first | exact List.mem_cons_self | refine List.mem_cons_of_mem _ ?_ | refine mem_seg ?_)))).cell (o := 0) rfl, (own_blk (B := ⟨q4, bytesV xs, _, _⟩) h (by first | exact mem0 | exact mem1 | exact mem2 | exact mem3 | exact mem4 | exact mem5 | exact mem6 | exact mem7 | (repeat (first | exact List.mem_cons_self | refine List.mem_cons_of_mem _ ?_ | refine mem_seg ?_)))).lt⟩) ?_
  rintro v15 out15 ⟨s2, bl2, s3, bl3, rfl, hac2, hac3, rfl⟩
  simp only [List.append_assoc, List.cons_append, List.nil_append]
  refine Tr.alloc (cs := Block.zero.cells) rfl Block.zr rfl ?_
  intro n5 hn5 hf5
  refine Tr.storeAll rfl rfl rfl rfl (Block.isCell (by first | assumption | (simp; done) | exact Block.zero_ok | exact Vote.zero_ok | exact Reader.zero_ok  | exact okX _ _)) Sz31 (Block.length (by first | assumption | (simp; done) | exact Block.zero_ok | exact Vote.zero_ok | exact Reader.zero_ok  | exact okX _ _)) (by first | exact mem0 | exact mem1 | exact mem2 | exact mem3 | exact mem4 | exact mem5 | exact mem6 | exact mem7 | (repeat (first | exact List.mem_cons_self | refine List.mem_cons_of_mem _ ?_ | refine mem_seg ?_))) (Block.length (by first | assumption | (simp; done) | exact Block.zero_ok | exact Vote.zero_ok | exact Reader.zero_ok  | exact okX _ _)) (by first | exact upd0 | exact upd1 | exact upd2 | exact upd3 | exact upd4 | exact upd5 | exact upd6 | exact upd7 | (repeat (first | exact upd0 | apply Upd.tail | apply Upd.seg))) ?_
  refine Tr.nil ?_
  refine at_n ?_
  refine Sat.seq ?_
  refine Sat.seq ?_
  -- region 3
  refine Sat.region ?_
  refine Tr.move rfl rfl rfl ?_
  refine Tr.callV rfl rfl rfl rfl Body42 (rd_End n4 q4 n cp4 a7 e7 hd7.1 (by omega)) (fun w h => own_blk h (by first | exact mem0 | exact mem1 | exact mem2 | exact mem3 | exact mem4 | exact mem5 | exact mem6 | exact mem7 | (repeat (first | exact List.mem_cons_self | refine List.mem_cons_of_mem _ ?_ | refine mem_seg ?_)))) ?_
  refine two (fun r hr k => Tr.nei rfl rfl rfl rfl hr k) (fun hs3_20 => ?_) (fun hs3_20 => ?_)
  ·
    first | have hs3_2 := of_decide_eq_true hs3_20 | have hs3_2 := of_decide_eq_false hs3_20 | have hs3_2 := nd_t hs3_20 | have hs3_2 := nd_f hs3_20 | have hs3_2 := hs3_20
    refine Tr.move rfl rfl rfl ?_
    refine Tr.skp rfl rfl ?_
    refine Tr.skp rfl rfl ?_
    refine Tr.skp rfl rfl ?_
    refine Tr.pick rfl rfl rfl rfl rfl rfl ?_
    refine Tr.nil ?_
    refine at_n ?_
    refine Sat.cond_t rfl rfl ?_
    refine Sat.seq ?_
    -- region 4
    refine Sat.region ?_
    refine Tr.build (cs := Block.zero.cells) rfl rfl rfl (fun w => by kernel_rfl) ?_
    refine Tr.storeAll rfl rfl rfl rfl (Block.isCell (by first | assumption | (simp; done) | exact Block.zero_ok | exact Vote.zero_ok | exact Reader.zero_ok  | exact okX _ _)) Sz31 (Block.length (by first | assumption | (simp; done) | exact Block.zero_ok | exact Vote.zero_ok | exact Reader.zero_ok  | exact okX _ _)) (by first | exact mem0 | exact mem1 | exact mem2 | exact mem3 | exact mem4 | exact mem5 | exact mem6 | exact mem7 | (repeat (first | exact List.mem_cons_self | refine List.mem_cons_of_mem _ ?_ | refine mem_seg ?_))) (Block.length (by first | assumption | (simp; done) | exact Block.zero_ok | exact Vote.zero_ok | exact Reader.zero_ok  | exact okX _ _)) (by first | exact upd0 | exact upd1 | exact upd2 | exact upd3 | exact upd4 | exact upd5 | exact upd6 | exact upd7 | (repeat (first | exact upd0 | apply Upd.tail | apply Upd.seg))) ?_
    refine Tr.assign rfl rfl rfl ?_
    refine Tr.nil ?_
    refine at_n ?_
    refine Sat.ret ?_
    refine at_r ?_
    refine en_r ?_
    refine end_perm (out := (bl2 ++ (bl3 ++ []))) (res_cell_tmp rfl rfl rfl Try.underlying31 rfl Sz31 (by first | exact mem0 | exact mem1 | exact mem2 | exact mem3 | exact mem4 | exact mem5 | exact mem6 | exact mem7 | (repeat (first | exact List.mem_cons_self | refine List.mem_cons_of_mem _ ?_ | refine mem_seg ?_))) (by first | (simp; done) | exact Block.length (by first | assumption | (simp; done) | exact Block.zero_ok | exact Vote.zero_ok | exact Reader.zero_ok  | exact okX _ _))) (pm_seg (by repeat (first | exact sg_here | exact sg_end | apply sg_there | apply sg_seg)) (pm_seg (by repeat (first | exact sg_here | exact sg_end | apply sg_there | apply sg_seg)) pm_nil)) ?_
    first
      | exact fin_bad (by rw [hrp, hl]; exact fun h => hs3_2 h.1)
      | exact fin_bad (by rw [hrp, ← bcheck_D (B := ({ Block.zero with fWriter := l1, fSeq := x2, fPrev := l3, fLinks := s2, fData := s3, fSig := l7 ++ Block.zero.fSig.drop l7.length } : Block)) rfl rfl (by rw [hac2.num]; exact hd5.2.2.symm) hac3.num]; exact fun h => hc0 h.2)
      | exact fin_ok (by rw [hrp, hl, ← bcheck_D (B := ({ Block.zero with fWriter := l1, fSeq := x2, fPrev := l3, fLinks := s2, fData := s3, fSig := l7 ++ Block.zero.fSig.drop l7.length } : Block)) rfl rfl (by rw [hac2.num]; exact hd5.2.2.symm) hac3.num]; exact ⟨hs3_2, hc0⟩) (okX _ _) (fun W2 h2 => by
          rw [hrp]
          exact ⟨okX _ _, rfl, rfl, rfl, acc_rows hac2 (h2.sub in_here) hd5.2.1 hd5.2.2 (by omega), acc_bytes hac3 (h2.sub (in_seg in_here)) rfl (by have := hd6.2; omega), rfl⟩)
  ·
    first | have hs3_2 := of_decide_eq_true hs3_20 | have hs3_2 := of_decide_eq_false hs3_20 | have hs3_2 := nd_t hs3_20 | have hs3_2 := nd_f hs3_20 | have hs3_2 := hs3_20
    refine Tr.move rfl rfl rfl ?_
    refine Tr.loadAll rfl rfl rfl Try.underlying31 rfl Sz31 (by first | exact mem0 | exact mem1 | exact mem2 | exact mem3 | exact mem4 | exact mem5 | exact mem6 | exact mem7 | (repeat (first | exact List.mem_cons_self | refine List.mem_cons_of_mem _ ?_ | refine mem_seg ?_))) (Block.length (by first | assumption | (simp; done) | exact Block.zero_ok | exact Vote.zero_ok | exact Reader.zero_ok  | exact okX _ _)) ?_
    refine Tr.callV rfl rfl rfl rfl Body12 (block_check ({ Block.zero with fWriter := l1, fSeq := x2, fPrev := l3, fLinks := s2, fData := s3, fSig := l7 ++ Block.zero.fSig.drop l7.length } : Block) (okX _ _) ls) (fun w h => acc_rows hac2 (Lies.of h (by repeat (first | exact in_here | exact in_all | refine in_there ?_ | refine in_seg ?_))) hd5.2.1 hd5.2.2 (by omega)) ?_
    refine Tr.nei rfl rfl rfl rfl rfl ?_
    refine Tr.pick rfl rfl rfl rfl rfl rfl ?_
    refine Tr.nil ?_
    refine at_n ?_
    first
      | refine Sat.condP rfl (fun hc0 => ?_) (fun hc0 => ?_)
      | refine Sat.condNP rfl (fun hc0 => ?_) (fun hc0 => ?_)
      | refine Sat.cond rfl (fun hc0 => ?_) (fun hc0 => ?_)
    ·
      refine Sat.seq ?_
      -- region 4
      refine Sat.region ?_
      refine Tr.build (cs := Block.zero.cells) rfl rfl rfl (fun w => by kernel_rfl) ?_
      refine Tr.storeAll rfl rfl rfl rfl (Block.isCell (by first | assumption | (simp; done) | exact Block.zero_ok | exact Vote.zero_ok | exact Reader.zero_ok  | exact okX _ _)) Sz31 (Block.length (by first | assumption | (simp; done) | exact Block.zero_ok | exact Vote.zero_ok | exact Reader.zero_ok  | exact okX _ _)) (by first | exact mem0 | exact mem1 | exact mem2 | exact mem3 | exact mem4 | exact mem5 | exact mem6 | exact mem7 | (repeat (first | exact List.mem_cons_self | refine List.mem_cons_of_mem _ ?_ | refine mem_seg ?_))) (Block.length (by first | assumption | (simp; done) | exact Block.zero_ok | exact Vote.zero_ok | exact Reader.zero_ok  | exact okX _ _)) (by first | exact upd0 | exact upd1 | exact upd2 | exact upd3 | exact upd4 | exact upd5 | exact upd6 | exact upd7 | (repeat (first | exact upd0 | apply Upd.tail | apply Upd.seg))) ?_
      refine Tr.assign rfl rfl rfl ?_
      refine Tr.nil ?_
      refine at_n ?_
      refine Sat.ret ?_
      refine at_r ?_
      refine en_r ?_
      refine end_perm (out := (bl2 ++ (bl3 ++ []))) (res_cell_tmp rfl rfl rfl Try.underlying31 rfl Sz31 (by first | exact mem0 | exact mem1 | exact mem2 | exact mem3 | exact mem4 | exact mem5 | exact mem6 | exact mem7 | (repeat (first | exact List.mem_cons_self | refine List.mem_cons_of_mem _ ?_ | refine mem_seg ?_))) (by first | (simp; done) | exact Block.length (by first | assumption | (simp; done) | exact Block.zero_ok | exact Vote.zero_ok | exact Reader.zero_ok  | exact okX _ _))) (pm_seg (by repeat (first | exact sg_here | exact sg_end | apply sg_there | apply sg_seg)) (pm_seg (by repeat (first | exact sg_here | exact sg_end | apply sg_there | apply sg_seg)) pm_nil)) ?_
      first
        | exact fin_bad (by rw [hrp, hl]; exact fun h => hs3_2 h.1)
        | exact fin_bad (by rw [hrp, ← bcheck_D (B := ({ Block.zero with fWriter := l1, fSeq := x2, fPrev := l3, fLinks := s2, fData := s3, fSig := l7 ++ Block.zero.fSig.drop l7.length } : Block)) rfl rfl (by rw [hac2.num]; exact hd5.2.2.symm) hac3.num]; exact fun h => hc0 h.2)
        | exact fin_ok (by rw [hrp, hl, ← bcheck_D (B := ({ Block.zero with fWriter := l1, fSeq := x2, fPrev := l3, fLinks := s2, fData := s3, fSig := l7 ++ Block.zero.fSig.drop l7.length } : Block)) rfl rfl (by rw [hac2.num]; exact hd5.2.2.symm) hac3.num]; exact ⟨hs3_2, hc0⟩) (okX _ _) (fun W2 h2 => by
            rw [hrp]
            exact ⟨okX _ _, rfl, rfl, rfl, acc_rows hac2 (h2.sub in_here) hd5.2.1 hd5.2.2 (by omega), acc_bytes hac3 (h2.sub (in_seg in_here)) rfl (by have := hd6.2; omega), rfl⟩)
    ·
      refine Sat.skip ?_
      refine at_n ?_
      refine Sat.seq ?_
      -- region 5
      refine Sat.region ?_
      refine Tr.loadAll rfl rfl rfl Try.underlying31 rfl Sz31 (by first | exact mem0 | exact mem1 | exact mem2 | exact mem3 | exact mem4 | exact mem5 | exact mem6 | exact mem7 | (repeat (first | exact List.mem_cons_self | refine List.mem_cons_of_mem _ ?_ | refine mem_seg ?_))) (Block.length (by first | assumption | (simp; done) | exact Block.zero_ok | exact Vote.zero_ok | exact Reader.zero_ok  | exact okX _ _)) ?_
      refine Tr.storeAll rfl rfl rfl rfl (Block.isCell (by first | assumption | (simp; done) | exact Block.zero_ok | exact Vote.zero_ok | exact Reader.zero_ok  | exact okX _ _)) Sz31 (Block.length (by first | assumption | (simp; done) | exact Block.zero_ok | exact Vote.zero_ok | exact Reader.zero_ok  | exact okX _ _)) (by first | exact mem0 | exact mem1 | exact mem2 | exact mem3 | exact mem4 | exact mem5 | exact mem6 | exact mem7 | (repeat (first | exact List.mem_cons_self | refine List.mem_cons_of_mem _ ?_ | refine mem_seg ?_))) (Block.length (by first | assumption | (simp; done) | exact Block.zero_ok | exact Vote.zero_ok | exact Reader.zero_ok  | exact okX _ _)) (by first | exact upd0 | exact upd1 | exact upd2 | exact upd3 | exact upd4 | exact upd5 | exact upd6 | exact upd7 | (repeat (first | exact upd0 | apply Upd.tail | apply Upd.seg))) ?_
      refine Tr.assign rfl rfl rfl ?_
      refine Tr.nil ?_
      refine at_n ?_
      refine Sat.ret ?_
      refine en_r ?_
      refine end_perm (out := (bl2 ++ (bl3 ++ []))) (res_cell_tmp rfl rfl rfl Try.underlying31 rfl Sz31 (by first | exact mem0 | exact mem1 | exact mem2 | exact mem3 | exact mem4 | exact mem5 | exact mem6 | exact mem7 | (repeat (first | exact List.mem_cons_self | refine List.mem_cons_of_mem _ ?_ | refine mem_seg ?_))) (by first | (simp; done) | exact Block.length (by first | assumption | (simp; done) | exact Block.zero_ok | exact Vote.zero_ok | exact Reader.zero_ok  | exact okX _ _))) (pm_seg (by repeat (first | exact sg_here | exact sg_end | apply sg_there | apply sg_seg)) (pm_seg (by repeat (first | exact sg_here | exact sg_end | apply sg_there | apply sg_seg)) pm_nil)) ?_
      first
        | exact fin_bad (by rw [hrp, hl]; exact fun h => hs3_2 h.1)
        | exact fin_bad (by rw [hrp, ← bcheck_D (B := ({ Block.zero with fWriter := l1, fSeq := x2, fPrev := l3, fLinks := s2, fData := s3, fSig := l7 ++ Block.zero.fSig.drop l7.length } : Block)) rfl rfl (by rw [hac2.num]; exact hd5.2.2.symm) hac3.num]; exact fun h => hc0 h.2)
        | exact fin_ok (by rw [hrp, hl, ← bcheck_D (B := ({ Block.zero with fWriter := l1, fSeq := x2, fPrev := l3, fLinks := s2, fData := s3, fSig := l7 ++ Block.zero.fSig.drop l7.length } : Block)) rfl rfl (by rw [hac2.num]; exact hd5.2.2.symm) hac3.num]; exact ⟨hs3_2, hc0⟩) (okX _ _) (fun W2 h2 => by
            rw [hrp]
            exact ⟨okX _ _, rfl, rfl, rfl, acc_rows hac2 (h2.sub in_here) hd5.2.1 hd5.2.2 (by omega), acc_bytes hac3 (h2.sub (in_seg in_here)) rfl (by have := hd6.2; omega), rfl⟩)

end Go.Proofs.Ytejjamifnombhaa
