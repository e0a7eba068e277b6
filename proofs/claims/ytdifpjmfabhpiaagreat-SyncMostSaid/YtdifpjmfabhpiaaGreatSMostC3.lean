/- Contracts of functions of the loaded program, and the lemmas that they need (part 3). It proves no statement by itself; it has no conditions. -/
import Derived.WalkKit
import Derived.Orders
import Derived.Deep.LoopGhost
import Derived.IntWalk
import Derived.Laws.StructEq
import Derived.ArgAppend
import Derived.Deep.AppendSrc
import Derived.Lib.Bytealg
import Derived.Lib.BytesEntry
import Derived.Laws.IdiomStrings
import Derived.WideKeyArr2
import Derived.ProofKit
import Derived.OpenShut
import Derived.Deep.Slices
import Derived.Laws.Pointers
import Derived.Laws.Cover3
import Derived.LaidEqlPtr
import Derived.LoopN
import Derived.RangeFuncLeaves
import Derived.RangeFuncSeq
import Derived.OrdersIn
import Derived.Test.YtdifpjmfabhpiaaGreatRows
import Derived.KernelRfl
import Derived.Laws.Externs
import Derived.Defers
import Derived.ChangeOld
import Derived.Below
import Derived.Test.YtdifpjmfabhpiaaGreatSMostC2
set_option maxRecDepth 100000
set_option maxHeartbeats 8000000
set_option linter.unusedVariables false
set_option linter.unusedSimpArgs false
section
namespace Go.Proofs.YtdifpjmfabhpiaaGreat
open Go Hw

structure DB where
  w : List UInt8
  seq : UInt64
  prev : List UInt8
  ls : List (List UInt8)
  ds : List UInt8
  sg : List UInt8
deriving DecidableEq
def DB.zero : DB := ⟨List.replicate 32 0, 0, List.replicate 32 0, [], [], List.replicate 64 0⟩
def DB.head (D : DB) : Bool := decide ((4294967295 : Int) < (D.seq.toNat : Int)) || (!decide (decide (D.prev = List.replicate 32 0) = decide ((D.seq.toNat : Int) = 0)) || (decide ((16 : Int) < (D.ls.length : Int)) || decide ((512 : Int) < (D.ds.length : Int))))
def DB.check (D : DB) : Int := if D.head = true then 2 else (if linksBad D.prev D.ls = true then 2 else 0)
def DB.body (D : DB) : List UInt8 := D.w ++ Au D.seq ++ D.prev ++ Au (UInt64.ofNat D.ls.length) ++ D.ls.flatten ++ (Au (UInt64.ofNat D.ds.length) ++ D.ds)
def DB.bytes (D : DB) : List UInt8 := D.body ++ D.sg
structure DB.ok (D : DB) : Prop where
  w : D.w.length = 32
  prev : D.prev.length = 32
  sg : D.sg.length = 64
  ls : ∀ l ∈ D.ls, l.length = 32
structure BlockIs (W : World) (B : Block) (D : DB) : Prop where
  ok : B.ok
  w : B.fWriter = D.w
  seq : B.fSeq = D.seq
  prev : B.fPrev = D.prev
  ls : RowsAt W B.fLinks 32 D.ls
  ds : BytesAt W B.fData D.ds
  sg : B.fSig = D.sg
theorem BlockIs.dok {W : World} {B : Block} {D : DB} (h : BlockIs W B D) : D.ok := ⟨by rw [← h.w]; exact h.ok.l_fWriter, by rw [← h.prev]; exact h.ok.l_fPrev, by rw [← h.sg]; exact h.ok.l_fSig, h.ls.row⟩
theorem BlockIs.check {W : World} {B : Block} {D : DB} (h : BlockIs W B D) : bcheck B D.ls = D.check := by
  simp only [bcheck, bheadB, DB.check, DB.head, h.seq, h.prev, h.ls.len, h.ds.len]
theorem BlockIs.body {W : World} {B : Block} {D : DB} (h : BlockIs W B D) : bodyB B D.ls D.ds = D.body := by
  simp only [bodyB, DB.body, h.w, h.seq, h.prev, h.ls.len, h.ds.len]
theorem BlockIs.bytes {W : World} {B : Block} {D : DB} (h : BlockIs W B D) : bytesB B D.ls D.ds = D.bytes := by
  simp only [bytesB, DB.bytes, h.body, h.sg]
theorem acc_rows {s : Sl} {bl : List Blk} {ls : List (List UInt8)} {E : TypeId} {n : Nat} {w : World} (h : Acc s bl (B5 ls) E n 32) (hl : Lies bl w) (hr : ∀ l ∈ ls, l.length = 32) (hn : ls.length = n) (hm : n ≤ 1000000) : RowsAt w s 32 ls :=
  ⟨by rw [h.num, hn], hr, h.cap, h.see hl, by rw [h.num]; unfold maxLen; omega, h.nilc⟩
theorem acc_bytes {s : Sl} {bl : List Blk} {l : List UInt8} {E : TypeId} {n : Nat} {w : World} (h : Acc s bl (Ab l) E n 1) (hl : Lies bl w) (hn : l.length = n) (hm : n ≤ 1000000) : BytesAt w s l :=
  ⟨by rw [h.num, hn], h.cap, h.see hl, by rw [h.num]; unfold maxLen; omega, h.nilc⟩
def readP (xs : List UInt8) : DB × Nat × Int :=
  let r1 := digR xs 0 0
  let r2 := Bg xs r1.2.1 r1.2.2
  let r3 := digR xs r2.2.1 r2.2.2
  let r4 := Bg xs r3.2.1 r3.2.2
  let r5 := Bs xs (min r4.1.toNat 17) r4.2.1 r4.2.2
  let r6 := blkR xs r5.2.1 r5.2.2
  let r7 := takR xs 64 r6.2.1 r6.2.2
  (⟨r1.1, r2.1, r3.1, r5.1, r6.1.getD [], r7.1 ++ (List.replicate 64 0).drop r7.1.length⟩, r7.2)
def readD (xs : List UInt8) : DB × Int :=
  if endR xs.length (readP xs).2.1 (readP xs).2.2 = 0 ∧ (readP xs).1.check = 0 then ((readP xs).1, 0) else (DB.zero, 4)
theorem readD_bad {xs : List UInt8} (h : ¬ (endR xs.length (readP xs).2.1 (readP xs).2.2 = 0 ∧ (readP xs).1.check = 0)) : readD xs = (DB.zero, 4) := if_neg h
theorem readD_ok {xs : List UInt8} (h : endR xs.length (readP xs).2.1 (readP xs).2.2 = 0 ∧ (readP xs).1.check = 0) : readD xs = ((readP xs).1, 0) := if_pos h
theorem bcheck_D {B : Block} {D : DB} (h1 : B.fSeq = D.seq) (h2 : B.fPrev = D.prev) (h3 : B.fLinks.n = D.ls.length) (h4 : B.fData.n = D.ds.length) : bcheck B D.ls = D.check := by
  have e : bheadB B = D.head := by
    unfold bheadB DB.head
    rw [h1, h2, h3, h4]
  unfold bcheck DB.check
  rw [e, h2]
theorem zero_is (W : World) : BlockIs W Block.zero DB.zero := ⟨Block.zero_ok, rfl, rfl, rfl, ⟨rfl, fun l hl => (by cases hl), Nat.le_refl _, SeesP.nil, Nat.zero_le _, fun _ => rfl⟩, ⟨rfl, Nat.le_refl _, SeesP.nil, Nat.zero_le _, fun _ => rfl⟩, rfl⟩
theorem fin_bad {xs : List UInt8} {out : List Blk} (h : ¬ (endR xs.length (readP xs).2.1 (readP xs).2.2 = 0 ∧ (readP xs).1.check = 0)) : ∃ B : Block, B.ok ∧ Value.tuple #[agg Block.zero.cells, i64 4] = .tuple #[agg B.cells, i64 (readD xs).2] ∧ ∀ W2, Lies out W2 → BlockIs W2 B (readD xs).1 := by
  rw [readD_bad h]
  exact ⟨Block.zero, Block.zero_ok, rfl, fun W2 _ => zero_is W2⟩
theorem fin_ok {xs : List UInt8} {out : List Blk} {B : Block} (h : endR xs.length (readP xs).2.1 (readP xs).2.2 = 0 ∧ (readP xs).1.check = 0) (hok : B.ok) (hB : ∀ W2, Lies out W2 → BlockIs W2 B (readP xs).1) : ∃ B' : Block, B'.ok ∧ Value.tuple #[agg B.cells, i64 0] = .tuple #[agg B'.cells, i64 (readD xs).2] ∧ ∀ W2, Lies out W2 → BlockIs W2 B' (readD xs).1 := by
  rw [readD_ok h]
  exact ⟨B, hok, rfl, hB⟩

theorem block_read (p : Option Addr) (n c : Nat) (xs : List UInt8) (hl : xs.length = n) (hp : p = none → n = 0) (hn : n ≤ 90000) : Meets Tryz.prog 74 [.slice p n c] [] (fun W => SeesP W p (Ab xs)) (fun v out => ∃ B : Block, B.ok ∧ v = .tuple #[agg B.cells, i64 (readD xs).2] ∧ ∀ W2, Lies out W2 → BlockIs W2 B (readD xs).1) := by
 intro W hW
 obtain ⟨l1, r1, h1⟩ : ∃ l r, digR xs 0 0 = (l, r) := ⟨_, _, rfl⟩
 obtain ⟨a1, e1⟩ := r1
 obtain ⟨x2, r2, h2⟩ : ∃ l r, Bg xs a1 e1 = (l, r) := ⟨_, _, rfl⟩
 obtain ⟨a2, e2⟩ := r2
 obtain ⟨l3, r3, h3⟩ : ∃ l r, digR xs a2 e2 = (l, r) := ⟨_, _, rfl⟩
 obtain ⟨a3, e3⟩ := r3
 obtain ⟨x4, r4, h4⟩ : ∃ l r, Bg xs a3 e3 = (l, r) := ⟨_, _, rfl⟩
 obtain ⟨a4, e4⟩ := r4
 obtain ⟨ls, r5, h5⟩ : ∃ l r, Bs xs (min x4.toNat 17) a4 e4 = (l, r) := ⟨_, _, rfl⟩
 obtain ⟨a5, e5⟩ := r5
 obtain ⟨o, r6, h6⟩ : ∃ l r, blkR xs a5 e5 = (l, r) := ⟨_, _, rfl⟩
 obtain ⟨a6, e6⟩ := r6
 obtain ⟨l7, r7, h7⟩ : ∃ l r, takR xs 64 a6 e6 = (l, r) := ⟨_, _, rfl⟩
 obtain ⟨a7, e7⟩ := r7
 have hrp : readP xs = ((⟨l1, x2, l3, ls, o.getD [], l7 ++ (List.replicate 64 0).drop l7.length⟩ : DB), a7, e7) := by simp only [readP, h1, h2, h3, h4, h5, h6, h7]
 have hd1 := digE_le h1 hl (Nat.zero_le _)
 have hd2 := numE_le h2 hl hd1.1
 have hd3 := digE_le h3 hl hd2
 have hd4 := numE_le h4 hl hd3.1
 have hd5 := digsR_at (e := e4) hl hd4 (min x4.toNat 17)
 rw [h5] at hd5
 have hd6 := blkE_le h6 hl hd5.1
 have hd7 := takE_le h7 hl hd6.1
 have hs64 : (l7 ++ (List.replicate 64 0).drop l7.length).length = 64 := by rcases hd7.2 with h | h <;> simp [h]
 have okX : ∀ s2 s3, ({ Block.zero with fWriter := l1, fSeq := x2, fPrev := l3, fLinks := s2, fData := s3, fSig := l7 ++ Block.zero.fSig.drop l7.length } : Block).ok := fun s2 s3 => ⟨hd1.2, hd3.2, hs64⟩
 refine An Tryz.func74 rfl 26 Tryz.ntmps74 rfl ?_
 refine Sat.seq (Sat.region ?_)
 refine Tr.alloc (cs := Block.zero.cells) rfl Block.zr rfl ?_
 intro n2 hn2 hf2
 refine Tr.a rfl rfl rfl ?_
 refine Tr.nil (Aa (Sat.seq (Sat.region ?_)))
 refine Tr.m rfl rfl rfl ?_
 refine Tr.call4 rfl rfl rfl rfl rfl Body91 (oct_Read p n c xs hl hp hn) (fun w h => Aw h rfl hW) ?_
 rintro v7 out7 ⟨n4, q4, cp4, rfl, hcp, rfl⟩
 refine Tr.a rfl rfl rfl ?_
 refine Tr.nil (Aa (Sat.seq (Sat.region ?_)))
 refine Tr.m rfl rfl rfl ?_
 refine Tr.call4 rfl rfl rfl rfl rfl Body170 (mk_head n4) tV ?_
 rintro v9 out9 ⟨c1, rfl, rfl⟩
 refine Tr.m rfl rfl rfl ?_
 refine Tr.call4 rfl rfl rfl rfl rfl Body171 (mk_links n4) tV ?_
 rintro v11 out11 ⟨c2, rfl, rfl⟩
 refine Tr.m rfl rfl rfl ?_
 refine Tr.call4 rfl rfl rfl rfl rfl Body172 (mk_tail n4) tV ?_
 rintro v13 out13 ⟨c3, rfl, rfl⟩
 refine Tr.mkRow (z := .nilFunc) [.func (.func 225) #[] #[ptr c1 0], .func (.func 226) #[] #[ptr c2 0], .func (.func 227) #[] #[ptr c3 0]] [.func (.func 225) #[] #[ptr c1 0], .func (.func 226) #[] #[ptr c2 0], .func (.func 227) #[] #[ptr c3 0]] rfl rfl rfl Tryz.underlying243 Sz204 Zr204 rfl rfl (by intro v hv; simp only [List.mem_cons, List.not_mem_nil, or_false] at hv; rcases hv with rfl | rfl | rfl <;> rfl) dE rfl ?_
 intro r14
 refine Tr.nd (fun hnd => ?_)
 simp only [RB, blk, List.map_cons, List.map_nil, List.map_append, List.cons_append, List.nil_append, List.nodup_cons, List.mem_cons, List.not_mem_nil, or_false] at hnd
 have hne : Hid (r14 ≠ n4 ∧ c1 ≠ n4 ∧ c2 ≠ n4 ∧ c3 ≠ n4 ∧ q4 ≠ n4) := ⟨by refine ⟨?_, ?_, ?_, ?_, ?_⟩ <;> (intro e; simp [e] at hnd)⟩
 clear hnd
 refine Tr.callL (L := [RB n4 q4 n cp4 0 0]) rfl rfl rfl rfl rfl Body169 (block_build r14 n4 q4 n cp4 c1 c2 c3 xs hl hcp hn hne.out.1 hne.out.2.1 hne.out.2.2.1 hne.out.2.2.2.1 hne.out.2.2.2.2 l1 a1 e1 x2 a2 e2 l3 a3 e3 h1 h2 h3 x4 a4 e4 h4 ls a5 e5 h5 o a6 e6 h6 l7 a7 e7 h7) (Ac rM Ad) (A0 rfl) (fun w h => ⟨Ai h Z4, Ap h (by exact mem5), ⟨(Ai h Z0).cell (o := 0) rfl, (Ai (B := ⟨r14, [.func (.func 225) #[] #[ptr c1 0], .func (.func 226) #[] #[ptr c2 0], .func (.func 227) #[] #[ptr c3 0]], _, _⟩) h Z0).cell (o := 1) rfl, (Ai (B := ⟨r14, [.func (.func 225) #[] #[ptr c1 0], .func (.func 226) #[] #[ptr c2 0], .func (.func 227) #[] #[ptr c3 0]], _, _⟩) h Z0).cell (o := 2) rfl⟩, (Ai (B := ⟨c1, _, _, _⟩) h Z3).cell (o := 0) rfl, (Ai (B := ⟨c2, _, _, _⟩) h Z2).cell (o := 0) rfl, (Ai (B := ⟨c3, _, _, _⟩) h Z1).cell (o := 0) rfl, (Ai (B := ⟨q4, Ab xs, _, _⟩) h (by exact mem5)).lt⟩) ?_
 rintro v15 out15 ⟨s2, bl2, s3, bl3, rfl, hac2, hac3, rfl⟩
 simp only [List.append_assoc, List.cons_append, List.nil_append]
 refine Tr.alloc (cs := Block.zero.cells) rfl Block.zr rfl ?_
 intro n5 hn5 hf5
 refine Tr.sA rfl rfl rfl rfl (Block.isCell (by exact okX _ _)) Sz79 (Block.length (by exact okX _ _)) Z0 (Block.length (by exact Block.zero_ok)) zU ?_
 refine Tr.nil (Aa (Sat.seq (Sat.seq (Sat.region ?_))))
 refine Tr.m rfl rfl rfl ?_
 refine Tr.cV rfl rfl rfl rfl Body105 (rd_End n4 q4 n cp4 a7 e7 hd7.1 oM) (fun w h => Ai h Z1) ?_
 refine two (fun r hr k => Tr.nei rfl rfl rfl rfl hr k) (fun hs3_20 => ?_) (fun hs3_20 => ?_)
 ·
  have hs3_2 := A2 hs3_20
  refine Tr.m rfl rfl rfl ?_
  refine Tr.skp rfl rfl ?_
  refine Tr.skp rfl rfl ?_
  refine Tr.skp rfl rfl ?_
  refine Tr.pick rfl rfl rfl rfl rfl rfl ?_
  refine Tr.nil (Aa ?_)
  refine Sat.cond_t rfl rfl ?_
  refine Sat.seq (Sat.region ?_)
  refine Tr.build (cs := Block.zero.cells) rfl rfl rfl (fun w => by kernel_rfl) ?_
  refine Tr.sA rfl rfl rfl rfl (Block.isCell (by exact Block.zero_ok)) Sz79 (Block.length (by exact Block.zero_ok)) mR (Block.length (by exact Block.zero_ok)) uU ?_
  refine Tr.a rfl rfl rfl ?_
  refine Tr.nil (Aa (Sat.ret (Ao (Am ?_))))
  refine Ak (out := (bl2 ++ (bl3 ++ []))) (A6 rfl rfl rfl Y79 rfl Sz79 mR (by exact Block.length (by exact Block.zero_ok))) (Ah sG (Ah sG Ad)) ?_
  first
   | exact fin_bad (by rw [hrp, hl]; exact fun h => hs3_2 h.1)
   | exact fin_bad (by rw [hrp, ← bcheck_D (B := ({ Block.zero with fWriter := l1, fSeq := x2, fPrev := l3, fLinks := s2, fData := s3, fSig := l7 ++ Block.zero.fSig.drop l7.length } : Block)) rfl rfl (by rw [hac2.num]; exact hd5.2.2.symm) hac3.num]; exact fun h => hc0 h.2)
   | exact fin_ok (by rw [hrp, hl, ← bcheck_D (B := ({ Block.zero with fWriter := l1, fSeq := x2, fPrev := l3, fLinks := s2, fData := s3, fSig := l7 ++ Block.zero.fSig.drop l7.length } : Block)) rfl rfl (by rw [hac2.num]; exact hd5.2.2.symm) hac3.num]; exact ⟨hs3_2, hc0⟩) (okX _ _) (fun W2 h2 => by
     rw [hrp]
     exact ⟨okX _ _, rfl, rfl, rfl, acc_rows hac2 (h2.sub in_here) hd5.2.1 hd5.2.2 oM, acc_bytes hac3 (h2.sub (in_seg in_here)) rfl (by have := hd6.2; omega), rfl⟩)
 ·
  have hs3_2 := A3 hs3_20
  refine Tr.m rfl rfl rfl ?_
  refine Tr.lA rfl rfl rfl Y79 rfl Sz79 Z0 (Block.length (by exact okX _ _)) ?_
  refine Tr.cV rfl rfl rfl rfl Body82 (block_check ({ Block.zero with fWriter := l1, fSeq := x2, fPrev := l3, fLinks := s2, fData := s3, fSig := l7 ++ Block.zero.fSig.drop l7.length } : Block) (okX _ _) ls) (fun w h => acc_rows hac2 (Lies.of h (by repeat (first | exact in_here | refine in_there ?_))) hd5.2.1 hd5.2.2 oM) ?_
  refine Tr.nei rfl rfl rfl rfl rfl ?_
  refine Tr.pick rfl rfl rfl rfl rfl rfl ?_
  refine Tr.nil (Aa ?_)
  refine Sat.condNP rfl (fun hc0 => ?_) (fun hc0 => ?_)
  ·
   refine Sat.seq (Sat.region ?_)
   refine Tr.build (cs := Block.zero.cells) rfl rfl rfl (fun w => by kernel_rfl) ?_
   refine Tr.sA rfl rfl rfl rfl (Block.isCell (by exact Block.zero_ok)) Sz79 (Block.length (by exact Block.zero_ok)) mR (Block.length (by exact Block.zero_ok)) uU ?_
   refine Tr.a rfl rfl rfl ?_
   refine Tr.nil (Aa (Sat.ret (Ao (Am ?_))))
   refine Ak (out := (bl2 ++ (bl3 ++ []))) (A6 rfl rfl rfl Y79 rfl Sz79 mR (by exact Block.length (by exact Block.zero_ok))) (Ah sG (Ah sG Ad)) ?_
   first
    | exact fin_bad (by rw [hrp, hl]; exact fun h => hs3_2 h.1)
    | exact fin_bad (by rw [hrp, ← bcheck_D (B := ({ Block.zero with fWriter := l1, fSeq := x2, fPrev := l3, fLinks := s2, fData := s3, fSig := l7 ++ Block.zero.fSig.drop l7.length } : Block)) rfl rfl (by rw [hac2.num]; exact hd5.2.2.symm) hac3.num]; exact fun h => hc0 h.2)
    | exact fin_ok (by rw [hrp, hl, ← bcheck_D (B := ({ Block.zero with fWriter := l1, fSeq := x2, fPrev := l3, fLinks := s2, fData := s3, fSig := l7 ++ Block.zero.fSig.drop l7.length } : Block)) rfl rfl (by rw [hac2.num]; exact hd5.2.2.symm) hac3.num]; exact ⟨hs3_2, hc0⟩) (okX _ _) (fun W2 h2 => by
      rw [hrp]
      exact ⟨okX _ _, rfl, rfl, rfl, acc_rows hac2 (h2.sub in_here) hd5.2.1 hd5.2.2 oM, acc_bytes hac3 (h2.sub (in_seg in_here)) rfl (by have := hd6.2; omega), rfl⟩)
  ·
   refine Sat.skip (Aa (Sat.seq (Sat.region ?_)))
   refine Tr.lA rfl rfl rfl Y79 rfl Sz79 Z0 (Block.length (by exact okX _ _)) ?_
   refine Tr.sA rfl rfl rfl rfl (Block.isCell (by exact okX _ _)) Sz79 (Block.length (by exact okX _ _)) mR (Block.length (by exact Block.zero_ok)) uU ?_
   refine Tr.a rfl rfl rfl ?_
   refine Tr.nil (Aa (Sat.ret (Am ?_)))
   refine Ak (out := (bl2 ++ (bl3 ++ []))) (A6 rfl rfl rfl Y79 rfl Sz79 mR (by exact Block.length (by exact okX _ _))) (Ah sG (Ah sG Ad)) ?_
   first
    | exact fin_bad (by rw [hrp, hl]; exact fun h => hs3_2 h.1)
    | exact fin_bad (by rw [hrp, ← bcheck_D (B := ({ Block.zero with fWriter := l1, fSeq := x2, fPrev := l3, fLinks := s2, fData := s3, fSig := l7 ++ Block.zero.fSig.drop l7.length } : Block)) rfl rfl (by rw [hac2.num]; exact hd5.2.2.symm) hac3.num]; exact fun h => hc0 h.2)
    | exact fin_ok (by rw [hrp, hl, ← bcheck_D (B := ({ Block.zero with fWriter := l1, fSeq := x2, fPrev := l3, fLinks := s2, fData := s3, fSig := l7 ++ Block.zero.fSig.drop l7.length } : Block)) rfl rfl (by rw [hac2.num]; exact hd5.2.2.symm) hac3.num]; exact ⟨hs3_2, hc0⟩) (okX _ _) (fun W2 h2 => by
      rw [hrp]
      exact ⟨okX _ _, rfl, rfl, rfl, acc_rows hac2 (h2.sub in_here) hd5.2.1 hd5.2.2 oM, acc_bytes hac3 (h2.sub (in_seg in_here)) rfl (by have := hd6.2; omega), rfl⟩)

end Go.Proofs.YtdifpjmfabhpiaaGreat
end

section
namespace Hw
open Go

def rolW (x : UInt64) (s : Nat) : UInt64 := shl64 x s ||| shr64 x (64 - s)
def schA (p : List UInt8) : Nat → List UInt64
  | 0 => List.replicate 80 0
  | i + 1 => (schA p i).set (i / 8) (shl64 ((schA p i).getD (i / 8) 0) 8 ||| (p.getD i 0).toUInt64)
theorem schA_length (p : List UInt8) : ∀ i, (schA p i).length = 80
  | 0 => rfl
  | i + 1 => by rw [schA, List.length_set, schA_length p i]
def sig0 (x : UInt64) : UInt64 := rolW x 63 ^^^ rolW x 56 ^^^ shr64 x 7
def sig1 (y : UInt64) : UInt64 := rolW y 45 ^^^ rolW y 3 ^^^ shr64 y 6
def schB (w : List UInt64) : Nat → List UInt64
  | 0 => w
  | j + 1 => (schB w j).set (16 + j) ((schB w j).getD j 0 + sig0 ((schB w j).getD (j + 1) 0) + (schB w j).getD (j + 9) 0 + sig1 ((schB w j).getD (j + 14) 0))
theorem schB_length (w : List UInt64) : ∀ j, (schB w j).length = w.length
  | 0 => rfl
  | j + 1 => by rw [schB, List.length_set, schB_length w j]
def schW (p : List UInt8) : List UInt64 := schB (schA p 128) 64
structure W8 where
  a : UInt64
  b : UInt64
  c : UInt64
  d : UInt64
  e : UInt64
  f : UInt64
  g : UInt64
  h : UInt64
def W8.l (s : W8) : List UInt64 := [s.a, s.b, s.c, s.d, s.e, s.f, s.g, s.h]
def W8.of (l : List UInt64) : W8 := ⟨l.getD 0 0, l.getD 1 0, l.getD 2 0, l.getD 3 0, l.getD 4 0, l.getD 5 0, l.getD 6 0, l.getD 7 0⟩
def rndT1 (s : W8) (k w : UInt64) : UInt64 := s.h + (rolW s.e 50 ^^^ rolW s.e 46 ^^^ rolW s.e 23) + ((s.e &&& s.f) ^^^ ((18446744073709551615 ^^^ s.e) &&& s.g)) + k + w
def rndT2 (s : W8) : UInt64 := (rolW s.a 36 ^^^ rolW s.a 30 ^^^ rolW s.a 25) + ((s.a &&& s.b) ^^^ (s.a &&& s.c) ^^^ (s.b &&& s.c))
def rnd1 (s : W8) (k w : UInt64) : W8 := ⟨rndT1 s k w + rndT2 s, s.a, s.b, s.c, s.d + rndT1 s k w, s.e, s.f, s.g⟩
def rnds (k w : List UInt64) (s : W8) : Nat → W8
  | 0 => s
  | t + 1 => rnd1 (rnds k w s t) (k.getD t 0) (w.getD t 0)
def addUp (st xs : List UInt64) : Nat → List UInt64
  | 0 => st
  | i + 1 => (addUp st xs i).set i ((addUp st xs i).getD i 0 + xs.getD i 0)
theorem addUp_length (st xs : List UInt64) : ∀ i, (addUp st xs i).length = st.length
  | 0 => rfl
  | i + 1 => by rw [addUp, List.length_set, addUp_length st xs i]
def pieceW (k st : List UInt64) (p : List UInt8) : List UInt64 := addUp st (rnds k (schW p) (W8.of st) 80).l 8
theorem pieceW_length (k st : List UInt64) (p : List UInt8) : (pieceW k st p).length = st.length := addUp_length _ _ _
def sumUp (st : List UInt64) : Nat → List UInt8
  | 0 => List.replicate 64 0
  | i + 1 => (sumUp st i).set i (shr64 (st.getD (i / 8) 0) (56 - 8 * (i % 8))).toUInt8
theorem sumUp_length (st : List UInt64) : ∀ i, (sumUp st i).length = 64
  | 0 => rfl
  | i + 1 => by rw [sumUp, List.length_set, sumUp_length st i]
def padZ (n : Nat) : Nat := (239 - n % 128) % 128
theorem padZ_lt (n : Nat) : padZ n < 128 := Nat.mod_lt _ dE
theorem padZ_at (n j : Nat) (h : j ≤ padZ n) : (n + 1 + j) % 128 = 112 ↔ j = padZ n := by unfold padZ at *; omega
def beUp (x : UInt64) : Nat → List UInt8
  | 0 => []
  | j + 1 => beUp x j ++ [(shr64 x (56 - 8 * j)).toUInt8]
theorem beUp_length (x : UInt64) : ∀ j, (beUp x j).length = j
  | 0 => rfl
  | j + 1 => by rw [beUp, List.length_append, beUp_length x j]; rfl
def padB (l : List UInt8) : List UInt8 := l ++ [128] ++ List.replicate (padZ l.length) 0 ++ beUp 0 8 ++ beUp (UInt64.ofNat (8 * l.length)) 8
theorem padB_length (l : List UInt8) : (padB l).length = l.length + 17 + padZ l.length := by
  simp only [padB, List.length_append, beUp_length, List.length_replicate, List.length_singleton]; omega
theorem padB_mod (l : List UInt8) : (padB l).length = 128 * ((padB l).length / 128) := by
  rw [padB_length]; unfold padZ; omega
def runW (k st : List UInt64) (bs : List UInt8) : Nat → List UInt64
  | 0 => st
  | i + 1 => pieceW k (runW k st bs i) ((bs.drop (128 * i)).take 128)
theorem runW_length (k st : List UInt64) (bs : List UInt8) : ∀ i, (runW k st bs i).length = st.length
  | 0 => rfl
  | i + 1 => by rw [runW, pieceW_length, runW_length k st bs i]
def allW (k st : List UInt64) (l : List UInt8) : List UInt64 := runW k st (padB l) ((padB l).length / 128)
theorem allW_length (k st : List UInt64) (l : List UInt8) : (allW k st l).length = st.length := runW_length _ _ _ _
end Hw
end

section
namespace Go.Proofs.YtdifpjmfabhpiaaGreat
open Go Hw

def kW : List UInt64 := [4794697086780616226, 8158064640168781261, 13096744586834688815, 16840607885511220156, 4131703408338449720, 6480981068601479193, 10538285296894168987, 12329834152419229976, 15566598209576043074, 1334009975649890238, 2608012711638119052, 6128411473006802146, 8268148722764581231, 9286055187155687089, 11230858885718282805, 13951009754708518548, 16472876342353939154, 17275323862435702243, 1135362057144423861, 2597628984639134821, 3308224258029322869, 5365058923640841347, 6679025012923562964, 8573033837759648693, 10970295158949994411, 12119686244451234320, 12683024718118986047, 13788192230050041572, 14330467153632333762, 15395433587784984357, 489312712824947311, 1452737877330783856, 2861767655752347644, 3322285676063803686, 5560940570517711597, 5996557281743188959, 7280758554555802590, 8532644243296465576, 9350256976987008742, 10552545826968843579, 11727347734174303076, 12113106623233404929, 14000437183269869457, 14369950271660146224, 15101387698204529176, 15463397548674623760, 17586052441742319658, 1182934255886127544, 1847814050463011016, 2177327727835720531, 2830643537854262169, 3796741975233480872, 4115178125766777443, 5681478168544905931, 6601373596472566643, 7507060721942968483, 8399075790359081724, 8693463985226723168, 9568029438360202098, 10144078919501101548, 10430055236837252648, 11840083180663258601, 13761210420658862357, 14299343276471374635, 14566680578165727644, 15097957966210449927, 16922976911328602910, 17689382322260857208, 500013540394364858, 748580250866718886, 1242879168328830382, 1977374033974150939, 2944078676154940804, 3659926193048069267, 4368137639120453308, 4836135668995329356, 5532061633213252278, 6448918945643986474, 6902733635092675308, 7801388544844847127]
def startW : List UInt64 := [7640891576956012808, 13503953896175478587, 4354685564936845355, 11912009170470909681, 5840696475078001361, 11170449401992604703, 2270897969802886507, 6620516959819538809]

theorem sha_K  : Meets Tryz.prog 253 [] [] (fun _ => True) (fun v out => v = agg (Bd kW) ∧ out = []) := by
 intro W hW
 refine An Tryz.func253 rfl 2 Tryz.ntmps253 rfl ?_
 refine Sat.seq (Sat.region ?_)
 refine Tr.alloc (cs := (Bd (List.replicate 80 0))) rfl Zr267 rfl ?_
 intro n0 hn0 hf0
 refine Tr.nil (Aa (Sat.seq (Sat.region ?_)))
 refine Tr.build (cs := Bd kW) rfl rfl rfl (fun w => by kernel_rfl) ?_
 refine Tr.sA rfl rfl rfl rfl zB Sz267 (by (simp [kW]; done)) Z0 sP zU ?_
 refine Tr.nil (Aa (Sat.ret (Am ?_)))
 refine ⟨_, [], res_cell rfl rfl Y267 rfl Sz267 Z0 (by simp [kW]), sP, sP, ?_, rfl⟩
 rfl

theorem sha_Start  : Meets Tryz.prog 246 [] [] (fun _ => True) (fun v out => v = agg (Bd startW) ∧ out = []) := by
 intro W hW
 refine An Tryz.func246 rfl 2 Tryz.ntmps246 rfl ?_
 refine Sat.seq (Sat.region ?_)
 refine Tr.alloc (cs := (Bd (List.replicate 8 0))) rfl Zr252 rfl ?_
 intro n0 hn0 hf0
 refine Tr.nil (Aa (Sat.seq (Sat.region ?_)))
 refine Tr.build (cs := Bd startW) rfl rfl rfl (fun w => by kernel_rfl) ?_
 refine Tr.sA rfl rfl rfl rfl zB Sz252 (by (simp [startW]; done)) Z0 sP zU ?_
 refine Tr.nil (Aa (Sat.ret (Am ?_)))
 refine ⟨_, [], res_cell rfl rfl Y252 rfl Sz252 Z0 (by simp [startW]), sP, sP, ?_, rfl⟩
 rfl

theorem bits_rol (x : UInt64) (k : Int) (s : Nat) (hk : -64 ≤ k ∧ k ≤ 64) (hs : (Bi k &&& 63).toNat = s) (hs2 : s ≤ 63) : Meets Tryz.prog 254 [u64 x, i64 k] [] (fun _ => True) (fun v out => v = u64 (rolW x s) ∧ out = []) := by
 intro W hW
 have h64 : ((64 : UInt64) - (Bi k &&& 63)).toNat = 64 - s := by rw [UInt64.toNat_sub_of_le _ _ (by rw [UInt64.le_iff_toNat_le, hs]; show s ≤ 64; omega), hs]; rfl
 refine An Tryz.func254 rfl 17 Tryz.ntmps254 rfl ?_
 refine Sat.seq (Sat.region ?_)
 refine Tr.a rfl rfl (show Aj _ _ = some (u64 0) from rfl) ?_
 refine Tr.nil (Aa (Sat.seq (Sat.region ?_)))
 refine Tr.m rfl rfl rfl ?_
 refine Tr.conv rfl rfl rfl Y3 Tryz.underlying225 (Bh _) ?_
 refine Tr.and_u64 rfl rfl rfl (show Aj _ _ = some (u64 63) from rfl) ?_
 refine Tr.a rfl rfl rfl ?_
 refine Tr.nil (Aa (Sat.seq (Sat.region ?_)))
 refine Tr.m rfl rfl rfl ?_
 refine Tr.m rfl rfl rfl ?_
 refine Tr.shl_u64 rfl rfl rfl rfl s oM oM ?_
 refine Tr.m rfl rfl rfl ?_
 refine Tr.m rfl rfl rfl ?_
 refine Tr.sub_u64 rfl rfl (show Aj _ _ = some (u64 64) from rfl) rfl ?_
 refine Tr.shr_u64 rfl rfl rfl rfl (64 - s) oM oM ?_
 refine Tr.or_u64 rfl rfl rfl rfl ?_
 refine Tr.a rfl rfl rfl ?_
 refine Tr.nil (Aa (Sat.ret (Am ?_)))
 refine ⟨_, [], Ae rfl rfl, sP, sP, ?_, rfl⟩
 rfl

theorem sha_schedule (p : List UInt8) (hp : p.length = 128) (A w : List UInt64) (hA : Hid (schA p 128 = A)) (hwp : Hid (schB A 64 = w)) : Meets Tryz.prog 252 [agg (Ab p)] [] (fun _ => True) (fun v out => v = agg (Bd w) ∧ out = []) := by
 intro W hW
 have hA80 : A.length = 80 := by rw [← hA.out]; exact schA_length p 128
 have hw80 : w.length = 80 := by rw [← hwp.out, schB_length]; exact hA80
 refine An Tryz.func252 rfl 72 Tryz.ntmps252 rfl ?_
 refine Sat.seq (Sat.region ?_)
 refine Tr.boxA rfl rfl ?_
 intro n1 hn1 hf1
 refine Tr.alloc (cs := (Bd (List.replicate 80 0))) rfl Zr267 rfl ?_
 intro n2 hn2 hf2
 refine Tr.nil (Aa (Sat.seq (Sat.region ?_)))
 refine Tr.alloc (cs := (Bd (List.replicate 80 0))) rfl Zr267 rfl ?_
 intro n3 hn3 hf3
 refine Tr.nil (Aa (Sat.seq (Sat.seq (Sat.region ?_))))
 refine Tr.lA rfl rfl rfl Tryz.underlying262 rfl Sz262 Z2 (by (simp [hp]; done)) ?_
 refine Tr.m rfl rfl rfl ?_
 refine Tr.nil (Aa (Sat.block ?_))
 refine Sat.loop (ι := Nat) (fun k => ⟨[(3, ptr n3 0), (2, ptr n2 0), (11, agg (Ab p)), (12, i64 (k : Int))], [⟨n3, Bd (schA p k), 267, 80⟩, ⟨n2, Bd (List.replicate 80 0), 267, 80⟩]⟩) (fun k => k ≤ 128) (fun k => 128 - k) (0) ?_ ?_ ?_
 · omega
 · exact Ar (wk1 rfl (wk1 rfl (wk1 rfl (wk1 rfl wk0)))) (wh1 Z0 (wh1 Z1 wh0)) nD
 ·
  rintro k hi
  have hlk := schA_length p k
  refine Sat.seq (Sat.region ?_)
  refine Tr.lss rfl rfl rfl rfl rfl ?_
  refine Tr.nil (Aa (Sat.seq ?_))
  refine Sat.condP rfl (fun hc0 => ?_) (fun hc0 => ?_)
  ·
   refine Sat.skip (Aa (Sat.seq (Sat.block (Sat.seq (Sat.region ?_)))))
   refine Tr.m rfl rfl rfl ?_
   refine Tr.idxA1 rfl rfl rfl rfl Tryz.underlying262 Sz5 Y5 rfl _ rfl oM zG ?_
   refine Tr.a rfl rfl rfl ?_
   refine Tr.a rfl rfl rfl ?_
   refine Tr.nil (Aa (Sat.region ?_))
   refine Tr.m rfl rfl rfl ?_
   refine Tr.quo_i64 rfl rfl rfl rfl oM ?_
   refine Tr.m rfl rfl rfl ?_
   refine Tr.quo_i64 rfl rfl rfl rfl oM ?_
   refine Tr.i1 rfl rfl rfl rfl Y267 B1 (k / 8) oM oM ?_
   refine Tr.load1 rfl rfl rfl Y48 rfl Z0 (by exact Az oM) ?_
   refine Tr.shl_u64 rfl rfl rfl rfl 8 rfl dE ?_
   refine Tr.m rfl rfl rfl ?_
   refine Tr.conv rfl rfl rfl Y5 Y48 (cv_u8_u64 _) ?_
   refine Tr.or_u64 rfl rfl rfl rfl ?_
   refine Tr.i1 rfl rfl rfl rfl Y267 B1 (k / 8) oM oM ?_
   refine Tr.s1 rfl rfl rfl rfl rfl B1 Z0 (by (simp [schA_length]; omega)) (by exact set_words _ _ _) zU ?_
   refine Tr.nil (B2 (Aa (Sat.region ?_)))
   refine Tr.aI rfl rfl rfl rfl oM ?_
   refine Tr.m rfl rfl rfl ?_
   refine Tr.nil (Aa ?_)
   exact ⟨k + 1, by omega, by omega, Ar (wk1 rfl (wk1 rfl (wk1 rfl (wk1 rfl wk0)))) (wh1 Z0 (wh1 Z1 wh0)) nD⟩
  ·
   obtain rfl : k = 128 := by omega
   rw [hA.out]
   clear hlk
   refine Sat.exit (Bf (Bf (bl_h (Aa (Sat.seq (Sat.seq (Sat.region ?_)))))))
   refine Tr.a rfl rfl rfl ?_
   refine Tr.nil (Aa (Sat.block ?_))
   refine Sat.loop (ι := Nat) (fun j => ⟨[(3, ptr n3 0), (2, ptr n2 0), (6, i64 (16 + (j : Int)))], [⟨n3, Bd (schB A j), 267, 80⟩, ⟨n2, Bd (List.replicate 80 0), 267, 80⟩]⟩) (fun j => j ≤ 64) (fun j => 64 - j) (0) ?_ ?_ ?_
   · omega
   · exact Ar (wk1 rfl (wk1 rfl (wk1 rfl wk0))) (wh1 Z0 (wh1 Z1 wh0)) nD
   ·
    rintro j hi
    have hlj := schB_length A j
    refine Sat.seq (Sat.seq (Sat.region ?_))
    refine Tr.m rfl rfl rfl ?_
    refine Tr.lss rfl rfl rfl rfl rfl ?_
    refine Tr.nil (Aa ?_)
    refine Sat.condP rfl (fun hc1 => ?_) (fun hc1 => ?_)
    ·
     refine Sat.skip (Aa (Sat.seq (Sat.block (Sat.seq ?_))))
     refine Sat.draw [(0, 0), (0, 1), (0, 2), (1, 3), (0, 4), (0, 5), (0, 6), (1, 7), (0, 8), (0, 9)] Bv zK ?_
     refine Tr.m rfl rfl rfl ?_
     refine Tr.sub_i64 rfl rfl rfl rfl oM ?_
     refine Tr.i1 rfl rfl rfl rfl Y267 B1 (j + 1) oM oM ?_
     refine Tr.load1 rfl rfl rfl Y48 rfl Z0 (by exact Az oM) ?_
     refine Tr.m rfl rfl rfl ?_
     refine Tr.sub_i64 rfl rfl rfl rfl oM ?_
     refine Tr.i1 rfl rfl rfl rfl Y267 B1 (j + 14) oM oM ?_
     refine Tr.load1 rfl rfl rfl Y48 rfl Z0 (by exact Az oM) ?_
     refine Tr.a rfl rfl rfl ?_
     refine Tr.a rfl rfl rfl ?_
     refine Tr.nil (Aa (Sat.seq (Sat.region ?_)))
     refine Tr.m rfl rfl rfl ?_
     refine Tr.cV rfl rfl rfl rfl Body254 (bits_rol _ (-1) 63 dE dE dE) tV ?_
     refine Tr.m rfl rfl rfl ?_
     refine Tr.cV rfl rfl rfl rfl Body254 (bits_rol _ (-8) 56 dE dE dE) tV ?_
     refine Tr.xor_u64 rfl rfl rfl rfl ?_
     refine Tr.m rfl rfl rfl ?_
     refine Tr.shr_u64 rfl rfl rfl rfl 7 rfl dE ?_
     refine Tr.xor_u64 rfl rfl rfl rfl ?_
     refine Tr.a rfl rfl rfl ?_
     refine Tr.nil (Aa (Sat.seq (Sat.region ?_)))
     refine Tr.m rfl rfl rfl ?_
     refine Tr.cV rfl rfl rfl rfl Body254 (bits_rol _ (-19) 45 dE dE dE) tV ?_
     refine Tr.m rfl rfl rfl ?_
     refine Tr.cV rfl rfl rfl rfl Body254 (bits_rol _ (-61) 3 dE dE dE) tV ?_
     refine Tr.xor_u64 rfl rfl rfl rfl ?_
     refine Tr.m rfl rfl rfl ?_
     refine Tr.shr_u64 rfl rfl rfl rfl 6 rfl dE ?_
     refine Tr.xor_u64 rfl rfl rfl rfl ?_
     refine Tr.a rfl rfl rfl ?_
     refine Tr.nil (Aa ?_)
     refine Sat.draw [(0, 0), (0, 1), (0, 2), (0, 3), (1, 4), (0, 5), (0, 6), (0, 7), (0, 8), (0, 9), (1, 10), (0, 11), (0, 12), (0, 13), (0, 14), (4, 15)] Bv zK ?_
     refine Tr.m rfl rfl rfl ?_
     refine Tr.m rfl rfl rfl ?_
     refine Tr.sub_i64 rfl rfl rfl rfl oM ?_
     refine Tr.i1 rfl rfl rfl rfl Y267 B1 j oM oM ?_
     refine Tr.load1 rfl rfl rfl Y48 rfl Z0 (by exact Az oM) ?_
     refine Tr.m rfl rfl rfl ?_
     refine Tr.add_u64 rfl rfl rfl rfl ?_
     refine Tr.m rfl rfl rfl ?_
     refine Tr.sub_i64 rfl rfl rfl rfl oM ?_
     refine Tr.i1 rfl rfl rfl rfl Y267 B1 (j + 9) oM oM ?_
     refine Tr.load1 rfl rfl rfl Y48 rfl Z0 (by exact Az oM) ?_
     refine Tr.add_u64 rfl rfl rfl rfl ?_
     refine Tr.m rfl rfl rfl ?_
     refine Tr.add_u64 rfl rfl rfl rfl ?_
     refine Tr.i1 rfl rfl rfl rfl Y267 B1 (16 + j) oM oM ?_
     refine Tr.s1 rfl rfl rfl rfl rfl B1 Z0 (by (simp [schB_length, hA80]; omega)) (by exact set_words _ _ _) zU ?_
     refine Tr.nil (B2 (Aa (Sat.region ?_)))
     refine Tr.m rfl rfl rfl ?_
     refine Tr.aI rfl rfl rfl rfl oM ?_
     refine Tr.a rfl rfl rfl ?_
     refine Tr.nil (Aa ?_)
     exact ⟨j + 1, by omega, by omega, Ar (wk1 rfl (wk1 rfl (wk1 (congrArg (fun z => some (i64 z)) oM) wk0))) (wh1 Z0 (wh1 Z1 wh0)) nD⟩
    ·
     obtain rfl : j = 64 := by omega
     rw [hwp.out]
     clear hlj
     refine Sat.exit (Bf (Bf (bl_h (Aa (Sat.seq (Sat.region ?_))))))
     refine Tr.lA rfl rfl rfl Y267 rfl Sz267 Z0 (by (simp [hw80]; done)) ?_
     refine Tr.sA rfl rfl rfl rfl zB Sz267 (by (simp [hw80]; done)) Z1 sP zV ?_
     refine Tr.nil (Aa (Sat.ret (Am ?_)))
     refine ⟨_, [], res_cell rfl rfl Y267 rfl Sz267 Z1 (by simp [hw80]), sP, sP, ?_, rfl⟩
     rfl

theorem sha_Kk (k : List UInt64) (hk : Hid (kW = k)) : Meets Tryz.prog 253 [] [] (fun _ => True) (fun v out => v = agg (Bd k) ∧ out = []) := by
  rw [← hk.out]; exact sha_K
theorem W8.l_length (R : W8) : R.l.length = 8 := rfl

theorem sha_Piece (st : List UInt64) (hst : st.length = 8) (p : List UInt8) (hp : p.length = 128) (A w k : List UInt64) (R : W8) (hA : Hid (schA p 128 = A)) (hwp : Hid (schB A 64 = w)) (hw : w.length = 80) (hk : Hid (kW = k)) (hk80 : k.length = 80) (hR : Hid (rnds k w (W8.of st) 80 = R)) : Meets Tryz.prog 245 [agg (Bd st), agg (Ab p)] [] (fun _ => True) (fun v out => v = agg (Bd (addUp st R.l 8)) ∧ out = []) := by
 intro W hW
 refine An Tryz.func245 rfl 127 Tryz.ntmps245 rfl ?_
 refine Sat.seq (Sat.region ?_)
 refine Tr.boxA rfl rfl ?_
 intro n2 hn2 hf2
 refine Tr.boxA rfl rfl ?_
 intro n3 hn3 hf3
 refine Tr.alloc (cs := (Bd (List.replicate 8 0))) rfl Zr252 rfl ?_
 intro n4 hn4 hf4
 refine Tr.nil (Aa (Sat.seq (Sat.region ?_)))
 refine Tr.lA rfl rfl rfl Tryz.underlying262 rfl Sz262 Z1 (by (simp [hp]; done)) ?_
 refine Tr.cV rfl rfl rfl rfl Body252 (sha_schedule p hp A w hA hwp) tV ?_
 refine Tr.cV rfl rfl rfl rfl Body253 (sha_Kk k hk) tV ?_
 refine Tr.alloc (cs := (Bd (List.replicate 80 0))) rfl Zr267 rfl ?_
 intro n5 hn5 hf5
 refine Tr.alloc (cs := (Bd (List.replicate 80 0))) rfl Zr267 rfl ?_
 intro n6 hn6 hf6
 refine Tr.sA rfl rfl rfl rfl zB Sz267 (by (simp [hw]; done)) Z1 sP zV ?_
 refine Tr.sA rfl rfl rfl rfl zB Sz267 (by (simp [hk80]; done)) Z0 sP zU ?_
 refine Tr.nil (Aa (Sat.seq ?_))
 refine Sat.draw [(0, 0), (1, 1), (0, 2), (1, 3), (0, 4), (1, 5), (0, 6), (1, 7), (0, 8), (0, 9), (0, 10), (0, 11)] Bv zK ?_
 refine Tr.i1 rfl rfl rfl rfl Y252 B1 0 rfl dE ?_
 refine Tr.load1 rfl rfl rfl Y48 rfl Z4 (by exact Az oM) ?_
 refine Tr.i1 rfl rfl rfl rfl Y252 B1 1 rfl dE ?_
 refine Tr.load1 rfl rfl rfl Y48 rfl Z4 (by exact Az oM) ?_
 refine Tr.i1 rfl rfl rfl rfl Y252 B1 2 rfl dE ?_
 refine Tr.load1 rfl rfl rfl Y48 rfl Z4 (by exact Az oM) ?_
 refine Tr.i1 rfl rfl rfl rfl Y252 B1 3 rfl dE ?_
 refine Tr.load1 rfl rfl rfl Y48 rfl Z4 (by exact Az oM) ?_
 refine Tr.a rfl rfl rfl ?_
 refine Tr.a rfl rfl rfl ?_
 refine Tr.a rfl rfl rfl ?_
 refine Tr.a rfl rfl rfl ?_
 refine Tr.nil (Aa (Sat.seq ?_))
 refine Sat.draw [(0, 0), (1, 1), (0, 2), (1, 3), (0, 4), (1, 5), (0, 6), (1, 7), (0, 8), (0, 9), (0, 10), (0, 11)] Bv zK ?_
 refine Tr.i1 rfl rfl rfl rfl Y252 B1 4 rfl dE ?_
 refine Tr.load1 rfl rfl rfl Y48 rfl Z4 (by exact Az oM) ?_
 refine Tr.i1 rfl rfl rfl rfl Y252 B1 5 rfl dE ?_
 refine Tr.load1 rfl rfl rfl Y48 rfl Z4 (by exact Az oM) ?_
 refine Tr.i1 rfl rfl rfl rfl Y252 B1 6 rfl dE ?_
 refine Tr.load1 rfl rfl rfl Y48 rfl Z4 (by exact Az oM) ?_
 refine Tr.i1 rfl rfl rfl rfl Y252 B1 7 rfl dE ?_
 refine Tr.load1 rfl rfl rfl Y48 rfl Z4 (by exact Az oM) ?_
 refine Tr.a rfl rfl rfl ?_
 refine Tr.a rfl rfl rfl ?_
 refine Tr.a rfl rfl rfl ?_
 refine Tr.a rfl rfl rfl ?_
 refine Tr.nil (Aa (Sat.seq (Sat.seq (Sat.region ?_))))
 refine Tr.m rfl rfl rfl ?_
 refine Tr.nil (Aa (Sat.block ?_))
 refine Sat.loop (ι := Nat) (fun t => ⟨[(2, ptr n2 0), (4, ptr n4 0), (5, ptr n5 0), (6, ptr n6 0), (7, u64 (rnds k w (W8.of st) t).a), (8, u64 (rnds k w (W8.of st) t).b), (9, u64 (rnds k w (W8.of st) t).c), (10, u64 (rnds k w (W8.of st) t).d), (11, u64 (rnds k w (W8.of st) t).e), (12, u64 (rnds k w (W8.of st) t).f), (13, u64 (rnds k w (W8.of st) t).g), (14, u64 (rnds k w (W8.of st) t).h), (41, i64 (t : Int))], [⟨n6, Bd k, 267, 80⟩, ⟨n5, Bd w, 267, 80⟩, ⟨n4, Bd (List.replicate 8 0), 252, 8⟩, ⟨n2, Bd st, 252, (Bd st).length⟩]⟩) (fun t => t ≤ 80) (fun t => 80 - t) (0) ?_ ?_ ?_
 · omega
 · exact Ar (wk1 rfl (wk1 rfl (wk1 rfl (wk1 rfl (wk1 rfl (wk1 rfl (wk1 rfl (wk1 rfl (wk1 rfl (wk1 rfl (wk1 rfl (wk1 rfl (wk1 rfl wk0))))))))))))) (wh1 Z0 (wh1 Z1 (wh1 Z2 (wh1 Z4 wh0)))) nD
 ·
  rintro t hi
  refine Sat.seq (Sat.region ?_)
  refine Tr.lss rfl rfl rfl rfl rfl ?_
  refine Tr.nil (Aa (Sat.seq ?_))
  refine Sat.condP rfl (fun hc0 => ?_) (fun hc0 => ?_)
  ·
   refine Sat.skip (Aa (Sat.seq (Sat.block (Sat.seq (Sat.region ?_)))))
   refine Tr.m rfl rfl rfl ?_
   refine Tr.a rfl rfl rfl ?_
   refine Tr.nil (Aa (Sat.seq (Sat.region ?_)))
   refine Tr.m rfl rfl rfl ?_
   refine Tr.cV rfl rfl rfl rfl Body254 (bits_rol _ (-14) 50 dE dE dE) tV ?_
   refine Tr.m rfl rfl rfl ?_
   refine Tr.cV rfl rfl rfl rfl Body254 (bits_rol _ (-18) 46 dE dE dE) tV ?_
   refine Tr.xor_u64 rfl rfl rfl rfl ?_
   refine Tr.m rfl rfl rfl ?_
   refine Tr.cV rfl rfl rfl rfl Body254 (bits_rol _ (-41) 23 dE dE dE) tV ?_
   refine Tr.xor_u64 rfl rfl rfl rfl ?_
   refine Tr.a rfl rfl rfl ?_
   refine Tr.nil (Aa (Sat.seq ?_))
   refine Sat.draw [(0, 0), (0, 1), (0, 2), (0, 3), (0, 4), (0, 5), (0, 6), (0, 7), (0, 8), (0, 9), (0, 10), (0, 11), (0, 12), (0, 13), (1, 14), (0, 15), (0, 16), (0, 17), (1, 18), (0, 19), (0, 20)] Bv zK ?_
   refine Tr.m rfl rfl rfl ?_
   refine Tr.m rfl rfl rfl ?_
   refine Tr.add_u64 rfl rfl rfl rfl ?_
   refine Tr.m rfl rfl rfl ?_
   refine Tr.m rfl rfl rfl ?_
   refine Tr.and_u64 rfl rfl rfl rfl ?_
   refine Tr.m rfl rfl rfl ?_
   refine Tr.not_u64 rfl rfl rfl ?_
   refine Tr.m rfl rfl rfl ?_
   refine Tr.and_u64 rfl rfl rfl rfl ?_
   refine Tr.xor_u64 rfl rfl rfl rfl ?_
   refine Tr.add_u64 rfl rfl rfl rfl ?_
   refine Tr.m rfl rfl rfl ?_
   refine Tr.i1 rfl rfl rfl rfl Y267 B1 _ rfl oM ?_
   refine Tr.load1 rfl rfl rfl Y48 rfl Z0 (by exact Az oM) ?_
   refine Tr.add_u64 rfl rfl rfl rfl ?_
   refine Tr.m rfl rfl rfl ?_
   refine Tr.i1 rfl rfl rfl rfl Y267 B1 _ rfl oM ?_
   refine Tr.load1 rfl rfl rfl Y48 rfl Z1 (by exact Az oM) ?_
   refine Tr.add_u64 rfl rfl rfl rfl ?_
   refine Tr.a rfl rfl rfl ?_
   refine Tr.nil (Aa (Sat.seq (Sat.region ?_)))
   refine Tr.m rfl rfl rfl ?_
   refine Tr.cV rfl rfl rfl rfl Body254 (bits_rol _ (-28) 36 dE dE dE) tV ?_
   refine Tr.m rfl rfl rfl ?_
   refine Tr.cV rfl rfl rfl rfl Body254 (bits_rol _ (-34) 30 dE dE dE) tV ?_
   refine Tr.xor_u64 rfl rfl rfl rfl ?_
   refine Tr.m rfl rfl rfl ?_
   refine Tr.cV rfl rfl rfl rfl Body254 (bits_rol _ (-39) 25 dE dE dE) tV ?_
   refine Tr.xor_u64 rfl rfl rfl rfl ?_
   refine Tr.a rfl rfl rfl ?_
   refine Tr.nil (Aa (Sat.seq (Sat.region ?_)))
   refine Tr.m rfl rfl rfl ?_
   refine Tr.m rfl rfl rfl ?_
   refine Tr.m rfl rfl rfl ?_
   refine Tr.and_u64 rfl rfl rfl rfl ?_
   refine Tr.m rfl rfl rfl ?_
   refine Tr.m rfl rfl rfl ?_
   refine Tr.and_u64 rfl rfl rfl rfl ?_
   refine Tr.xor_u64 rfl rfl rfl rfl ?_
   refine Tr.m rfl rfl rfl ?_
   refine Tr.m rfl rfl rfl ?_
   refine Tr.and_u64 rfl rfl rfl rfl ?_
   refine Tr.xor_u64 rfl rfl rfl rfl ?_
   refine Tr.add_u64 rfl rfl rfl rfl ?_
   refine Tr.a rfl rfl rfl ?_
   refine Tr.nil (Aa (Sat.region ?_))
   refine Tr.m rfl rfl rfl ?_
   refine Tr.m rfl rfl rfl ?_
   refine Tr.add_u64 rfl rfl rfl rfl ?_
   refine Tr.m rfl rfl rfl ?_
   refine Tr.m rfl rfl rfl ?_
   refine Tr.m rfl rfl rfl ?_
   refine Tr.m rfl rfl rfl ?_
   refine Tr.m rfl rfl rfl ?_
   refine Tr.add_u64 rfl rfl rfl rfl ?_
   refine Tr.m rfl rfl rfl ?_
   refine Tr.m rfl rfl rfl ?_
   refine Tr.m rfl rfl rfl ?_
   refine Tr.a rfl rfl rfl ?_
   refine Tr.a rfl rfl rfl ?_
   refine Tr.a rfl rfl rfl ?_
   refine Tr.a rfl rfl rfl ?_
   refine Tr.a rfl rfl rfl ?_
   refine Tr.a rfl rfl rfl ?_
   refine Tr.a rfl rfl rfl ?_
   refine Tr.a rfl rfl rfl ?_
   refine Tr.nil (B2 (Aa (Sat.region ?_)))
   refine Tr.aI rfl rfl rfl rfl oM ?_
   refine Tr.m rfl rfl rfl ?_
   refine Tr.nil (Aa ?_)
   exact ⟨t + 1, by omega, by omega, Ar (wk1 rfl (wk1 rfl (wk1 rfl (wk1 rfl (wk1 rfl (wk1 rfl (wk1 rfl (wk1 rfl (wk1 rfl (wk1 rfl (wk1 rfl (wk1 rfl (wk1 rfl wk0))))))))))))) (wh1 Z0 (wh1 Z1 (wh1 Z2 (wh1 Z3 wh0)))) nD⟩
  ·
   obtain rfl : t = 80 := by omega
   rw [hR.out]
   refine Sat.exit (Bf (Bf (bl_h (Aa (Sat.seq (Sat.seq (Sat.region ?_)))))))
   refine Tr.m rfl rfl rfl ?_
   refine Tr.m rfl rfl rfl ?_
   refine Tr.m rfl rfl rfl ?_
   refine Tr.m rfl rfl rfl ?_
   refine Tr.m rfl rfl rfl ?_
   refine Tr.m rfl rfl rfl ?_
   refine Tr.m rfl rfl rfl ?_
   refine Tr.m rfl rfl rfl ?_
   refine Tr.build (cs := Bd R.l) rfl rfl rfl (fun w => by kernel_rfl) ?_
   refine Tr.m rfl rfl rfl ?_
   refine Tr.nil (Aa (Sat.block ?_))
   refine Sat.loop (ι := Nat) (fun i => ⟨[(2, ptr n2 0), (4, ptr n4 0), (114, agg (Bd R.l)), (115, i64 (i : Int))], [⟨n4, Bd (List.replicate 8 0), 252, 8⟩, ⟨n2, Bd (addUp st R.l i), 252, (Bd st).length⟩]⟩) (fun i => i ≤ 8) (fun i => 8 - i) (0) ?_ ?_ ?_
   · omega
   · exact Ar (wk1 rfl (wk1 rfl (wk1 rfl (wk1 rfl wk0)))) (wh1 Z2 (wh1 Z3 wh0)) nD
   ·
    rintro i hi
    have hli := addUp_length st R.l i
    have hRl := W8.l_length R
    refine Sat.seq (Sat.region ?_)
    refine Tr.lss rfl rfl rfl rfl rfl ?_
    refine Tr.nil (Aa (Sat.seq ?_))
    refine Sat.condP rfl (fun hc1 => ?_) (fun hc1 => ?_)
    ·
     refine Sat.skip (Aa (Sat.seq (Sat.block (Sat.seq (Sat.region ?_)))))
     refine Tr.m rfl rfl rfl ?_
     refine Tr.idxA1 rfl rfl rfl rfl Y252 B1 Y48 rfl _ rfl oM (by exact Az oM) ?_
     refine Tr.a rfl rfl rfl ?_
     refine Tr.a rfl rfl rfl ?_
     refine Tr.nil (Aa (Sat.region ?_))
     refine Tr.m rfl rfl rfl ?_
     refine Tr.i1 rfl rfl rfl rfl Y252 B1 _ rfl oM ?_
     refine Tr.load1 rfl rfl rfl Y48 rfl Z1 (by exact Az oM) ?_
     refine Tr.m rfl rfl rfl ?_
     refine Tr.add_u64 rfl rfl rfl rfl ?_
     refine Tr.i1 rfl rfl rfl rfl Y252 B1 _ rfl oM ?_
     refine Tr.s1 rfl rfl rfl rfl rfl B1 Z1 (by (simp [hst, addUp_length]; omega)) (by exact set_words _ _ _) zV ?_
     refine Tr.nil (B2 (Aa (Sat.region ?_)))
     refine Tr.aI rfl rfl rfl rfl oM ?_
     refine Tr.m rfl rfl rfl ?_
     refine Tr.nil (Aa ?_)
     exact ⟨i + 1, by omega, by omega, Ar (wk1 rfl (wk1 rfl (wk1 rfl (wk1 rfl wk0)))) (wh1 Z0 (wh1 Z1 wh0)) nD⟩
    ·
     obtain rfl : i = 8 := by omega
     refine Sat.exit (Bf (Bf (bl_h (Aa (Sat.seq (Sat.region ?_))))))
     refine Tr.lA rfl rfl rfl Y252 rfl Sz252 Z1 (by (simp [hst, addUp_length]; done)) ?_
     refine Tr.sA rfl rfl rfl rfl zB Sz252 (by (simp [hst, addUp_length]; done)) Z0 sP zU ?_
     refine Tr.nil (Aa (Sat.ret (Am ?_)))
     refine ⟨_, [], res_cell rfl rfl Y252 rfl Sz252 Z0 (by simp [hst, addUp_length]), sP, sP, ?_, rfl⟩
     rfl

theorem sha_sum (st : List UInt64) (hst : st.length = 8) (s : List UInt8) (hs : Hid (sumUp st 64 = s)) : Meets Tryz.prog 235 [agg (Bd st)] [] (fun _ => True) (fun v out => v = agg (Ab s) ∧ out = []) := by
 intro W hW
 have hs64 : s.length = 64 := by rw [← hs.out]; exact sumUp_length st 64
 refine An Tryz.func235 rfl 22 Tryz.ntmps235 rfl ?_
 refine Sat.seq (Sat.region ?_)
 refine Tr.boxA rfl rfl ?_
 intro n1 hn1 hf1
 refine Tr.alloc (cs := (Ab (List.replicate 64 0))) rfl Zr76 rfl ?_
 intro n2 hn2 hf2
 refine Tr.nil (Aa (Sat.seq (Sat.region ?_)))
 refine Tr.alloc (cs := (Ab (List.replicate 64 0))) rfl Zr76 rfl ?_
 intro n3 hn3 hf3
 refine Tr.nil (Aa (Sat.seq (Sat.seq (Sat.region ?_))))
 refine Tr.m rfl rfl rfl ?_
 refine Tr.nil (Aa (Sat.block ?_))
 refine Sat.loop (ι := Nat) (fun k => ⟨[(1, ptr n1 0), (2, ptr n2 0), (3, ptr n3 0), (5, i64 (k : Int))], [⟨n3, Ab (sumUp st k), 76, 64⟩, ⟨n2, Ab (List.replicate 64 0), 76, 64⟩, ⟨n1, Bd st, 252, (Bd st).length⟩]⟩) (fun k => k ≤ 64) (fun k => 64 - k) (0) ?_ ?_ ?_
 · omega
 · exact Ar (wk1 rfl (wk1 rfl (wk1 rfl (wk1 rfl wk0)))) (wh1 Z0 (wh1 Z1 (wh1 Z2 wh0))) nD
 ·
  rintro k hi
  have hlk := sumUp_length st k
  refine Sat.seq (Sat.region ?_)
  refine Tr.lss rfl rfl rfl rfl rfl ?_
  refine Tr.nil (Aa (Sat.seq ?_))
  refine Sat.condP rfl (fun hc0 => ?_) (fun hc0 => ?_)
  ·
   refine Sat.skip (Aa (Sat.seq (Sat.block (Sat.seq (Sat.region ?_)))))
   refine Tr.m rfl rfl rfl ?_
   refine Tr.a rfl rfl rfl ?_
   refine Tr.nil (Aa (Sat.region ?_))
   refine Tr.m rfl rfl rfl ?_
   refine Tr.m rfl rfl rfl ?_
   refine Tr.quo_i64 rfl rfl rfl rfl oM ?_
   refine Tr.i1 rfl rfl rfl rfl Y252 B1 (k / 8) oM oM ?_
   refine Tr.load1 rfl rfl rfl Y48 rfl Z2 (by exact Az oM) ?_
   refine Tr.m rfl rfl rfl ?_
   refine Tr.rem_i64 rfl rfl rfl rfl oM ?_
   refine Tr.mul_i64 rfl rfl rfl rfl oM ?_
   refine Tr.sub_i64 rfl rfl rfl rfl oM ?_
   refine Tr.shr_u64 rfl rfl rfl rfl (56 - 8 * (k % 8)) oM oM ?_
   refine Tr.conv rfl rfl rfl Y48 Y5 (cv_u64_u8 _) ?_
   refine Tr.i1 rfl rfl rfl rfl Tryz.underlying76 Sz5 _ rfl oM ?_
   refine Tr.s1 rfl rfl rfl rfl rfl Sz5 Z0 (by (simp [sumUp_length]; omega)) (by exact set_bytes _ _ _) zU ?_
   refine Tr.nil (B2 (Aa (Sat.region ?_)))
   refine Tr.aI rfl rfl rfl rfl oM ?_
   refine Tr.m rfl rfl rfl ?_
   refine Tr.nil (Aa ?_)
   exact ⟨k + 1, by omega, by omega, Ar (wk1 rfl (wk1 rfl (wk1 rfl (wk1 rfl wk0)))) (wh1 Z0 (wh1 Z1 (wh1 Z2 wh0))) nD⟩
  ·
   obtain rfl : k = 64 := by omega
   rw [hs.out]
   clear hlk
   refine Sat.exit (Bf (Bf (bl_h (Aa (Sat.seq (Sat.region ?_))))))
   refine Tr.lA rfl rfl rfl Tryz.underlying76 rfl Sz76 Z0 (by (simp [hs64]; done)) ?_
   refine Tr.sA rfl rfl rfl rfl zE Sz76 (by (simp [hs64]; done)) Z1 sP zV ?_
   refine Tr.nil (Aa (Sat.ret (Am ?_)))
   refine ⟨_, [], res_cell rfl rfl Tryz.underlying76 rfl Sz76 Z1 (by simp [hs64]), sP, sP, ?_, rfl⟩
   rfl

end Go.Proofs.YtdifpjmfabhpiaaGreat
end

section
namespace Go.Proofs.YtdifpjmfabhpiaaGreat
open Go Hw

theorem and_low {x : UInt64} (h : x.toNat < 4294967296) : x &&& 4294967295 = x := by
  apply UInt64.toNat_inj.1
  rw [UInt64.toNat_and]
  show x.toNat &&& (2 ^ 32 - 1) = x.toNat
  rw [Nat.and_two_pow_sub_one_eq_mod, Nat.mod_eq_of_lt oM]
theorem shr_small {x : UInt64} {n : Nat} (h : x.toNat < 2 ^ n) : shr64 x n = 0 := by
  apply UInt64.toNat_inj.1
  rw [shr64_nat, Nat.div_eq_of_lt h]; rfl
theorem mul8_nat {x : UInt64} (h : x.toNat < 536870912) : (x * 8).toNat = x.toNat * 8 := by
  rw [UInt64.toNat_mul]; show x.toNat * 8 % 18446744073709551616 = _; omega

theorem bits_mul8 (x : UInt64) (hx : x.toNat < 536870912) : Meets Tryz.prog 251 [u64 x, u64 8] [] (fun _ => True) (fun v out => v = .tuple #[u64 0, u64 (x * 8)] ∧ out = []) := by
 intro W hW
 have h1 := and_low (x := x) oM
 have h2 := shr_small (x := x) (n := 32) oM
 have h3 := mul8_nat hx
 have h4 := shr_small (x := x * 8) (n := 32) oM
 refine An Tryz.func251 rfl 51 Tryz.ntmps251 rfl ?_
 refine Sat.seq (Sat.region ?_)
 refine Tr.a rfl rfl (show Aj _ _ = some (u64 0) from rfl) ?_
 refine Tr.a rfl rfl (show Aj _ _ = some (u64 0) from rfl) ?_
 refine Tr.nil (Aa (Sat.seq (Sat.region ?_)))
 refine Tr.m rfl rfl rfl ?_
 refine Tr.and_u64 rfl rfl rfl (show Aj _ _ = some (u64 4294967295) from rfl) ?_
 refine Tr.a rfl rfl rfl ?_
 refine Tr.nil (Aa (Sat.seq (Sat.region ?_)))
 refine Tr.m rfl rfl rfl ?_
 refine Tr.shr_u64 rfl rfl rfl rfl 32 oM oM ?_
 refine Tr.a rfl rfl rfl ?_
 refine Tr.nil (Aa (Sat.seq (Sat.region ?_)))
 refine Tr.m rfl rfl rfl ?_
 refine Tr.and_u64 rfl rfl rfl (show Aj _ _ = some (u64 4294967295) from rfl) ?_
 refine Tr.a rfl rfl rfl ?_
 refine Tr.nil (Aa (Sat.seq (Sat.region ?_)))
 refine Tr.m rfl rfl rfl ?_
 refine Tr.shr_u64 rfl rfl (show Aj _ _ = some (u64 8) from rfl) rfl 32 oM oM ?_
 refine Tr.a rfl rfl rfl ?_
 refine Tr.nil (Aa (Sat.seq (Sat.region ?_)))
 refine Tr.m rfl rfl rfl ?_
 refine Tr.m rfl rfl rfl ?_
 refine Tr.mul_u64 rfl rfl rfl rfl ?_
 refine Tr.a rfl rfl rfl ?_
 refine Tr.nil (Aa (Sat.seq (Sat.region ?_)))
 refine Tr.m rfl rfl rfl ?_
 refine Tr.m rfl rfl rfl ?_
 refine Tr.mul_u64 rfl rfl rfl rfl ?_
 refine Tr.m rfl rfl rfl ?_
 refine Tr.shr_u64 rfl rfl rfl rfl 32 rfl dE ?_
 refine Tr.add_u64 rfl rfl rfl rfl ?_
 refine Tr.a rfl rfl rfl ?_
 refine Tr.nil (Aa (Sat.seq (Sat.region ?_)))
 refine Tr.m rfl rfl rfl ?_
 refine Tr.and_u64 rfl rfl rfl (show Aj _ _ = some (u64 4294967295) from rfl) ?_
 refine Tr.a rfl rfl rfl ?_
 refine Tr.nil (Aa (Sat.seq (Sat.region ?_)))
 refine Tr.m rfl rfl rfl ?_
 refine Tr.shr_u64 rfl rfl rfl rfl 32 rfl dE ?_
 refine Tr.a rfl rfl rfl ?_
 refine Tr.nil (Aa (Sat.seq (Sat.region ?_)))
 refine Tr.m rfl rfl rfl ?_
 refine Tr.m rfl rfl rfl ?_
 refine Tr.m rfl rfl rfl ?_
 refine Tr.mul_u64 rfl rfl rfl rfl ?_
 refine Tr.add_u64 rfl rfl rfl rfl ?_
 refine Tr.a rfl rfl rfl ?_
 refine Tr.nil (Aa (Sat.seq (Sat.region ?_)))
 refine Tr.m rfl rfl rfl ?_
 refine Tr.m rfl rfl rfl ?_
 refine Tr.mul_u64 rfl rfl rfl rfl ?_
 refine Tr.m rfl rfl rfl ?_
 refine Tr.add_u64 rfl rfl rfl rfl ?_
 refine Tr.m rfl rfl rfl ?_
 refine Tr.shr_u64 rfl rfl rfl rfl 32 rfl dE ?_
 refine Tr.add_u64 rfl rfl rfl rfl ?_
 refine Tr.a rfl rfl rfl ?_
 refine Tr.nil (Aa (Sat.seq (Sat.region ?_)))
 refine Tr.m rfl rfl rfl ?_
 refine Tr.m rfl rfl rfl ?_
 refine Tr.mul_u64 rfl rfl rfl rfl ?_
 refine Tr.a rfl rfl rfl ?_
 refine Tr.nil (Aa (Sat.ret (Am ?_)))
 refine ⟨_, [], Ba rfl rfl rfl, sP, sP, ?_, rfl⟩
 simp only [h1, h2, show shr64 8 32 = 0 from rfl, show (8 : UInt64) &&& 4294967295 = 8 from rfl]
 rw [h4, UInt64.mul_zero (a := x)]
 rfl

theorem bytesV_app (a b : List UInt8) : Ab (a ++ b) = Ab a ++ Ab b := List.map_append
theorem sl_get {ss : List Sl} {j : Nat} (h : j < ss.length) : (ss.map Sl.v)[j]? = some (ss.getD j Sl.nil).v := by simp [List.getElem?_eq_getElem h, List.getD]
theorem take_flat {ls : List (List UInt8)} {j : Nat} (h : j < ls.length) : (ls.take (j + 1)).flatten = (ls.take j).flatten ++ ls.getD j [] := by
  rw [List.take_succ_eq_append_getElem h, List.flatten_append]
  simp [List.getD, h]
theorem take_flat_le (ls : List (List UInt8)) (j : Nat) : (ls.take j).flatten.length ≤ ls.flatten.length := by
  have : ls.flatten = (ls.take j).flatten ++ (ls.drop j).flatten := by rw [← List.flatten_append, List.take_append_drop]
  rw [this, List.length_append]; omega

theorem sha_padded (p : Option Addr) (n c : Nat) (ss : List Sl) (ls : List (List UInt8)) (hss : ss.length = n) (hls : ls.length = n) (hsl : ∀ j, j < n → (ss.getD j Sl.nil).n = (ls.getD j []).length ∧ ((ss.getD j Sl.nil).p = none → (ss.getD j Sl.nil).n = 0)) (F : List UInt8) (hF : ls.flatten = F) (htot : F.length ≤ 90000) (hn : n ≤ 1000000) : Meets Tryz.prog 244 [.slice p n c] [] (fun W => SeesP W p (ss.map Sl.v) ∧ ∀ j, j < n → SeesP W (ss.getD j Sl.nil).p (Ab (ls.getD j []))) (fun v out => ∃ s, v = s.v ∧ Acc s out (Ab (padB F)) 5 (padB F).length 1) := by
 intro W hW
 have hz := padZ_lt F.length
 have hle := take_flat_le ls
 rw [hF] at hle
 refine An Tryz.func244 rfl 76 Tryz.ntmps244 rfl ?_
 refine Sat.seq (Sat.region ?_)
 refine Tr.a rfl rfl rfl ?_
 refine Tr.nil (Aa (Sat.seq (Sat.region ?_)))
 refine Tr.a rfl rfl rfl ?_
 refine Tr.nil (Aa (Sat.seq (Sat.seq (Sat.region ?_))))
 refine Tr.m rfl rfl rfl ?_
 refine Tr.lenSl rfl rfl rfl Tryz.underlying250 ?_
 refine Tr.m rfl rfl rfl ?_
 refine Tr.nil (Aa (Sat.block ?_))
 refine Sat.loop (ι := Nat) (fun k => ⟨[(0, .slice p n c), (3, i64 ((ls.take k).flatten.length : Int)), (14, .slice p n c), (15, i64 (n : Int)), (16, i64 (k : Int))], []⟩) (fun k => k ≤ n) (fun k => n - k) (0) ?_ ?_ ?_
 · omega
 · exact Af (wk1 rfl (wk1 rfl (wk1 rfl (wk1 rfl (wk1 rfl wk0))))) Ad
 ·
  rintro k hi
  refine Sat.seq (Sat.region ?_)
  refine Tr.lss rfl rfl rfl rfl rfl ?_
  refine Tr.nil (Aa (Sat.seq ?_))
  refine Sat.condP rfl (fun hc0 => ?_) (fun hc0 => ?_)
  ·
   have hk3 : k < n := by omega
   obtain ⟨b, o, hbp, hbs⟩ := hW.1.at (by rw [List.length_map]; omega)
   have hv : W.cell? ⟨b, o + k * 1, none⟩ = some (ss.getD k Sl.nil).v := by rw [Nat.mul_one]; exact hbs k _ (sl_get oM)
   have hstep := hle (k + 1)
   rw [take_flat oM, List.length_append, ← (hsl k oM).1] at hstep
   refine Sat.skip (Aa (Sat.seq (Sat.block (Sat.seq (Sat.region ?_)))))
   refine Tr.idxSlP 1 rfl rfl rfl hbp rfl Tryz.underlying250 Sz58 k rfl oM ?_
   refine Tr.loadE rfl rfl rfl Y58 rfl sP (hv) ?_
   refine Tr.a rfl rfl rfl ?_
   refine Tr.nil (Aa (Sat.region ?_))
   refine Tr.m rfl rfl rfl ?_
   refine Tr.m rfl rfl rfl ?_
   refine Tr.lenSl rfl rfl rfl Y58 ?_
   refine Tr.aI rfl rfl rfl rfl oM ?_
   refine Tr.a rfl rfl rfl ?_
   refine Tr.nil (B2 (Aa (Sat.region ?_)))
   refine Tr.aI rfl rfl rfl rfl oM ?_
   refine Tr.m rfl rfl rfl ?_
   refine Tr.nil (Aa ?_)
   exact ⟨k + 1, by omega, by omega, Af (wk1 rfl (wk1 (congrArg (fun z => some (i64 z)) (by rw [take_flat oM, List.length_append, (hsl k oM).1]; simp)) (wk1 rfl (wk1 rfl (wk1 rfl wk0))))) Ad⟩
  ·
   have hk3 : k = n := by omega
   rw [hk3, List.take_of_length_le oM, hF]
   refine Sat.exit (Bf (Bf (bl_h (Aa (Sat.seq (Sat.region ?_))))))
   refine Tr.m rfl rfl rfl ?_
   refine Tr.aI rfl rfl rfl rfl oM ?_
   refine Tr.quo_i64 rfl rfl rfl rfl oM ?_
   refine Tr.mul_i64 rfl rfl rfl rfl oM ?_
   refine Tr.aI rfl rfl rfl rfl oM ?_
   refine Tr.mkRoom (z := u8 0) (by' := 1) ((F.length + 16) / 128 * 128 + 128) rfl rfl rfl rfl oM Y58 Sz5 Zr5 (by unfold By; kernel_rfl) rfl oM oM ?_
   intro q30
   refine Tr.a rfl rfl rfl ?_
   refine Tr.nil (Aa (Sat.seq (Sat.seq (Sat.region ?_))))
   refine Tr.m rfl rfl rfl ?_
   refine Tr.lenSl rfl rfl rfl Tryz.underlying250 ?_
   refine Tr.m rfl rfl rfl ?_
   refine Tr.nil (Aa (Sat.block ?_))
   refine Sat.loop (ι := Nat × Sl × List Blk) (fun x => ⟨[(3, i64 (F.length : Int)), (6, x.2.1.v), (31, .slice p n c), (32, i64 (n : Int)), (33, i64 (x.1 : Int))], (x.2.2 ++ [])⟩) (fun x => x.1 ≤ n ∧ Acc x.2.1 x.2.2 (Ab (ls.take x.1).flatten) 5 (ls.take x.1).flatten.length 1) (fun x => n - x.1) ((0, ⟨some ⟨q30, 0, none⟩, 0, (F.length + 16) / 128 * 128 + 128⟩, [⟨q30, [], 5, ((F.length + 16) / 128 * 128 + 128) * 1⟩])) ?_ ?_ ?_
   · exact ⟨Nat.zero_le _, Acc.some (Nat.zero_le _) rfl⟩
   · exact Af (wk1 rfl (wk1 rfl (wk1 rfl (wk1 rfl (wk1 rfl wk0))))) (pm_consE rM rfl (Nat.mul_one _).symm Ad)
   ·
    rintro x ⟨hx, hax⟩
    refine Sat.seq (Sat.region ?_)
    refine Tr.lss rfl rfl rfl rfl rfl ?_
    refine Tr.nil (Aa (Sat.seq ?_))
    refine Sat.condP rfl (fun hc1 => ?_) (fun hc1 => ?_)
    ·
     have hx3 : x.1 < n := by omega
     obtain ⟨b, o, hbp, hbs⟩ := hW.1.at (by rw [List.length_map]; omega)
     have hv : W.cell? ⟨b, o + x.1 * 1, none⟩ = some (ss.getD x.1 Sl.nil).v := by rw [Nat.mul_one]; exact hbs x.1 _ (sl_get oM)
     have hstep := hle (x.1 + 1)
     rw [take_flat oM, List.length_append, ← (hsl x.1 oM).1] at hstep
     refine Sat.skip (Aa (Sat.seq (Sat.block (Sat.seq (Sat.region ?_)))))
     refine Tr.idxSlP 1 rfl rfl rfl hbp rfl Tryz.underlying250 Sz58 x.1 rfl oM ?_
     refine Tr.loadE rfl rfl rfl Y58 rfl sP (hv) ?_
     refine Tr.a rfl rfl rfl ?_
     refine Tr.nil (Aa (Sat.region ?_))
     refine Tr.m rfl rfl rfl ?_
     refine Tr.m rfl rfl rfl ?_
     refine Tr.appendAcc (z := u8 0) (by' := 1) (Ab (ls.getD x.1 [])) rfl rfl rfl rfl rfl Y58 Y58 Sz5 Zr5 (by unfold By; kernel_rfl) rfl hax sG (fun w h => Aw h rfl (hW.2 x.1 oM)) (hsl x.1 oM).2 (Bc _) oM oM (by rw [Ab, List.length_map, Nat.mul_one]; exact (hsl x.1 oM).1.symm) ?_
     intro s39 bl39 hac39
     refine Tr.a rfl rfl rfl ?_
     refine Tr.nil (B2 (Aa (Sat.region ?_)))
     refine Tr.aI rfl rfl rfl rfl oM ?_
     refine Tr.m rfl rfl rfl ?_
     refine Tr.nil (Aa ?_)
     refine ⟨(x.1 + 1, s39, bl39), ⟨by simp only []; omega, ?_⟩, by simp only []; omega, Af (wk1 rfl (wk1 rfl (wk1 rfl (wk1 rfl (wk1 rfl wk0))))) (Ah sG Ad)⟩
     rw [take_flat oM, List.length_append, ← (hsl x.1 oM).1]
     simpa [Ab] using hac39
    ·
     have hx3 : x.1 = n := by omega
     rw [hx3, List.take_of_length_le oM, hF] at hax
     refine Sat.exit (Bf (Bf (bl_h (Aa (Sat.seq (Sat.region ?_))))))
     refine Tr.m rfl rfl rfl ?_
     refine Tr.mkRow (z := u8 0) [u8 (128)] (Ab [128]) rfl rfl rfl Y58 Sz5 Zr5 rfl rfl (by intro v hv; rw [List.mem_singleton.1 hv]; rfl) dE rfl ?_
     intro q42
     refine Tr.appendAcc (z := u8 0) (by' := 1) (Ab [128]) rfl rfl rfl rfl rfl Y58 Y58 Sz5 Zr5 (by unfold By; kernel_rfl) rfl hax sG (fun w h => SeesP.of (Ap h Z0)) (fun e => by cases e) (Bc _) oM oM (by rfl) ?_
     intro s43 bl43 hac43
     refine Tr.a rfl rfl rfl ?_
     refine Tr.nil (Aa (Sat.seq (Sat.block ?_)))
     refine Sat.loop (ι := Nat × Sl × List Blk) (fun z => ⟨[(3, i64 (F.length : Int)), (6, z.2.1.v)], (z.2.2 ++ [])⟩) (fun z => z.1 ≤ padZ F.length ∧ Acc z.2.1 z.2.2 (Ab (F ++ [128] ++ List.replicate z.1 0)) 5 (F.length + 1 + z.1) 1) (fun z => padZ F.length - z.1) ((0, s43, bl43)) ?_ ?_ ?_
     · exact ⟨Nat.zero_le _, by simpa [Ab] using hac43⟩
     · exact Af (wk1 rfl (wk1 rfl wk0)) (Ah sG Ad)
     ·
      rintro z ⟨hz1, haz⟩
      have hzn := haz.num
      have hpz := padZ_at F.length z.1 hz1
      refine Sat.seq (Sat.seq (Sat.region ?_))
      refine Tr.m rfl rfl rfl ?_
      refine Tr.lenSl rfl rfl rfl Y58 ?_
      refine Tr.rem_i64 rfl rfl rfl rfl oM ?_
      refine Tr.nei rfl rfl rfl rfl rfl ?_
      refine Tr.nil (Aa ?_)
      refine Sat.condNP rfl (fun hc2 => ?_) (fun hc2 => ?_)
      ·
       have hz3 : z.1 < padZ F.length := by omega
       refine Sat.skip (Aa (Sat.block (Sat.region ?_)))
       refine Tr.m rfl rfl rfl ?_
       refine Tr.mkRow (z := u8 0) [u8 (0)] (Ab [0]) rfl rfl rfl Y58 Sz5 Zr5 rfl rfl (by intro v hv; rw [List.mem_singleton.1 hv]; rfl) dE rfl ?_
       intro q49
       refine Tr.appendAcc (z := u8 0) (by' := 1) (Ab [0]) rfl rfl rfl rfl rfl Y58 Y58 Sz5 Zr5 (by unfold By; kernel_rfl) rfl haz sG (fun w h => SeesP.of (Ap h Z0)) (fun e => by cases e) (Bc _) oM oM (by rfl) ?_
       intro s50 bl50 hac50
       refine Tr.a rfl rfl rfl ?_
       refine Tr.nil (B2 (Aa ?_))
       refine ⟨(z.1 + 1, s50, bl50), ⟨by simp only []; omega, ?_⟩, by simp only []; omega, Af (wk1 rfl (wk1 rfl wk0)) (Ah sG Ad)⟩
       rw [List.replicate_succ', ← List.append_assoc]
       simpa [Ab, Nat.add_assoc] using hac50
      ·
       have hz3 : z.1 = padZ F.length := by omega
       rw [hz3] at haz
       refine Sat.exit (Bf (Bf (bl_h (Aa (Sat.seq (Sat.region ?_))))))
       refine Tr.m rfl rfl rfl ?_
       refine Tr.conv rfl rfl rfl Y3 Y48 (Bh _) ?_
       rw [word_nat (n := F.length) oM]
       refine Tr.cV rfl rfl rfl rfl Body251 (bits_mul8 (UInt64.ofNat F.length) (by rw [A1 oM]; omega)) tV ?_
       refine Tr.m rfl rfl rfl ?_
       refine Tr.eX rfl rfl rfl rfl ?_
       refine Tr.eX rfl rfl rfl rfl ?_
       refine Tr.a rfl rfl rfl ?_
       refine Tr.a rfl rfl rfl ?_
       refine Tr.nil (Aa (Sat.seq (Sat.seq (Sat.region ?_))))
       refine Tr.m rfl rfl rfl ?_
       refine Tr.m rfl rfl rfl ?_
       refine Tr.build (cs := [u64 0, u64 (UInt64.ofNat F.length * 8)]) rfl rfl rfl (fun w => by kernel_rfl) ?_
       refine Tr.m rfl rfl rfl ?_
       refine Tr.nil (Aa (Sat.block ?_))
       refine Sat.rounds 3 (SRounds.more ?_)
       refine Sat.seq (Sat.region ?_)
       refine Tr.lss rfl rfl rfl rfl rfl ?_
       refine Tr.nil (Aa (Sat.seq ?_))
       refine Sat.cond_t rfl (rfl) ?_
       refine Sat.skip (Aa (Sat.seq (Sat.block (Sat.seq (Sat.region ?_)))))
       refine Tr.idxA1 rfl rfl rfl rfl Tryz.underlying266 B1 Y48 rfl 0 rfl oM rfl ?_
       refine Tr.a rfl rfl rfl ?_
       refine Tr.nil (Aa (Sat.seq (Sat.region ?_)))
       refine Tr.a rfl rfl rfl ?_
       refine Tr.nil (Aa (Sat.block ?_))
       refine Sat.loop (ι := Nat × Sl × List Blk) (fun y => ⟨[(3, i64 (F.length : Int)), (6, y.2.1.v), (12, u64 (0)), (13, i64 (56 - 8 * (y.1 : Int))), (59, agg [u64 0, u64 (UInt64.ofNat F.length * 8)]), (60, i64 0)], (y.2.2 ++ [])⟩) (fun y => y.1 ≤ 8 ∧ Acc y.2.1 y.2.2 (Ab (F ++ [128] ++ List.replicate (padZ F.length) 0 ++ beUp (0) y.1)) 5 ((F.length + 1 + padZ F.length) + y.1) 1) (fun y => 8 - y.1) ((0, z.2.1, z.2.2)) ?_ ?_ ?_
       · exact ⟨Nat.zero_le _, by simpa [beUp] using haz⟩
       · exact Af (wk1 rfl (wk1 rfl (wk1 rfl (wk1 rfl (wk1 rfl (wk1 rfl wk0)))))) (Ah sG Ad)
       ·
        rintro y ⟨hy, hay⟩
        refine Sat.seq (Sat.seq (Sat.region ?_))
        refine Tr.m rfl rfl rfl ?_
        refine Tr.geq rfl rfl rfl rfl rfl ?_
        refine Tr.nil (Aa ?_)
        refine Sat.condP rfl (fun hc4 => ?_) (fun hc4 => ?_)
        ·
         have hy3 : y.1 ≤ 7 := by omega
         refine Sat.skip (Aa (Sat.seq (Sat.block (Sat.region ?_))))
         refine Tr.m rfl rfl rfl ?_
         refine Tr.m rfl rfl rfl ?_
         refine Tr.m rfl rfl rfl ?_
         refine Tr.shr_u64 rfl rfl rfl rfl (56 - 8 * y.1) oM oM ?_
         refine Tr.conv rfl rfl rfl Y48 Y5 (cv_u64_u8 _) ?_
         refine Tr.mkRow (z := u8 0) [u8 ((shr64 0 (56 - 8 * y.1)).toUInt8)] (Ab [(shr64 0 (56 - 8 * y.1)).toUInt8]) rfl rfl rfl Y58 Sz5 Zr5 rfl rfl (by intro v hv; rw [List.mem_singleton.1 hv]; rfl) dE rfl ?_
         intro q72
         refine Tr.appendAcc (z := u8 0) (by' := 1) (Ab [(shr64 0 (56 - 8 * y.1)).toUInt8]) rfl rfl rfl rfl rfl Y58 Y58 Sz5 Zr5 (by unfold By; kernel_rfl) rfl hay sG (fun w h => SeesP.of (Ap h Z0)) (fun e => by cases e) (Bc _) oM oM (by rfl) ?_
         intro s73 bl73 hac73
         refine Tr.a rfl rfl rfl ?_
         refine Tr.nil (B2 (Aa (Sat.region ?_)))
         refine Tr.m rfl rfl rfl ?_
         refine Tr.sub_i64 rfl rfl rfl rfl oM ?_
         refine Tr.a rfl rfl rfl ?_
         refine Tr.nil (Aa ?_)
         refine ⟨(y.1 + 1, s73, bl73), ⟨by simp only []; omega, ?_⟩, by simp only []; omega, Af (wk1 rfl (wk1 rfl (wk1 rfl (wk1 (congrArg (fun z => some (i64 z)) oM) (wk1 rfl (wk1 rfl wk0)))))) (Ah sG Ad)⟩
         rw [show beUp (0) (y.1 + 1) = beUp (0) y.1 ++ [(shr64 (0) (56 - 8 * y.1)).toUInt8] from rfl, ← List.append_assoc, bytesV_app]
         exact hac73
        ·
         have hy3 : y.1 = 8 := by omega
         rw [hy3] at hay
         refine Sat.exit (Bf (Bf (bl_h (B2 (Aa (Sat.region ?_))))))
         refine Tr.aI rfl rfl rfl rfl oM ?_
         refine Tr.m rfl rfl rfl ?_
         refine Tr.nil ?_
         refine Aa (SRounds.more (Sat.seq (Sat.region ?_)))
         refine Tr.lss rfl rfl rfl rfl rfl ?_
         refine Tr.nil (Aa (Sat.seq ?_))
         refine Sat.cond_t rfl (rfl) ?_
         refine Sat.skip (Aa (Sat.seq (Sat.block (Sat.seq (Sat.region ?_)))))
         refine Tr.idxA1 rfl rfl rfl rfl Tryz.underlying266 B1 Y48 rfl 1 rfl oM rfl ?_
         refine Tr.a rfl rfl rfl ?_
         refine Tr.nil (Aa (Sat.seq (Sat.region ?_)))
         refine Tr.a rfl rfl rfl ?_
         refine Tr.nil (Aa (Sat.block ?_))
         refine Sat.loop (ι := Nat × Sl × List Blk) (fun y => ⟨[(3, i64 (F.length : Int)), (6, y.2.1.v), (12, u64 (UInt64.ofNat F.length * 8)), (13, i64 (56 - 8 * (y.1 : Int))), (59, agg [u64 0, u64 (UInt64.ofNat F.length * 8)]), (60, i64 (0 + 1))], (y.2.2 ++ [])⟩) (fun y => y.1 ≤ 8 ∧ Acc y.2.1 y.2.2 (Ab (F ++ [128] ++ List.replicate (padZ F.length) 0 ++ beUp 0 8 ++ beUp (UInt64.ofNat F.length * 8) y.1)) 5 ((F.length + 1 + padZ F.length + 8) + y.1) 1) (fun y => 8 - y.1) ((0, y.2.1, y.2.2)) ?_ ?_ ?_
         · exact ⟨Nat.zero_le _, by simpa [beUp] using hay⟩
         · exact Af (wk1 rfl (wk1 rfl (wk1 rfl (wk1 rfl (wk1 rfl (wk1 rfl wk0)))))) (Ah sG Ad)
         ·
          rintro y ⟨hy, hay⟩
          refine Sat.seq (Sat.seq (Sat.region ?_))
          refine Tr.m rfl rfl rfl ?_
          refine Tr.geq rfl rfl rfl rfl rfl ?_
          refine Tr.nil (Aa ?_)
          refine Sat.condP rfl (fun hc4 => ?_) (fun hc4 => ?_)
          ·
           have hy3 : y.1 ≤ 7 := by omega
           refine Sat.skip (Aa (Sat.seq (Sat.block (Sat.region ?_))))
           refine Tr.m rfl rfl rfl ?_
           refine Tr.m rfl rfl rfl ?_
           refine Tr.m rfl rfl rfl ?_
           refine Tr.shr_u64 rfl rfl rfl rfl (56 - 8 * y.1) oM oM ?_
           refine Tr.conv rfl rfl rfl Y48 Y5 (cv_u64_u8 _) ?_
           refine Tr.mkRow (z := u8 0) [u8 ((shr64 (UInt64.ofNat F.length * 8) (56 - 8 * y.1)).toUInt8)] (Ab [(shr64 (UInt64.ofNat F.length * 8) (56 - 8 * y.1)).toUInt8]) rfl rfl rfl Y58 Sz5 Zr5 rfl rfl (by intro v hv; rw [List.mem_singleton.1 hv]; rfl) dE rfl ?_
           intro q72
           refine Tr.appendAcc (z := u8 0) (by' := 1) (Ab [(shr64 (UInt64.ofNat F.length * 8) (56 - 8 * y.1)).toUInt8]) rfl rfl rfl rfl rfl Y58 Y58 Sz5 Zr5 (by unfold By; kernel_rfl) rfl hay sG (fun w h => SeesP.of (Ap h Z0)) (fun e => by cases e) (Bc _) oM oM (by rfl) ?_
           intro s73 bl73 hac73
           refine Tr.a rfl rfl rfl ?_
           refine Tr.nil (B2 (Aa (Sat.region ?_)))
           refine Tr.m rfl rfl rfl ?_
           refine Tr.sub_i64 rfl rfl rfl rfl oM ?_
           refine Tr.a rfl rfl rfl ?_
           refine Tr.nil (Aa ?_)
           refine ⟨(y.1 + 1, s73, bl73), ⟨by simp only []; omega, ?_⟩, by simp only []; omega, Af (wk1 rfl (wk1 rfl (wk1 rfl (wk1 (congrArg (fun z => some (i64 z)) oM) (wk1 rfl (wk1 rfl wk0)))))) (Ah sG Ad)⟩
           rw [show beUp (UInt64.ofNat F.length * 8) (y.1 + 1) = beUp (UInt64.ofNat F.length * 8) y.1 ++ [(shr64 (UInt64.ofNat F.length * 8) (56 - 8 * y.1)).toUInt8] from rfl, ← List.append_assoc, bytesV_app]
           exact hac73
          ·
           have hy3 : y.1 = 8 := by omega
           rw [hy3] at hay
           refine Sat.exit (Bf (Bf (bl_h (B2 (Aa (Sat.region ?_))))))
           refine Tr.aI rfl rfl rfl rfl oM ?_
           refine Tr.m rfl rfl rfl ?_
           refine Tr.nil ?_
           refine Aa (SRounds.more (Sat.seq (Sat.region ?_)))
           refine Tr.lss rfl rfl rfl rfl rfl ?_
           refine Tr.nil (Aa (Sat.seq ?_))
           refine Sat.cond_f rfl (rfl) ?_
           refine Sat.exit (Bf (Bf (bl_h (Aa (Sat.seq (Sat.region ?_))))))
           refine Tr.m rfl rfl rfl ?_
           refine Tr.a rfl rfl rfl ?_
           refine Tr.nil (Aa (Sat.ret (Am ?_)))
           refine Ak (out := (y.2.2 ++ [])) (Ae rfl rfl) (Ah sG Ad) ?_
           refine ⟨y.2.1, rfl, ?_⟩
           have e8 : UInt64.ofNat F.length * 8 = UInt64.ofNat (8 * F.length) := by
            apply UInt64.toNat_inj.1
            rw [mul8_nat (by rw [A1 oM]; omega), A1 oM, A1 oM]; omega
           rw [e8] at hay
           rw [padB_length, padB]
           simpa [Nat.add_assoc, Nat.add_comm, Nat.add_left_comm] using hay

end Go.Proofs.YtdifpjmfabhpiaaGreat
end

section
namespace Go.Proofs.YtdifpjmfabhpiaaGreat
open Go Hw

theorem mk_chunk (p : Option Addr) (n c : Nat) : Meets Tryz.prog 243 [.slice p n c, i64 128] [] (fun _ => True) (fun v out => ∃ b1 b2, v = .func (.func 250) #[] #[ptr b1 0, ptr b2 0] ∧ out = [⟨b1, [.slice p n c], 58, 1⟩, ⟨b2, [i64 128], 3, 1⟩]) := by
 intro W hW
 refine An Tryz.func243 rfl 9 Tryz.ntmps243 rfl ?_
 refine Sat.seq (Sat.region ?_)
 refine Tr.box1 rfl rfl rfl ?_
 intro n2 hn2 hf2
 refine Tr.box1 rfl rfl rfl ?_
 intro n3 hn3 hf3
 refine Tr.a rfl rfl rfl ?_
 refine Tr.nil (Aa (Sat.seq (Sat.seq (Sat.region ?_))))
 refine Tr.load1 rfl rfl rfl Y3 rfl Z0 (by rfl) ?_
 refine Tr.lss rfl rfl rfl rfl rfl ?_
 refine Tr.nil (Aa ?_)
 refine Sat.cond_f rfl dE ?_
 refine Sat.skip (Aa (Sat.seq (Sat.region ?_)))
 refine Tr.makeFunc rfl rfl rfl rfl ?_
 refine Tr.a rfl rfl rfl ?_
 refine Tr.nil (Aa (Sat.ret (Am ?_)))
 refine Ak (out := (⟨n2, [.slice p n c], 58, 1⟩ :: (⟨n3, [i64 128], 3, 1⟩ :: []))) (Ae rfl rfl) (Ac rM (Ac rM Ad)) ?_
 exact ⟨n2, n3, rfl, by simp⟩

def encC (q i : Nat) : Value := .slice (some ⟨q, 128 * i, none⟩) 128 128
theorem encC_eq (q i : Nat) : (.slice (some ⟨q, if 128 * i + 128 = 128 * i then 0 else 0 + 128 * i * 1, none⟩) (128 * i + 128 - 128 * i) (128 * i + 128 - 128 * i) : Value) = encC q i := by
  have e1 : 128 * i + 128 - 128 * i = 128 := by omega
  have e2 : 0 + 128 * i * 1 = 128 * i := by omega
  rw [if_neg oM, e1, e2]; rfl

theorem chunk_iter (l b1 b2 q n c K : Nat) (X : Nat → List Blk) (names : List Nat) (hnk : n = 128 * K) (hnc : n ≤ c) (hbig : n ≤ 1000000) : Meets Tryz.prog 250 [.func (.yield l) #[] #[], ptr b1 0, ptr b2 0] names (fun W => HRep ⟨Tryz.prog, W, 0, names, [], []⟩ (⟨b1, [.slice (some ⟨q, 0, none⟩) n c], 58, 1⟩ :: ⟨b2, [i64 128], 3, 1⟩ :: X 0) W ∧ ∀ i, i < K → ∀ W2, HRep ⟨Tryz.prog, W, 0, names, [], []⟩ (⟨b1, [.slice (some ⟨q, 0, none⟩) n c], 58, 1⟩ :: ⟨b2, [i64 128], 3, 1⟩ :: X i) W2 → YieldAt Fence.wide 0 Tryz.prog l #[encC q i] W2 fun e W3 => e = .returned (.bool true) ∧ HRep ⟨Tryz.prog, W, 0, names, [], []⟩ (⟨b1, [.slice (some ⟨q, 0, none⟩) n c], 58, 1⟩ :: ⟨b2, [i64 128], 3, 1⟩ :: X (i + 1)) W3) (fun v out => v = .tuple #[] ∧ out = ⟨b1, [.slice (some ⟨q, 0, none⟩) n c], 58, 1⟩ :: ⟨b2, [i64 128], 3, 1⟩ :: X K) := by
 intro W hW
 refine A7 (hp0 := ⟨b1, [.slice (some ⟨q, 0, none⟩) n c], 58, 1⟩ :: ⟨b2, [i64 128], 3, 1⟩ :: X 0) Tryz.func250 rfl 31 Tryz.ntmps250 rfl (HRep.reN hW.1) ?_
 refine Sat.seq (Sat.region ?_)
 refine Tr.a rfl rfl rfl ?_
 refine Tr.nil (Aa (Sat.block ?_))
 refine Sat.loop (ι := Nat) (fun i => ⟨[(0, .func (.yield l) #[] #[]), (1, ptr b1 0), (2, ptr b2 0), (4, i64 (128 * (i : Int)))], (⟨b1, [.slice (some ⟨q, 0, none⟩) n c], 58, 1⟩ :: (⟨b2, [i64 128], 3, 1⟩ :: (X i ++ [])))⟩) (fun i => i ≤ K) (fun i => K - i) (0) ?_ ?_ ?_
 · exact Nat.zero_le _
 · exact Af (wk1 rfl (wk1 rfl (wk1 rfl (wk1 rfl wk0)))) (Ac rM (Ac rM (Ah (by repeat (exact sg_end)) Ad)))
 ·
  rintro i hi
  refine Sat.seq (Sat.seq (Sat.region ?_))
  refine Tr.m rfl rfl rfl ?_
  refine Tr.load1 rfl rfl rfl Y58 rfl Z0 (by rfl) ?_
  refine Tr.lenSl rfl rfl rfl Y58 ?_
  refine Tr.lss rfl rfl rfl rfl rfl ?_
  refine Tr.nil (Aa ?_)
  refine Sat.condP rfl (fun hc0 => ?_) (fun hc0 => ?_)
  ·
   have hi3 : i < K := by omega
   refine Sat.skip (Aa (Sat.seq (Sat.block (Sat.seq ?_))))
   refine Sat.draw [(1, 0), (1, 1), (0, 2), (0, 3), (0, 4), (0, 5), (0, 6)] Bv zK ?_
   refine Tr.load1 rfl rfl rfl Y3 rfl Z1 (by rfl) ?_
   refine Tr.load1 rfl rfl rfl Y58 rfl Z0 (by rfl) ?_
   refine Tr.m rfl rfl rfl ?_
   refine Tr.sliceLoN (128*i) rfl rfl rfl rfl oM oM oM Y58 Sz5 ?_
   refine Tr.lenSl rfl rfl rfl Y58 ?_
   refine Tr.min2 rfl rfl rfl rfl (show Value.int .i64 (if ((n - 128 * i : Nat) : Int) < (128 : Int) then ((n - 128 * i : Nat) : Int) else (128 : Int)) = i64 128 from by rw [if_neg oM]) ?_
   refine Tr.a rfl rfl rfl ?_
   refine Tr.nil (Aa (Sat.seq ?_))
   refine Sat.regionY 10 rfl zK ?_
   refine Tr.m rfl rfl rfl ?_
   refine Tr.load1 rfl rfl rfl Y58 rfl Z0 (by rfl) ?_
   refine Tr.m rfl rfl rfl ?_
   refine Tr.m rfl rfl rfl ?_
   refine Tr.m rfl rfl rfl ?_
   refine Tr.aI rfl rfl rfl rfl oM ?_
   refine Tr.m rfl rfl rfl ?_
   refine Tr.m rfl rfl rfl ?_
   refine Tr.aI rfl rfl rfl rfl oM ?_
   refine Tr.slice3 (128*i) (128*i+128) (128*i+128) rfl rfl rfl rfl rfl rfl oM oM oM oM oM oM Y58 Sz5 ?_
   refine Tr.nil ?_
   refine yop rfl rfl (congrArg some (encC_eq q i)) (fun w h => hW.2 i hi3 w (by rw [List.append_nil] at h; exact h)) ?_
   refine Tr.not rfl rfl rfl ?_
   refine Tr.nil (Aa ?_)
   refine Sat.cond_f rfl (rfl) ?_
   refine Sat.skip (B2 (Aa (Sat.region ?_)))
   refine Tr.m rfl rfl rfl ?_
   refine Tr.load1 rfl rfl rfl Y3 rfl Z1 (by rfl) ?_
   refine Tr.aI rfl rfl rfl rfl oM ?_
   refine Tr.a rfl rfl rfl ?_
   refine Tr.nil (Aa ?_)
   exact ⟨i + 1, by omega, by omega, Af (wk1 rfl (wk1 rfl (wk1 rfl (wk1 (congrArg (fun z => some (i64 z)) oM) wk0)))) (Ac rM (Ac rM (Ah (by repeat (exact sg_end)) Ad)))⟩
  ·
   have hi3 : i = K := by omega
   refine Sat.exit (Bf (Bf (bl_h (en_n ?_))))
   refine Ak (out := (⟨b1, [.slice (some ⟨q, 0, none⟩) n c], 58, 1⟩ :: (⟨b2, [i64 128], 3, 1⟩ :: (X i ++ [])))) (res_none rfl) (Ac rM (Ac rM (Ah sG Ad))) ?_
   rw [hi3]; exact ⟨rfl, by simp⟩

theorem chunk_seq {l b1 b2 q n c K : Nat} {X : Nat → List Blk} {names : List Nat} (hnk : n = 128 * K) (hnc : n ≤ c) (hbig : n ≤ 1000000) (hnm : ∀ i, (⟨b1, [.slice (some ⟨q, 0, none⟩) n c], 58, 1⟩ :: ⟨b2, [i64 128], 3, 1⟩ :: X i).map (·.n) = names) (w1 : World) (hh : HRep ⟨Tryz.prog, w1, 0, names, [], []⟩ (⟨b1, [.slice (some ⟨q, 0, none⟩) n c], 58, 1⟩ :: ⟨b2, [i64 128], 3, 1⟩ :: X 0) w1)
    (hy : ∀ i, i < K → ∀ W2, HRep ⟨Tryz.prog, w1, 0, names, [], []⟩ (⟨b1, [.slice (some ⟨q, 0, none⟩) n c], 58, 1⟩ :: ⟨b2, [i64 128], 3, 1⟩ :: X i) W2 → YieldAt Fence.wide 0 Tryz.prog l #[encC q i] W2 fun e W3 => e = .returned (.bool true) ∧ HRep ⟨Tryz.prog, w1, 0, names, [], []⟩ (⟨b1, [.slice (some ⟨q, 0, none⟩) n c], 58, 1⟩ :: ⟨b2, [i64 128], 3, 1⟩ :: X (i + 1)) W3) :
    CallsIn Fence.wide 0 Tryz.prog 250 (#[.func (.yield l) #[] #[]] ++ #[ptr b1 0, ptr b2 0]) w1 fun e W' => (∃ v, e = .returned v) ∧ HRep ⟨Tryz.prog, w1, 0, names, [], []⟩ (⟨b1, [.slice (some ⟨q, 0, none⟩) n c], 58, 1⟩ :: ⟨b2, [i64 128], 3, 1⟩ :: X K) W' :=
  callsIn_wide.2 ((chunk_iter l b1 b2 q n c K X names hnk hnc hbig w1 ⟨hh, hy⟩).mono fun e W' ⟨v, out, he, ⟨_, ho⟩, hr⟩ => ⟨⟨v, he⟩, by subst ho; exact HRep.ofRet hr (hnm K)⟩)
theorem take_len {xs : List UInt8} {i K : Nat} (h : xs.length = 128 * K) (hi : i < K) : ((xs.drop (128 * i)).take 128).length = 128 := by simp; omega

theorem sha_whole (st : List UInt64) (hst : st.length = 8) (k : List UInt64) (hk : Hid (kW = k)) (hk80 : k.length = 80) (p : Option Addr) (n c : Nat) (ss : List Sl) (ls : List (List UInt8)) (hss : ss.length = n) (hls : ls.length = n) (hsl : ∀ j, j < n → (ss.getD j Sl.nil).n = (ls.getD j []).length ∧ ((ss.getD j Sl.nil).p = none → (ss.getD j Sl.nil).n = 0)) (F : List UInt8) (hF : ls.flatten = F) (htot : F.length ≤ 90000) (hn : n ≤ 1000000)  : Meets Tryz.prog 236 [agg (Bd st), .slice p n c] [] (fun W => SeesP W p (ss.map Sl.v) ∧ ∀ j, j < n → SeesP W (ss.getD j Sl.nil).p (Ab (ls.getD j []))) (fun v out => v = agg (Bd (allW k st F)) ∧ out = []) := by
  intro W hW
  have hpl := padB_length F
  have hpz := padZ_lt F.length
  have hpm := padB_mod F
  have hst2 : (runW k st (padB F) ((padB F).length / 128)).length = 8 := by rw [runW_length]; exact hst
  refine calls_range Tryz.func236 rfl 16 Tryz.ntmps236 rfl ?_
  refine Sat.region ?_
  refine Tr.boxA rfl rfl ?_
  intro n2 hn2 hf2
  refine Tr.alloc (cs := (Bd (List.replicate 8 0))) rfl Zr252 rfl ?_
  intro n4 hn4 hf4
  refine Tr.nil ?_
  refine Aa ?_
  refine Sat.region ?_
  refine Tr.m rfl rfl rfl ?_
  refine Tr.call4 rfl rfl rfl rfl rfl Body244 (sha_padded p n c ss ls hss hls hsl F hF htot hn) (fun w h => ⟨Aw h rfl hW.1, fun j hj => Aw h rfl (hW.2 j hj)⟩) ?_
  rintro v7 out7 ⟨s7, rfl, hac7⟩
  obtain ⟨q7, c7, rfl, hc7, rfl⟩ := acc_pos hac7 oM
  refine Tr.call4 rfl rfl rfl rfl rfl Body243 (mk_chunk (some ⟨q7, 0, none⟩) (padB F).length c7) tV ?_
  rintro v8 out8 ⟨b1, b2, rfl, rfl⟩
  refine Tr.nil ?_
  refine Aa ?_
  refine ⟨_, _, fun i => ⟨b1, [.slice (some ⟨q7, 0, none⟩) (padB F).length c7], 58, 1⟩ :: ⟨b2, [i64 128], 3, 1⟩ :: [⟨q7, Ab (padB F), 5, c7 * 1⟩, ⟨n4, Bd (List.replicate 8 0), 252, (Bd (List.replicate 8 0)).length⟩, ⟨n2, Bd (runW k st (padB F) i), 252, (Bd st).length⟩], [b1, b2, q7, n4, n2], encC q7, ((padB F).length / 128), fun sl i => (5, encC q7 i) :: (9, encC q7 i) :: sl, rfl, rfl, Body250, dE, fun _ => rfl, ?_, ?_, ?_, ?_⟩
  ·
    intro l w1 hh hy
    exact chunk_seq (X := fun i => [⟨q7, Ab (padB F), 5, c7 * 1⟩, ⟨n4, Bd (List.replicate 8 0), 252, (Bd (List.replicate 8 0)).length⟩, ⟨n2, Bd (runW k st (padB F) i), 252, (Bd st).length⟩]) hpm hc7 oM (fun _ => rfl) w1 hh hy
  ·
    intro i hi l W2 hh
    refine SatI.region zK ?_
    refine Tr.a rfl rfl rfl ?_
    refine Tr.nil ?_
    exact ⟨rfl, rfl⟩
  ·
    intro i hi l W2 hh
    obtain ⟨A, hA⟩ : ∃ A, Hid (schA ((padB F).drop (128 * i) |>.take 128) 128 = A) := ⟨_, ⟨rfl⟩⟩
    obtain ⟨w, hwp⟩ : ∃ w, Hid (schB A 64 = w) := ⟨_, ⟨rfl⟩⟩
    obtain ⟨R, hR⟩ : ∃ R, Hid (rnds k w (W8.of (runW k st (padB F) i)) 80 = R) := ⟨_, ⟨rfl⟩⟩
    have hw : w.length = 80 := by rw [← hwp.out, schB_length, ← hA.out]; exact schA_length _ 128
    have e1 : addUp (runW k st (padB F) i) R.l 8 = runW k st (padB F) (i + 1) := by rw [runW, pieceW, schW, hA.out, hwp.out, hR.out]
    refine SatI.block ?_
    refine SatI.draw [(1, 0), (0, 1), (0, 2), (1, 3), (3, 4), (4, 5)] Bv zK zK ?_
    refine Tr.lA rfl rfl rfl Y252 rfl Sz252 Z4 (by rw [List.length_map, runW_length]; exact hst) ?_
    refine Tr.m rfl rfl rfl ?_
    refine Tr.s2a rfl rfl rfl Tryz.underlying262 oM ?_
    refine Tr.lN (Ab ((padB F).drop (128 * i) |>.take 128)) rfl rfl rfl Tryz.underlying262 rfl Sz262 Z2 (by rw [← List.map_drop, ← List.map_take]) (by rw [List.length_map]; exact take_len hpm hi) ?_
    refine Tr.cV rfl rfl rfl rfl Body245 (sha_Piece (runW k st (padB F) i) (by rw [runW_length]; exact hst) ((padB F).drop (128 * i) |>.take 128) (take_len hpm hi) A w k R hA hwp hw hk hk80 hR) tV ?_
    refine Tr.sA rfl rfl rfl rfl zB Sz252 (by (rw [List.length_map, addUp_length, runW_length]; exact hst)) Z4 (by (rw [List.length_map, runW_length]; exact hst)) (by exact upd4) ?_
    refine Tr.nil ?_
    rw [e1]
  ·
    intro D W2
    refine Sat.seq ?_
    refine Sat.region ?_
    refine Tr.lA rfl rfl rfl Y252 rfl Sz252 Z4 (by (simp [hst2]; done)) ?_
    refine Tr.sA rfl rfl rfl rfl zB Sz252 (by (simp [hst2]; done)) Z3 sP (by exact upd3) ?_
    refine Tr.nil ?_
    refine Aa ?_
    refine Sat.ret ?_
    refine enA_r ?_
    refine ⟨_, [], fun W names => res_cell rfl rfl Y252 rfl Sz252 Z3 (by simp [hst2]), sP, sP, ?_⟩
    exact ⟨rfl, rfl⟩

theorem startW_length : startW.length = 8 := rfl
def xorUp : Nat → List UInt64
  | 0 => startW
  | i + 1 => (xorUp i).set i ((xorUp i).getD i 0 ^^^ 11936128518282651045)
theorem xorUp_length : ∀ i, (xorUp i).length = 8
  | 0 => rfl
  | i + 1 => by rw [xorUp, List.length_set, xorUp_length i]
def shaTag : List UInt8 := [83, 72, 65, 45, 53, 49, 50, 47, 50, 53, 54]
def shaI : List UInt64 := allW kW (xorUp 8) shaTag
def sha256 (l : List UInt8) : List UInt8 := (sumUp (allW kW shaI l) 64).take 32
theorem sha256_length (l : List UInt8) : (sha256 l).length = 32 := by rw [sha256, List.length_take, sumUp_length]; rfl

theorem sha_StartShort (k s0 i0 : List UInt64) (G : List UInt8) (hk : Hid (kW = k)) (hk80 : k.length = 80) (hs0 : Hid (xorUp 8 = s0)) (hs8 : s0.length = 8) (hG : Hid (shaTag = G)) (hGl : G.length = 11) (hi0 : Hid (allW k s0 G = i0)) (hi8 : i0.length = 8)  : Meets Tryz.prog 237 [] [] (fun _ => True) (fun v out => v = agg (Bd i0) ∧ out = []) := by
 intro W hW
 refine An Tryz.func237 rfl 18 Tryz.ntmps237 rfl ?_
 refine Sat.seq (Sat.region ?_)
 refine Tr.alloc (cs := (Bd (List.replicate 8 0))) rfl Zr252 rfl ?_
 intro n0 hn0 hf0
 refine Tr.nil (Aa (Sat.seq (Sat.region ?_)))
 refine Tr.cV rfl rfl rfl rfl Body246 (sha_Start) tV ?_
 refine Tr.alloc (cs := (Bd (List.replicate 8 0))) rfl Zr252 rfl ?_
 intro n1 hn1 hf1
 refine Tr.sA rfl rfl rfl rfl zB Sz252 (by (simp [startW_length]; done)) Z0 sP zU ?_
 refine Tr.nil (Aa (Sat.seq (Sat.seq (Sat.region ?_))))
 refine Tr.m rfl rfl rfl ?_
 refine Tr.nil (Aa (Sat.block ?_))
 refine Sat.loop (ι := Nat) (fun j => ⟨[(0, ptr n0 0), (1, ptr n1 0), (4, i64 (j : Int))], [⟨n1, Bd (xorUp j), 252, 8⟩, ⟨n0, Bd (List.replicate 8 0), 252, 8⟩]⟩) (fun j => j ≤ 8) (fun j => 8 - j) (0) ?_ ?_ ?_
 · omega
 · exact Af (wk1 rfl (wk1 rfl (wk1 rfl wk0))) (Ac rM (Ac rM Ad))
 ·
  rintro j hi
  have hlj := xorUp_length j
  refine Sat.seq (Sat.region ?_)
  refine Tr.lss rfl rfl rfl rfl rfl ?_
  refine Tr.nil (Aa (Sat.seq ?_))
  refine Sat.condP rfl (fun hc0 => ?_) (fun hc0 => ?_)
  ·
   refine Sat.skip (Aa (Sat.seq (Sat.block (Sat.seq (Sat.region ?_)))))
   refine Tr.m rfl rfl rfl ?_
   refine Tr.a rfl rfl rfl ?_
   refine Tr.nil (Aa (Sat.region ?_))
   refine Tr.m rfl rfl rfl ?_
   refine Tr.i1 rfl rfl rfl rfl Y252 B1 _ rfl oM ?_
   refine Tr.load1 rfl rfl rfl Y48 rfl Z0 (by exact Az oM) ?_
   refine Tr.xor_u64 rfl rfl rfl (show Aj _ _ = some (u64 11936128518282651045) from rfl) ?_
   refine Tr.i1 rfl rfl rfl rfl Y252 B1 _ rfl oM ?_
   refine Tr.s1 rfl rfl rfl rfl rfl B1 Z0 (by (simp [xorUp_length]; omega)) (by exact set_words _ _ _) zU ?_
   refine Tr.nil (B2 (Aa (Sat.region ?_)))
   refine Tr.aI rfl rfl rfl rfl oM ?_
   refine Tr.m rfl rfl rfl ?_
   refine Tr.nil (Aa ?_)
   exact ⟨j + 1, by omega, by omega, Af (wk1 rfl (wk1 rfl (wk1 rfl wk0))) (Ac rM (Ac rM Ad))⟩
  ·
   obtain rfl : j = 8 := by omega
   rw [hs0.out]
   clear hlj
   refine Sat.exit (Bf (Bf (bl_h (Aa (Sat.seq (Sat.region ?_))))))
   refine Tr.lA rfl rfl rfl Y252 rfl Sz252 Z0 (by (simp [hs8]; done)) ?_
   refine Tr.mkRow (z := u8 0) [u8 83, u8 72, u8 65, u8 45, u8 53, u8 49, u8 50, u8 47, u8 50, u8 53, u8 54] (Ab shaTag) rfl rfl rfl Y58 Sz5 Zr5 rfl rfl (by intro v hv; simp only [List.mem_cons, List.not_mem_nil, or_false] at hv; rcases hv with rfl | rfl | rfl | rfl | rfl | rfl | rfl | rfl | rfl | rfl | rfl <;> rfl) dE rfl ?_
   intro q14
   rw [hG.out]
   refine Tr.constB rfl rfl rfl rfl Y58 Y5 Z0 ?_
   refine Tr.mkRow (z := .slice none 0 0) [.slice (some ⟨q14, 0, none⟩) 11 11] [.slice (some ⟨q14, 0, none⟩) 11 11] rfl rfl rfl Tryz.underlying250 Sz58 Zr58 rfl rfl (by intro v hv; rw [List.mem_singleton.1 hv]; rfl) dE rfl ?_
   intro q16
   refine Tr.cV rfl rfl rfl rfl Body236 (sha_whole s0 hs8 k hk hk80 (some ⟨q16, 0, none⟩) 1 1 [⟨some ⟨q14, 0, none⟩, 11, 11⟩] [G] rfl rfl (fun j hj => (by obtain rfl : j = 0 := oM; exact ⟨by simp [hGl], fun e => by cases e⟩)) G sP oM dE) (fun w h => ⟨SeesP.of (Ap h Z0), fun j hj => (by obtain rfl : j = 0 := oM; exact SeesP.of (Ap h Z1))⟩) ?_
   rw [hi0.out]
   refine Tr.sA rfl rfl rfl rfl zB Sz252 (by (simp [hi8]; done)) Z3 sP (by exact upd3) ?_
   refine Tr.nil (Aa (Sat.ret (Am ?_)))
   refine ⟨_, [], res_cell rfl rfl Y252 rfl Sz252 Z3 (by simp [hi8]), sP, sP, ?_, rfl⟩
   rfl

theorem sha_Sum (k s0 i0 : List UInt64) (G : List UInt8) (hk : Hid (kW = k)) (hk80 : k.length = 80) (hs0 : Hid (xorUp 8 = s0)) (hs8 : s0.length = 8) (hG : Hid (shaTag = G)) (hGl : G.length = 11) (hi0 : Hid (allW k s0 G = i0)) (hi8 : i0.length = 8) (p : Option Addr) (n c : Nat) (ss : List Sl) (ls : List (List UInt8)) (hss : ss.length = n) (hls : ls.length = n) (hsl : ∀ j, j < n → (ss.getD j Sl.nil).n = (ls.getD j []).length ∧ ((ss.getD j Sl.nil).p = none → (ss.getD j Sl.nil).n = 0)) (F : List UInt8) (hF : ls.flatten = F) (htot : F.length ≤ 90000) (hn : n ≤ 1000000) (r : List UInt64) (hr : Hid (allW k i0 F = r)) (s : List UInt8) (hs : Hid (sumUp r 64 = s))  : Meets Tryz.prog 207 [.slice p n c] [] (fun W => SeesP W p (ss.map Sl.v) ∧ ∀ j, j < n → SeesP W (ss.getD j Sl.nil).p (Ab (ls.getD j []))) (fun v out => v = agg (Ab (s.take 32)) ∧ out = []) := by
 intro W hW
 have hr8 : r.length = 8 := by rw [← hr.out, allW_length]; exact hi8
 have hs64 : s.length = 64 := by rw [← hs.out]; exact sumUp_length r 64
 have hs32 : (s.take 32).length = 32 := by rw [List.length_take, hs64]; rfl
 refine An Tryz.func207 rfl 11 Tryz.ntmps207 rfl ?_
 refine Sat.seq (Sat.region ?_)
 refine Tr.alloc (cs := (Ab (List.replicate 32 0))) rfl Zr50 rfl ?_
 intro n2 hn2 hf2
 refine Tr.nil (Aa (Sat.seq (Sat.region ?_)))
 refine Tr.cV rfl rfl rfl rfl Body237 (sha_StartShort k s0 i0 G hk hk80 hs0 hs8 hG hGl hi0 hi8) tV ?_
 refine Tr.m rfl rfl rfl ?_
 refine Tr.cV rfl rfl rfl rfl Body236 (sha_whole i0 hi8 k hk hk80 p n c ss ls hss hls hsl F hF htot hn) (fun w h => ⟨Aw h rfl hW.1, fun j hj => Aw h rfl (hW.2 j hj)⟩) ?_
 rw [hr.out]
 refine Tr.cV rfl rfl rfl rfl Body235 (sha_sum r hr8 s hs) tV ?_
 refine Tr.alloc (cs := (Ab (List.replicate 64 0))) rfl Zr76 rfl ?_
 intro n3 hn3 hf3
 refine Tr.sA rfl rfl rfl rfl zE Sz76 (by (simp [hs64]; done)) Z0 sP zU ?_
 refine Tr.nil (Aa (Sat.seq (Sat.region ?_)))
 refine Tr.sliceArrHi 32 rfl rfl rfl rfl rfl dE dE Tryz.underlying76 Sz5 ?_
 refine Tr.s2a rfl rfl rfl Y50 oM ?_
 refine Tr.lN (Ab (s.take 32)) rfl rfl rfl Y50 rfl Bb Z0 (by rw [List.drop_zero, ← List.map_take]) (by rw [List.length_map]; exact hs32) ?_
 refine Tr.sA rfl rfl rfl rfl zE Bb (by (simp [hs64]; done)) Z1 sP zV ?_
 refine Tr.nil (Aa (Sat.ret (Am ?_)))
 refine ⟨_, [], res_cell rfl rfl Y50 rfl Bb Z1 (by simp [hs64]), sP, sP, ?_, rfl⟩
 rfl

end Go.Proofs.YtdifpjmfabhpiaaGreat
end

section
namespace Go.Proofs.YtdifpjmfabhpiaaGreat
open Go Hw

theorem DB.head_small {D : DB} (h : D.check = 0) : D.ls.length ≤ 16 ∧ D.ds.length ≤ 512 := by
  unfold DB.check at h
  by_cases h1 : D.head = true
  · rw [if_pos h1] at h; cases h
  · unfold DB.head at h1
    simp at h1
    omega
theorem DB.bytes_small {D : DB} (h : D.check = 0) (hd : D.ok) : D.bytes.length ≤ 5000 := by
  have hs := D.head_small h
  have hz1 := A8 D.seq.toNat
  have hz2 := A8 (UInt64.ofNat D.ls.length).toNat
  have hz3 := A8 (UInt64.ofNat D.ds.length).toNat
  have hfl := Bn hd.ls (Nat.le_refl D.ls.length)
  rw [List.take_length] at hfl
  simp only [DB.bytes, DB.body, List.length_append, Aq, hd.w, hd.prev, hd.sg, hfl]
  omega
theorem db_check (B : Block) (D : DB) : Meets Tryz.prog 82 [agg B.cells] [] (fun W => BlockIs W B D) (fun v out => v = i64 D.check ∧ out = []) :=
  fun W hW => by rw [← hW.check]; exact block_check B hW.ok D.ls W hW.ls
theorem BlockIs.ext {C : Cx} {hp : List Blk} {w : World} {B : Block} {D : DB} (hh : HRep C hp w) (hl : C.lent = []) (h : BlockIs C.W0 B D) : BlockIs w B D :=
  ⟨h.ok, h.w, h.seq, h.prev, rows_ext hh hl h.ls, bytes_ext hh hl h.ds, h.sg⟩

end Go.Proofs.YtdifpjmfabhpiaaGreat
end

section
namespace Go.Proofs.YtdifpjmfabhpiaaGreat
open Go Hw
set_option maxRecDepth 100000
structure VoteIs (W : World) (x : Vote) (d : Vote) : Prop where
  ok : x.ok
  eq : x = d
  wf : (Lit.int .i64 d.fPhase).wf = true
theorem VoteIs.ext {C : Cx} {hp : List Blk} {w : World} {x d : Vote} (h : VoteIs C.W0 x d) (hh : HRep C hp w) (hl : C.lent = []) : VoteIs w x d := ⟨h.ok, h.eq, h.wf⟩
section
variable {H : Type} {enc : TypeId × Value → H} {P : Program} {W : World} {base : Nat} {sp : Nat → Bool} {held : Bool}
end
section
variable {H : Type} {enc : TypeId × Value → H} {W : World} {base : Nat} {sp : Nat → Bool} {held : Bool}
theorem Vote.openD {fuel : Nat} {cs : List Value} {y : DataW H × List MemPlace} (h : DataW.trod enc Tryz.prog W base sp held fuel 81 cs = some y) : ∃ (x : Vote) (d : Vote), cs = x.cells ∧ VoteIs W x d := by
  obtain ⟨x, h1, h2, h3⟩ := Vote.openT h
  exact ⟨x, x, h2, h1, rfl, h3⟩
theorem Block.openD {fuel : Nat} {cs : List Value} {y : DataW H × List MemPlace} (h : DataW.trod enc Tryz.prog W base sp held fuel 79 cs = some y) : ∃ (x : Block) (d : DB), cs = x.cells ∧ BlockIs W x d := by
  obtain ⟨x, h1, h2, ⟨ls, h3⟩, ⟨l, h4⟩⟩ := Block.openT h
  exact ⟨x, ⟨x.fWriter, x.fSeq, x.fPrev, ls, l, x.fSig⟩, h2, h1, rfl, rfl, rfl, h3, h4, rfl⟩
end
section
variable {H : Type} {enc : TypeId × Value → H} {W : World} {base : Nat} {sp : Nat → Bool} {held : Bool}
theorem Vote.openW {r : Reach} {b0 : Nat} {v : Value} {d : DataW H} {ps : List MemPlace} (hval : Value.okWide Tryz.prog W r b0 81 v) (hd : DataW.Trod enc Tryz.prog W base sp held 81 v d ps) : ∃ (x : Vote) (D : Vote), v = agg x.cells ∧ VoteIs W x D := by
  simp only [Value.okWide, Y81] at hval
  obtain ⟨cs, rfl, _⟩ := hval
  obtain ⟨fuel, hf⟩ := hd
  obtain ⟨x, D, h2, h3⟩ := Vote.openD hf
  refine ⟨x, D, ?_, h3⟩
  simp only [Value.cells] at h2
  rw [agg, ← h2]
end
def VotesAt (W : World) (s : Sl) (ds : List Vote) : Prop := ∃ rs, SeqIs Vote.cells 132 VoteIs W s rs ds
theorem Votes_ext {C : Cx} {hp : List Blk} {w : World} {s : Sl} {ds : List Vote} (hh : HRep C hp w) (hl : C.lent = []) (h : VotesAt C.W0 s ds) : VotesAt w s ds := by
  obtain ⟨rs, h⟩ := h
  exact ⟨rs, h.ext hh hl fun r d hd => hd.ext hh hl⟩
section
variable {H : Type} {enc : TypeId × Value → H} {W : World} {base : Nat} {sp : Nat → Bool} {held : Bool}
theorem Vote.openS {t : TypeId} (hu : Tryz.prog.underlying t = some (.slice 81)) (hc : Tryz.prog.cellsOf 81 = 132) {fuel : Nat} {cs : List Value} {y : DataW H × List MemPlace} (h : DataW.trod enc Tryz.prog W base sp held fuel t cs = some y) : ∃ s ds, cs = [Sl.v s] ∧ VotesAt W s ds := by
  obtain ⟨s, rs, ds, e, hs⟩ := open_seqS (cells := Vote.cells) (Is := VoteIs) hu hc dE (fun ht => by
    obtain ⟨r, d, e, hi⟩ := Vote.openD ht
    exact ⟨r, d, e, hi, Vote.length hi.ok⟩) h
  exact ⟨s, ds, e, rs, hs⟩
end
section
variable {H : Type} {enc : TypeId × Value → H} {W : World} {base : Nat} {sp : Nat → Bool} {held : Bool}
theorem Block.openW {r : Reach} {b0 : Nat} {v : Value} {d : DataW H} {ps : List MemPlace} (hval : Value.okWide Tryz.prog W r b0 79 v) (hd : DataW.Trod enc Tryz.prog W base sp held 79 v d ps) : ∃ (x : Block) (D : DB), v = agg x.cells ∧ BlockIs W x D := by
  simp only [Value.okWide, Y79] at hval
  obtain ⟨cs, rfl, _⟩ := hval
  obtain ⟨fuel, hf⟩ := hd
  obtain ⟨x, D, h2, h3⟩ := Block.openD hf
  refine ⟨x, D, ?_, h3⟩
  simp only [Value.cells] at h2
  rw [agg, ← h2]
end
def BlocksAt (W : World) (s : Sl) (ds : List DB) : Prop := ∃ rs, SeqIs Block.cells 131 BlockIs W s rs ds
theorem Blocks_ext {C : Cx} {hp : List Blk} {w : World} {s : Sl} {ds : List DB} (hh : HRep C hp w) (hl : C.lent = []) (h : BlocksAt C.W0 s ds) : BlocksAt w s ds := by
  obtain ⟨rs, h⟩ := h
  exact ⟨rs, h.ext hh hl fun r d hd => hd.ext hh hl⟩
section
variable {H : Type} {enc : TypeId × Value → H} {W : World} {base : Nat} {sp : Nat → Bool} {held : Bool}
theorem Block.openS {t : TypeId} (hu : Tryz.prog.underlying t = some (.slice 79)) (hc : Tryz.prog.cellsOf 79 = 131) {fuel : Nat} {cs : List Value} {y : DataW H × List MemPlace} (h : DataW.trod enc Tryz.prog W base sp held fuel t cs = some y) : ∃ s ds, cs = [Sl.v s] ∧ BlocksAt W s ds := by
  obtain ⟨s, rs, ds, e, hs⟩ := open_seqS (cells := Block.cells) (Is := BlockIs) hu hc dE (fun ht => by
    obtain ⟨r, d, e, hi⟩ := Block.openD ht
    exact ⟨r, d, e, hi, Block.length hi.ok⟩) h
  exact ⟨s, ds, e, rs, hs⟩
end
structure DCut where
  dHeight : UInt64
  dPrev : List UInt8
  dHeads : List (List UInt8)
structure CutIs (W : World) (x : Cut) (d : DCut) : Prop where
  ok : x.ok
  fHeight : x.fHeight = d.dHeight
  fPrev : x.fPrev = d.dPrev
  fHeads : RowsAt W x.fHeads 32 d.dHeads
theorem CutIs.ext {C : Cx} {hp : List Blk} {w : World} {x : Cut} {d : DCut} (h : CutIs C.W0 x d) (hh : HRep C hp w) (hl : C.lent = []) : CutIs w x d := ⟨h.ok, h.fHeight, h.fPrev, rows_ext hh hl h.fHeads⟩
section
variable {H : Type} {enc : TypeId × Value → H} {W : World} {base : Nat} {sp : Nat → Bool} {held : Bool}
theorem Cut.openD {fuel : Nat} {cs : List Value} {y : DataW H × List MemPlace} (h : DataW.trod enc Tryz.prog W base sp held fuel 53 cs = some y) : ∃ (x : Cut) (d : DCut), cs = x.cells ∧ CutIs W x d := by
  obtain ⟨xs, n, _, _, h4, h5, h6⟩ := DataW.trod_struct Y53 h
  rw [show Tryz.prog.cellsOf 53 = 34 by kernel_rfl] at h4
  have c0 : Tryz.prog.cellsOf 48 = 1 := by kernel_rfl
  have c1 : Tryz.prog.cellsOf 50 = 32 := by kernel_rfl
  have c2 : Tryz.prog.cellsOf 51 = 1 := by kernel_rfl
  have g0 : DataW.trod enc Tryz.prog W base sp held n 48 ((cs.drop 0).take (Tryz.prog.cellsOf 48)) = some (xs[0]'(by rw [h5]; decide)) := by rw [← List.getElem?_eq_getElem]; exact h6 0 _ rfl
  rw [c0] at g0
  obtain ⟨a0, e0, _, w0⟩ := DataW.trod_int Y48 g0
  obtain ⟨v0, rfl⟩ := Hw.u64_back w0
  have g1 : DataW.trod enc Tryz.prog W base sp held n 50 ((cs.drop 1).take (Tryz.prog.cellsOf 50)) = some (xs[1]'(by rw [h5]; decide)) := by rw [← List.getElem?_eq_getElem]; exact h6 1 _ rfl
  rw [c1] at g1
  obtain ⟨v1, e1, l1⟩ := Hw.open_bytesT Y50 Y5 zK zK g1
  have g2 : DataW.trod enc Tryz.prog W base sp held n 51 ((cs.drop 33).take (Tryz.prog.cellsOf 51)) = some (xs[2]'(by rw [h5]; decide)) := by rw [← List.getElem?_eq_getElem]; exact h6 2 _ rfl
  rw [c2] at g2
  obtain ⟨v2, b2, e2, q2⟩ := Hw.open_rowsS Y51 Y50 Y5 zK zK dE g2
  refine ⟨⟨v0, v1, v2⟩, ⟨v0, v1, b2⟩, ?_, ⟨⟨l1⟩, rfl, rfl, q2⟩⟩
  rw [← List.drop_zero (l := cs)]
  exact (Hw.cat 1 e0 rfl (Hw.cat 33 e1 rfl (Hw.cat_last e2 h4)))
end
section
variable {H : Type} {enc : TypeId × Value → H} {W : World} {base : Nat} {sp : Nat → Bool} {held : Bool}
theorem Cut.openW {r : Reach} {b0 : Nat} {v : Value} {d : DataW H} {ps : List MemPlace} (hval : Value.okWide Tryz.prog W r b0 53 v) (hd : DataW.Trod enc Tryz.prog W base sp held 53 v d ps) : ∃ (x : Cut) (D : DCut), v = agg x.cells ∧ CutIs W x D := by
  simp only [Value.okWide, Y53] at hval
  obtain ⟨cs, rfl, _⟩ := hval
  obtain ⟨fuel, hf⟩ := hd
  obtain ⟨x, D, h2, h3⟩ := Cut.openD hf
  refine ⟨x, D, ?_, h3⟩
  simp only [Value.cells] at h2
  rw [agg, ← h2]
end
def CutsAt (W : World) (s : Sl) (ds : List DCut) : Prop := ∃ rs, SeqIs Cut.cells 34 CutIs W s rs ds
theorem Cuts_ext {C : Cx} {hp : List Blk} {w : World} {s : Sl} {ds : List DCut} (hh : HRep C hp w) (hl : C.lent = []) (h : CutsAt C.W0 s ds) : CutsAt w s ds := by
  obtain ⟨rs, h⟩ := h
  exact ⟨rs, h.ext hh hl fun r d hd => hd.ext hh hl⟩
section
variable {H : Type} {enc : TypeId × Value → H} {W : World} {base : Nat} {sp : Nat → Bool} {held : Bool}
theorem Cut.openS {t : TypeId} (hu : Tryz.prog.underlying t = some (.slice 53)) (hc : Tryz.prog.cellsOf 53 = 34) {fuel : Nat} {cs : List Value} {y : DataW H × List MemPlace} (h : DataW.trod enc Tryz.prog W base sp held fuel t cs = some y) : ∃ s ds, cs = [Sl.v s] ∧ CutsAt W s ds := by
  obtain ⟨s, rs, ds, e, hs⟩ := open_seqS (cells := Cut.cells) (Is := CutIs) hu hc dE (fun ht => by
    obtain ⟨r, d, e, hi⟩ := Cut.openD ht
    exact ⟨r, d, e, hi, Cut.length hi.ok⟩) h
  exact ⟨s, ds, e, rs, hs⟩
end
structure DCert where
  dCut : DCut
  dVotes : List Vote
structure CertIs (W : World) (x : Cert) (d : DCert) : Prop where
  ok : x.ok
  fCut : CutIs W x.fCut d.dCut
  fVotes : VotesAt W x.fVotes d.dVotes
theorem CertIs.ext {C : Cx} {hp : List Blk} {w : World} {x : Cert} {d : DCert} (h : CertIs C.W0 x d) (hh : HRep C hp w) (hl : C.lent = []) : CertIs w x d := ⟨h.ok, (h.fCut.ext hh hl), Votes_ext hh hl h.fVotes⟩
section
variable {H : Type} {enc : TypeId × Value → H} {W : World} {base : Nat} {sp : Nat → Bool} {held : Bool}
theorem Cert.openD {fuel : Nat} {cs : List Value} {y : DataW H × List MemPlace} (h : DataW.trod enc Tryz.prog W base sp held fuel 55 cs = some y) : ∃ (x : Cert) (d : DCert), cs = x.cells ∧ CertIs W x d := by
  obtain ⟨xs, n, _, _, h4, h5, h6⟩ := DataW.trod_struct Y55 h
  rw [show Tryz.prog.cellsOf 55 = 35 by kernel_rfl] at h4
  have c0 : Tryz.prog.cellsOf 53 = 34 := by kernel_rfl
  have c1 : Tryz.prog.cellsOf 24 = 1 := by kernel_rfl
  have g0 : DataW.trod enc Tryz.prog W base sp held n 53 ((cs.drop 0).take (Tryz.prog.cellsOf 53)) = some (xs[0]'(by rw [h5]; decide)) := by rw [← List.getElem?_eq_getElem]; exact h6 0 _ rfl
  rw [c0] at g0
  obtain ⟨v0, d0, e0, q0⟩ := Cut.openD g0
  have g1 : DataW.trod enc Tryz.prog W base sp held n 24 ((cs.drop 34).take (Tryz.prog.cellsOf 24)) = some (xs[1]'(by rw [h5]; decide)) := by rw [← List.getElem?_eq_getElem]; exact h6 1 _ rfl
  rw [c1] at g1
  obtain ⟨v1, b1, e1, q1⟩ := Vote.openS Y24 zK g1
  refine ⟨⟨v0, v1⟩, ⟨d0, b1⟩, ?_, ⟨⟨q0.ok⟩, q0, q1⟩⟩
  rw [← List.drop_zero (l := cs)]
  exact (Hw.cat 34 e0 rfl (Hw.cat_last e1 h4))
end
section
variable {H : Type} {enc : TypeId × Value → H} {W : World} {base : Nat} {sp : Nat → Bool} {held : Bool}
theorem Cert.openW {r : Reach} {b0 : Nat} {v : Value} {d : DataW H} {ps : List MemPlace} (hval : Value.okWide Tryz.prog W r b0 55 v) (hd : DataW.Trod enc Tryz.prog W base sp held 55 v d ps) : ∃ (x : Cert) (D : DCert), v = agg x.cells ∧ CertIs W x D := by
  simp only [Value.okWide, Y55] at hval
  obtain ⟨cs, rfl, _⟩ := hval
  obtain ⟨fuel, hf⟩ := hd
  obtain ⟨x, D, h2, h3⟩ := Cert.openD hf
  refine ⟨x, D, ?_, h3⟩
  simp only [Value.cells] at h2
  rw [agg, ← h2]
end
def CertsAt (W : World) (s : Sl) (ds : List DCert) : Prop := ∃ rs, SeqIs Cert.cells 35 CertIs W s rs ds
theorem Certs_ext {C : Cx} {hp : List Blk} {w : World} {s : Sl} {ds : List DCert} (hh : HRep C hp w) (hl : C.lent = []) (h : CertsAt C.W0 s ds) : CertsAt w s ds := by
  obtain ⟨rs, h⟩ := h
  exact ⟨rs, h.ext hh hl fun r d hd => hd.ext hh hl⟩
section
variable {H : Type} {enc : TypeId × Value → H} {W : World} {base : Nat} {sp : Nat → Bool} {held : Bool}
theorem Cert.openS {t : TypeId} (hu : Tryz.prog.underlying t = some (.slice 55)) (hc : Tryz.prog.cellsOf 55 = 35) {fuel : Nat} {cs : List Value} {y : DataW H × List MemPlace} (h : DataW.trod enc Tryz.prog W base sp held fuel t cs = some y) : ∃ s ds, cs = [Sl.v s] ∧ CertsAt W s ds := by
  obtain ⟨s, rs, ds, e, hs⟩ := open_seqS (cells := Cert.cells) (Is := CertIs) hu hc dE (fun ht => by
    obtain ⟨r, d, e, hi⟩ := Cert.openD ht
    exact ⟨r, d, e, hi, Cert.length hi.ok⟩) h
  exact ⟨s, ds, e, rs, hs⟩
end
structure DMsg where
  dKind : Int
  dHeight : UInt64
  dHeads : List (List UInt8)
  dWant : List (List UInt8)
  dBlocks : List DB
  dVotes : List Vote
  dCuts : List DCut
  dCerts : List DCert
structure MsgIs (W : World) (x : Msg) (d : DMsg) : Prop where
  ok : x.ok
  fKind : x.fKind = d.dKind
  wKind : (Lit.int .i64 d.dKind).wf = true
  fHeight : x.fHeight = d.dHeight
  fHeads : RowsAt W x.fHeads 32 d.dHeads
  fWant : RowsAt W x.fWant 32 d.dWant
  fBlocks : BlocksAt W x.fBlocks d.dBlocks
  fVotes : VotesAt W x.fVotes d.dVotes
  fCuts : CutsAt W x.fCuts d.dCuts
  fCerts : CertsAt W x.fCerts d.dCerts
theorem MsgIs.ext {C : Cx} {hp : List Blk} {w : World} {x : Msg} {d : DMsg} (h : MsgIs C.W0 x d) (hh : HRep C hp w) (hl : C.lent = []) : MsgIs w x d := ⟨h.ok, h.fKind, h.wKind, h.fHeight, rows_ext hh hl h.fHeads, rows_ext hh hl h.fWant, Blocks_ext hh hl h.fBlocks, Votes_ext hh hl h.fVotes, Cuts_ext hh hl h.fCuts, Certs_ext hh hl h.fCerts⟩
section
variable {H : Type} {enc : TypeId × Value → H} {W : World} {base : Nat} {sp : Nat → Bool} {held : Bool}
theorem Msg.openD {fuel : Nat} {cs : List Value} {y : DataW H × List MemPlace} (h : DataW.trod enc Tryz.prog W base sp held fuel 57 cs = some y) : ∃ (x : Msg) (d : DMsg), cs = x.cells ∧ MsgIs W x d := by
  obtain ⟨xs, n, _, _, h4, h5, h6⟩ := DataW.trod_struct Y57 h
  rw [show Tryz.prog.cellsOf 57 = 8 by kernel_rfl] at h4
  have c0 : Tryz.prog.cellsOf 3 = 1 := by kernel_rfl
  have c1 : Tryz.prog.cellsOf 48 = 1 := by kernel_rfl
  have c2 : Tryz.prog.cellsOf 51 = 1 := by kernel_rfl
  have c3 : Tryz.prog.cellsOf 51 = 1 := by kernel_rfl
  have c4 : Tryz.prog.cellsOf 22 = 1 := by kernel_rfl
  have c5 : Tryz.prog.cellsOf 24 = 1 := by kernel_rfl
  have c6 : Tryz.prog.cellsOf 25 = 1 := by kernel_rfl
  have c7 : Tryz.prog.cellsOf 23 = 1 := by kernel_rfl
  have g0 : DataW.trod enc Tryz.prog W base sp held n 3 ((cs.drop 0).take (Tryz.prog.cellsOf 3)) = some (xs[0]'(by rw [h5]; decide)) := by rw [← List.getElem?_eq_getElem]; exact h6 0 _ rfl
  rw [c0] at g0
  obtain ⟨v0, e0, _, w0⟩ := DataW.trod_int Y3 g0
  have g1 : DataW.trod enc Tryz.prog W base sp held n 48 ((cs.drop 1).take (Tryz.prog.cellsOf 48)) = some (xs[1]'(by rw [h5]; decide)) := by rw [← List.getElem?_eq_getElem]; exact h6 1 _ rfl
  rw [c1] at g1
  obtain ⟨a1, e1, _, w1⟩ := DataW.trod_int Y48 g1
  obtain ⟨v1, rfl⟩ := Hw.u64_back w1
  have g2 : DataW.trod enc Tryz.prog W base sp held n 51 ((cs.drop 2).take (Tryz.prog.cellsOf 51)) = some (xs[2]'(by rw [h5]; decide)) := by rw [← List.getElem?_eq_getElem]; exact h6 2 _ rfl
  rw [c2] at g2
  obtain ⟨v2, b2, e2, q2⟩ := Hw.open_rowsS Y51 Y50 Y5 zK zK dE g2
  have g3 : DataW.trod enc Tryz.prog W base sp held n 51 ((cs.drop 3).take (Tryz.prog.cellsOf 51)) = some (xs[3]'(by rw [h5]; decide)) := by rw [← List.getElem?_eq_getElem]; exact h6 3 _ rfl
  rw [c3] at g3
  obtain ⟨v3, b3, e3, q3⟩ := Hw.open_rowsS Y51 Y50 Y5 zK zK dE g3
  have g4 : DataW.trod enc Tryz.prog W base sp held n 22 ((cs.drop 4).take (Tryz.prog.cellsOf 22)) = some (xs[4]'(by rw [h5]; decide)) := by rw [← List.getElem?_eq_getElem]; exact h6 4 _ rfl
  rw [c4] at g4
  obtain ⟨v4, b4, e4, q4⟩ := Block.openS Y22 zK g4
  have g5 : DataW.trod enc Tryz.prog W base sp held n 24 ((cs.drop 5).take (Tryz.prog.cellsOf 24)) = some (xs[5]'(by rw [h5]; decide)) := by rw [← List.getElem?_eq_getElem]; exact h6 5 _ rfl
  rw [c5] at g5
  obtain ⟨v5, b5, e5, q5⟩ := Vote.openS Y24 zK g5
  have g6 : DataW.trod enc Tryz.prog W base sp held n 25 ((cs.drop 6).take (Tryz.prog.cellsOf 25)) = some (xs[6]'(by rw [h5]; decide)) := by rw [← List.getElem?_eq_getElem]; exact h6 6 _ rfl
  rw [c6] at g6
  obtain ⟨v6, b6, e6, q6⟩ := Cut.openS Y25 zK g6
  have g7 : DataW.trod enc Tryz.prog W base sp held n 23 ((cs.drop 7).take (Tryz.prog.cellsOf 23)) = some (xs[7]'(by rw [h5]; decide)) := by rw [← List.getElem?_eq_getElem]; exact h6 7 _ rfl
  rw [c7] at g7
  obtain ⟨v7, b7, e7, q7⟩ := Cert.openS Y23 zK g7
  refine ⟨⟨v0, v1, v2, v3, v4, v5, v6, v7⟩, ⟨v0, v1, b2, b3, b4, b5, b6, b7⟩, ?_, ⟨⟨trivial⟩, rfl, w0, rfl, q2, q3, q4, q5, q6, q7⟩⟩
  rw [← List.drop_zero (l := cs)]
  exact (Hw.cat 1 e0 rfl (Hw.cat 2 e1 rfl (Hw.cat 3 e2 rfl (Hw.cat 4 e3 rfl (Hw.cat 5 e4 rfl (Hw.cat 6 e5 rfl (Hw.cat 7 e6 rfl (Hw.cat_last e7 h4))))))))
end
section
variable {H : Type} {enc : TypeId × Value → H} {W : World} {base : Nat} {sp : Nat → Bool} {held : Bool}
theorem Msg.openW {r : Reach} {b0 : Nat} {v : Value} {d : DataW H} {ps : List MemPlace} (hval : Value.okWide Tryz.prog W r b0 57 v) (hd : DataW.Trod enc Tryz.prog W base sp held 57 v d ps) : ∃ (x : Msg) (D : DMsg), v = agg x.cells ∧ MsgIs W x D := by
  simp only [Value.okWide, Y57] at hval
  obtain ⟨cs, rfl, _⟩ := hval
  obtain ⟨fuel, hf⟩ := hd
  obtain ⟨x, D, h2, h3⟩ := Msg.openD hf
  refine ⟨x, D, ?_, h3⟩
  simp only [Value.cells] at h2
  rw [agg, ← h2]
end
def MsgsAt (W : World) (s : Sl) (ds : List DMsg) : Prop := ∃ rs, SeqIs Msg.cells 8 MsgIs W s rs ds
section
variable {H : Type} {enc : TypeId × Value → H} {W : World} {base : Nat} {sp : Nat → Bool} {held : Bool}
theorem Msg.openS {t : TypeId} (hu : Tryz.prog.underlying t = some (.slice 57)) (hc : Tryz.prog.cellsOf 57 = 8) {fuel : Nat} {cs : List Value} {y : DataW H × List MemPlace} (h : DataW.trod enc Tryz.prog W base sp held fuel t cs = some y) : ∃ s ds, cs = [Sl.v s] ∧ MsgsAt W s ds := by
  obtain ⟨s, rs, ds, e, hs⟩ := open_seqS (cells := Msg.cells) (Is := MsgIs) hu hc dE (fun ht => by
    obtain ⟨r, d, e, hi⟩ := Msg.openD ht
    exact ⟨r, d, e, hi, Msg.length hi.ok⟩) h
  exact ⟨s, ds, e, rs, hs⟩
end
structure DRecord where
  dKind : UInt8
  dData : List UInt8
structure RecordIs (W : World) (x : Record) (d : DRecord) : Prop where
  ok : x.ok
  fKind : x.fKind = d.dKind
  fData : BytesAt W x.fData d.dData
theorem RecordIs.ext {C : Cx} {hp : List Blk} {w : World} {x : Record} {d : DRecord} (h : RecordIs C.W0 x d) (hh : HRep C hp w) (hl : C.lent = []) : RecordIs w x d := ⟨h.ok, h.fKind, bytes_ext hh hl h.fData⟩
section
variable {H : Type} {enc : TypeId × Value → H} {W : World} {base : Nat} {sp : Nat → Bool} {held : Bool}
theorem Record.openD {fuel : Nat} {cs : List Value} {y : DataW H × List MemPlace} (h : DataW.trod enc Tryz.prog W base sp held fuel 91 cs = some y) : ∃ (x : Record) (d : DRecord), cs = x.cells ∧ RecordIs W x d := by
  obtain ⟨xs, n, _, _, h4, h5, h6⟩ := DataW.trod_struct Y91 h
  rw [show Tryz.prog.cellsOf 91 = 2 by kernel_rfl] at h4
  have c0 : Tryz.prog.cellsOf 5 = 1 := by kernel_rfl
  have c1 : Tryz.prog.cellsOf 58 = 1 := by kernel_rfl
  have g0 : DataW.trod enc Tryz.prog W base sp held n 5 ((cs.drop 0).take (Tryz.prog.cellsOf 5)) = some (xs[0]'(by rw [h5]; decide)) := by rw [← List.getElem?_eq_getElem]; exact h6 0 _ rfl
  rw [c0] at g0
  obtain ⟨a0, e0, _, w0⟩ := DataW.trod_int Y5 g0
  obtain ⟨v0, rfl⟩ := Hw.u8_back w0
  have g1 : DataW.trod enc Tryz.prog W base sp held n 58 ((cs.drop 1).take (Tryz.prog.cellsOf 58)) = some (xs[1]'(by rw [h5]; decide)) := by rw [← List.getElem?_eq_getElem]; exact h6 1 _ rfl
  rw [c1] at g1
  obtain ⟨v1, b1, e1, q1⟩ := Hw.open_bytesS Y58 Y5 zK g1
  refine ⟨⟨v0, v1⟩, ⟨v0, b1⟩, ?_, ⟨⟨trivial⟩, rfl, q1⟩⟩
  rw [← List.drop_zero (l := cs)]
  exact (Hw.cat 1 e0 rfl (Hw.cat_last e1 h4))
end
section
variable {H : Type} {enc : TypeId × Value → H} {W : World} {base : Nat} {sp : Nat → Bool} {held : Bool}
theorem Record.openW {r : Reach} {b0 : Nat} {v : Value} {d : DataW H} {ps : List MemPlace} (hval : Value.okWide Tryz.prog W r b0 91 v) (hd : DataW.Trod enc Tryz.prog W base sp held 91 v d ps) : ∃ (x : Record) (D : DRecord), v = agg x.cells ∧ RecordIs W x D := by
  simp only [Value.okWide, Y91] at hval
  obtain ⟨cs, rfl, _⟩ := hval
  obtain ⟨fuel, hf⟩ := hd
  obtain ⟨x, D, h2, h3⟩ := Record.openD hf
  refine ⟨x, D, ?_, h3⟩
  simp only [Value.cells] at h2
  rw [agg, ← h2]
end
def RecordsAt (W : World) (s : Sl) (ds : List DRecord) : Prop := ∃ rs, SeqIs Record.cells 2 RecordIs W s rs ds
section
variable {H : Type} {enc : TypeId × Value → H} {W : World} {base : Nat} {sp : Nat → Bool} {held : Bool}
theorem Record.openS {t : TypeId} (hu : Tryz.prog.underlying t = some (.slice 91)) (hc : Tryz.prog.cellsOf 91 = 2) {fuel : Nat} {cs : List Value} {y : DataW H × List MemPlace} (h : DataW.trod enc Tryz.prog W base sp held fuel t cs = some y) : ∃ s ds, cs = [Sl.v s] ∧ RecordsAt W s ds := by
  obtain ⟨s, rs, ds, e, hs⟩ := open_seqS (cells := Record.cells) (Is := RecordIs) hu hc dE (fun ht => by
    obtain ⟨r, d, e, hi⟩ := Record.openD ht
    exact ⟨r, d, e, hi, Record.length hi.ok⟩) h
  exact ⟨s, ds, e, rs, hs⟩
end
structure DKept where
  dBlocks : List DB
  dCerts : List DCert
  dVotes : List Vote
  dCuts : List DCut
structure KeptIs (W : World) (x : Kept) (d : DKept) : Prop where
  ok : x.ok
  fBlocks : BlocksAt W x.fBlocks d.dBlocks
  fCerts : CertsAt W x.fCerts d.dCerts
  fVotes : VotesAt W x.fVotes d.dVotes
  fCuts : CutsAt W x.fCuts d.dCuts
theorem KeptIs.ext {C : Cx} {hp : List Blk} {w : World} {x : Kept} {d : DKept} (h : KeptIs C.W0 x d) (hh : HRep C hp w) (hl : C.lent = []) : KeptIs w x d := ⟨h.ok, Blocks_ext hh hl h.fBlocks, Certs_ext hh hl h.fCerts, Votes_ext hh hl h.fVotes, Cuts_ext hh hl h.fCuts⟩
section
variable {H : Type} {enc : TypeId × Value → H} {W : World} {base : Nat} {sp : Nat → Bool} {held : Bool}
theorem Kept.openD {fuel : Nat} {cs : List Value} {y : DataW H × List MemPlace} (h : DataW.trod enc Tryz.prog W base sp held fuel 27 cs = some y) : ∃ (x : Kept) (d : DKept), cs = x.cells ∧ KeptIs W x d := by
  obtain ⟨xs, n, _, _, h4, h5, h6⟩ := DataW.trod_struct Y27 h
  rw [show Tryz.prog.cellsOf 27 = 4 by kernel_rfl] at h4
  have c0 : Tryz.prog.cellsOf 22 = 1 := by kernel_rfl
  have c1 : Tryz.prog.cellsOf 23 = 1 := by kernel_rfl
  have c2 : Tryz.prog.cellsOf 24 = 1 := by kernel_rfl
  have c3 : Tryz.prog.cellsOf 25 = 1 := by kernel_rfl
  have g0 : DataW.trod enc Tryz.prog W base sp held n 22 ((cs.drop 0).take (Tryz.prog.cellsOf 22)) = some (xs[0]'(by rw [h5]; decide)) := by rw [← List.getElem?_eq_getElem]; exact h6 0 _ rfl
  rw [c0] at g0
  obtain ⟨v0, b0, e0, q0⟩ := Block.openS Y22 zK g0
  have g1 : DataW.trod enc Tryz.prog W base sp held n 23 ((cs.drop 1).take (Tryz.prog.cellsOf 23)) = some (xs[1]'(by rw [h5]; decide)) := by rw [← List.getElem?_eq_getElem]; exact h6 1 _ rfl
  rw [c1] at g1
  obtain ⟨v1, b1, e1, q1⟩ := Cert.openS Y23 zK g1
  have g2 : DataW.trod enc Tryz.prog W base sp held n 24 ((cs.drop 2).take (Tryz.prog.cellsOf 24)) = some (xs[2]'(by rw [h5]; decide)) := by rw [← List.getElem?_eq_getElem]; exact h6 2 _ rfl
  rw [c2] at g2
  obtain ⟨v2, b2, e2, q2⟩ := Vote.openS Y24 zK g2
  have g3 : DataW.trod enc Tryz.prog W base sp held n 25 ((cs.drop 3).take (Tryz.prog.cellsOf 25)) = some (xs[3]'(by rw [h5]; decide)) := by rw [← List.getElem?_eq_getElem]; exact h6 3 _ rfl
  rw [c3] at g3
  obtain ⟨v3, b3, e3, q3⟩ := Cut.openS Y25 zK g3
  refine ⟨⟨v0, v1, v2, v3⟩, ⟨b0, b1, b2, b3⟩, ?_, ⟨⟨trivial⟩, q0, q1, q2, q3⟩⟩
  rw [← List.drop_zero (l := cs)]
  exact (Hw.cat 1 e0 rfl (Hw.cat 2 e1 rfl (Hw.cat 3 e2 rfl (Hw.cat_last e3 h4))))
end
section
variable {H : Type} {enc : TypeId × Value → H} {W : World} {base : Nat} {sp : Nat → Bool} {held : Bool}
theorem Kept.openW {r : Reach} {b0 : Nat} {v : Value} {d : DataW H} {ps : List MemPlace} (hval : Value.okWide Tryz.prog W r b0 27 v) (hd : DataW.Trod enc Tryz.prog W base sp held 27 v d ps) : ∃ (x : Kept) (D : DKept), v = agg x.cells ∧ KeptIs W x D := by
  simp only [Value.okWide, Y27] at hval
  obtain ⟨cs, rfl, _⟩ := hval
  obtain ⟨fuel, hf⟩ := hd
  obtain ⟨x, D, h2, h3⟩ := Kept.openD hf
  refine ⟨x, D, ?_, h3⟩
  simp only [Value.cells] at h2
  rw [agg, ← h2]
end
def KeptsAt (W : World) (s : Sl) (ds : List DKept) : Prop := ∃ rs, SeqIs Kept.cells 4 KeptIs W s rs ds
section
variable {H : Type} {enc : TypeId × Value → H} {W : World} {base : Nat} {sp : Nat → Bool} {held : Bool}
theorem Kept.openS {t : TypeId} (hu : Tryz.prog.underlying t = some (.slice 27)) (hc : Tryz.prog.cellsOf 27 = 4) {fuel : Nat} {cs : List Value} {y : DataW H × List MemPlace} (h : DataW.trod enc Tryz.prog W base sp held fuel t cs = some y) : ∃ s ds, cs = [Sl.v s] ∧ KeptsAt W s ds := by
  obtain ⟨s, rs, ds, e, hs⟩ := open_seqS (cells := Kept.cells) (Is := KeptIs) hu hc dE (fun ht => by
    obtain ⟨r, d, e, hi⟩ := Kept.openD ht
    exact ⟨r, d, e, hi, Kept.length hi.ok⟩) h
  exact ⟨s, ds, e, rs, hs⟩
end
end Go.Proofs.YtdifpjmfabhpiaaGreat
end

section
namespace Go.Proofs.YtdifpjmfabhpiaaGreat
open Go Hw

def vheadB (V : Vote) : Bool := decide ((V.fHeight.toNat : Int) < 1) || (decide ((4294967295 : Int) < (V.fHeight.toNat : Int)) || decide ((20 : Int) < (V.fRound.toNat : Int)))
def vokB (V : Vote) : Bool := if V.fPhase = 1 then (!decide (V.fValue = List.replicate 32 0)) && decide ((V.fProof.toNat : Int) ≤ (V.fRound.toNat : Int)) else if V.fPhase = 2 ∨ V.fPhase = 3 then decide ((V.fProof.toNat : Int) = 0) else false
def Bw (V : Vote) : Int := if vheadB V = true then 2 else if vokB V = true then 0 else 2

theorem vote_check (V : Vote) (hV : V.ok) : Meets Tryz.prog 85 [agg V.cells] [] (fun _ => True) (fun v out => v = i64 (Bw V) ∧ out = []) := by
 intro W hW
 refine An Tryz.func85 rfl 40 Tryz.ntmps85 rfl ?_
 refine Sat.seq (Sat.region ?_)
 refine Tr.boxA rfl rfl ?_
 intro n1 hn1 hf1
 refine Tr.a rfl rfl rfl ?_
 refine Tr.nil (Aa (Sat.seq (Sat.seq (Sat.region ?_))))
 refine Tr.fld rfl rfl rfl Y81 rfl B1 dE _ rfl ?_
 refine Tr.load1 rfl rfl rfl Y48 rfl Z0 (by exact Vote.get_fHeight zA) ?_
 refine two (fun r hr k => Tr.lss rfl rfl rfl rfl hr k) (fun hs1_20 => ?_) (fun hs1_20 => ?_)
 ·
  have hs1_2 := of_decide_eq_true hs1_20
  refine Tr.m rfl rfl rfl ?_
  refine Tr.skp rfl rfl ?_
  refine Tr.skp rfl rfl ?_
  refine Tr.skp rfl rfl ?_
  refine Tr.pick rfl rfl rfl rfl rfl rfl ?_
  refine Tr.m rfl rfl rfl ?_
  refine Tr.skp rfl rfl ?_
  refine Tr.skp rfl rfl ?_
  refine Tr.skp rfl rfl ?_
  refine Tr.pick rfl rfl rfl rfl rfl rfl ?_
  refine Tr.nil (Aa ?_)
  refine Sat.cond_t rfl rfl ?_
  refine Sat.seq (Sat.region ?_)
  refine Tr.a rfl rfl rfl ?_
  refine Tr.nil (Aa (Sat.ret (Ao (Am ?_))))
  refine ⟨_, [], Ae rfl rfl, sP, sP, ?_, rfl⟩
  (unfold Bw vheadB vokB; simp_all; done)
 ·
  have hs1_2 := of_decide_eq_false hs1_20
  refine Tr.m rfl rfl rfl ?_
  refine Tr.fld rfl rfl rfl Y81 rfl B1 dE _ rfl ?_
  refine Tr.load1 rfl rfl rfl Y48 rfl Z0 (by exact Vote.get_fHeight zA) ?_
  refine two (fun r hr k => Tr.gtr rfl rfl rfl rfl hr k) (fun hs1_60 => ?_) (fun hs1_60 => ?_)
  ·
   have hs1_6 := of_decide_eq_true hs1_60
   refine Tr.pick rfl rfl rfl rfl rfl rfl ?_
   refine Tr.m rfl rfl rfl ?_
   refine Tr.skp rfl rfl ?_
   refine Tr.skp rfl rfl ?_
   refine Tr.skp rfl rfl ?_
   refine Tr.pick rfl rfl rfl rfl rfl rfl ?_
   refine Tr.nil (Aa ?_)
   refine Sat.cond_t rfl rfl ?_
   refine Sat.seq (Sat.region ?_)
   refine Tr.a rfl rfl rfl ?_
   refine Tr.nil (Aa (Sat.ret (Ao (Am ?_))))
   refine ⟨_, [], Ae rfl rfl, sP, sP, ?_, rfl⟩
   (unfold Bw vheadB vokB; simp_all; done)
  ·
   have hs1_6 := of_decide_eq_false hs1_60
   refine Tr.pick rfl rfl rfl rfl rfl rfl ?_
   refine Tr.m rfl rfl rfl ?_
   refine Tr.fld rfl rfl rfl Y81 rfl B1 dE _ rfl ?_
   refine Tr.load1 rfl rfl rfl Y48 rfl Z0 (by exact Vote.get_fRound zA) ?_
   refine Tr.gtr rfl rfl rfl rfl rfl ?_
   refine Tr.pick rfl rfl rfl rfl rfl rfl ?_
   refine Tr.nil (Aa ?_)
   refine Sat.condP rfl (fun hc0 => ?_) (fun hc0 => ?_)
   ·
    refine Sat.seq (Sat.region ?_)
    refine Tr.a rfl rfl rfl ?_
    refine Tr.nil (Aa (Sat.ret (Ao (Am ?_))))
    refine ⟨_, [], Ae rfl rfl, sP, sP, ?_, rfl⟩
    (unfold Bw vheadB vokB; simp_all; done)
   ·
    refine Sat.skip (Aa (Sat.seq (Sat.region ?_)))
    refine Tr.a rfl rfl rfl ?_
    refine Tr.nil (Aa (Sat.seq (Sat.seq (Sat.region ?_))))
    refine Tr.fld rfl rfl rfl Y81 rfl Sz3 dE _ rfl ?_
    refine Tr.load1 rfl rfl rfl Y3 rfl Z0 (by exact Vote.get_fPhase zA) ?_
    refine Tr.nil (Aa (Sat.block (Sat.seq (Sat.region ?_))))
    refine Tr.eqi rfl rfl rfl rfl rfl ?_
    refine Tr.a rfl rfl rfl ?_
    refine Tr.nil (Aa ?_)
    refine Sat.condP rfl (fun hc1 => ?_) (fun hc1 => ?_)
    ·
     refine Sat.region ?_
     refine Tr.fld rfl rfl rfl Y81 rfl Bb dE _ rfl ?_
     refine Tr.lN (Ab _) rfl rfl rfl Y50 rfl Bb Z0 (Vote.row_fValue zA) (Vote.rl_fValue zA) ?_
     refine Tr.build (cs := Ab (List.replicate 32 0)) rfl rfl rfl (fun w => by kernel_rfl) ?_
     refine two (fun r hr k => Tr.neq_bytes rfl rfl rfl rfl Tryz.eqGuardType50 Y50 Y5 Sz5 (by (simp [hV.l_fValue]; done)) sP hr k) (fun hs6_30 => ?_) (fun hs6_30 => ?_)
     ·
      have hs6_3 := A2 hs6_30
      refine Tr.m rfl rfl rfl ?_
      refine Tr.fld rfl rfl rfl Y81 rfl B1 dE _ rfl ?_
      refine Tr.load1 rfl rfl rfl Y48 rfl Z0 (by exact Vote.get_fProof zA) ?_
      refine Tr.fld rfl rfl rfl Y81 rfl B1 dE _ rfl ?_
      refine Tr.load1 rfl rfl rfl Y48 rfl Z0 (by exact Vote.get_fRound zA) ?_
      refine Tr.leq rfl rfl rfl rfl rfl ?_
      refine Tr.pick rfl rfl rfl rfl rfl rfl ?_
      refine Tr.a rfl rfl rfl ?_
      refine Tr.nil (B2 (Aa (Sat.seq (Sat.seq (Sat.region ?_)))))
      refine Tr.m rfl rfl rfl ?_
      refine Tr.not rfl rfl rfl ?_
      refine Tr.nil (Aa ?_)
      refine Sat.condNP rfl (fun hc4 => ?_) (fun hc4 => ?_)
      ·
       refine Sat.seq (Sat.region ?_)
       refine Tr.a rfl rfl rfl ?_
       refine Tr.nil (Aa (Sat.ret (Ao (Am ?_))))
       refine ⟨_, [], Ae rfl rfl, sP, sP, ?_, rfl⟩
       (unfold Bw vheadB vokB; simp_all; done)
      ·
       refine Sat.skip (Aa (Sat.seq (Sat.region ?_)))
       refine Tr.a rfl rfl rfl ?_
       refine Tr.nil (Aa (Sat.ret (Am ?_)))
       refine ⟨_, [], Ae rfl rfl, sP, sP, ?_, rfl⟩
       (unfold Bw vheadB vokB; simp_all; done)
     ·
      have hs6_3 := A3 hs6_30
      refine Tr.m rfl rfl rfl ?_
      refine Tr.skp rfl rfl ?_
      refine Tr.skp rfl rfl ?_
      refine Tr.skp rfl rfl ?_
      refine Tr.skp rfl rfl ?_
      refine Tr.skp rfl rfl ?_
      refine Tr.pick rfl rfl rfl rfl rfl rfl ?_
      refine Tr.a rfl rfl rfl ?_
      refine Tr.nil (B2 (Aa (Sat.seq (Sat.seq (Sat.region ?_)))))
      refine Tr.m rfl rfl rfl ?_
      refine Tr.not rfl rfl rfl ?_
      refine Tr.nil (Aa ?_)
      refine Sat.cond_t rfl rfl ?_
      refine Sat.seq (Sat.region ?_)
      refine Tr.a rfl rfl rfl ?_
      refine Tr.nil (Aa (Sat.ret (Ao (Am ?_))))
      refine ⟨_, [], Ae rfl rfl, sP, sP, ?_, rfl⟩
      (unfold Bw vheadB vokB; simp_all; done)
    ·
     refine Sat.seq (Sat.seq (Sat.region ?_))
     refine Tr.eqi rfl rfl rfl rfl rfl ?_
     refine Tr.a rfl rfl rfl ?_
     refine Tr.nil (Aa ?_)
     refine Sat.condP rfl (fun hc2 => ?_) (fun hc2 => ?_)
     ·
      refine Sat.skip (Aa ?_)
      refine Sat.condP rfl (fun hc3 => ?_) (fun hc3 => ?_)
      ·
       refine Sat.region ?_
       refine Tr.fld rfl rfl rfl Y81 rfl B1 dE _ rfl ?_
       refine Tr.load1 rfl rfl rfl Y48 rfl Z0 (by exact Vote.get_fProof zA) ?_
       refine Tr.eqi rfl rfl rfl rfl rfl ?_
       refine Tr.a rfl rfl rfl ?_
       refine Tr.nil (B2 (Aa (Sat.seq (Sat.seq (Sat.region ?_)))))
       refine Tr.m rfl rfl rfl ?_
       refine Tr.not rfl rfl rfl ?_
       refine Tr.nil (Aa ?_)
       refine Sat.condNP rfl (fun hc4 => ?_) (fun hc4 => ?_)
       ·
        refine Sat.seq (Sat.region ?_)
        refine Tr.a rfl rfl rfl ?_
        refine Tr.nil (Aa (Sat.ret (Ao (Am ?_))))
        refine ⟨_, [], Ae rfl rfl, sP, sP, ?_, rfl⟩
        (unfold Bw vheadB vokB; simp_all; done)
       ·
        refine Sat.skip (Aa (Sat.seq (Sat.region ?_)))
        refine Tr.a rfl rfl rfl ?_
        refine Tr.nil (Aa (Sat.ret (Am ?_)))
        refine ⟨_, [], Ae rfl rfl, sP, sP, ?_, rfl⟩
        (unfold Bw vheadB vokB; simp_all; done)
      ·
       refine Sat.skip (B2 (Aa (Sat.seq (Sat.seq (Sat.region ?_)))))
       refine Tr.m rfl rfl rfl ?_
       refine Tr.not rfl rfl rfl ?_
       refine Tr.nil (Aa ?_)
       refine Sat.cond_t rfl rfl ?_
       refine Sat.seq (Sat.region ?_)
       refine Tr.a rfl rfl rfl ?_
       refine Tr.nil (Aa (Sat.ret (Ao (Am ?_))))
       refine ⟨_, [], Ae rfl rfl, sP, sP, ?_, rfl⟩
       (unfold Bw vheadB vokB; simp_all; done)
     ·
      refine Sat.region ?_
      refine Tr.eqi rfl rfl rfl rfl rfl ?_
      refine Tr.a rfl rfl rfl ?_
      refine Tr.nil (Aa ?_)
      refine Sat.condP rfl (fun hc3 => ?_) (fun hc3 => ?_)
      ·
       refine Sat.region ?_
       refine Tr.fld rfl rfl rfl Y81 rfl B1 dE _ rfl ?_
       refine Tr.load1 rfl rfl rfl Y48 rfl Z0 (by exact Vote.get_fProof zA) ?_
       refine Tr.eqi rfl rfl rfl rfl rfl ?_
       refine Tr.a rfl rfl rfl ?_
       refine Tr.nil (B2 (Aa (Sat.seq (Sat.seq (Sat.region ?_)))))
       refine Tr.m rfl rfl rfl ?_
       refine Tr.not rfl rfl rfl ?_
       refine Tr.nil (Aa ?_)
       refine Sat.condNP rfl (fun hc4 => ?_) (fun hc4 => ?_)
       ·
        refine Sat.seq (Sat.region ?_)
        refine Tr.a rfl rfl rfl ?_
        refine Tr.nil (Aa (Sat.ret (Ao (Am ?_))))
        refine ⟨_, [], Ae rfl rfl, sP, sP, ?_, rfl⟩
        (unfold Bw vheadB vokB; simp_all; done)
       ·
        refine Sat.skip (Aa (Sat.seq (Sat.region ?_)))
        refine Tr.a rfl rfl rfl ?_
        refine Tr.nil (Aa (Sat.ret (Am ?_)))
        refine ⟨_, [], Ae rfl rfl, sP, sP, ?_, rfl⟩
        (unfold Bw vheadB vokB; simp_all; done)
      ·
       refine Sat.skip (B2 (Aa (Sat.seq (Sat.seq (Sat.region ?_)))))
       refine Tr.m rfl rfl rfl ?_
       refine Tr.not rfl rfl rfl ?_
       refine Tr.nil (Aa ?_)
       refine Sat.cond_t rfl rfl ?_
       refine Sat.seq (Sat.region ?_)
       refine Tr.a rfl rfl rfl ?_
       refine Tr.nil (Aa (Sat.ret (Ao (Am ?_))))
       refine ⟨_, [], Ae rfl rfl, sP, sP, ?_, rfl⟩
       (unfold Bw vheadB vokB; simp_all; done)

end Go.Proofs.YtdifpjmfabhpiaaGreat
end

section
namespace Go.Proofs.YtdifpjmfabhpiaaGreat
open Go Hw

def lastH (ls : List (List UInt8)) (k : Nat) : List UInt8 := if k = 0 then List.replicate 32 0 else ls.getD (k - 1) []
theorem lastH_succ (ls : List (List UInt8)) (k : Nat) : lastH ls (k + 1) = ls.getD k [] := by simp [lastH]
def headBad (ls : List (List UInt8)) (k : Nat) : Bool := decide ((0 : Int) ≤ cmpB (lastH ls k) (ls.getD k []))
def headsBad (ls : List (List UInt8)) : Bool := (List.range ls.length).any (headBad ls)
theorem headsBad_at {ls : List (List UInt8)} {k : Nat} (hk : k < ls.length) (h : headBad ls k = true) : headsBad ls = true := by
  rw [headsBad, List.any_eq_true]; exact ⟨k, List.mem_range.2 hk, h⟩
theorem headsBad_not {ls : List (List UInt8)} (h : ∀ j, j < ls.length → headBad ls j = false) : headsBad ls = false := by
  rw [headsBad, List.any_eq_false]; intro x hx; rw [h x (List.mem_range.1 hx)]; simp
def cheadB (h : UInt64) (prev : List UInt8) (n : Nat) : Bool := decide ((h.toNat : Int) < 1) || (decide ((4294967295 : Int) < (h.toNat : Int)) || (!decide (decide (prev = List.replicate 32 0) = decide ((h.toNat : Int) = 1)) || (decide ((n : Int) < 1) || decide ((32 : Int) < (n : Int)))))
def DCut.check (D : DCut) : Int := if cheadB D.dHeight D.dPrev D.dHeads.length = true then 2 else if headsBad D.dHeads = true then 2 else 0
theorem cut_bad1 {D : DCut} (h : cheadB D.dHeight D.dPrev D.dHeads.length = true) : D.check = 2 := if_pos h
theorem cut_bad2 {D : DCut} (h : ¬ cheadB D.dHeight D.dPrev D.dHeads.length = true) (hb : headsBad D.dHeads = true) : D.check = 2 := by unfold DCut.check; rw [if_neg h, if_pos hb]
theorem cut_good {D : DCut} (h : ¬ cheadB D.dHeight D.dPrev D.dHeads.length = true) (hb : headsBad D.dHeads = false) : D.check = 0 := by unfold DCut.check; rw [if_neg h, if_neg (by rw [hb]; simp)]

theorem cut_check (C : Cut) (D : DCut) : Meets Tryz.prog 87 [agg C.cells] [] (fun W => CutIs W C D) (fun v out => v = i64 D.check ∧ out = []) := by
 intro W hW
 have hB := hW.ok
 have hcx : C.fHeads.n ≤ maxLen := hW.fHeads.max
 simp only [maxLen] at hcx
 have hcn := hW.fHeads.cap
 have hll := hW.fHeads.len
 have eH := hW.fHeight
 have eP := hW.fPrev
 have hlst : True := trivial
 refine An Tryz.func87 rfl 52 Tryz.ntmps87 rfl ?_
 refine Sat.seq (Sat.region ?_)
 refine Tr.boxA rfl rfl ?_
 intro n1 hn1 hf1
 refine Tr.a rfl rfl rfl ?_
 refine Tr.nil (Aa (Sat.seq (Sat.region ?_)))
 refine Tr.build (cs := Ab (List.replicate 32 0)) rfl rfl rfl (fun w => by kernel_rfl) ?_
 refine Tr.alloc (cs := (Ab (List.replicate 32 0))) rfl Zr50 rfl ?_
 intro n3 hn3 hf3
 first
  | refine Tr.sA rfl rfl rfl rfl cB Bb (by first | (simp [hB.l_fPrev, hlst]; done) | assumption | (rw [Ab, List.length_map]; assumption)) mM (by first | (simp [hB.l_fPrev, hlst]; done) | assumption | (rw [Ab, List.length_map]; assumption)) uU ?_
  | refine Tr.storeN _ rfl rfl rfl rfl rfl cB Bb (by first | (simp [hB.l_fPrev, hlst]; done) | assumption | (rw [Ab, List.length_map]; assumption)) mM (by first | (simp [hB.l_fPrev, hlst]; done) | assumption | (rw [Ab, List.length_map]; assumption)) (by exact rfl) uU ?_
 refine Tr.nil (Aa (Sat.seq (Sat.seq ?_)))
 refine Sat.draw [(0, 0), (1, 1), (0, 2), (0, 3), (0, 4), (1, 5), (0, 6), (0, 7), (0, 8), (0, 9), (1, 10), (1, 11), (0, 12), (0, 13), (1, 14), (0, 15), (0, 16), (0, 17), (0, 18), (0, 19), (1, 20), (0, 21), (0, 22), (0, 23), (0, 24), (0, 25), (1, 26), (0, 27), (0, 28), (0, 29)] Bv zK ?_
 refine Tr.fld rfl rfl rfl Y53 rfl B1 dE _ rfl ?_
 refine Tr.load1 rfl rfl rfl Y48 rfl mM (by first | exact Cut.get_fHeight (by first | (simp [hB.l_fPrev, hlst]; done) | exact oK  | exact hW.ok) | exact (by first | rfl | exact Az (by first | omega | (simp [hB.l_fPrev, hlst]; done) | (simp [hB.l_fPrev, hlst]; omega)) | exact A9 (by first | omega | (simp [hB.l_fPrev, hlst]; done) | (simp [hB.l_fPrev, hlst]; omega)) | exact Bp (by first | omega | (simp [hB.l_fPrev, hlst]; done) | (simp [hB.l_fPrev, hlst]; omega)))) ?_
 refine two (fun r hr k => Tr.lss rfl rfl rfl rfl hr k) (fun hs2_20 => ?_) (fun hs2_20 => ?_)
 ·
  first | have hs2_2 := of_decide_eq_true hs2_20 | have hs2_2 := of_decide_eq_false hs2_20 | have hs2_2 := A2 hs2_20 | have hs2_2 := A3 hs2_20 | have hs2_2 := hs2_20
  refine Tr.m rfl rfl rfl ?_
  refine Tr.skp rfl rfl ?_
  refine Tr.skp rfl rfl ?_
  refine Tr.skp rfl rfl ?_
  refine Tr.pick rfl rfl rfl rfl rfl rfl ?_
  refine Tr.m rfl rfl rfl ?_
  refine Tr.skp rfl rfl ?_
  refine Tr.skp rfl rfl ?_
  refine Tr.skp rfl rfl ?_
  refine Tr.skp rfl rfl ?_
  refine Tr.skp rfl rfl ?_
  refine Tr.skp rfl rfl ?_
  refine Tr.skp rfl rfl ?_
  refine Tr.skp rfl rfl ?_
  refine Tr.pick rfl rfl rfl rfl rfl rfl ?_
  refine Tr.m rfl rfl rfl ?_
  refine Tr.skp rfl rfl ?_
  refine Tr.skp rfl rfl ?_
  refine Tr.skp rfl rfl ?_
  refine Tr.skp rfl rfl ?_
  refine Tr.pick rfl rfl rfl rfl rfl rfl ?_
  refine Tr.m rfl rfl rfl ?_
  refine Tr.skp rfl rfl ?_
  refine Tr.skp rfl rfl ?_
  refine Tr.skp rfl rfl ?_
  refine Tr.skp rfl rfl ?_
  refine Tr.pick rfl rfl rfl rfl rfl rfl ?_
  refine Tr.nil (Aa ?_)
  refine Sat.cond_t rfl rfl ?_
  refine Sat.seq (Sat.region ?_)
  refine Tr.a rfl rfl rfl ?_
  refine Tr.nil (Aa (Sat.ret (Ao (Am ?_))))
  refine ⟨_, [], Ae rfl rfl, sP, sP, ?_, rfl⟩
  first
   | exact congrArg i64 (cut_good hnb (headsBad_not (by rw [hll]; exact hg))).symm
   | exact congrArg i64 (cut_bad2 hnb (headsBad_at (k := p.1) oM (by unfold headBad; rw [← hle]; exact decide_eq_true hc2))).symm
   | exact congrArg i64 (cut_bad1 (by unfold cheadB; simp_all)).symm
 ·
  first | have hs2_2 := of_decide_eq_true hs2_20 | have hs2_2 := of_decide_eq_false hs2_20 | have hs2_2 := A2 hs2_20 | have hs2_2 := A3 hs2_20 | have hs2_2 := hs2_20
  refine Tr.m rfl rfl rfl ?_
  refine Tr.fld rfl rfl rfl Y53 rfl B1 dE _ rfl ?_
  refine Tr.load1 rfl rfl rfl Y48 rfl mM (by first | exact Cut.get_fHeight (by first | (simp [hB.l_fPrev, hlst]; done) | exact oK  | exact hW.ok) | exact (by first | rfl | exact Az (by first | omega | (simp [hB.l_fPrev, hlst]; done) | (simp [hB.l_fPrev, hlst]; omega)) | exact A9 (by first | omega | (simp [hB.l_fPrev, hlst]; done) | (simp [hB.l_fPrev, hlst]; omega)) | exact Bp (by first | omega | (simp [hB.l_fPrev, hlst]; done) | (simp [hB.l_fPrev, hlst]; omega)))) ?_
  refine two (fun r hr k => Tr.gtr rfl rfl rfl rfl hr k) (fun hs2_60 => ?_) (fun hs2_60 => ?_)
  ·
   first | have hs2_6 := of_decide_eq_true hs2_60 | have hs2_6 := of_decide_eq_false hs2_60 | have hs2_6 := A2 hs2_60 | have hs2_6 := A3 hs2_60 | have hs2_6 := hs2_60
   refine Tr.pick rfl rfl rfl rfl rfl rfl ?_
   refine Tr.m rfl rfl rfl ?_
   refine Tr.skp rfl rfl ?_
   refine Tr.skp rfl rfl ?_
   refine Tr.skp rfl rfl ?_
   refine Tr.skp rfl rfl ?_
   refine Tr.skp rfl rfl ?_
   refine Tr.skp rfl rfl ?_
   refine Tr.skp rfl rfl ?_
   refine Tr.skp rfl rfl ?_
   refine Tr.pick rfl rfl rfl rfl rfl rfl ?_
   refine Tr.m rfl rfl rfl ?_
   refine Tr.skp rfl rfl ?_
   refine Tr.skp rfl rfl ?_
   refine Tr.skp rfl rfl ?_
   refine Tr.skp rfl rfl ?_
   refine Tr.pick rfl rfl rfl rfl rfl rfl ?_
   refine Tr.m rfl rfl rfl ?_
   refine Tr.skp rfl rfl ?_
   refine Tr.skp rfl rfl ?_
   refine Tr.skp rfl rfl ?_
   refine Tr.skp rfl rfl ?_
   refine Tr.pick rfl rfl rfl rfl rfl rfl ?_
   refine Tr.nil (Aa ?_)
   refine Sat.cond_t rfl rfl ?_
   refine Sat.seq (Sat.region ?_)
   refine Tr.a rfl rfl rfl ?_
   refine Tr.nil (Aa (Sat.ret (Ao (Am ?_))))
   refine ⟨_, [], Ae rfl rfl, sP, sP, ?_, rfl⟩
   first
    | exact congrArg i64 (cut_good hnb (headsBad_not (by rw [hll]; exact hg))).symm
    | exact congrArg i64 (cut_bad2 hnb (headsBad_at (k := p.1) oM (by unfold headBad; rw [← hle]; exact decide_eq_true hc2))).symm
    | exact congrArg i64 (cut_bad1 (by unfold cheadB; simp_all)).symm
  ·
   first | have hs2_6 := of_decide_eq_true hs2_60 | have hs2_6 := of_decide_eq_false hs2_60 | have hs2_6 := A2 hs2_60 | have hs2_6 := A3 hs2_60 | have hs2_6 := hs2_60
   refine Tr.pick rfl rfl rfl rfl rfl rfl ?_
   refine Tr.m rfl rfl rfl ?_
   refine Tr.fld rfl rfl rfl Y53 rfl Bb dE _ rfl ?_
   first
    | refine Tr.lN (Ab _) rfl rfl rfl Y50 rfl Bb mM (Cut.row_fPrev (by first | (simp [hB.l_fPrev, hlst]; done) | exact oK  | exact hW.ok)) (Cut.rl_fPrev (by first | (simp [hB.l_fPrev, hlst]; done) | exact oK  | exact hW.ok)) ?_
   first
    | refine Tr.lA rfl rfl rfl Y50 rfl Bb mM (by first | (simp [hB.l_fPrev, hlst]; done) | assumption | (rw [Ab, List.length_map]; assumption)) ?_
    | refine Tr.lN _ rfl rfl rfl Y50 rfl Bb mM (by exact rfl) (by first | (simp [hB.l_fPrev, hlst]; done) | assumption | (rw [Ab, List.length_map]; assumption)) ?_
   refine Tr.eql_bytes rfl rfl rfl rfl Tryz.eqGuardType50 Y50 Y5 Sz5 (by first | (simp [hB.l_fPrev, hlst]; done) | assumption | (rw [Ab, List.length_map]; assumption)) (by first | (simp [hB.l_fPrev, hlst]; done) | assumption | (rw [Ab, List.length_map]; assumption)) rfl ?_
   refine Tr.fld rfl rfl rfl Y53 rfl B1 dE _ rfl ?_
   refine Tr.load1 rfl rfl rfl Y48 rfl mM (by first | exact Cut.get_fHeight (by first | (simp [hB.l_fPrev, hlst]; done) | exact oK  | exact hW.ok) | exact (by first | rfl | exact Az (by first | omega | (simp [hB.l_fPrev, hlst]; done) | (simp [hB.l_fPrev, hlst]; omega)) | exact A9 (by first | omega | (simp [hB.l_fPrev, hlst]; done) | (simp [hB.l_fPrev, hlst]; omega)) | exact Bp (by first | omega | (simp [hB.l_fPrev, hlst]; done) | (simp [hB.l_fPrev, hlst]; omega)))) ?_
   refine Tr.eqi rfl rfl rfl rfl rfl ?_
   refine two (fun r hr k => Tr.neb rfl rfl rfl rfl Tryz.underlying4 hr k) (fun hs2_160 => ?_) (fun hs2_160 => ?_)
   ·
    first | have hs2_16 := of_decide_eq_true hs2_160 | have hs2_16 := of_decide_eq_false hs2_160 | have hs2_16 := A2 hs2_160 | have hs2_16 := A3 hs2_160 | have hs2_16 := hs2_160
    refine Tr.pick rfl rfl rfl rfl rfl rfl ?_
    refine Tr.m rfl rfl rfl ?_
    refine Tr.skp rfl rfl ?_
    refine Tr.skp rfl rfl ?_
    refine Tr.skp rfl rfl ?_
    refine Tr.skp rfl rfl ?_
    refine Tr.pick rfl rfl rfl rfl rfl rfl ?_
    refine Tr.m rfl rfl rfl ?_
    refine Tr.skp rfl rfl ?_
    refine Tr.skp rfl rfl ?_
    refine Tr.skp rfl rfl ?_
    refine Tr.skp rfl rfl ?_
    refine Tr.pick rfl rfl rfl rfl rfl rfl ?_
    refine Tr.nil (Aa ?_)
    refine Sat.cond_t rfl rfl ?_
    refine Sat.seq (Sat.region ?_)
    refine Tr.a rfl rfl rfl ?_
    refine Tr.nil (Aa (Sat.ret (Ao (Am ?_))))
    refine ⟨_, [], Ae rfl rfl, sP, sP, ?_, rfl⟩
    first
     | exact congrArg i64 (cut_good hnb (headsBad_not (by rw [hll]; exact hg))).symm
     | exact congrArg i64 (cut_bad2 hnb (headsBad_at (k := p.1) oM (by unfold headBad; rw [← hle]; exact decide_eq_true hc2))).symm
     | exact congrArg i64 (cut_bad1 (by unfold cheadB; simp_all)).symm
   ·
    first | have hs2_16 := of_decide_eq_true hs2_160 | have hs2_16 := of_decide_eq_false hs2_160 | have hs2_16 := A2 hs2_160 | have hs2_16 := A3 hs2_160 | have hs2_16 := hs2_160
    refine Tr.pick rfl rfl rfl rfl rfl rfl ?_
    refine Tr.m rfl rfl rfl ?_
    refine Tr.fld rfl rfl rfl Y53 rfl Sz51 dE _ rfl ?_
    refine Tr.load1 rfl rfl rfl Y51 rfl mM (by first | exact Cut.get_fHeads (by first | (simp [hB.l_fPrev, hlst]; done) | exact oK  | exact hW.ok) | exact (by first | rfl | exact Az (by first | omega | (simp [hB.l_fPrev, hlst]; done) | (simp [hB.l_fPrev, hlst]; omega)) | exact A9 (by first | omega | (simp [hB.l_fPrev, hlst]; done) | (simp [hB.l_fPrev, hlst]; omega)) | exact Bp (by first | omega | (simp [hB.l_fPrev, hlst]; done) | (simp [hB.l_fPrev, hlst]; omega)))) ?_
    refine Tr.lenSl rfl rfl rfl Y51 ?_
    refine two (fun r hr k => Tr.lss rfl rfl rfl rfl hr k) (fun hs2_220 => ?_) (fun hs2_220 => ?_)
    ·
     first | have hs2_22 := of_decide_eq_true hs2_220 | have hs2_22 := of_decide_eq_false hs2_220 | have hs2_22 := A2 hs2_220 | have hs2_22 := A3 hs2_220 | have hs2_22 := hs2_220
     refine Tr.pick rfl rfl rfl rfl rfl rfl ?_
     refine Tr.m rfl rfl rfl ?_
     refine Tr.skp rfl rfl ?_
     refine Tr.skp rfl rfl ?_
     refine Tr.skp rfl rfl ?_
     refine Tr.skp rfl rfl ?_
     refine Tr.pick rfl rfl rfl rfl rfl rfl ?_
     refine Tr.nil (Aa ?_)
     refine Sat.cond_t rfl rfl ?_
     refine Sat.seq (Sat.region ?_)
     refine Tr.a rfl rfl rfl ?_
     refine Tr.nil (Aa (Sat.ret (Ao (Am ?_))))
     refine ⟨_, [], Ae rfl rfl, sP, sP, ?_, rfl⟩
     first
      | exact congrArg i64 (cut_good hnb (headsBad_not (by rw [hll]; exact hg))).symm
      | exact congrArg i64 (cut_bad2 hnb (headsBad_at (k := p.1) oM (by unfold headBad; rw [← hle]; exact decide_eq_true hc2))).symm
      | exact congrArg i64 (cut_bad1 (by unfold cheadB; simp_all)).symm
    ·
     first | have hs2_22 := of_decide_eq_true hs2_220 | have hs2_22 := of_decide_eq_false hs2_220 | have hs2_22 := A2 hs2_220 | have hs2_22 := A3 hs2_220 | have hs2_22 := hs2_220
     refine Tr.pick rfl rfl rfl rfl rfl rfl ?_
     refine Tr.m rfl rfl rfl ?_
     refine Tr.fld rfl rfl rfl Y53 rfl Sz51 dE _ rfl ?_
     refine Tr.load1 rfl rfl rfl Y51 rfl mM (by first | exact Cut.get_fHeads (by first | (simp [hB.l_fPrev, hlst]; done) | exact oK  | exact hW.ok) | exact (by first | rfl | exact Az (by first | omega | (simp [hB.l_fPrev, hlst]; done) | (simp [hB.l_fPrev, hlst]; omega)) | exact A9 (by first | omega | (simp [hB.l_fPrev, hlst]; done) | (simp [hB.l_fPrev, hlst]; omega)) | exact Bp (by first | omega | (simp [hB.l_fPrev, hlst]; done) | (simp [hB.l_fPrev, hlst]; omega)))) ?_
     refine Tr.lenSl rfl rfl rfl Y51 ?_
     refine Tr.gtr rfl rfl rfl rfl rfl ?_
     refine Tr.pick rfl rfl rfl rfl rfl rfl ?_
     refine Tr.nil (Aa ?_)
     first
      | refine Sat.condP rfl (fun hc0 => ?_) (fun hc0 => ?_)
      | refine Sat.condNP rfl (fun hc0 => ?_) (fun hc0 => ?_)
      | refine Sat.cond rfl (fun hc0 => ?_) (fun hc0 => ?_)
     ·
      refine Sat.seq (Sat.region ?_)
      refine Tr.a rfl rfl rfl ?_
      refine Tr.nil (Aa (Sat.ret (Ao (Am ?_))))
      refine ⟨_, [], Ae rfl rfl, sP, sP, ?_, rfl⟩
      first
       | exact congrArg i64 (cut_good hnb (headsBad_not (by rw [hll]; exact hg))).symm
       | exact congrArg i64 (cut_bad2 hnb (headsBad_at (k := p.1) oM (by unfold headBad; rw [← hle]; exact decide_eq_true hc2))).symm
       | exact congrArg i64 (cut_bad1 (by unfold cheadB; simp_all)).symm
     ·
      have hnb : ¬ cheadB D.dHeight D.dPrev D.dHeads.length = true := by unfold cheadB; simp_all
      refine Sat.skip (Aa (Sat.seq (Sat.region ?_)))
      first
       | refine Tr.lA rfl rfl rfl Y50 rfl Bb mM (by first | (simp [hB.l_fPrev, hlst]; done) | assumption | (rw [Ab, List.length_map]; assumption)) ?_
       | refine Tr.lN _ rfl rfl rfl Y50 rfl Bb mM (by exact rfl) (by first | (simp [hB.l_fPrev, hlst]; done) | assumption | (rw [Ab, List.length_map]; assumption)) ?_
      refine Tr.alloc (cs := (Ab (List.replicate 32 0))) rfl Zr50 rfl ?_
      intro n4 hn4 hf4
      first
       | refine Tr.sA rfl rfl rfl rfl cB Bb (by first | (simp [hB.l_fPrev, hlst]; done) | assumption | (rw [Ab, List.length_map]; assumption)) mM (by first | (simp [hB.l_fPrev, hlst]; done) | assumption | (rw [Ab, List.length_map]; assumption)) uU ?_
       | refine Tr.storeN _ rfl rfl rfl rfl rfl cB Bb (by first | (simp [hB.l_fPrev, hlst]; done) | assumption | (rw [Ab, List.length_map]; assumption)) mM (by first | (simp [hB.l_fPrev, hlst]; done) | assumption | (rw [Ab, List.length_map]; assumption)) (by exact rfl) uU ?_
      refine Tr.nil (Aa (Sat.seq (Sat.seq (Sat.region ?_))))
      refine Tr.fld rfl rfl rfl Y53 rfl Sz51 dE _ rfl ?_
      refine Tr.load1 rfl rfl rfl Y51 rfl mM (by first | exact Cut.get_fHeads (by first | (simp [hB.l_fPrev, hlst]; done) | exact oK  | exact hW.ok) | exact (by first | rfl | exact Az (by first | omega | (simp [hB.l_fPrev, hlst]; done) | (simp [hB.l_fPrev, hlst]; omega)) | exact A9 (by first | omega | (simp [hB.l_fPrev, hlst]; done) | (simp [hB.l_fPrev, hlst]; omega)) | exact Bp (by first | omega | (simp [hB.l_fPrev, hlst]; done) | (simp [hB.l_fPrev, hlst]; omega)))) ?_
      refine Tr.lenSl rfl rfl rfl Y51 ?_
      refine Tr.m rfl rfl rfl ?_
      refine Tr.nil (Aa (Sat.block ?_))
      refine Sat.loop (ι := Nat × List UInt8) (fun p => ⟨[(1, ptr n1 0), (4, ptr n4 0), (40, C.fHeads.v), (41, i64 (C.fHeads.n : Int)), (42, i64 (p.1 : Int))], [⟨n4, Ab p.2, 50, 32⟩, ⟨n1, C.cells, 53, C.cells.length⟩]⟩) (fun p => p.1 ≤ C.fHeads.n ∧ (∀ j, j < p.1 → headBad D.dHeads j = false) ∧ p.2 = lastH D.dHeads p.1 ∧ p.2.length = 32) (fun p => C.fHeads.n - p.1) ((0, List.replicate 32 0)) ?_ ?_ ?_
      · exact ⟨Nat.zero_le _, fun j hj => absurd hj (Nat.not_lt_zero _), rfl, by simp⟩
      · exact Ar (wk1 rfl (wk1 rfl (wk1 rfl (wk1 rfl (wk1 rfl wk0))))) (wh1 mM (wh1 mM wh0)) nD
      ·
       rintro p ⟨hk, hg, hle, hlst⟩
       refine Sat.seq (Sat.region ?_)
       refine Tr.lss rfl rfl rfl rfl rfl ?_
       refine Tr.nil (Aa (Sat.seq ?_))
       first
        | refine Sat.condP rfl (fun hc1 => ?_) (fun hc1 => ?_)
        | refine Sat.condNP rfl (fun hc1 => ?_) (fun hc1 => ?_)
        | refine Sat.cond rfl (fun hc1 => ?_) (fun hc1 => ?_)
       ·
        have hk2 : p.1 < C.fHeads.n := by omega
        obtain ⟨b, o, hbp, hbs⟩ := hW.fHeads.see.at (by rw [B7 hW.fHeads.row]; omega)
        have hr0 : (D.dHeads.getD p.1 []).length = 32 := getD_len hW.fHeads.row oM
        refine Sat.skip (Aa (Sat.seq (Sat.block (Sat.seq (Sat.region ?_)))))
        refine Tr.idxSlP 32 rfl rfl rfl hbp rfl Y51 Bb p.1 rfl oM ?_
        refine Tr.loadEN (Ab (D.dHeads.getD (p.1) [])) rfl rfl rfl Y50 rfl Bb sP (by rw [Ab, List.length_map]; exact getD_len hW.fHeads.row (by rw [hW.fHeads.len]; omega)) (sees_row hW.fHeads.row hbs (by rw [hW.fHeads.len]; omega)) ?_
        refine Tr.alloc (cs := (Ab (List.replicate 32 0))) rfl Zr50 rfl ?_
        intro n6 hn6 hf6
        first
         | refine Tr.sA rfl rfl rfl rfl cB Bb (by first | (simp [hB.l_fPrev, hlst]; done) | assumption | (rw [Ab, List.length_map]; assumption)) mM (by first | (simp [hB.l_fPrev, hlst]; done) | assumption | (rw [Ab, List.length_map]; assumption)) uU ?_
         | refine Tr.storeN _ rfl rfl rfl rfl rfl cB Bb (by first | (simp [hB.l_fPrev, hlst]; done) | assumption | (rw [Ab, List.length_map]; assumption)) mM (by first | (simp [hB.l_fPrev, hlst]; done) | assumption | (rw [Ab, List.length_map]; assumption)) (by exact rfl) uU ?_
        refine Tr.nil (Aa (Sat.seq (Sat.seq (Sat.region ?_))))
        first
         | refine Tr.lA rfl rfl rfl Y50 rfl Bb mM (by first | (simp [hB.l_fPrev, hlst]; done) | assumption | (rw [Ab, List.length_map]; assumption)) ?_
         | refine Tr.lN _ rfl rfl rfl Y50 rfl Bb mM (by exact rfl) (by first | (simp [hB.l_fPrev, hlst]; done) | assumption | (rw [Ab, List.length_map]; assumption)) ?_
        first
         | refine Tr.lA rfl rfl rfl Y50 rfl Bb mM (by first | (simp [hB.l_fPrev, hlst]; done) | assumption | (rw [Ab, List.length_map]; assumption)) ?_
         | refine Tr.lN _ rfl rfl rfl Y50 rfl Bb mM (by exact rfl) (by first | (simp [hB.l_fPrev, hlst]; done) | assumption | (rw [Ab, List.length_map]; assumption)) ?_
        refine Tr.cV rfl rfl rfl rfl Body178 (block_cmp _ _ hlst hr0) tV ?_
        refine Tr.geq rfl rfl rfl rfl rfl ?_
        refine Tr.nil (Aa ?_)
        first
         | refine Sat.condP rfl (fun hc2 => ?_) (fun hc2 => ?_)
         | refine Sat.condNP rfl (fun hc2 => ?_) (fun hc2 => ?_)
         | refine Sat.cond rfl (fun hc2 => ?_) (fun hc2 => ?_)
        ·
         refine Sat.seq (Sat.region ?_)
         refine Tr.a rfl rfl rfl ?_
         refine Tr.nil (Aa (Sat.ret (Ao (B8 (Ao (Ao (B8 (Ao (Am ?_)))))))))
         refine ⟨_, [], Ae rfl rfl, sP, sP, ?_, rfl⟩
         first
          | exact congrArg i64 (cut_good hnb (headsBad_not (by rw [hll]; exact hg))).symm
          | exact congrArg i64 (cut_bad2 hnb (headsBad_at (k := p.1) oM (by unfold headBad; rw [← hle]; exact decide_eq_true hc2))).symm
          | exact congrArg i64 (cut_bad1 (by unfold cheadB; simp_all)).symm
        ·
         have hgk : headBad D.dHeads p.1 = false := by unfold headBad; rw [← hle]; exact decide_eq_false hc2
         refine Sat.skip (Aa (Sat.region ?_))
         first
          | refine Tr.lA rfl rfl rfl Y50 rfl Bb mM (by first | (simp [hB.l_fPrev, hlst]; done) | assumption | (rw [Ab, List.length_map]; assumption)) ?_
          | refine Tr.lN _ rfl rfl rfl Y50 rfl Bb mM (by exact rfl) (by first | (simp [hB.l_fPrev, hlst]; done) | assumption | (rw [Ab, List.length_map]; assumption)) ?_
         first
          | refine Tr.sA rfl rfl rfl rfl cB Bb (by first | (simp [hB.l_fPrev, hlst]; done) | assumption | (rw [Ab, List.length_map]; assumption)) mM (by first | (simp [hB.l_fPrev, hlst]; done) | assumption | (rw [Ab, List.length_map]; assumption)) uU ?_
          | refine Tr.storeN _ rfl rfl rfl rfl rfl cB Bb (by first | (simp [hB.l_fPrev, hlst]; done) | assumption | (rw [Ab, List.length_map]; assumption)) mM (by first | (simp [hB.l_fPrev, hlst]; done) | assumption | (rw [Ab, List.length_map]; assumption)) (by exact rfl) uU ?_
         refine Tr.nil (B2 (Aa (Sat.region ?_)))
         refine Tr.aI rfl rfl rfl rfl oM ?_
         refine Tr.m rfl rfl rfl ?_
         refine Tr.nil (Aa ?_)
         exact ⟨(p.1 + 1, D.dHeads.getD p.1 []), ⟨by simp only []; omega, fun j hj => by rcases Nat.lt_succ_iff_lt_or_eq.1 hj with h | rfl; exact hg j h; exact hgk, (lastH_succ _ _).symm, hr0⟩, by simp only []; omega, Ar (wk1 rfl (wk1 rfl (wk1 rfl (wk1 rfl (wk1 rfl wk0))))) (wh1 mM (wh1 mM wh0)) nD⟩
       ·
        have hpe : p.1 = C.fHeads.n := by omega
        rw [hpe] at hg
        refine Sat.exit (Bf (Bf (bl_h (Aa (Sat.seq (Sat.region ?_))))))
        refine Tr.a rfl rfl rfl ?_
        refine Tr.nil (Aa (Sat.ret (Am ?_)))
        refine ⟨_, [], Ae rfl rfl, sP, sP, ?_, rfl⟩
        first
         | exact congrArg i64 (cut_good hnb (headsBad_not (by rw [hll]; exact hg))).symm
         | exact congrArg i64 (cut_bad2 hnb (headsBad_at (k := p.1) oM (by unfold headBad; rw [← hle]; exact decide_eq_true hc2))).symm
         | exact congrArg i64 (cut_bad1 (by unfold cheadB; simp_all)).symm

end Go.Proofs.YtdifpjmfabhpiaaGreat
end

section
namespace Go.Proofs.YtdifpjmfabhpiaaGreat
open Go Hw

def fstBad {D : Type} (f : D → Bool) (ds : List D) : Int := if ds.any f = true then ((ds.findIdx f : Nat) : Int) else -1
theorem fstBad_none {D : Type} {f : D → Bool} {ds : List D} (h : ∀ j, j < ds.length → (ds.map f)[j]? = some false) : fstBad f ds = -1 := by
  refine if_neg fun e => ?_
  obtain ⟨x, hx, hf⟩ := List.any_eq_true.1 e
  obtain ⟨j, hj, rfl⟩ := List.getElem_of_mem hx
  have := h j hj
  rw [List.getElem?_map, List.getElem?_eq_getElem hj] at this
  simp [hf] at this
theorem fstBad_at {D : Type} {f : D → Bool} {ds : List D} {k : Nat} (h : ∀ j, j < k → (ds.map f)[j]? = some false) (hk : (ds.map f)[k]? = some true) : fstBad f ds = (k : Int) := by
  rw [List.getElem?_map] at hk
  obtain ⟨x, hx, hf⟩ := Option.map_eq_some_iff.1 hk
  obtain ⟨hlt, rfl⟩ := List.getElem?_eq_some_iff.1 hx
  unfold fstBad
  rw [if_pos (List.any_eq_true.2 ⟨_, List.getElem_mem hlt, hf⟩)]
  congr 1
  rw [List.findIdx_eq hlt]
  refine ⟨hf, fun j hj => ?_⟩
  have := h j hj
  rw [List.getElem?_map, List.getElem?_eq_getElem oM] at this
  simpa using this
theorem fstBad_ge {D : Type} (f : D → Bool) (ds : List D) : decide ((0 : Int) ≤ fstBad f ds) = ds.any f := by
  unfold fstBad
  split
  · rename_i h
    rw [h]; simp
  · rename_i h
    rw [Bool.not_eq_true] at h
    rw [h]; simp
theorem any_all {D : Type} (f : D → Bool) (ds : List D) : (!ds.any fun d => !f d) = ds.all f := by simp [List.any_eq_not_all_not]

theorem all_block_1 (x : Block) (d : DB) (q : Nat) : Meets Tryz.prog 209 [agg x.cells, ptr q 0] [] (fun W => BlockIs W x d ∧ W.cell? ⟨q, 0, none⟩ = some (.func (.func 82) #[] #[])) (fun v out => v = .bool (!decide (d.check = 0)) ∧ out = []) := by
 intro W hW
 refine An Tryz.func209 rfl 8 Tryz.ntmps209 rfl ?_
 refine Sat.seq (Sat.region ?_)
 refine Tr.boxA rfl rfl ?_
 intro n2 hn2 hf2
 refine Tr.a rfl rfl rfl ?_
 refine Tr.nil (Aa (Sat.seq (Sat.region ?_)))
 refine Tr.loadE rfl rfl rfl Tryz.underlying120 rfl (by first | (simp; done) | (simp; exact hW.2.2) | (simp [Cx.with]; done) | (simp [Cx.with]; omega)) (hW.2) ?_
 refine Tr.lA rfl rfl rfl Y79 rfl Sz79 mM (Block.length (by first | exact oK  | exact hW.1.ok)) ?_
 refine Tr.cV rfl rfl rfl rfl Body82 (db_check x d) (fun w h => hW.1.ext h rfl) ?_
 refine Tr.nei rfl rfl rfl rfl rfl ?_
 refine Tr.a rfl rfl rfl ?_
 refine Tr.nil (Aa (Sat.ret (Am ?_)))
 refine ⟨_, [], Ae rfl rfl, sP, sP, ?_, rfl⟩
 first
  | rfl
  | simp

theorem index_block (s : Sl) (ds : List DB) (q : Nat) : Meets Tryz.prog 228 [s.v, .func (.func 209) #[] #[ptr q 0]] [] (fun W => BlocksAt W s ds ∧ W.cell? ⟨q, 0, none⟩ = some (.func (.func 82) #[] #[])) (fun v out => v = i64 (fstBad (fun d : DB => !decide (d.check = 0)) ds) ∧ out = []) := by
 intro W hW
 obtain ⟨⟨rs, hs⟩, hq⟩ := hW
 have hmax := hs.max
 simp only [maxLen] at hmax
 have hcap := hs.cap
 refine An Tryz.func228 rfl 19 Tryz.ntmps228 rfl ?_
 refine Sat.seq (Sat.region ?_)
 refine Tr.a rfl rfl rfl ?_
 refine Tr.nil (Aa (Sat.seq (Sat.seq (Sat.region ?_))))
 refine Tr.m rfl rfl rfl ?_
 refine Tr.lenSl rfl rfl rfl Y22 ?_
 refine Tr.m rfl rfl rfl ?_
 refine Tr.nil (Aa (Sat.block ?_))
 refine Sat.loop (ι := Nat) (fun k => ⟨[(0, s.v), (1, .func (.func 209) #[] #[ptr q 0]), (7, i64 (s.n : Int)), (8, i64 (k : Int))], []⟩) (fun k => k ≤ s.n ∧ ∀ j, j < k → (ds.map (fun d : DB => !decide (d.check = 0)))[j]? = some false) (fun k => s.n - k) (0) ?_ ?_ ?_
 · exact ⟨by omega, fun j hj => by omega⟩
 · exact Ar (wk1 rfl (wk1 rfl (wk1 rfl (wk1 rfl wk0)))) wh0 nD
 ·
  rintro k ⟨hk, hg⟩
  refine Sat.seq (Sat.region ?_)
  refine Tr.lss rfl rfl rfl rfl rfl ?_
  refine Tr.nil (Aa (Sat.seq ?_))
  first
   | refine Sat.condP rfl (fun hc0 => ?_) (fun hc0 => ?_)
   | refine Sat.condNP rfl (fun hc0 => ?_) (fun hc0 => ?_)
   | refine Sat.cond rfl (fun hc0 => ?_) (fun hc0 => ?_)
  ·
   have hk2 : k < s.n := by omega
   obtain ⟨b, o, r, d, hsp, hr, hd, his, hlen, hsee⟩ := hs.at dE hk2
   refine Sat.skip (Aa (Sat.seq (Sat.block (Sat.seq (Sat.region ?_)))))
   refine Tr.m rfl rfl rfl ?_
   refine Tr.a rfl rfl rfl ?_
   refine Tr.nil (Aa (Sat.seq (Sat.region ?_)))
   refine Tr.m rfl rfl rfl ?_
   refine Tr.m rfl rfl rfl ?_
   refine Tr.m rfl rfl rfl ?_
   refine Tr.idxSlP 131 rfl rfl rfl hsp rfl Y22 Sz79 k oM oM ?_
   refine Tr.loadEN r.cells rfl rfl rfl Y79 rfl Sz79 sP hlen hsee ?_
   refine Tr.callCV rfl rfl rfl rfl rfl Body209 (all_block_1 r d q) (fun w h => ⟨his.ext h rfl, h.keeps.cell sP hq⟩) ?_
   refine Tr.nil (Aa ?_)
   first
    | refine Sat.condP rfl (fun hc1 => ?_) (fun hc1 => ?_)
    | refine Sat.condNP rfl (fun hc1 => ?_) (fun hc1 => ?_)
    | refine Sat.cond rfl (fun hc1 => ?_) (fun hc1 => ?_)
   ·
    refine Sat.seq (Sat.region ?_)
    refine Tr.m rfl rfl rfl ?_
    refine Tr.a rfl rfl rfl ?_
    refine Tr.nil (Aa (Sat.ret (B8 (Ao (Ao (B8 (Ao (Am ?_))))))))
    refine ⟨_, [], Ae rfl rfl, sP, sP, ?_, rfl⟩
    first
     | exact congrArg i64 (fstBad_none (by intro j hj; exact hg j (by rw [hs.nd] at hj; exact hj))).symm
     | exact congrArg i64 (fstBad_at hg (by rw [List.getElem?_map, hd]; simpa using hc1)).symm
   ·
    refine Sat.skip (B2 (Aa (Sat.region ?_)))
    refine Tr.aI rfl rfl rfl rfl oM ?_
    refine Tr.m rfl rfl rfl ?_
    refine Tr.nil (Aa ?_)
    exact ⟨k + 1, ⟨by omega, fun j hj => by rcases Nat.lt_succ_iff_lt_or_eq.1 hj with h | rfl; exact hg j h; rw [List.getElem?_map, hd]; simpa using hc1⟩, by omega, Ar (wk1 rfl (wk1 rfl (wk1 rfl (wk1 rfl wk0)))) wh0 nD⟩
  ·
   obtain rfl : k = s.n := by omega
   refine Sat.exit (Bf (Bf (bl_h (Aa (Sat.seq (Sat.region ?_))))))
   refine Tr.a rfl rfl rfl ?_
   refine Tr.nil (Aa (Sat.ret (Am ?_)))
   refine ⟨_, [], Ae rfl rfl, sP, sP, ?_, rfl⟩
   first
    | exact congrArg i64 (fstBad_none (by intro j hj; exact hg j (by rw [hs.nd] at hj; exact hj))).symm
    | exact congrArg i64 (fstBad_at hg (by rw [List.getElem?_map, hd]; simpa using hc1)).symm

theorem contains_block (s : Sl) (ds : List DB) (q : Nat) : Meets Tryz.prog 176 [s.v, .func (.func 209) #[] #[ptr q 0]] [] (fun W => BlocksAt W s ds ∧ W.cell? ⟨q, 0, none⟩ = some (.func (.func 82) #[] #[])) (fun v out => v = .bool (ds.any (fun d : DB => !decide (d.check = 0))) ∧ out = []) := by
 intro W hW
 refine An Tryz.func176 rfl 9 Tryz.ntmps176 rfl ?_
 refine Sat.seq (Sat.region ?_)
 refine Tr.a rfl rfl rfl ?_
 refine Tr.nil (Aa (Sat.seq (Sat.region ?_)))
 refine Tr.m rfl rfl rfl ?_
 refine Tr.m rfl rfl rfl ?_
 refine Tr.cV rfl rfl rfl rfl Body228 (index_block s ds q) (fun w h => ⟨Blocks_ext h rfl hW.1, h.keeps.cell sP hW.2⟩) ?_
 refine Tr.geq rfl rfl rfl rfl rfl ?_
 refine Tr.a rfl rfl rfl ?_
 refine Tr.nil (Aa (Sat.ret (Am ?_)))
 refine ⟨_, [], Ae rfl rfl, sP, sP, ?_, rfl⟩
 exact congrArg Value.bool (fstBad_ge _ _)

theorem all_block (s : Sl) (ds : List DB) : Meets Tryz.prog 126 [s.v, .func (.func 82) #[] #[]] [] (fun W => BlocksAt W s ds) (fun v out => v = .bool (ds.all fun d => decide (d.check = 0)) ∧ out = []) := by
 intro W hW
 refine An Tryz.func126 rfl 9 Tryz.ntmps126 rfl ?_
 refine Sat.seq (Sat.region ?_)
 refine Tr.box1 rfl rfl rfl ?_
 intro n3 hn3 hf3
 refine Tr.a rfl rfl rfl ?_
 refine Tr.nil (Aa (Sat.seq (Sat.region ?_)))
 refine Tr.m rfl rfl rfl ?_
 refine Tr.makeFunc rfl rfl rfl rfl ?_
 refine Tr.cV rfl rfl rfl rfl Body176 (contains_block s ds n3) (fun w h => ⟨Blocks_ext h rfl hW, (Ai h mM).cell (o := 0) rfl⟩) ?_
 refine Tr.not rfl rfl rfl ?_
 refine Tr.a rfl rfl rfl ?_
 refine Tr.nil (Aa (Sat.ret (Am ?_)))
 refine ⟨_, [], Ae rfl rfl, sP, sP, ?_, rfl⟩
 exact congrArg Value.bool (any_all _ _)

theorem all_vote_1 (x : Vote) (d : Vote) (q : Nat) : Meets Tryz.prog 210 [agg x.cells, ptr q 0] [] (fun W => VoteIs W x d ∧ W.cell? ⟨q, 0, none⟩ = some (.func (.func 85) #[] #[])) (fun v out => v = .bool (!decide (Bw d = 0)) ∧ out = []) := by
 intro W hW
 refine An Tryz.func210 rfl 8 Tryz.ntmps210 rfl ?_
 refine Sat.seq (Sat.region ?_)
 refine Tr.boxA rfl rfl ?_
 intro n2 hn2 hf2
 refine Tr.a rfl rfl rfl ?_
 refine Tr.nil (Aa (Sat.seq (Sat.region ?_)))
 refine Tr.loadE rfl rfl rfl Tryz.underlying123 rfl (by first | (simp; done) | (simp; exact hW.2.2) | (simp [Cx.with]; done) | (simp [Cx.with]; omega)) (hW.2) ?_
 refine Tr.lA rfl rfl rfl Y81 rfl Sz81 mM (Vote.length (by first | exact oK  | exact hW.1.ok)) ?_
 refine Tr.cV rfl rfl rfl rfl Body85 ((vote_check x hW.1.ok).imp (fun w h => trivial) (fun v out h => by rwa [hW.1.eq] at h)) (fun w h => hW.1.ext h rfl) ?_
 refine Tr.nei rfl rfl rfl rfl rfl ?_
 refine Tr.a rfl rfl rfl ?_
 refine Tr.nil (Aa (Sat.ret (Am ?_)))
 refine ⟨_, [], Ae rfl rfl, sP, sP, ?_, rfl⟩
 first
  | rfl
  | simp

theorem index_vote (s : Sl) (ds : List Vote) (q : Nat) : Meets Tryz.prog 230 [s.v, .func (.func 210) #[] #[ptr q 0]] [] (fun W => VotesAt W s ds ∧ W.cell? ⟨q, 0, none⟩ = some (.func (.func 85) #[] #[])) (fun v out => v = i64 (fstBad (fun d : Vote => !decide (Bw d = 0)) ds) ∧ out = []) := by
 intro W hW
 obtain ⟨⟨rs, hs⟩, hq⟩ := hW
 have hmax := hs.max
 simp only [maxLen] at hmax
 have hcap := hs.cap
 refine An Tryz.func230 rfl 19 Tryz.ntmps230 rfl ?_
 refine Sat.seq (Sat.region ?_)
 refine Tr.a rfl rfl rfl ?_
 refine Tr.nil (Aa (Sat.seq (Sat.seq (Sat.region ?_))))
 refine Tr.m rfl rfl rfl ?_
 refine Tr.lenSl rfl rfl rfl Y24 ?_
 refine Tr.m rfl rfl rfl ?_
 refine Tr.nil (Aa (Sat.block ?_))
 refine Sat.loop (ι := Nat) (fun k => ⟨[(0, s.v), (1, .func (.func 210) #[] #[ptr q 0]), (7, i64 (s.n : Int)), (8, i64 (k : Int))], []⟩) (fun k => k ≤ s.n ∧ ∀ j, j < k → (ds.map (fun d : Vote => !decide (Bw d = 0)))[j]? = some false) (fun k => s.n - k) (0) ?_ ?_ ?_
 · exact ⟨by omega, fun j hj => by omega⟩
 · exact Ar (wk1 rfl (wk1 rfl (wk1 rfl (wk1 rfl wk0)))) wh0 nD
 ·
  rintro k ⟨hk, hg⟩
  refine Sat.seq (Sat.region ?_)
  refine Tr.lss rfl rfl rfl rfl rfl ?_
  refine Tr.nil (Aa (Sat.seq ?_))
  first
   | refine Sat.condP rfl (fun hc0 => ?_) (fun hc0 => ?_)
   | refine Sat.condNP rfl (fun hc0 => ?_) (fun hc0 => ?_)
   | refine Sat.cond rfl (fun hc0 => ?_) (fun hc0 => ?_)
  ·
   have hk2 : k < s.n := by omega
   obtain ⟨b, o, r, d, hsp, hr, hd, his, hlen, hsee⟩ := hs.at dE hk2
   refine Sat.skip (Aa (Sat.seq (Sat.block (Sat.seq (Sat.region ?_)))))
   refine Tr.m rfl rfl rfl ?_
   refine Tr.a rfl rfl rfl ?_
   refine Tr.nil (Aa (Sat.seq (Sat.region ?_)))
   refine Tr.m rfl rfl rfl ?_
   refine Tr.m rfl rfl rfl ?_
   refine Tr.m rfl rfl rfl ?_
   refine Tr.idxSlP 132 rfl rfl rfl hsp rfl Y24 Sz81 k oM oM ?_
   refine Tr.loadEN r.cells rfl rfl rfl Y81 rfl Sz81 sP hlen hsee ?_
   refine Tr.callCV rfl rfl rfl rfl rfl Body210 (all_vote_1 r d q) (fun w h => ⟨his.ext h rfl, h.keeps.cell sP hq⟩) ?_
   refine Tr.nil (Aa ?_)
   first
    | refine Sat.condP rfl (fun hc1 => ?_) (fun hc1 => ?_)
    | refine Sat.condNP rfl (fun hc1 => ?_) (fun hc1 => ?_)
    | refine Sat.cond rfl (fun hc1 => ?_) (fun hc1 => ?_)
   ·
    refine Sat.seq (Sat.region ?_)
    refine Tr.m rfl rfl rfl ?_
    refine Tr.a rfl rfl rfl ?_
    refine Tr.nil (Aa (Sat.ret (B8 (Ao (Ao (B8 (Ao (Am ?_))))))))
    refine ⟨_, [], Ae rfl rfl, sP, sP, ?_, rfl⟩
    first
     | exact congrArg i64 (fstBad_none (by intro j hj; exact hg j (by rw [hs.nd] at hj; exact hj))).symm
     | exact congrArg i64 (fstBad_at hg (by rw [List.getElem?_map, hd]; simpa using hc1)).symm
   ·
    refine Sat.skip (B2 (Aa (Sat.region ?_)))
    refine Tr.aI rfl rfl rfl rfl oM ?_
    refine Tr.m rfl rfl rfl ?_
    refine Tr.nil (Aa ?_)
    exact ⟨k + 1, ⟨by omega, fun j hj => by rcases Nat.lt_succ_iff_lt_or_eq.1 hj with h | rfl; exact hg j h; rw [List.getElem?_map, hd]; simpa using hc1⟩, by omega, Ar (wk1 rfl (wk1 rfl (wk1 rfl (wk1 rfl wk0)))) wh0 nD⟩
  ·
   obtain rfl : k = s.n := by omega
   refine Sat.exit (Bf (Bf (bl_h (Aa (Sat.seq (Sat.region ?_))))))
   refine Tr.a rfl rfl rfl ?_
   refine Tr.nil (Aa (Sat.ret (Am ?_)))
   refine ⟨_, [], Ae rfl rfl, sP, sP, ?_, rfl⟩
   first
    | exact congrArg i64 (fstBad_none (by intro j hj; exact hg j (by rw [hs.nd] at hj; exact hj))).symm
    | exact congrArg i64 (fstBad_at hg (by rw [List.getElem?_map, hd]; simpa using hc1)).symm

theorem contains_vote (s : Sl) (ds : List Vote) (q : Nat) : Meets Tryz.prog 181 [s.v, .func (.func 210) #[] #[ptr q 0]] [] (fun W => VotesAt W s ds ∧ W.cell? ⟨q, 0, none⟩ = some (.func (.func 85) #[] #[])) (fun v out => v = .bool (ds.any (fun d : Vote => !decide (Bw d = 0))) ∧ out = []) := by
 intro W hW
 refine An Tryz.func181 rfl 9 Tryz.ntmps181 rfl ?_
 refine Sat.seq (Sat.region ?_)
 refine Tr.a rfl rfl rfl ?_
 refine Tr.nil (Aa (Sat.seq (Sat.region ?_)))
 refine Tr.m rfl rfl rfl ?_
 refine Tr.m rfl rfl rfl ?_
 refine Tr.cV rfl rfl rfl rfl Body230 (index_vote s ds q) (fun w h => ⟨Votes_ext h rfl hW.1, h.keeps.cell sP hW.2⟩) ?_
 refine Tr.geq rfl rfl rfl rfl rfl ?_
 refine Tr.a rfl rfl rfl ?_
 refine Tr.nil (Aa (Sat.ret (Am ?_)))
 refine ⟨_, [], Ae rfl rfl, sP, sP, ?_, rfl⟩
 exact congrArg Value.bool (fstBad_ge _ _)

theorem all_vote (s : Sl) (ds : List Vote) : Meets Tryz.prog 127 [s.v, .func (.func 85) #[] #[]] [] (fun W => VotesAt W s ds) (fun v out => v = .bool (ds.all fun d => decide (Bw d = 0)) ∧ out = []) := by
 intro W hW
 refine An Tryz.func127 rfl 9 Tryz.ntmps127 rfl ?_
 refine Sat.seq (Sat.region ?_)
 refine Tr.box1 rfl rfl rfl ?_
 intro n3 hn3 hf3
 refine Tr.a rfl rfl rfl ?_
 refine Tr.nil (Aa (Sat.seq (Sat.region ?_)))
 refine Tr.m rfl rfl rfl ?_
 refine Tr.makeFunc rfl rfl rfl rfl ?_
 refine Tr.cV rfl rfl rfl rfl Body181 (contains_vote s ds n3) (fun w h => ⟨Votes_ext h rfl hW, (Ai h mM).cell (o := 0) rfl⟩) ?_
 refine Tr.not rfl rfl rfl ?_
 refine Tr.a rfl rfl rfl ?_
 refine Tr.nil (Aa (Sat.ret (Am ?_)))
 refine ⟨_, [], Ae rfl rfl, sP, sP, ?_, rfl⟩
 exact congrArg Value.bool (any_all _ _)

theorem all_cut_1 (x : Cut) (d : DCut) (q : Nat) : Meets Tryz.prog 211 [agg x.cells, ptr q 0] [] (fun W => CutIs W x d ∧ W.cell? ⟨q, 0, none⟩ = some (.func (.func 87) #[] #[])) (fun v out => v = .bool (!decide (d.check = 0)) ∧ out = []) := by
 intro W hW
 refine An Tryz.func211 rfl 8 Tryz.ntmps211 rfl ?_
 refine Sat.seq (Sat.region ?_)
 refine Tr.boxA rfl rfl ?_
 intro n2 hn2 hf2
 refine Tr.a rfl rfl rfl ?_
 refine Tr.nil (Aa (Sat.seq (Sat.region ?_)))
 refine Tr.loadE rfl rfl rfl Tryz.underlying125 rfl (by first | (simp; done) | (simp; exact hW.2.2) | (simp [Cx.with]; done) | (simp [Cx.with]; omega)) (hW.2) ?_
 refine Tr.lA rfl rfl rfl Y53 rfl Ca mM (Cut.length (by first | exact oK  | exact hW.1.ok)) ?_
 refine Tr.cV rfl rfl rfl rfl Body87 (cut_check x d) (fun w h => hW.1.ext h rfl) ?_
 refine Tr.nei rfl rfl rfl rfl rfl ?_
 refine Tr.a rfl rfl rfl ?_
 refine Tr.nil (Aa (Sat.ret (Am ?_)))
 refine ⟨_, [], Ae rfl rfl, sP, sP, ?_, rfl⟩
 first
  | rfl
  | simp

theorem index_cut (s : Sl) (ds : List DCut) (q : Nat) : Meets Tryz.prog 231 [s.v, .func (.func 211) #[] #[ptr q 0]] [] (fun W => CutsAt W s ds ∧ W.cell? ⟨q, 0, none⟩ = some (.func (.func 87) #[] #[])) (fun v out => v = i64 (fstBad (fun d : DCut => !decide (d.check = 0)) ds) ∧ out = []) := by
 intro W hW
 obtain ⟨⟨rs, hs⟩, hq⟩ := hW
 have hmax := hs.max
 simp only [maxLen] at hmax
 have hcap := hs.cap
 refine An Tryz.func231 rfl 19 Tryz.ntmps231 rfl ?_
 refine Sat.seq (Sat.region ?_)
 refine Tr.a rfl rfl rfl ?_
 refine Tr.nil (Aa (Sat.seq (Sat.seq (Sat.region ?_))))
 refine Tr.m rfl rfl rfl ?_
 refine Tr.lenSl rfl rfl rfl Y25 ?_
 refine Tr.m rfl rfl rfl ?_
 refine Tr.nil (Aa (Sat.block ?_))
 refine Sat.loop (ι := Nat) (fun k => ⟨[(0, s.v), (1, .func (.func 211) #[] #[ptr q 0]), (7, i64 (s.n : Int)), (8, i64 (k : Int))], []⟩) (fun k => k ≤ s.n ∧ ∀ j, j < k → (ds.map (fun d : DCut => !decide (d.check = 0)))[j]? = some false) (fun k => s.n - k) (0) ?_ ?_ ?_
 · exact ⟨by omega, fun j hj => by omega⟩
 · exact Ar (wk1 rfl (wk1 rfl (wk1 rfl (wk1 rfl wk0)))) wh0 nD
 ·
  rintro k ⟨hk, hg⟩
  refine Sat.seq (Sat.region ?_)
  refine Tr.lss rfl rfl rfl rfl rfl ?_
  refine Tr.nil (Aa (Sat.seq ?_))
  first
   | refine Sat.condP rfl (fun hc0 => ?_) (fun hc0 => ?_)
   | refine Sat.condNP rfl (fun hc0 => ?_) (fun hc0 => ?_)
   | refine Sat.cond rfl (fun hc0 => ?_) (fun hc0 => ?_)
  ·
   have hk2 : k < s.n := by omega
   obtain ⟨b, o, r, d, hsp, hr, hd, his, hlen, hsee⟩ := hs.at dE hk2
   refine Sat.skip (Aa (Sat.seq (Sat.block (Sat.seq (Sat.region ?_)))))
   refine Tr.m rfl rfl rfl ?_
   refine Tr.a rfl rfl rfl ?_
   refine Tr.nil (Aa (Sat.seq (Sat.region ?_)))
   refine Tr.m rfl rfl rfl ?_
   refine Tr.m rfl rfl rfl ?_
   refine Tr.m rfl rfl rfl ?_
   refine Tr.idxSlP 34 rfl rfl rfl hsp rfl Y25 Ca k oM oM ?_
   refine Tr.loadEN r.cells rfl rfl rfl Y53 rfl Ca sP hlen hsee ?_
   refine Tr.callCV rfl rfl rfl rfl rfl Body211 (all_cut_1 r d q) (fun w h => ⟨his.ext h rfl, h.keeps.cell sP hq⟩) ?_
   refine Tr.nil (Aa ?_)
   first
    | refine Sat.condP rfl (fun hc1 => ?_) (fun hc1 => ?_)
    | refine Sat.condNP rfl (fun hc1 => ?_) (fun hc1 => ?_)
    | refine Sat.cond rfl (fun hc1 => ?_) (fun hc1 => ?_)
   ·
    refine Sat.seq (Sat.region ?_)
    refine Tr.m rfl rfl rfl ?_
    refine Tr.a rfl rfl rfl ?_
    refine Tr.nil (Aa (Sat.ret (B8 (Ao (Ao (B8 (Ao (Am ?_))))))))
    refine ⟨_, [], Ae rfl rfl, sP, sP, ?_, rfl⟩
    first
     | exact congrArg i64 (fstBad_none (by intro j hj; exact hg j (by rw [hs.nd] at hj; exact hj))).symm
     | exact congrArg i64 (fstBad_at hg (by rw [List.getElem?_map, hd]; simpa using hc1)).symm
   ·
    refine Sat.skip (B2 (Aa (Sat.region ?_)))
    refine Tr.aI rfl rfl rfl rfl oM ?_
    refine Tr.m rfl rfl rfl ?_
    refine Tr.nil (Aa ?_)
    exact ⟨k + 1, ⟨by omega, fun j hj => by rcases Nat.lt_succ_iff_lt_or_eq.1 hj with h | rfl; exact hg j h; rw [List.getElem?_map, hd]; simpa using hc1⟩, by omega, Ar (wk1 rfl (wk1 rfl (wk1 rfl (wk1 rfl wk0)))) wh0 nD⟩
  ·
   obtain rfl : k = s.n := by omega
   refine Sat.exit (Bf (Bf (bl_h (Aa (Sat.seq (Sat.region ?_))))))
   refine Tr.a rfl rfl rfl ?_
   refine Tr.nil (Aa (Sat.ret (Am ?_)))
   refine ⟨_, [], Ae rfl rfl, sP, sP, ?_, rfl⟩
   first
    | exact congrArg i64 (fstBad_none (by intro j hj; exact hg j (by rw [hs.nd] at hj; exact hj))).symm
    | exact congrArg i64 (fstBad_at hg (by rw [List.getElem?_map, hd]; simpa using hc1)).symm

theorem contains_cut (s : Sl) (ds : List DCut) (q : Nat) : Meets Tryz.prog 183 [s.v, .func (.func 211) #[] #[ptr q 0]] [] (fun W => CutsAt W s ds ∧ W.cell? ⟨q, 0, none⟩ = some (.func (.func 87) #[] #[])) (fun v out => v = .bool (ds.any (fun d : DCut => !decide (d.check = 0))) ∧ out = []) := by
 intro W hW
 refine An Tryz.func183 rfl 9 Tryz.ntmps183 rfl ?_
 refine Sat.seq (Sat.region ?_)
 refine Tr.a rfl rfl rfl ?_
 refine Tr.nil (Aa (Sat.seq (Sat.region ?_)))
 refine Tr.m rfl rfl rfl ?_
 refine Tr.m rfl rfl rfl ?_
 refine Tr.cV rfl rfl rfl rfl Body231 (index_cut s ds q) (fun w h => ⟨Cuts_ext h rfl hW.1, h.keeps.cell sP hW.2⟩) ?_
 refine Tr.geq rfl rfl rfl rfl rfl ?_
 refine Tr.a rfl rfl rfl ?_
 refine Tr.nil (Aa (Sat.ret (Am ?_)))
 refine ⟨_, [], Ae rfl rfl, sP, sP, ?_, rfl⟩
 exact congrArg Value.bool (fstBad_ge _ _)

theorem all_cut (s : Sl) (ds : List DCut) : Meets Tryz.prog 128 [s.v, .func (.func 87) #[] #[]] [] (fun W => CutsAt W s ds) (fun v out => v = .bool (ds.all fun d => decide (d.check = 0)) ∧ out = []) := by
 intro W hW
 refine An Tryz.func128 rfl 9 Tryz.ntmps128 rfl ?_
 refine Sat.seq (Sat.region ?_)
 refine Tr.box1 rfl rfl rfl ?_
 intro n3 hn3 hf3
 refine Tr.a rfl rfl rfl ?_
 refine Tr.nil (Aa (Sat.seq (Sat.region ?_)))
 refine Tr.m rfl rfl rfl ?_
 refine Tr.makeFunc rfl rfl rfl rfl ?_
 refine Tr.cV rfl rfl rfl rfl Body183 (contains_cut s ds n3) (fun w h => ⟨Cuts_ext h rfl hW, (Ai h mM).cell (o := 0) rfl⟩) ?_
 refine Tr.not rfl rfl rfl ?_
 refine Tr.a rfl rfl rfl ?_
 refine Tr.nil (Aa (Sat.ret (Am ?_)))
 refine ⟨_, [], Ae rfl rfl, sP, sP, ?_, rfl⟩
 exact congrArg Value.bool (any_all _ _)

end Go.Proofs.YtdifpjmfabhpiaaGreat
end

section
namespace Go.Proofs.YtdifpjmfabhpiaaGreat
open Go Hw

def DCut.body (D : DCut) (k : Nat) : List UInt8 := Au D.dHeight ++ D.dPrev ++ Au (UInt64.ofNat D.dHeads.length) ++ (D.dHeads.take k).flatten
def DCut.bytes (D : DCut) : List UInt8 := D.body D.dHeads.length
def cutR (D : DCut) : List UInt8 := if D.check = 0 then D.bytes else []
theorem DCut.small {D : DCut} (h : D.check = 0) : D.dHeads.length ≤ 32 := by
  unfold DCut.check at h
  by_cases h1 : cheadB D.dHeight D.dPrev D.dHeads.length = true
  · rw [if_pos h1] at h; cases h
  · unfold cheadB at h1
    simp at h1
    omega
theorem DCut.body_len {D : DCut} (hp : D.dPrev.length = 32) (hr : ∀ l ∈ D.dHeads, l.length = 32) {k : Nat} (hk : k ≤ D.dHeads.length) : (D.body k).length = szN D.dHeight.toNat + 32 + szN (UInt64.ofNat D.dHeads.length).toNat + k * 32 := by
  simp only [DCut.body, List.length_append, Aq, hp, Bn hr hk]
theorem DCut.body_step {D : DCut} {k : Nat} (hk : k < D.dHeads.length) : D.body (k + 1) = D.body k ++ D.dHeads.getD k [] := by
  rw [DCut.body, flatten_take_step hk, ← List.append_assoc]; rfl
theorem cutb_start {C : Cut} {D : DCut} {W : World} {s : Sl} {bl : List Blk} {E : TypeId} (hW : CutIs W C D) (h : Acc s bl (Ab ([] ++ Au C.fHeight) ++ Ab C.fPrev ++ Ab ([] ++ Au (UInt64.ofNat C.fHeads.n))) E (0 + szN C.fHeight.toNat + 32 + (0 + szN (UInt64.ofNat C.fHeads.n).toNat)) 1) : Acc s bl (Ab (D.body 0)) E (szN D.dHeight.toNat + 32 + szN (UInt64.ofNat D.dHeads.length).toNat + 0 * 32) 1 := by
  have e : Ab (D.body 0) = Ab ([] ++ Au C.fHeight) ++ Ab C.fPrev ++ Ab ([] ++ Au (UInt64.ofNat C.fHeads.n)) := by simp [DCut.body, hW.fHeight, hW.fPrev, hW.fHeads.len, Ab]
  rw [e, ← hW.fHeight, hW.fHeads.len, show szN C.fHeight.toNat + 32 + szN (UInt64.ofNat C.fHeads.n).toNat + 0 * 32 = 0 + szN C.fHeight.toNat + 32 + (0 + szN (UInt64.ofNat C.fHeads.n).toNat) by omega]
  exact h
theorem DCut.bytes_small {D : DCut} (h : D.check = 0) (hp : D.dPrev.length = 32) (hr : ∀ l ∈ D.dHeads, l.length = 32) : D.bytes.length ≤ 2000 := by
  have := D.small h
  have hz1 := A8 D.dHeight.toNat
  have hz2 := A8 (UInt64.ofNat D.dHeads.length).toNat
  rw [DCut.bytes, DCut.body_len hp hr (Nat.le_refl _)]
  omega

theorem cut_bytes (C : Cut) (D : DCut) : Meets Tryz.prog 117 [agg C.cells] [] (fun W => CutIs W C D) (fun v out => ∃ s, v = .tuple #[s.v, i64 D.check] ∧ Acc s out (Ab (cutR D)) 5 (cutR D).length 1) := by
 intro W hW
 have hB := hW.ok
 have hll := hW.fHeads.len
 have hz1 := A8 C.fHeight.toNat
 have hz2 := A8 (UInt64.ofNat C.fHeads.n).toNat
 have hz3 := A8 D.dHeight.toNat
 have hz4 := A8 (UInt64.ofNat D.dHeads.length).toNat
 refine An Tryz.func117 rfl 39 Tryz.ntmps117 rfl ?_
 refine Sat.seq (Sat.region ?_)
 refine Tr.boxA rfl rfl ?_
 intro n1 hn1 hf1
 refine Tr.a rfl rfl rfl ?_
 refine Tr.a rfl rfl rfl ?_
 refine Tr.nil (Aa (Sat.seq (Sat.seq (Sat.region ?_))))
 refine Tr.lA rfl rfl rfl Y53 rfl Ca mM (Cut.length (by first | (simp [hB.l_fPrev]; done) | exact oK  | exact hW.ok)) ?_
 refine Tr.cV rfl rfl rfl rfl Body87 (cut_check C D) (fun w h => hW.ext h rfl) ?_
 refine Tr.a rfl rfl rfl ?_
 refine Tr.nil (Aa (Sat.seq (Sat.region ?_)))
 refine Tr.m rfl rfl rfl ?_
 refine Tr.nei rfl rfl rfl rfl rfl ?_
 refine Tr.nil (Aa ?_)
 first
  | refine Sat.condP rfl (fun hc0 => ?_) (fun hc0 => ?_)
  | refine Sat.condNP rfl (fun hc0 => ?_) (fun hc0 => ?_)
  | refine Sat.cond rfl (fun hc0 => ?_) (fun hc0 => ?_)
 ·
  refine Sat.seq (Sat.region ?_)
  refine Tr.m rfl rfl rfl ?_
  refine Tr.a rfl rfl rfl ?_
  refine Tr.a rfl rfl rfl ?_
  refine Tr.nil (Aa (Sat.ret (Ao (Am ?_))))
  refine Ak (out := []) (Ba rfl rfl rfl) Ad ?_
  exact ⟨Sl.nil, rfl, by rw [show cutR D = [] from if_neg hc0]; exact Acc.none⟩
 ·
  have hc : D.check = 0 := by omega
  have hsm := D.small hc
  refine Sat.skip (Aa (Sat.seq (Sat.region ?_)))
  refine Tr.fld rfl rfl rfl Y53 rfl B1 dE _ rfl ?_
  refine Tr.load1 rfl rfl rfl Y48 rfl mM (by first | exact Cut.get_fHeight (by first | (simp [hB.l_fPrev]; done) | exact oK  | exact hW.ok) | exact (by first | rfl | exact Az (by first | omega | (simp [hB.l_fPrev]; done) | (simp [hB.l_fPrev]; omega)) | exact A9 (by first | omega | (simp [hB.l_fPrev]; done) | (simp [hB.l_fPrev]; omega)) | exact Bp (by first | omega | (simp [hB.l_fPrev]; done) | (simp [hB.l_fPrev]; omega)))) ?_
  refine Tr.call4 rfl rfl rfl rfl rfl Body106 (oct_Number none 0 0 [] (C.fHeight) rfl (fun _ => rfl) oM) (fun _ _ => SeesP.nil) ?_
  rintro v15 out15 ⟨q15, c15, rfl, hc15, rfl⟩
  refine Tr.a rfl rfl rfl ?_
  refine Tr.nil (Aa (Sat.seq (Sat.region ?_)))
  refine Tr.m rfl rfl rfl ?_
  refine Tr.fld rfl rfl rfl Y53 rfl Bb dE _ rfl ?_
  refine Tr.sliceArr rfl rfl rfl Y50 Sz5 ?_
  refine Tr.appendAcc (z := u8 0) (by' := 1) (Ab C.fPrev) rfl rfl rfl rfl rfl Y58 Y58 Sz5 Zr5 (by unfold By; kernel_rfl) rfl (Acc.some (cells := Ab ([] ++ Au C.fHeight)) hc15 (by simp [Aq])) sG (fun W2 W2h => SeesP.of (sees_part W2h mM (Cut.see_fPrev hB))) (fun e => by cases e) (Bc _) oM oM (by simp [hB.l_fPrev]) ?_
  intro s19 bl19 hac19
  refine Tr.a rfl rfl rfl ?_
  refine Tr.nil (Aa (Sat.seq (Sat.region ?_)))
  refine Tr.m rfl rfl rfl ?_
  refine Tr.fld rfl rfl rfl Y53 rfl Sz51 dE _ rfl ?_
  refine Tr.load1 rfl rfl rfl Y51 rfl mM (by first | exact Cut.get_fHeads (by first | (simp [hB.l_fPrev]; done) | exact oK  | exact hW.ok) | exact (by first | rfl | exact Az (by first | omega | (simp [hB.l_fPrev]; done) | (simp [hB.l_fPrev]; omega)) | exact A9 (by first | omega | (simp [hB.l_fPrev]; done) | (simp [hB.l_fPrev]; omega)) | exact Bp (by first | omega | (simp [hB.l_fPrev]; done) | (simp [hB.l_fPrev]; omega)))) ?_
  refine Tr.lenSl rfl rfl rfl Y51 ?_
  refine Tr.conv rfl rfl rfl Y3 Y48 (Bh _) ?_
  rw [word_nat (n := C.fHeads.n) oM]
  refine Tr.call4 rfl rfl rfl rfl rfl Body106 (oct_Number none 0 0 [] (UInt64.ofNat C.fHeads.n) rfl (fun _ => rfl) oM) (fun _ _ => SeesP.nil) ?_
  rintro v25 out25 ⟨q25, c25, rfl, hc25, rfl⟩
  refine Tr.appendAcc (z := u8 0) (by' := 1) (Ab ([] ++ Au (UInt64.ofNat C.fHeads.n))) rfl rfl rfl rfl rfl Y58 Y58 Sz5 Zr5 (by unfold By; kernel_rfl) rfl hac19 sG (fun w h => SeesP.of (Ap h mM)) (fun e => by cases e) (Bc _) oM oM (by simp [Aq]) ?_
  intro s26 bl26 hac26
  refine Tr.a rfl rfl rfl ?_
  refine Tr.nil (Aa (Sat.seq (Sat.seq (Sat.region ?_))))
  refine Tr.fld rfl rfl rfl Y53 rfl Sz51 dE _ rfl ?_
  refine Tr.load1 rfl rfl rfl Y51 rfl mM (by first | exact Cut.get_fHeads (by first | (simp [hB.l_fPrev]; done) | exact oK  | exact hW.ok) | exact (by first | rfl | exact Az (by first | omega | (simp [hB.l_fPrev]; done) | (simp [hB.l_fPrev]; omega)) | exact A9 (by first | omega | (simp [hB.l_fPrev]; done) | (simp [hB.l_fPrev]; omega)) | exact Bp (by first | omega | (simp [hB.l_fPrev]; done) | (simp [hB.l_fPrev]; omega)))) ?_
  refine Tr.lenSl rfl rfl rfl Y51 ?_
  refine Tr.m rfl rfl rfl ?_
  refine Tr.nil (Aa (Sat.block ?_))
  refine Sat.loop (ι := Nat × Sl × List Blk) (fun p => ⟨[(1, ptr n1 0), (5, p.2.1.v), (28, C.fHeads.v), (29, i64 (C.fHeads.n : Int)), (30, i64 (p.1 : Int))], (p.2.2 ++ (⟨n1, C.cells, 53, C.cells.length⟩ :: []))⟩) (fun p => p.1 ≤ C.fHeads.n ∧ Acc p.2.1 p.2.2 (Ab (D.body p.1)) 5 (szN D.dHeight.toNat + 32 + szN (UInt64.ofNat D.dHeads.length).toNat + p.1 * 32) 1) (fun p => C.fHeads.n - p.1) ((0, s26, bl26)) ?_ ?_ ?_
  · exact ⟨Nat.zero_le _, cutb_start hW hac26⟩
  · exact Af (wk1 rfl (wk1 rfl (wk1 rfl (wk1 rfl (wk1 rfl wk0))))) (Ah sG (Ac rM Ad))
  ·
   rintro p ⟨hp1, hap⟩
   refine Sat.seq (Sat.region ?_)
   refine Tr.lss rfl rfl rfl rfl rfl ?_
   refine Tr.nil (Aa (Sat.seq ?_))
   first
    | refine Sat.condP rfl (fun hc1 => ?_) (fun hc1 => ?_)
    | refine Sat.condNP rfl (fun hc1 => ?_) (fun hc1 => ?_)
    | refine Sat.cond rfl (fun hc1 => ?_) (fun hc1 => ?_)
   ·
    have hk2 : p.1 < C.fHeads.n := by omega
    obtain ⟨b, o, hbp, hbs⟩ := hW.fHeads.see.at (by rw [B7 hW.fHeads.row]; omega)
    have hr0 : (D.dHeads.getD p.1 []).length = 32 := getD_len hW.fHeads.row oM
    refine Sat.skip (Aa (Sat.seq (Sat.block (Sat.seq (Sat.region ?_)))))
    refine Tr.idxSlP 32 rfl rfl rfl hbp rfl Y51 Bb p.1 rfl oM ?_
    refine Tr.loadEN (Ab (D.dHeads.getD (p.1) [])) rfl rfl rfl Y50 rfl Bb sP (by rw [Ab, List.length_map]; exact getD_len hW.fHeads.row (by rw [hW.fHeads.len]; omega)) (sees_row hW.fHeads.row hbs (by rw [hW.fHeads.len]; omega)) ?_
    refine Tr.alloc (cs := (Ab (List.replicate 32 0))) rfl Zr50 rfl ?_
    intro n7 hn7 hf7
    first
     | refine Tr.sA rfl rfl rfl rfl cB Bb (by first | (simp [hB.l_fPrev]; done) | assumption | (rw [Ab, List.length_map]; assumption)) mM (by first | (simp [hB.l_fPrev]; done) | assumption | (rw [Ab, List.length_map]; assumption)) uU ?_
     | refine Tr.storeN _ rfl rfl rfl rfl rfl cB Bb (by first | (simp [hB.l_fPrev]; done) | assumption | (rw [Ab, List.length_map]; assumption)) mM (by first | (simp [hB.l_fPrev]; done) | assumption | (rw [Ab, List.length_map]; assumption)) (by exact rfl) uU ?_
    refine Tr.nil (Aa (Sat.region ?_))
    refine Tr.m rfl rfl rfl ?_
    refine Tr.sliceArr rfl rfl rfl Y50 Sz5 ?_
    refine Tr.appendAcc (z := u8 0) (by' := 1) (Ab (D.dHeads.getD p.1 [])) rfl rfl rfl rfl rfl Y58 Y58 Sz5 Zr5 (by unfold By; kernel_rfl) rfl hap sG (fun w h => SeesP.of (Ap h mM)) (fun e => by cases e) (Bc _) oM oM (by rw [Ab, List.length_map, hr0]) ?_
    intro s36 bl36 hac36
    refine Tr.a rfl rfl rfl ?_
    refine Tr.nil (B2 (Aa (Sat.region ?_)))
    refine Tr.aI rfl rfl rfl rfl oM ?_
    refine Tr.m rfl rfl rfl ?_
    refine Tr.nil (Aa ?_)
    refine ⟨(p.1 + 1, s36, bl36), ⟨by simp only []; omega, ?_⟩, by simp only []; omega, Af (wk1 rfl (wk1 rfl (wk1 rfl (wk1 rfl (wk1 rfl wk0))))) (Ah sG (Ac rM Ad))⟩
    rw [show (szN D.dHeight.toNat + 32 + szN (UInt64.ofNat D.dHeads.length).toNat + (p.1 + 1) * 32) = (szN D.dHeight.toNat + 32 + szN (UInt64.ofNat D.dHeads.length).toNat + p.1 * 32) + 32 by omega, DCut.body_step oM, bytesV_app]
    exact hac36
   ·
    have hpe : p.1 = C.fHeads.n := by omega
    refine Sat.exit (Bf (Bf (bl_h (Aa (Sat.seq (Sat.region ?_))))))
    refine Tr.m rfl rfl rfl ?_
    refine Tr.a rfl rfl rfl ?_
    refine Tr.a rfl rfl rfl ?_
    refine Tr.nil (Aa (Sat.ret (Am ?_)))
    refine Ak (out := (p.2.2 ++ [])) (Ba rfl rfl rfl) (Ah sG Ad) ?_
    refine ⟨p.2.1, by rw [hc], ?_⟩
    rw [show cutR D = D.bytes from if_pos hc]
    rw [hpe, ← hll] at hap
    rw [show D.bytes.length = szN D.dHeight.toNat + 32 + szN (UInt64.ofNat D.dHeads.length).toNat + D.dHeads.length * 32 from DCut.body_len (hW.fPrev ▸ hB.l_fPrev) hW.fHeads.row (Nat.le_refl _), List.append_nil]
    exact hap

def cnameD (D : DCut) : List UInt8 := if D.check = 0 then sha256 D.bytes else List.replicate 32 0
theorem Ag (D : DCut) : (cnameD D).length = 32 := by
  unfold cnameD
  split
  · exact sha256_length _
  · rfl

theorem cut_name (C : Cut) (D : DCut) : Meets Tryz.prog 122 [agg C.cells] [] (fun W => CutIs W C D) (fun v out => v = agg (Ab (cnameD D)) ∧ out = []) := by
 intro W hW
 have hok := hW.ok
 obtain ⟨k, hk⟩ : ∃ k, Hid (kW = k) := ⟨_, ⟨rfl⟩⟩
 obtain ⟨s0, hs0⟩ : ∃ s0, Hid (xorUp 8 = s0) := ⟨_, ⟨rfl⟩⟩
 obtain ⟨G, hG⟩ : ∃ G, Hid (shaTag = G) := ⟨_, ⟨rfl⟩⟩
 obtain ⟨i0, hi0⟩ : ∃ i0, Hid (allW k s0 G = i0) := ⟨_, ⟨rfl⟩⟩
 have hk80 : k.length = 80 := by rw [← hk.out]; rfl
 have hs8 : s0.length = 8 := by rw [← hs0.out]; exact xorUp_length 8
 have hGl : G.length = 11 := by rw [← hG.out]; rfl
 have hi8 : i0.length = 8 := by rw [← hi0.out, allW_length]; exact hs8
 obtain ⟨r, hr⟩ : ∃ r, Hid (allW k i0 (D.bytes) = r) := ⟨_, ⟨rfl⟩⟩
 obtain ⟨s, hs⟩ : ∃ s, Hid (sumUp r 64 = s) := ⟨_, ⟨rfl⟩⟩
 have hsd : Hid (s.take 32 = sha256 (D.bytes)) := ⟨by rw [← hs.out, ← hr.out, ← hi0.out, ← hG.out, ← hs0.out, ← hk.out]; rfl⟩
 have hs64 : s.length = 64 := by rw [← hs.out]; exact sumUp_length r 64
 have hs32 : (s.take 32).length = 32 := by rw [List.length_take, hs64]; rfl
 refine An Tryz.func122 rfl 16 Tryz.ntmps122 rfl ?_
 refine Sat.seq (Sat.region ?_)
 refine Tr.boxA rfl rfl ?_
 intro n1 hn1 hf1
 refine Tr.alloc (cs := (Ab (List.replicate 32 0))) rfl Zr50 rfl ?_
 intro n2 hn2 hf2
 refine Tr.nil (Aa (Sat.seq (Sat.region ?_)))
 refine Tr.lA rfl rfl rfl Y53 rfl Ca mM (Cut.length (by first | (simp [hs32, hs64]; done) | exact oK  | exact hW.ok)) ?_
 refine Tr.call4 rfl rfl rfl rfl rfl Body117 (cut_bytes C D) (fun w h => hW.ext h rfl) ?_
 rintro v7 out7 ⟨s7, rfl, hac7⟩
 refine Tr.m rfl rfl rfl ?_
 refine Tr.eX rfl rfl rfl rfl ?_
 refine Tr.eX rfl rfl rfl rfl ?_
 refine Tr.a rfl rfl rfl ?_
 refine Tr.a rfl rfl rfl ?_
 refine Tr.nil (Aa (Sat.seq (Sat.seq (Sat.region ?_))))
 refine Tr.m rfl rfl rfl ?_
 refine two (fun r hr k => Tr.nei rfl rfl rfl rfl hr k) (fun hs2_10 => ?_) (fun hs2_10 => ?_)
 ·
  first | have hs2_1 := of_decide_eq_true hs2_10 | have hs2_1 := of_decide_eq_false hs2_10 | have hs2_1 := A2 hs2_10 | have hs2_1 := A3 hs2_10 | have hs2_1 := hs2_10
  skip
  refine Tr.nil (Aa ?_)
  refine Sat.cond_t rfl rfl ?_
  refine Sat.seq (Sat.region ?_)
  refine Tr.build (cs := Ab (List.replicate 32 0)) rfl rfl rfl (fun w => by kernel_rfl) ?_
  first
   | refine Tr.sA rfl rfl rfl rfl cB Bb (by first | (simp [hs32, hs64]; done) | assumption | (rw [Ab, List.length_map]; assumption)) mM (by first | (simp [hs32, hs64]; done) | assumption | (rw [Ab, List.length_map]; assumption)) uU ?_
   | refine Tr.storeN _ rfl rfl rfl rfl rfl cB Bb (by first | (simp [hs32, hs64]; done) | assumption | (rw [Ab, List.length_map]; assumption)) mM (by first | (simp [hs32, hs64]; done) | assumption | (rw [Ab, List.length_map]; assumption)) (by exact rfl) uU ?_
  refine Tr.nil (Aa (Sat.ret (Ao (Am ?_))))
  refine ⟨_, [], res_cell rfl rfl Y50 rfl Bb mM (by simp [hs32, hs64]), sP, sP, ?_, rfl⟩
  first
   | (rw [cnameD, if_neg hs2_1]; done)
   | (rw [cnameD, if_pos h0, hsd.out]; done)
 ·
  first | have hs2_1 := of_decide_eq_true hs2_10 | have hs2_1 := of_decide_eq_false hs2_10 | have hs2_1 := A2 hs2_10 | have hs2_1 := A3 hs2_10 | have hs2_1 := hs2_10
  have h0 : D.check = 0 := by omega
  have hb7 : cutR D = D.bytes := if_pos h0
  refine Tr.nil (Aa ?_)
  refine Sat.cond_f rfl rfl ?_
  refine Sat.skip (Aa (Sat.seq (Sat.region ?_)))
  refine Tr.m rfl rfl rfl ?_
  refine Tr.mkRow (z := .slice none 0 0) [s7.v] [s7.v] rfl rfl rfl Tryz.underlying250 Sz58 Zr58 rfl rfl (by intro v hv; rw [List.mem_singleton.1 hv]; rfl) dE rfl ?_
  intro q14
  refine Tr.cV rfl rfl rfl rfl Body207 (sha_Sum k s0 i0 G hk hk80 hs0 hs8 hG hGl hi0 hi8 (some ⟨q14, 0, none⟩) 1 1 [s7] [D.bytes] rfl rfl (fun j hj => (by obtain rfl : j = 0 := oM; exact ⟨by simp [hac7.num, hb7], fun e => hac7.nil e⟩)) D.bytes sP (by have := D.bytes_small h0 (hW.fPrev ▸ hW.ok.l_fPrev) hW.fHeads.row; omega) dE r hr s hs) (fun w h => ⟨SeesP.of (Ap h mM), fun j hj => (by obtain rfl : j = 0 := oM; exact (by have := hac7.see (Lies.of h iN); rw [hb7] at this; exact this))⟩) ?_
  first
   | refine Tr.sA rfl rfl rfl rfl cB Bb (by first | (simp [hs32, hs64]; done) | assumption | (rw [Ab, List.length_map]; assumption)) mM (by first | (simp [hs32, hs64]; done) | assumption | (rw [Ab, List.length_map]; assumption)) uU ?_
   | refine Tr.storeN _ rfl rfl rfl rfl rfl cB Bb (by first | (simp [hs32, hs64]; done) | assumption | (rw [Ab, List.length_map]; assumption)) mM (by first | (simp [hs32, hs64]; done) | assumption | (rw [Ab, List.length_map]; assumption)) (by exact rfl) uU ?_
  refine Tr.nil (Aa (Sat.ret (Am ?_)))
  refine ⟨_, [], res_cell rfl rfl Y50 rfl Bb mM (by simp [hs32, hs64]), sP, sP, ?_, rfl⟩
  first
   | (rw [cnameD, if_neg hs2_1]; done)
   | (rw [cnameD, if_pos h0, hsd.out]; done)

end Go.Proofs.YtdifpjmfabhpiaaGreat
end

section
namespace Go.Proofs.YtdifpjmfabhpiaaGreat
open Go Hw

def DCert.vote (D : DCert) (k : Nat) : Vote := D.dVotes.getD k Vote.zero
def DCert.head (D : DCert) : Bool := (!decide (D.dCut.check = 0)) || (decide ((D.dVotes.length : Int) < 1) || decide ((16 : Int) < (D.dVotes.length : Int)))
def DCert.bad (D : DCert) (k : Nat) : Prop := ¬ Bw (D.vote k) = 0 ∨ ¬ (D.vote k).fPhase = 3 ∨ ¬ ((D.vote k).fHeight.toNat : Int) = (D.dCut.dHeight.toNat : Int) ∨ ¬ (D.vote k).fValue = cnameD D.dCut ∨ ¬ ((D.vote k).fRound.toNat : Int) = ((D.vote 0).fRound.toNat : Int) ∨ (0 < k ∧ (0 : Int) ≤ cmpB (D.vote (k - 1)).fVoter (D.vote k).fVoter)
open Classical in
noncomputable def DCert.check (D : DCert) : Int := if D.head = true ∨ ∃ k, k < D.dVotes.length ∧ D.bad k then 2 else 0
theorem cert_bad1 {D : DCert} (h : D.head = true) : D.check = 2 := if_pos (.inl h)
theorem cert_bad2 {D : DCert} {k : Nat} (h : k < D.dVotes.length) (hb : D.bad k) : D.check = 2 := if_pos (.inr ⟨k, h, hb⟩)
theorem cert_good {D : DCert} (h : ¬ D.head = true) (hb : ∀ j, j < D.dVotes.length → ¬ D.bad j) : D.check = 0 := if_neg fun e => e.elim h fun ⟨j, h1, h2⟩ => hb j h1 h2
theorem sees_sub {w : World} {b o off : Nat} {cs l : List Value} (hs : Cb w b o cs) (h : ∀ (j : Nat) (v : Value), l[j]? = some v → cs[off + j]? = some v) : Cb w b (o + off) l := fun j v hj => by
  have := hs _ v (h j v hj)
  rwa [← Nat.add_assoc] at this
theorem vote_is {D : DCert} {k : Nat} {V : Vote} (h : D.dVotes[k]? = some V) : D.vote k = V := by simp [DCert.vote, List.getD_eq_getElem?_getD, h]

theorem cert_check (C : Cert) (D : DCert) : Meets Tryz.prog 31 [agg C.cells] [] (fun W => CertIs W C D) (fun v out => v = i64 D.check ∧ out = []) := by
 intro W hW
 obtain ⟨rs, hV⟩ := hW.fVotes
 have hok := hW.ok
 have hmax := hV.max
 simp only [maxLen] at hmax
 have hcap := hV.cap
 have hnd := hV.nd
 have ehh := hW.fCut.fHeight
 refine An Tryz.func31 rfl 79 Tryz.ntmps31 rfl ?_
 refine Sat.seq (Sat.region ?_)
 refine Tr.boxA rfl rfl ?_
 intro n1 hn1 hf1
 refine Tr.a rfl rfl rfl ?_
 refine Tr.nil (Aa (Sat.seq (Sat.seq (Sat.region ?_))))
 refine Tr.fld rfl rfl rfl Y55 rfl Ca dE _ rfl ?_
 refine Tr.lN (Cut.cells _) rfl rfl rfl Y53 rfl Ca mM (Cert.row_fCut (by first | (simp [Ag, hW.fCut.ok.l_fPrev]; done) | exact oK  | exact hok | exact hVk | exact hok.o_fCut)) (Cert.rl_fCut (by first | (simp [Ag, hW.fCut.ok.l_fPrev]; done) | exact oK  | exact hok | exact hVk | exact hok.o_fCut)) ?_
 refine Tr.cV rfl rfl rfl rfl Body87 (cut_check C.fCut D.dCut) (fun w h => hW.fCut.ext h rfl) ?_
 refine two (fun r hr k => Tr.nei rfl rfl rfl rfl hr k) (fun hs1_30 => ?_) (fun hs1_30 => ?_)
 ·
  first | have hs1_3 := of_decide_eq_true hs1_30 | have hs1_3 := of_decide_eq_false hs1_30 | have hs1_3 := A2 hs1_30 | have hs1_3 := A3 hs1_30 | have hs1_3 := hs1_30
  refine Tr.m rfl rfl rfl ?_
  refine Tr.skp rfl rfl ?_
  refine Tr.skp rfl rfl ?_
  refine Tr.skp rfl rfl ?_
  refine Tr.skp rfl rfl ?_
  refine Tr.pick rfl rfl rfl rfl rfl rfl ?_
  refine Tr.m rfl rfl rfl ?_
  refine Tr.skp rfl rfl ?_
  refine Tr.skp rfl rfl ?_
  refine Tr.skp rfl rfl ?_
  refine Tr.skp rfl rfl ?_
  refine Tr.pick rfl rfl rfl rfl rfl rfl ?_
  refine Tr.nil (Aa ?_)
  refine Sat.cond_t rfl rfl ?_
  refine Sat.seq (Sat.region ?_)
  refine Tr.a rfl rfl rfl ?_
  refine Tr.nil (Aa (Sat.ret (Ao (Am ?_))))
  refine ⟨_, [], Ae rfl rfl, sP, sP, ?_, rfl⟩
  first
   | exact congrArg i64 (cert_bad1 (by simp only [DCert.head, hnd, Bool.or_eq_true, Bool.not_eq_true', decide_eq_true_eq, decide_eq_false_iff_not]; omega)).symm
   | exact congrArg i64 (cert_bad2 (k := k) oM (by
     simp only [DCert.bad, hvk, hv0, ← ehh]
     first
      | exact .inl ‹_›
      | exact .inr (.inl ‹_›)
      | exact .inr (.inr (.inl ‹_›))
      | exact .inr (.inr (.inr (.inl ‹_›)))
      | exact .inr (.inr (.inr (.inr (.inl ‹_›))))
      | (rw [vote_is hdp]; exact .inr (.inr (.inr (.inr (.inr ⟨by omega, by omega⟩))))))).symm
   | exact congrArg i64 (cert_good hnb (by rw [hnd]; exact hg)).symm
 ·
  first | have hs1_3 := of_decide_eq_true hs1_30 | have hs1_3 := of_decide_eq_false hs1_30 | have hs1_3 := A2 hs1_30 | have hs1_3 := A3 hs1_30 | have hs1_3 := hs1_30
  refine Tr.m rfl rfl rfl ?_
  refine Tr.fld rfl rfl rfl Y55 rfl Sz24 dE _ rfl ?_
  refine Tr.load1 rfl rfl rfl Y24 rfl mM (by first | exact Cert.get_fVotes (by first | (simp [Ag, hW.fCut.ok.l_fPrev]; done) | exact oK  | exact hok | exact hVk | exact hok.o_fCut) | exact (by first | rfl | exact Az (by first | omega | (simp [Ag, hW.fCut.ok.l_fPrev]; done) | (simp [Ag, hW.fCut.ok.l_fPrev]; omega)) | exact A9 (by first | omega | (simp [Ag, hW.fCut.ok.l_fPrev]; done) | (simp [Ag, hW.fCut.ok.l_fPrev]; omega)) | exact Bp (by first | omega | (simp [Ag, hW.fCut.ok.l_fPrev]; done) | (simp [Ag, hW.fCut.ok.l_fPrev]; omega)))) ?_
  refine Tr.lenSl rfl rfl rfl Y24 ?_
  refine two (fun r hr k => Tr.lss rfl rfl rfl rfl hr k) (fun hs1_80 => ?_) (fun hs1_80 => ?_)
  ·
   first | have hs1_8 := of_decide_eq_true hs1_80 | have hs1_8 := of_decide_eq_false hs1_80 | have hs1_8 := A2 hs1_80 | have hs1_8 := A3 hs1_80 | have hs1_8 := hs1_80
   refine Tr.pick rfl rfl rfl rfl rfl rfl ?_
   refine Tr.m rfl rfl rfl ?_
   refine Tr.skp rfl rfl ?_
   refine Tr.skp rfl rfl ?_
   refine Tr.skp rfl rfl ?_
   refine Tr.skp rfl rfl ?_
   refine Tr.pick rfl rfl rfl rfl rfl rfl ?_
   refine Tr.nil (Aa ?_)
   refine Sat.cond_t rfl rfl ?_
   refine Sat.seq (Sat.region ?_)
   refine Tr.a rfl rfl rfl ?_
   refine Tr.nil (Aa (Sat.ret (Ao (Am ?_))))
   refine ⟨_, [], Ae rfl rfl, sP, sP, ?_, rfl⟩
   first
    | exact congrArg i64 (cert_bad1 (by simp only [DCert.head, hnd, Bool.or_eq_true, Bool.not_eq_true', decide_eq_true_eq, decide_eq_false_iff_not]; omega)).symm
    | exact congrArg i64 (cert_bad2 (k := k) oM (by
      simp only [DCert.bad, hvk, hv0, ← ehh]
      first
       | exact .inl ‹_›
       | exact .inr (.inl ‹_›)
       | exact .inr (.inr (.inl ‹_›))
       | exact .inr (.inr (.inr (.inl ‹_›)))
       | exact .inr (.inr (.inr (.inr (.inl ‹_›))))
       | (rw [vote_is hdp]; exact .inr (.inr (.inr (.inr (.inr ⟨by omega, by omega⟩))))))).symm
    | exact congrArg i64 (cert_good hnb (by rw [hnd]; exact hg)).symm
  ·
   first | have hs1_8 := of_decide_eq_true hs1_80 | have hs1_8 := of_decide_eq_false hs1_80 | have hs1_8 := A2 hs1_80 | have hs1_8 := A3 hs1_80 | have hs1_8 := hs1_80
   refine Tr.pick rfl rfl rfl rfl rfl rfl ?_
   refine Tr.m rfl rfl rfl ?_
   refine Tr.fld rfl rfl rfl Y55 rfl Sz24 dE _ rfl ?_
   refine Tr.load1 rfl rfl rfl Y24 rfl mM (by first | exact Cert.get_fVotes (by first | (simp [Ag, hW.fCut.ok.l_fPrev]; done) | exact oK  | exact hok | exact hVk | exact hok.o_fCut) | exact (by first | rfl | exact Az (by first | omega | (simp [Ag, hW.fCut.ok.l_fPrev]; done) | (simp [Ag, hW.fCut.ok.l_fPrev]; omega)) | exact A9 (by first | omega | (simp [Ag, hW.fCut.ok.l_fPrev]; done) | (simp [Ag, hW.fCut.ok.l_fPrev]; omega)) | exact Bp (by first | omega | (simp [Ag, hW.fCut.ok.l_fPrev]; done) | (simp [Ag, hW.fCut.ok.l_fPrev]; omega)))) ?_
   refine Tr.lenSl rfl rfl rfl Y24 ?_
   refine Tr.gtr rfl rfl rfl rfl rfl ?_
   refine Tr.pick rfl rfl rfl rfl rfl rfl ?_
   refine Tr.nil (Aa ?_)
   first
    | refine Sat.condP rfl (fun hc0 => ?_) (fun hc0 => ?_)
    | refine Sat.condNP rfl (fun hc0 => ?_) (fun hc0 => ?_)
    | refine Sat.cond rfl (fun hc0 => ?_) (fun hc0 => ?_)
   ·
    refine Sat.seq (Sat.region ?_)
    refine Tr.a rfl rfl rfl ?_
    refine Tr.nil (Aa (Sat.ret (Ao (Am ?_))))
    refine ⟨_, [], Ae rfl rfl, sP, sP, ?_, rfl⟩
    first
     | exact congrArg i64 (cert_bad1 (by simp only [DCert.head, hnd, Bool.or_eq_true, Bool.not_eq_true', decide_eq_true_eq, decide_eq_false_iff_not]; omega)).symm
     | exact congrArg i64 (cert_bad2 (k := k) oM (by
       simp only [DCert.bad, hvk, hv0, ← ehh]
       first
        | exact .inl ‹_›
        | exact .inr (.inl ‹_›)
        | exact .inr (.inr (.inl ‹_›))
        | exact .inr (.inr (.inr (.inl ‹_›)))
        | exact .inr (.inr (.inr (.inr (.inl ‹_›))))
        | (rw [vote_is hdp]; exact .inr (.inr (.inr (.inr (.inr ⟨by omega, by omega⟩))))))).symm
     | exact congrArg i64 (cert_good hnb (by rw [hnd]; exact hg)).symm
   ·
    have hnb : ¬ D.head = true := by simp only [DCert.head, hnd, Bool.or_eq_true, Bool.not_eq_true', decide_eq_true_eq, decide_eq_false_iff_not]; omega
    refine Sat.skip (Aa (Sat.seq (Sat.region ?_)))
    refine Tr.fld rfl rfl rfl Y55 rfl Ca dE _ rfl ?_
    refine Tr.lN (Cut.cells _) rfl rfl rfl Y53 rfl Ca mM (Cert.row_fCut (by first | (simp [Ag, hW.fCut.ok.l_fPrev]; done) | exact oK  | exact hok | exact hVk | exact hok.o_fCut)) (Cert.rl_fCut (by first | (simp [Ag, hW.fCut.ok.l_fPrev]; done) | exact oK  | exact hok | exact hVk | exact hok.o_fCut)) ?_
    refine Tr.cV rfl rfl rfl rfl Body122 (cut_name C.fCut D.dCut) (fun w h => hW.fCut.ext h rfl) ?_
    refine Tr.alloc (cs := (Ab (List.replicate 32 0))) rfl Zr50 rfl ?_
    intro n3 hn3 hf3
    first
     | refine Tr.sA rfl rfl rfl rfl cB Bb (by first | (simp [Ag, hW.fCut.ok.l_fPrev]; done) | assumption | (rw [Ab, List.length_map]; assumption)) mM (by first | (simp [Ag, hW.fCut.ok.l_fPrev]; done) | assumption | (rw [Ab, List.length_map]; assumption)) uU ?_
     | refine Tr.storeN _ rfl rfl rfl rfl rfl cB Bb (by first | (simp [Ag, hW.fCut.ok.l_fPrev]; done) | assumption | (rw [Ab, List.length_map]; assumption)) mM (by first | (simp [Ag, hW.fCut.ok.l_fPrev]; done) | assumption | (rw [Ab, List.length_map]; assumption)) (by exact rfl) uU ?_
    refine Tr.nil (Aa (Sat.seq (Sat.seq (Sat.region ?_))))
    refine Tr.fld rfl rfl rfl Y55 rfl Sz24 dE _ rfl ?_
    refine Tr.load1 rfl rfl rfl Y24 rfl mM (by first | exact Cert.get_fVotes (by first | (simp [Ag, hW.fCut.ok.l_fPrev]; done) | exact oK  | exact hok | exact hVk | exact hok.o_fCut) | exact (by first | rfl | exact Az (by first | omega | (simp [Ag, hW.fCut.ok.l_fPrev]; done) | (simp [Ag, hW.fCut.ok.l_fPrev]; omega)) | exact A9 (by first | omega | (simp [Ag, hW.fCut.ok.l_fPrev]; done) | (simp [Ag, hW.fCut.ok.l_fPrev]; omega)) | exact Bp (by first | omega | (simp [Ag, hW.fCut.ok.l_fPrev]; done) | (simp [Ag, hW.fCut.ok.l_fPrev]; omega)))) ?_
    refine Tr.lenSl rfl rfl rfl Y24 ?_
    refine Tr.m rfl rfl rfl ?_
    refine Tr.nil (Aa (Sat.block ?_))
    refine Sat.loop (ι := Nat) (fun k => ⟨[(1, ptr n1 0), (3, ptr n3 0), (26, C.fVotes.v), (27, i64 (C.fVotes.n : Int)), (28, i64 (k : Int))], [⟨n3, Ab (cnameD D.dCut), 50, 32⟩, ⟨n1, C.cells, 55, C.cells.length⟩]⟩) (fun k => k ≤ C.fVotes.n ∧ ∀ j, j < k → ¬ D.bad j) (fun k => C.fVotes.n - k) (0) ?_ ?_ ?_
    · exact ⟨by omega, fun j hj => by omega⟩
    · exact Ar (wk1 rfl (wk1 rfl (wk1 rfl (wk1 rfl (wk1 rfl wk0))))) (wh1 mM (wh1 mM wh0)) nD
    ·
     rintro k ⟨hk, hg⟩
     refine Sat.seq (Sat.region ?_)
     refine Tr.lss rfl rfl rfl rfl rfl ?_
     refine Tr.nil (Aa (Sat.seq ?_))
     first
      | refine Sat.condP rfl (fun hc1 => ?_) (fun hc1 => ?_)
      | refine Sat.condNP rfl (fun hc1 => ?_) (fun hc1 => ?_)
      | refine Sat.cond rfl (fun hc1 => ?_) (fun hc1 => ?_)
     ·
      have hk2 : k < C.fVotes.n := by omega
      obtain ⟨b, o, Vk, d, hsp, hr, hd, his, hlen, hsee⟩ := hV.at dE hk2
      obtain rfl := his.eq
      have hVk := his.ok
      have hlv := hVk.l_fValue
      obtain ⟨b0, o0, V0, d0, hsp0, hr0, hd0, his0, hlen0, hsee0⟩ := hV.at dE (show 0 < C.fVotes.n by omega)
      obtain rfl := his0.eq
      have hV0 := his0.ok
      have hvk := vote_is hd
      have hv0 := vote_is hd0
      refine Sat.skip (Aa (Sat.seq (Sat.block (Sat.seq (Sat.region ?_)))))
      refine Tr.m rfl rfl rfl ?_
      refine Tr.idxSlP 132 rfl rfl rfl hsp rfl Y24 Sz81 (k) oM oM ?_
      refine Tr.loadEN Vk.cells rfl rfl rfl Y81 rfl Sz81 sP hlen hsee ?_
      refine Tr.alloc (cs := Vote.zero.cells) rfl Vote.zr rfl ?_
      intro n5 hn5 hf5
      refine Tr.a rfl rfl rfl ?_
      refine Tr.sA rfl rfl rfl rfl (Vote.isCell (by first | (simp [Ag, hW.fCut.ok.l_fPrev]; done) | exact oK  | exact hok | exact hVk | exact hok.o_fCut)) Sz81 (Vote.length (by first | (simp [Ag, hW.fCut.ok.l_fPrev]; done) | exact oK  | exact hok | exact hVk | exact hok.o_fCut)) mM (Vote.length (by first | (simp [Ag, hW.fCut.ok.l_fPrev]; done) | exact oK  | exact hok | exact hVk | exact hok.o_fCut)) uU ?_
      refine Tr.nil (Aa (Sat.seq (Sat.seq (Sat.region ?_))))
      refine Tr.lA rfl rfl rfl Y81 rfl Sz81 mM (Vote.length (by first | (simp [Ag, hW.fCut.ok.l_fPrev]; done) | exact oK  | exact hok | exact hVk | exact hok.o_fCut)) ?_
      refine Tr.cV rfl rfl rfl rfl Body85 (vote_check Vk hVk) tV ?_
      refine two (fun r hr k => Tr.nei rfl rfl rfl rfl hr k) (fun hs7_20 => ?_) (fun hs7_20 => ?_)
      ·
       first | have hs7_2 := of_decide_eq_true hs7_20 | have hs7_2 := of_decide_eq_false hs7_20 | have hs7_2 := A2 hs7_20 | have hs7_2 := A3 hs7_20 | have hs7_2 := hs7_20
       refine Tr.m rfl rfl rfl ?_
       refine Tr.skp rfl rfl ?_
       refine Tr.skp rfl rfl ?_
       refine Tr.skp rfl rfl ?_
       refine Tr.pick rfl rfl rfl rfl rfl rfl ?_
       refine Tr.m rfl rfl rfl ?_
       refine Tr.skp rfl rfl ?_
       refine Tr.skp rfl rfl ?_
       refine Tr.skp rfl rfl ?_
       refine Tr.skp rfl rfl ?_
       refine Tr.skp rfl rfl ?_
       refine Tr.skp rfl rfl ?_
       refine Tr.pick rfl rfl rfl rfl rfl rfl ?_
       refine Tr.nil (Aa ?_)
       refine Sat.cond_t rfl rfl ?_
       refine Sat.seq (Sat.region ?_)
       refine Tr.a rfl rfl rfl ?_
       refine Tr.nil (Aa (Sat.ret (Ao (B8 (Ao (Ao (B8 (Ao (Am ?_)))))))))
       refine ⟨_, [], Ae rfl rfl, sP, sP, ?_, rfl⟩
       first
        | exact congrArg i64 (cert_bad1 (by simp only [DCert.head, hnd, Bool.or_eq_true, Bool.not_eq_true', decide_eq_true_eq, decide_eq_false_iff_not]; omega)).symm
        | exact congrArg i64 (cert_bad2 (k := k) oM (by
          simp only [DCert.bad, hvk, hv0, ← ehh]
          first
           | exact .inl ‹_›
           | exact .inr (.inl ‹_›)
           | exact .inr (.inr (.inl ‹_›))
           | exact .inr (.inr (.inr (.inl ‹_›)))
           | exact .inr (.inr (.inr (.inr (.inl ‹_›))))
           | (rw [vote_is hdp]; exact .inr (.inr (.inr (.inr (.inr ⟨by omega, by omega⟩))))))).symm
        | exact congrArg i64 (cert_good hnb (by rw [hnd]; exact hg)).symm
      ·
       first | have hs7_2 := of_decide_eq_true hs7_20 | have hs7_2 := of_decide_eq_false hs7_20 | have hs7_2 := A2 hs7_20 | have hs7_2 := A3 hs7_20 | have hs7_2 := hs7_20
       refine Tr.m rfl rfl rfl ?_
       refine Tr.fld rfl rfl rfl Y81 rfl Sz3 dE _ rfl ?_
       refine Tr.load1 rfl rfl rfl Y3 rfl mM (by first | exact Vote.get_fPhase (by first | (simp [Ag, hW.fCut.ok.l_fPrev]; done) | exact oK  | exact hok | exact hVk | exact hok.o_fCut) | exact (by first | rfl | exact Az (by first | omega | (simp [Ag, hW.fCut.ok.l_fPrev]; done) | (simp [Ag, hW.fCut.ok.l_fPrev]; omega)) | exact A9 (by first | omega | (simp [Ag, hW.fCut.ok.l_fPrev]; done) | (simp [Ag, hW.fCut.ok.l_fPrev]; omega)) | exact Bp (by first | omega | (simp [Ag, hW.fCut.ok.l_fPrev]; done) | (simp [Ag, hW.fCut.ok.l_fPrev]; omega)))) ?_
       refine two (fun r hr k => Tr.nei rfl rfl rfl rfl hr k) (fun hs7_60 => ?_) (fun hs7_60 => ?_)
       ·
        first | have hs7_6 := of_decide_eq_true hs7_60 | have hs7_6 := of_decide_eq_false hs7_60 | have hs7_6 := A2 hs7_60 | have hs7_6 := A3 hs7_60 | have hs7_6 := hs7_60
        refine Tr.pick rfl rfl rfl rfl rfl rfl ?_
        refine Tr.m rfl rfl rfl ?_
        refine Tr.skp rfl rfl ?_
        refine Tr.skp rfl rfl ?_
        refine Tr.skp rfl rfl ?_
        refine Tr.skp rfl rfl ?_
        refine Tr.skp rfl rfl ?_
        refine Tr.skp rfl rfl ?_
        refine Tr.pick rfl rfl rfl rfl rfl rfl ?_
        refine Tr.nil (Aa ?_)
        refine Sat.cond_t rfl rfl ?_
        refine Sat.seq (Sat.region ?_)
        refine Tr.a rfl rfl rfl ?_
        refine Tr.nil (Aa (Sat.ret (Ao (B8 (Ao (Ao (B8 (Ao (Am ?_)))))))))
        refine ⟨_, [], Ae rfl rfl, sP, sP, ?_, rfl⟩
        first
         | exact congrArg i64 (cert_bad1 (by simp only [DCert.head, hnd, Bool.or_eq_true, Bool.not_eq_true', decide_eq_true_eq, decide_eq_false_iff_not]; omega)).symm
         | exact congrArg i64 (cert_bad2 (k := k) oM (by
           simp only [DCert.bad, hvk, hv0, ← ehh]
           first
            | exact .inl ‹_›
            | exact .inr (.inl ‹_›)
            | exact .inr (.inr (.inl ‹_›))
            | exact .inr (.inr (.inr (.inl ‹_›)))
            | exact .inr (.inr (.inr (.inr (.inl ‹_›))))
            | (rw [vote_is hdp]; exact .inr (.inr (.inr (.inr (.inr ⟨by omega, by omega⟩))))))).symm
         | exact congrArg i64 (cert_good hnb (by rw [hnd]; exact hg)).symm
       ·
        first | have hs7_6 := of_decide_eq_true hs7_60 | have hs7_6 := of_decide_eq_false hs7_60 | have hs7_6 := A2 hs7_60 | have hs7_6 := A3 hs7_60 | have hs7_6 := hs7_60
        refine Tr.pick rfl rfl rfl rfl rfl rfl ?_
        refine Tr.m rfl rfl rfl ?_
        refine Tr.fld rfl rfl rfl Y81 rfl B1 dE _ rfl ?_
        refine Tr.load1 rfl rfl rfl Y48 rfl mM (by first | exact Vote.get_fHeight (by first | (simp [Ag, hW.fCut.ok.l_fPrev]; done) | exact oK  | exact hok | exact hVk | exact hok.o_fCut) | exact (by first | rfl | exact Az (by first | omega | (simp [Ag, hW.fCut.ok.l_fPrev]; done) | (simp [Ag, hW.fCut.ok.l_fPrev]; omega)) | exact A9 (by first | omega | (simp [Ag, hW.fCut.ok.l_fPrev]; done) | (simp [Ag, hW.fCut.ok.l_fPrev]; omega)) | exact Bp (by first | omega | (simp [Ag, hW.fCut.ok.l_fPrev]; done) | (simp [Ag, hW.fCut.ok.l_fPrev]; omega)))) ?_
        refine Tr.fld rfl rfl rfl Y55 rfl Ca dE _ rfl ?_
        refine Tr.fld rfl rfl rfl Y53 rfl B1 dE _ rfl ?_
        refine Tr.load1 rfl rfl rfl Y48 rfl mM (Cert.see_fCut hok 0 _ (Cut.get_fHeight hok.o_fCut)) ?_
        refine Tr.nei rfl rfl rfl rfl rfl ?_
        refine Tr.pick rfl rfl rfl rfl rfl rfl ?_
        refine Tr.nil (Aa ?_)
        first
         | refine Sat.condP rfl (fun hc2 => ?_) (fun hc2 => ?_)
         | refine Sat.condNP rfl (fun hc2 => ?_) (fun hc2 => ?_)
         | refine Sat.cond rfl (fun hc2 => ?_) (fun hc2 => ?_)
        ·
         refine Sat.seq (Sat.region ?_)
         refine Tr.a rfl rfl rfl ?_
         refine Tr.nil (Aa (Sat.ret (Ao (B8 (Ao (Ao (B8 (Ao (Am ?_)))))))))
         refine ⟨_, [], Ae rfl rfl, sP, sP, ?_, rfl⟩
         first
          | exact congrArg i64 (cert_bad1 (by simp only [DCert.head, hnd, Bool.or_eq_true, Bool.not_eq_true', decide_eq_true_eq, decide_eq_false_iff_not]; omega)).symm
          | exact congrArg i64 (cert_bad2 (k := k) oM (by
            simp only [DCert.bad, hvk, hv0, ← ehh]
            first
             | exact .inl ‹_›
             | exact .inr (.inl ‹_›)
             | exact .inr (.inr (.inl ‹_›))
             | exact .inr (.inr (.inr (.inl ‹_›)))
             | exact .inr (.inr (.inr (.inr (.inl ‹_›))))
             | (rw [vote_is hdp]; exact .inr (.inr (.inr (.inr (.inr ⟨by omega, by omega⟩))))))).symm
          | exact congrArg i64 (cert_good hnb (by rw [hnd]; exact hg)).symm
        ·
         refine Sat.skip (Aa (Sat.seq (Sat.seq ?_)))
         refine Sat.draw [(0, 0), (1, 1), (1, 2), (0, 3), (0, 4), (0, 5), (1, 6), (0, 7), (1, 8), (0, 9), (0, 10), (1, 11), (0, 12), (0, 13)] Bv zK ?_
         refine Tr.fld rfl rfl rfl Y81 rfl Bb dE _ rfl ?_
         first
          | refine Tr.lN (Ab _) rfl rfl rfl Y50 rfl Bb mM (Vote.row_fValue (by first | (simp [Ag, hW.fCut.ok.l_fPrev]; done) | exact oK  | exact hok | exact hVk | exact hok.o_fCut)) (Vote.rl_fValue (by first | (simp [Ag, hW.fCut.ok.l_fPrev]; done) | exact oK  | exact hok | exact hVk | exact hok.o_fCut)) ?_
         first
          | refine Tr.lA rfl rfl rfl Y50 rfl Bb mM (by first | (simp [Ag, hW.fCut.ok.l_fPrev]; done) | assumption | (rw [Ab, List.length_map]; assumption)) ?_
          | refine Tr.lN _ rfl rfl rfl Y50 rfl Bb mM (by exact rfl) (by first | (simp [Ag, hW.fCut.ok.l_fPrev]; done) | assumption | (rw [Ab, List.length_map]; assumption)) ?_
         refine two (fun r hr k => Tr.neq_bytes rfl rfl rfl rfl Tryz.eqGuardType50 Y50 Y5 Sz5 (by first | (simp [Ag, hW.fCut.ok.l_fPrev]; done) | assumption | (rw [Ab, List.length_map]; assumption)) (by first | (simp [Ag, hW.fCut.ok.l_fPrev]; done) | assumption | (rw [Ab, List.length_map]; assumption)) hr k) (fun hs9_30 => ?_) (fun hs9_30 => ?_)
         ·
          first | have hs9_3 := of_decide_eq_true hs9_30 | have hs9_3 := of_decide_eq_false hs9_30 | have hs9_3 := A2 hs9_30 | have hs9_3 := A3 hs9_30 | have hs9_3 := hs9_30
          refine Tr.m rfl rfl rfl ?_
          refine Tr.skp rfl rfl ?_
          refine Tr.skp rfl rfl ?_
          refine Tr.skp rfl rfl ?_
          refine Tr.skp rfl rfl ?_
          refine Tr.skp rfl rfl ?_
          refine Tr.skp rfl rfl ?_
          refine Tr.skp rfl rfl ?_
          refine Tr.skp rfl rfl ?_
          refine Tr.pick rfl rfl rfl rfl rfl rfl ?_
          refine Tr.nil (Aa ?_)
          refine Sat.cond_t rfl rfl ?_
          refine Sat.seq (Sat.region ?_)
          refine Tr.a rfl rfl rfl ?_
          refine Tr.nil (Aa (Sat.ret (Ao (B8 (Ao (Ao (B8 (Ao (Am ?_)))))))))
          refine ⟨_, [], Ae rfl rfl, sP, sP, ?_, rfl⟩
          first
           | exact congrArg i64 (cert_bad1 (by simp only [DCert.head, hnd, Bool.or_eq_true, Bool.not_eq_true', decide_eq_true_eq, decide_eq_false_iff_not]; omega)).symm
           | exact congrArg i64 (cert_bad2 (k := k) oM (by
             simp only [DCert.bad, hvk, hv0, ← ehh]
             first
              | exact .inl ‹_›
              | exact .inr (.inl ‹_›)
              | exact .inr (.inr (.inl ‹_›))
              | exact .inr (.inr (.inr (.inl ‹_›)))
              | exact .inr (.inr (.inr (.inr (.inl ‹_›))))
              | (rw [vote_is hdp]; exact .inr (.inr (.inr (.inr (.inr ⟨by omega, by omega⟩))))))).symm
           | exact congrArg i64 (cert_good hnb (by rw [hnd]; exact hg)).symm
         ·
          first | have hs9_3 := of_decide_eq_true hs9_30 | have hs9_3 := of_decide_eq_false hs9_30 | have hs9_3 := A2 hs9_30 | have hs9_3 := A3 hs9_30 | have hs9_3 := hs9_30
          refine Tr.m rfl rfl rfl ?_
          refine Tr.fld rfl rfl rfl Y81 rfl B1 dE _ rfl ?_
          refine Tr.load1 rfl rfl rfl Y48 rfl mM (by first | exact Vote.get_fRound (by first | (simp [Ag, hW.fCut.ok.l_fPrev]; done) | exact oK  | exact hok | exact hVk | exact hok.o_fCut) | exact (by first | rfl | exact Az (by first | omega | (simp [Ag, hW.fCut.ok.l_fPrev]; done) | (simp [Ag, hW.fCut.ok.l_fPrev]; omega)) | exact A9 (by first | omega | (simp [Ag, hW.fCut.ok.l_fPrev]; done) | (simp [Ag, hW.fCut.ok.l_fPrev]; omega)) | exact Bp (by first | omega | (simp [Ag, hW.fCut.ok.l_fPrev]; done) | (simp [Ag, hW.fCut.ok.l_fPrev]; omega)))) ?_
          refine Tr.fld rfl rfl rfl Y55 rfl Sz24 dE _ rfl ?_
          refine Tr.load1 rfl rfl rfl Y24 rfl mM (by first | exact Cert.get_fVotes (by first | (simp [Ag, hW.fCut.ok.l_fPrev]; done) | exact oK  | exact hok | exact hVk | exact hok.o_fCut) | exact (by first | rfl | exact Az (by first | omega | (simp [Ag, hW.fCut.ok.l_fPrev]; done) | (simp [Ag, hW.fCut.ok.l_fPrev]; omega)) | exact A9 (by first | omega | (simp [Ag, hW.fCut.ok.l_fPrev]; done) | (simp [Ag, hW.fCut.ok.l_fPrev]; omega)) | exact Bp (by first | omega | (simp [Ag, hW.fCut.ok.l_fPrev]; done) | (simp [Ag, hW.fCut.ok.l_fPrev]; omega)))) ?_
          refine Tr.idxSlP 132 rfl rfl rfl hsp0 rfl Y24 Sz81 (0) oM oM ?_
          refine Tr.fld rfl rfl rfl Y81 rfl B1 dE _ rfl ?_
          refine Tr.loadE rfl rfl rfl Y48 rfl (by first | (simp; done) | (simp; exact hW.2.2) | (simp [Cx.with]; done) | (simp [Cx.with]; omega)) (hsee0 1 _ (Vote.get_fRound hV0)) ?_
          refine Tr.nei rfl rfl rfl rfl rfl ?_
          refine Tr.pick rfl rfl rfl rfl rfl rfl ?_
          refine Tr.nil (Aa ?_)
          first
           | refine Sat.condP rfl (fun hc3 => ?_) (fun hc3 => ?_)
           | refine Sat.condNP rfl (fun hc3 => ?_) (fun hc3 => ?_)
           | refine Sat.cond rfl (fun hc3 => ?_) (fun hc3 => ?_)
          ·
           refine Sat.seq (Sat.region ?_)
           refine Tr.a rfl rfl rfl ?_
           refine Tr.nil (Aa (Sat.ret (Ao (B8 (Ao (Ao (B8 (Ao (Am ?_)))))))))
           refine ⟨_, [], Ae rfl rfl, sP, sP, ?_, rfl⟩
           first
            | exact congrArg i64 (cert_bad1 (by simp only [DCert.head, hnd, Bool.or_eq_true, Bool.not_eq_true', decide_eq_true_eq, decide_eq_false_iff_not]; omega)).symm
            | exact congrArg i64 (cert_bad2 (k := k) oM (by
              simp only [DCert.bad, hvk, hv0, ← ehh]
              first
               | exact .inl ‹_›
               | exact .inr (.inl ‹_›)
               | exact .inr (.inr (.inl ‹_›))
               | exact .inr (.inr (.inr (.inl ‹_›)))
               | exact .inr (.inr (.inr (.inr (.inl ‹_›))))
               | (rw [vote_is hdp]; exact .inr (.inr (.inr (.inr (.inr ⟨by omega, by omega⟩))))))).symm
            | exact congrArg i64 (cert_good hnb (by rw [hnd]; exact hg)).symm
          ·
           refine Sat.skip (Aa (Sat.seq ?_))
           refine Sat.draw [(0, 0), (0, 1), (0, 2), (0, 3), (1, 4), (0, 5), (0, 6), (0, 7), (0, 8), (0, 9), (0, 10), (0, 11), (3, 12), (0, 13), (0, 14)] Bv zK ?_
           refine Tr.m rfl rfl rfl ?_
           refine two (fun r hr k => Tr.gtr rfl rfl rfl rfl hr k) (fun hs11_10 => ?_) (fun hs11_10 => ?_)
           ·
            first | have hs11_1 := of_decide_eq_true hs11_10 | have hs11_1 := of_decide_eq_false hs11_10 | have hs11_1 := A2 hs11_10 | have hs11_1 := A3 hs11_10 | have hs11_1 := hs11_10
            obtain ⟨bp, op, Vp, dp, hspp, hrp, hdp, hisp, hlenp, hseep⟩ := hV.at dE (show k - 1 < C.fVotes.n by omega)
            obtain rfl := hisp.eq
            have hVp := hisp.ok
            refine Tr.m rfl rfl rfl ?_
            refine Tr.fld rfl rfl rfl Y55 rfl Sz24 dE _ rfl ?_
            refine Tr.load1 rfl rfl rfl Y24 rfl mM (by first | exact Cert.get_fVotes (by first | (simp [Ag, hW.fCut.ok.l_fPrev]; done) | exact oK  | exact hok | exact hVk | exact hok.o_fCut) | exact (by first | rfl | exact Az (by first | omega | (simp [Ag, hW.fCut.ok.l_fPrev]; done) | (simp [Ag, hW.fCut.ok.l_fPrev]; omega)) | exact A9 (by first | omega | (simp [Ag, hW.fCut.ok.l_fPrev]; done) | (simp [Ag, hW.fCut.ok.l_fPrev]; omega)) | exact Bp (by first | omega | (simp [Ag, hW.fCut.ok.l_fPrev]; done) | (simp [Ag, hW.fCut.ok.l_fPrev]; omega)))) ?_
            refine Tr.m rfl rfl rfl ?_
            refine Tr.sub_i64 rfl rfl rfl rfl oM ?_
            refine Tr.idxSlP 132 rfl rfl rfl hspp rfl Y24 Sz81 (k - 1) oM oM ?_
            refine Tr.fld rfl rfl rfl Y81 rfl Sz75 dE _ rfl ?_
            refine Tr.sliceArr rfl rfl rfl Y75 Sz5 ?_
            refine Tr.fld rfl rfl rfl Y81 rfl Sz75 dE _ rfl ?_
            refine Tr.sliceArr rfl rfl rfl Y75 Sz5 ?_
            refine Tr.cV rfl rfl rfl rfl Body123 (bytes_cmp _ _ _ _ _ _ Vp.fVoter Vk.fVoter hVp.l_fVoter hVk.l_fVoter) (fun W2 W2h => ⟨SeesP.of (Bk W2h sP (sees_sub hseep (Vote.see_fVoter hVp))), SeesP.of (sees_part W2h mM (Vote.see_fVoter hVk))⟩) ?_
            refine Tr.geq rfl rfl rfl rfl rfl ?_
            refine Tr.pick rfl rfl rfl rfl rfl rfl ?_
            refine Tr.nil (Aa ?_)
            first
             | refine Sat.condP rfl (fun hc4 => ?_) (fun hc4 => ?_)
             | refine Sat.condNP rfl (fun hc4 => ?_) (fun hc4 => ?_)
             | refine Sat.cond rfl (fun hc4 => ?_) (fun hc4 => ?_)
            ·
             refine Sat.seq (Sat.region ?_)
             refine Tr.a rfl rfl rfl ?_
             refine Tr.nil (Aa (Sat.ret (B8 (Ao (Ao (B8 (Ao (Am ?_))))))))
             refine ⟨_, [], Ae rfl rfl, sP, sP, ?_, rfl⟩
             first
              | exact congrArg i64 (cert_bad1 (by simp only [DCert.head, hnd, Bool.or_eq_true, Bool.not_eq_true', decide_eq_true_eq, decide_eq_false_iff_not]; omega)).symm
              | exact congrArg i64 (cert_bad2 (k := k) oM (by
                simp only [DCert.bad, hvk, hv0, ← ehh]
                first
                 | exact .inl ‹_›
                 | exact .inr (.inl ‹_›)
                 | exact .inr (.inr (.inl ‹_›))
                 | exact .inr (.inr (.inr (.inl ‹_›)))
                 | exact .inr (.inr (.inr (.inr (.inl ‹_›))))
                 | (rw [vote_is hdp]; exact .inr (.inr (.inr (.inr (.inr ⟨by omega, by omega⟩))))))).symm
              | exact congrArg i64 (cert_good hnb (by rw [hnd]; exact hg)).symm
            ·
             refine Sat.skip (B2 (Aa (Sat.region ?_)))
             refine Tr.aI rfl rfl rfl rfl oM ?_
             refine Tr.m rfl rfl rfl ?_
             refine Tr.nil (Aa ?_)
             exact ⟨k + 1, ⟨by omega, fun j hj => by rcases Nat.lt_succ_iff_lt_or_eq.1 hj with h | rfl; exact hg j h; exact (by
              simp only [DCert.bad, hvk, hv0, ← ehh]
              rintro (h | h | h | h | h | ⟨h1, h2⟩) <;> first | exact h ‹_› | omega | (rw [vote_is hdp] at h2; omega))⟩, by omega, Ar (wk1 rfl (wk1 rfl (wk1 rfl (wk1 rfl (wk1 rfl wk0))))) (wh1 mM (wh1 mM wh0)) nD⟩
           ·
            first | have hs11_1 := of_decide_eq_true hs11_10 | have hs11_1 := of_decide_eq_false hs11_10 | have hs11_1 := A2 hs11_10 | have hs11_1 := A3 hs11_10 | have hs11_1 := hs11_10
            skip
            refine Tr.m rfl rfl rfl ?_
            refine Tr.skp rfl rfl ?_
            refine Tr.skp rfl rfl ?_
            refine Tr.skp rfl rfl ?_
            refine Tr.skp rfl rfl ?_
            refine Tr.skp rfl rfl ?_
            refine Tr.skp rfl rfl ?_
            refine Tr.skp rfl rfl ?_
            refine Tr.skp rfl rfl ?_
            refine Tr.skp rfl rfl ?_
            refine Tr.skp rfl rfl ?_
            refine Tr.skp rfl rfl ?_
            refine Tr.pick rfl rfl rfl rfl rfl rfl ?_
            refine Tr.nil (Aa ?_)
            refine Sat.cond_f rfl rfl ?_
            refine Sat.skip (B2 (Aa (Sat.region ?_)))
            refine Tr.aI rfl rfl rfl rfl oM ?_
            refine Tr.m rfl rfl rfl ?_
            refine Tr.nil (Aa ?_)
            exact ⟨k + 1, ⟨by omega, fun j hj => by rcases Nat.lt_succ_iff_lt_or_eq.1 hj with h | rfl; exact hg j h; exact (by
             simp only [DCert.bad, hvk, hv0, ← ehh]
             rintro (h | h | h | h | h | ⟨h1, h2⟩) <;> first | exact h ‹_› | omega | (rw [vote_is hdp] at h2; omega))⟩, by omega, Ar (wk1 rfl (wk1 rfl (wk1 rfl (wk1 rfl (wk1 rfl wk0))))) (wh1 mM (wh1 mM wh0)) nD⟩
     ·
      obtain rfl : k = C.fVotes.n := by omega
      refine Sat.exit (Bf (Bf (bl_h (Aa (Sat.seq (Sat.region ?_))))))
      refine Tr.a rfl rfl rfl ?_
      refine Tr.nil (Aa (Sat.ret (Am ?_)))
      refine ⟨_, [], Ae rfl rfl, sP, sP, ?_, rfl⟩
      first
       | exact congrArg i64 (cert_bad1 (by simp only [DCert.head, hnd, Bool.or_eq_true, Bool.not_eq_true', decide_eq_true_eq, decide_eq_false_iff_not]; omega)).symm
       | exact congrArg i64 (cert_bad2 (k := k) oM (by
         simp only [DCert.bad, hvk, hv0, ← ehh]
         first
          | exact .inl ‹_›
          | exact .inr (.inl ‹_›)
          | exact .inr (.inr (.inl ‹_›))
          | exact .inr (.inr (.inr (.inl ‹_›)))
          | exact .inr (.inr (.inr (.inr (.inl ‹_›))))
          | (rw [vote_is hdp]; exact .inr (.inr (.inr (.inr (.inr ⟨by omega, by omega⟩))))))).symm
       | exact congrArg i64 (cert_good hnb (by rw [hnd]; exact hg)).symm

end Go.Proofs.YtdifpjmfabhpiaaGreat
end

section
namespace Hw
open Go Go.RowKit
def orI (x y : Int) : Int := IntKind.i64.wrap (((BitVec.ofInt 64 x ||| BitVec.ofInt 64 y).toNat : Nat) : Int)
def B9 (x y : Int) : Int := IntKind.i64.wrap (((BitVec.ofInt 64 x &&& BitVec.ofInt 64 y).toNat : Nat) : Int)
def andNotI (x y : Int) : Int := IntKind.i64.wrap (((BitVec.ofInt 64 x &&& ~~~ BitVec.ofInt 64 y).toNat : Nat) : Int)
section
variable {C : Cx} {ops : Array Oper} {rest : List (Nat × Oper)} {sl : List (Nat × Value)} {hp : List Blk} {Q : St → Prop} {c d : Nat} {ty : TypeId} {pos : String} {af : Array Edge} {g : Option (Nat × Bool)} {x y : Operand} {xT yT : TypeId} {a b : Int}
theorem Tr.or_i64 (hg : Al ops sl g = true) (hk : okD c d C.N = true) (hx : Aj sl x = some (i64 a)) (hy : Aj sl y = some (i64 b))
    (k : Tr C ops rest ⟨(d, i64 (orI a b)) :: sl, hp⟩ Q) : Tr C ops ((c, ⟨some d, .binOp .or xT x y yT, ty, pos, af, g⟩) :: rest) ⟨sl, hp⟩ Q :=
  .bin hg hk hx hy (fun w => rfl) k
theorem Tr.and_i64 (hg : Al ops sl g = true) (hk : okD c d C.N = true) (hx : Aj sl x = some (i64 a)) (hy : Aj sl y = some (i64 b))
    (k : Tr C ops rest ⟨(d, i64 (B9 a b)) :: sl, hp⟩ Q) : Tr C ops ((c, ⟨some d, .binOp .and xT x y yT, ty, pos, af, g⟩) :: rest) ⟨sl, hp⟩ Q :=
  .bin hg hk hx hy (fun w => rfl) k
theorem Tr.andNot_i64 (hg : Al ops sl g = true) (hk : okD c d C.N = true) (hx : Aj sl x = some (i64 a)) (hy : Aj sl y = some (i64 b))
    (k : Tr C ops rest ⟨(d, i64 (andNotI a b)) :: sl, hp⟩ Q) : Tr C ops ((c, ⟨some d, .binOp .andNot xT x y yT, ty, pos, af, g⟩) :: rest) ⟨sl, hp⟩ Q :=
  .bin hg hk hx hy (fun w => rfl) k
theorem wrap_small {n : Int} (h0 : 0 ≤ n) (h : n < 9223372036854775808) : IntKind.i64.wrap n = n := i64_wrap oM
theorem Tr.shl_i64 {ky : IntKind} (hg : Al ops sl g = true) (hk : okD c d C.N = true) (hx : Aj sl x = some (i64 1)) (hy : Aj sl y = some (.int ky b)) (n : Nat) (hn : b = n) (hr : n < 63)
    (k : Tr C ops rest ⟨(d, i64 (2 ^ n : Nat)) :: sl, hp⟩ Q) : Tr C ops ((c, ⟨some d, .binOp .shl xT x y yT, ty, pos, af, g⟩) :: rest) ⟨sl, hp⟩ Q :=
  .bin hg hk hx hy (fun w => by
    subst hn
    simp only [binOp, Op.shift, IntKind.bits]
    rw [if_neg oM, Int.toNat_natCast, Nat.min_eq_left oM]
    have h2 : (2 : Nat) ^ n < 2 ^ 63 := Nat.pow_lt_pow_right dE hr
    have e : (1 * 2 ^ n : Int) = ((2 ^ n : Nat) : Int) := by simp
    rw [e, wrap_small (Int.natCast_nonneg _) (Int.ofNat_lt.2 (Nat.lt_of_lt_of_eq h2 dE))]; rfl) k
end
theorem or_small : ((List.range 7).all fun k => (List.range (2 ^ k)).all fun p => orI (p : Int) ((2 ^ k : Nat) : Int) == ((p + 2 ^ k : Nat) : Int)) = true := by kernel_rfl
theorem orI_step {k p : Nat} (hk : k < 7) (hp : p < 2 ^ k) : orI (p : Int) ((2 ^ k : Nat) : Int) = ((p + 2 ^ k : Nat) : Int) := by
  have := List.all_eq_true.1 (List.all_eq_true.1 or_small k (List.mem_range.2 hk)) p (List.mem_range.2 hp)
  exact eq_of_beq this
def usedN (bs : List Bool) : Nat → Nat
  | 0 => 0
  | k + 1 => usedN bs k + (if bs.getD k false = true then 2 ^ k else 0)
theorem usedN_lt (bs : List Bool) : ∀ k, usedN bs k < 2 ^ k
  | 0 => by simp [usedN]
  | k + 1 => by
    have := usedN_lt bs k
    simp only [usedN, Nat.pow_succ]
    split <;> omega
theorem usedN_on {bs : List Bool} {k : Nat} (h : bs.getD k false = true) : usedN bs (k + 1) = usedN bs k + 2 ^ k := by simp only [usedN, if_pos h]
theorem usedN_off {bs : List Bool} {k : Nat} (h : bs.getD k false = false) : usedN bs (k + 1) = usedN bs k := by
  simp only [usedN]
  rw [if_neg (by rw [h]; simp), Nat.add_zero]
end Hw
end

section
namespace Go.Proofs.YtdifpjmfabhpiaaGreat
open Go Hw

def partsL : List Int := [0, 3, 6, 8, 48, 64, 1]
def As (k : Int) : Int := if 0 ≤ k ∧ k < 7 then partsL.getD k.toNat 0 else 0
theorem parts_get {k : Int} (h0 : 0 ≤ k) (h7 : k < 7) : ([i64 0, i64 3, i64 6, i64 8, i64 48, i64 64, i64 1] : List Value)[k.toNat]? = some (i64 (As k)) := by
  show (intsV partsL)[k.toNat]? = _
  have h : k.toNat < partsL.length := by simp [partsL]; omega
  rw [intsV, List.getElem?_map, List.getElem?_eq_getElem h, As, if_pos ⟨h0, h7⟩, List.getD_eq_getElem?_getD, List.getElem?_eq_getElem h]
  rfl
theorem parts_out {k : Int} (h : ¬ (0 ≤ k ∧ k < 7)) : As k = 0 := if_neg h
def DMsg.bits (D : DMsg) : List Bool := [!decide ((D.dHeight.toNat : Int) = 0), decide ((0 : Int) < (D.dHeads.length : Int)), decide ((0 : Int) < (D.dWant.length : Int)), decide ((0 : Int) < (D.dBlocks.length : Int)), decide ((0 : Int) < (D.dVotes.length : Int)), decide ((0 : Int) < (D.dCuts.length : Int)), decide ((0 : Int) < (D.dCerts.length : Int))]
def DMsg.used (D : DMsg) : Int := (usedN D.bits 7 : Nat)
structure MsgIs.lens (m : Msg) (D : DMsg) : Prop where
  heads : m.fHeads.n = D.dHeads.length
  want : m.fWant.n = D.dWant.length
  blocks : m.fBlocks.n = D.dBlocks.length
  votes : m.fVotes.n = D.dVotes.length
  cuts : m.fCuts.n = D.dCuts.length
  certs : m.fCerts.n = D.dCerts.length
theorem MsgIs.len {W : World} {m : Msg} {D : DMsg} (h : MsgIs W m D) : MsgIs.lens m D := by
  obtain ⟨_, h1⟩ := h.fBlocks
  obtain ⟨_, h2⟩ := h.fVotes
  obtain ⟨_, h3⟩ := h.fCuts
  obtain ⟨_, h4⟩ := h.fCerts
  exact ⟨h.fHeads.len.symm, h.fWant.len.symm, h1.nd.symm, h2.nd.symm, h3.nd.symm, h4.nd.symm⟩
def mbits (m : Msg) : List Bool := [!decide ((m.fHeight.toNat : Int) = 0), decide ((0 : Int) < (m.fHeads.n : Int)), decide ((0 : Int) < (m.fWant.n : Int)), decide ((0 : Int) < (m.fBlocks.n : Int)), decide ((0 : Int) < (m.fVotes.n : Int)), decide ((0 : Int) < (m.fCuts.n : Int)), decide ((0 : Int) < (m.fCerts.n : Int))]
theorem mbits_eq {W : World} {m : Msg} {D : DMsg} (h : MsgIs W m D) : mbits m = D.bits := by
  have l := h.len
  simp only [mbits, DMsg.bits, l.heads, l.want, l.blocks, l.votes, l.cuts, l.certs, h.fHeight]
theorem bit_at {bs : List Bool} {l : List Value} {k : Nat} (h : bs.map Value.bool = l) (hk : k < bs.length) : l[k]? = some (.bool (bs.getD k false)) := by
  rw [← h, List.getElem?_map, List.getElem?_eq_getElem hk, List.getD_eq_getElem?_getD, List.getElem?_eq_getElem hk]; rfl

theorem sync_parts (k : Int) : Meets Tryz.prog 93 [i64 k] [] (fun _ => True) (fun v out => v = i64 (As k) ∧ out = []) := by
 intro W hW
 refine An Tryz.func93 rfl 14 Tryz.ntmps93 rfl ?_
 refine Sat.seq (Sat.region ?_)
 refine Tr.a rfl rfl rfl ?_
 refine Tr.nil (Aa (Sat.seq (Sat.region ?_)))
 refine Tr.build (cs := [i64 0, i64 3, i64 6, i64 8, i64 48, i64 64, i64 1]) rfl rfl rfl (fun w => by kernel_rfl) ?_
 refine Tr.alloc (cs := (intsV (List.replicate 7 0))) rfl Zr222 rfl ?_
 intro n3 hn3 hf3
 first
  | refine Tr.sA rfl rfl rfl rfl cB Sz222 lN mM lN uU ?_
  | refine Tr.storeN _ rfl rfl rfl rfl rfl cB Sz222 lN mM lN (by exact rfl) uU ?_
 refine Tr.nil (Aa (Sat.seq (Sat.seq (Sat.region ?_))))
 refine Tr.m rfl rfl rfl ?_
 refine two (fun r hr k => Tr.lss rfl rfl rfl rfl hr k) (fun hs2_10 => ?_) (fun hs2_10 => ?_)
 ·
  first | have hs2_1 := of_decide_eq_true hs2_10 | have hs2_1 := of_decide_eq_false hs2_10 | have hs2_1 := A2 hs2_10 | have hs2_1 := A3 hs2_10 | have hs2_1 := hs2_10
  refine Tr.m rfl rfl rfl ?_
  refine Tr.skp rfl rfl ?_
  refine Tr.skp rfl rfl ?_
  refine Tr.pick rfl rfl rfl rfl rfl rfl ?_
  refine Tr.nil (Aa ?_)
  refine Sat.cond_t rfl rfl ?_
  refine Sat.seq (Sat.region ?_)
  refine Tr.a rfl rfl rfl ?_
  refine Tr.nil (Aa (Sat.ret (Ao (Am ?_))))
  refine ⟨_, [], Ae rfl rfl, sP, sP, ?_, rfl⟩
  first
   | rfl
   | exact congrArg i64 (parts_out oM).symm
 ·
  first | have hs2_1 := of_decide_eq_true hs2_10 | have hs2_1 := of_decide_eq_false hs2_10 | have hs2_1 := A2 hs2_10 | have hs2_1 := A3 hs2_10 | have hs2_1 := hs2_10
  refine Tr.m rfl rfl rfl ?_
  refine Tr.m rfl rfl rfl ?_
  refine Tr.geq rfl rfl rfl rfl rfl ?_
  refine Tr.pick rfl rfl rfl rfl rfl rfl ?_
  refine Tr.nil (Aa ?_)
  first
   | refine Sat.condP rfl (fun hc0 => ?_) (fun hc0 => ?_)
   | refine Sat.condNP rfl (fun hc0 => ?_) (fun hc0 => ?_)
   | refine Sat.cond rfl (fun hc0 => ?_) (fun hc0 => ?_)
  ·
   refine Sat.seq (Sat.region ?_)
   refine Tr.a rfl rfl rfl ?_
   refine Tr.nil (Aa (Sat.ret (Ao (Am ?_))))
   refine ⟨_, [], Ae rfl rfl, sP, sP, ?_, rfl⟩
   first
    | rfl
    | exact congrArg i64 (parts_out oM).symm
  ·
   refine Sat.skip (Aa (Sat.seq (Sat.region ?_)))
   refine Tr.m rfl rfl rfl ?_
   first
    | refine Tr.i1 rfl rfl rfl rfl Tryz.underlying222 Sz3 k.toNat oM oM ?_
    | refine Tr.idxArrO rfl rfl rfl rfl Tryz.underlying222 Sz3 k.toNat oM oM ?_
   refine Tr.load1 rfl rfl rfl Y3 rfl mM (parts_get oM oM) ?_
   refine Tr.a rfl rfl rfl ?_
   refine Tr.nil (Aa (Sat.ret (Am ?_)))
   refine ⟨_, [], Ae rfl rfl, sP, sP, ?_, rfl⟩
   first
    | rfl
    | exact congrArg i64 (parts_out oM).symm

theorem sync_used (m : Msg) (hm : m.ok) : Meets Tryz.prog 125 [agg m.cells] [] (fun _ => True) (fun v out => v = i64 ((usedN (mbits m) 7 : Nat) : Int) ∧ out = []) := by
 intro W hW
 refine An Tryz.func125 rfl 45 Tryz.ntmps125 rfl ?_
 refine Sat.seq (Sat.region ?_)
 refine Tr.boxA rfl rfl ?_
 intro n1 hn1 hf1
 refine Tr.a rfl rfl rfl ?_
 refine Tr.nil (Aa (Sat.seq (Sat.region ?_)))
 refine Tr.a rfl rfl rfl ?_
 refine Tr.nil (Aa (Sat.seq (Sat.seq (Sat.region ?_))))
 refine Tr.fld rfl rfl rfl Y57 rfl B1 dE _ rfl ?_
 refine Tr.load1 rfl rfl rfl Y48 rfl mM (by first | exact Msg.get_fHeight (by first | exact oK  | exact hm) | exact vL) ?_
 refine Tr.nei rfl rfl rfl rfl rfl ?_
 refine Tr.fld rfl rfl rfl Y57 rfl Sz51 dE _ rfl ?_
 refine Tr.load1 rfl rfl rfl Y51 rfl mM (by first | exact Msg.get_fHeads (by first | exact oK  | exact hm) | exact vL) ?_
 refine Tr.lenSl rfl rfl rfl Y51 ?_
 refine Tr.gtr rfl rfl rfl rfl rfl ?_
 refine Tr.fld rfl rfl rfl Y57 rfl Sz51 dE _ rfl ?_
 refine Tr.load1 rfl rfl rfl Y51 rfl mM (by first | exact Msg.get_fWant (by first | exact oK  | exact hm) | exact vL) ?_
 refine Tr.lenSl rfl rfl rfl Y51 ?_
 refine Tr.gtr rfl rfl rfl rfl rfl ?_
 refine Tr.fld rfl rfl rfl Y57 rfl Sz22 dE _ rfl ?_
 refine Tr.load1 rfl rfl rfl Y22 rfl mM (by first | exact Msg.get_fBlocks (by first | exact oK  | exact hm) | exact vL) ?_
 refine Tr.lenSl rfl rfl rfl Y22 ?_
 refine Tr.gtr rfl rfl rfl rfl rfl ?_
 refine Tr.fld rfl rfl rfl Y57 rfl Sz24 dE _ rfl ?_
 refine Tr.load1 rfl rfl rfl Y24 rfl mM (by first | exact Msg.get_fVotes (by first | exact oK  | exact hm) | exact vL) ?_
 refine Tr.lenSl rfl rfl rfl Y24 ?_
 refine Tr.gtr rfl rfl rfl rfl rfl ?_
 refine Tr.fld rfl rfl rfl Y57 rfl Sz25 dE _ rfl ?_
 refine Tr.load1 rfl rfl rfl Y25 rfl mM (by first | exact Msg.get_fCuts (by first | exact oK  | exact hm) | exact vL) ?_
 refine Tr.lenSl rfl rfl rfl Y25 ?_
 refine Tr.gtr rfl rfl rfl rfl rfl ?_
 refine Tr.fld rfl rfl rfl Y57 rfl Sz23 dE _ rfl ?_
 refine Tr.load1 rfl rfl rfl Y23 rfl mM (by first | exact Msg.get_fCerts (by first | exact oK  | exact hm) | exact vL) ?_
 refine Tr.lenSl rfl rfl rfl Y23 ?_
 refine Tr.gtr rfl rfl rfl rfl rfl ?_
 refine Tr.build (cs := (mbits m).map Value.bool) rfl rfl rfl (fun w => by kernel_rfl) ?_
 refine Tr.m rfl rfl rfl ?_
 refine Tr.nil (Aa (Sat.block ?_))
 refine Sat.loop (ι := Nat) (fun k => ⟨[(3, i64 ((usedN (mbits m) k : Nat) : Int)), (33, agg ((mbits m).map Value.bool)), (34, i64 (k : Int))], []⟩) (fun k => k ≤ 7) (fun k => 7 - k) (0) ?_ ?_ ?_
 · exact Nat.zero_le _
 · exact Ar (wk1 rfl (wk1 rfl (wk1 rfl wk0))) wh0 nD
 ·
  rintro k hk
  refine Sat.seq (Sat.region ?_)
  refine Tr.lss rfl rfl rfl rfl rfl ?_
  refine Tr.nil (Aa (Sat.seq ?_))
  first
   | refine Sat.condP rfl (fun hc0 => ?_) (fun hc0 => ?_)
   | refine Sat.condNP rfl (fun hc0 => ?_) (fun hc0 => ?_)
   | refine Sat.cond rfl (fun hc0 => ?_) (fun hc0 => ?_)
  ·
   refine Sat.skip (Aa (Sat.seq (Sat.block (Sat.seq (Sat.region ?_)))))
   refine Tr.m rfl rfl rfl ?_
   refine Tr.idxA1 rfl rfl rfl rfl Tryz.underlying238 Sz4 Tryz.underlying4 rfl k rfl oM (bit_at rfl (by simp [mbits]; omega)) ?_
   refine Tr.a rfl rfl rfl ?_
   refine Tr.a rfl rfl rfl ?_
   refine Tr.nil (Aa (Sat.seq (Sat.region ?_)))
   refine Tr.m rfl rfl rfl ?_
   refine Tr.nil (Aa ?_)
   refine Sat.cond rfl (fun hc1 => ?_) (fun hc1 => ?_)
   ·
    refine Sat.region ?_
    refine Tr.m rfl rfl rfl ?_
    refine Tr.m rfl rfl rfl ?_
    refine Tr.shl_i64 rfl rfl rfl rfl k rfl oM ?_
    refine Tr.or_i64 rfl rfl rfl rfl ?_
    refine Tr.a rfl rfl rfl ?_
    refine Tr.nil (B2 (Aa (Sat.region ?_)))
    refine Tr.aI rfl rfl rfl rfl oM ?_
    refine Tr.m rfl rfl rfl ?_
    refine Tr.nil (Aa ?_)
    exact ⟨k + 1, by omega, by omega, by first | (rw [usedN_on hc1, orI_step oM (usedN_lt _ _)]; exact Ar (wk1 rfl (wk1 rfl (wk1 rfl wk0))) wh0 nD) | (rw [usedN_off (by simpa using hc1)]; exact Ar (wk1 rfl (wk1 rfl (wk1 rfl wk0))) wh0 nD)⟩
   ·
    refine Sat.skip (B2 (Aa (Sat.region ?_)))
    refine Tr.aI rfl rfl rfl rfl oM ?_
    refine Tr.m rfl rfl rfl ?_
    refine Tr.nil (Aa ?_)
    exact ⟨k + 1, by omega, by omega, by first | (rw [usedN_on hc1, orI_step oM (usedN_lt _ _)]; exact Ar (wk1 rfl (wk1 rfl (wk1 rfl wk0))) wh0 nD) | (rw [usedN_off (by simpa using hc1)]; exact Ar (wk1 rfl (wk1 rfl (wk1 rfl wk0))) wh0 nD)⟩
  ·
   obtain rfl : k = 7 := by omega
   refine Sat.exit (Bf (Bf (bl_h (Aa (Sat.seq (Sat.region ?_))))))
   refine Tr.m rfl rfl rfl ?_
   refine Tr.a rfl rfl rfl ?_
   refine Tr.nil (Aa (Sat.ret (Am ?_)))
   refine ⟨_, [], Ae rfl rfl, sP, sP, ?_, rfl⟩
   rfl

end Go.Proofs.YtdifpjmfabhpiaaGreat
end
