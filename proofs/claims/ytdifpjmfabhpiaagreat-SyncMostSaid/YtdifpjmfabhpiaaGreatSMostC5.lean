/- Contracts of functions of the loaded program, and the lemmas that they need (part 5). It proves no statement by itself; it has no conditions. -/
import Derived.WalkKit
import Derived.Orders
import Derived.Deep.LoopGhost
import Derived.IntWalk
import Derived.Laws.StructEq
import Derived.ArgAppend
import Derived.Deep.AppendSrc
import Derived.Lib.Bytealg
import Derived.Lib.BytesEntry
import Derived.Laws.IdiomStrings
import Derived.WideKeyArr2
import Derived.ProofKit
import Derived.OpenShut
import Derived.Deep.Slices
import Derived.Laws.Pointers
import Derived.Laws.Cover3
import Derived.LaidEqlPtr
import Derived.LoopN
import Derived.RangeFuncLeaves
import Derived.RangeFuncSeq
import Derived.OrdersIn
import Derived.Test.YtdifpjmfabhpiaaGreatRows
import Derived.KernelRfl
import Derived.Laws.Externs
import Derived.Defers
import Derived.ChangeOld
import Derived.Below
import Derived.Test.YtdifpjmfabhpiaaGreatSMostC4
set_option maxRecDepth 100000
set_option maxHeartbeats 8000000
set_option linter.unusedVariables false
set_option linter.unusedSimpArgs false
section
namespace Go.Proofs.YtdifpjmfabhpiaaGreat
open Go Hw

def drecz : DRecord := ⟨0, []⟩
def recOf (K : UInt8) (bs : List UInt8) (chk : Int) : DRecord × Int := if chk = 0 then (if (⟨K, bs⟩ : DRecord).check = 0 then (⟨K, bs⟩, 0) else (drecz, 2)) else (drecz, chk)
def Bj (D : DB) : List UInt8 := if D.check = 0 then D.bytes else []
theorem block_bytes (X : Block) (D : DB) : Meets Tryz.prog 111 [agg X.cells] [] (fun W => BlockIs W X D) (fun v out => ∃ s : Sl, v = .tuple #[s.v, i64 D.check] ∧ Hw.Acc s out (Ab (Bj D)) 5 (Bj D).length 1) := by
  intro W hW
  have hbc : bcheck X D.ls = D.check := hW.check
  by_cases hc : D.check = 0
  · refine (bytes_ok X hW.ok D.ls D.ds (by rw [hbc]; exact hc) W ⟨hW.ls, hW.ds⟩).mono fun e W' ⟨v, out, h1, h2, h4⟩ => ⟨v, out, h1, ?_, h4⟩
    clear h1 h4
    obtain ⟨q, c, N, hN, hN2, rfl, hNc, rfl⟩ := h2
    have e : bytesB X D.ls D.ds = Bj D := by rw [Bj, if_pos hc]; exact hW.bytes
    rw [e] at hN ⊢
    subst hN
    exact ⟨⟨some ⟨q, 0, none⟩, (Bj D).length, c⟩, by rw [hc]; rfl, .inr ⟨q, c, rfl, hNc, by simp [Ab], rfl⟩⟩
  · refine (bytes_bad X hW.ok D.ls D.ds (by rw [hbc]; exact hc) W ⟨hW.ls, hW.ds⟩).mono fun e W' ⟨v, out, h1, h2, h4⟩ => ⟨v, out, h1, ?_, h4⟩
    clear h1 h4
    obtain ⟨rfl, rfl⟩ := h2
    rw [Bj, if_neg hc, hbc]
    exact ⟨Sl.nil, rfl, .inl ⟨rfl, rfl, rfl, rfl⟩⟩

end Go.Proofs.YtdifpjmfabhpiaaGreat
end

section
namespace Go.Proofs.YtdifpjmfabhpiaaGreat
open Go Hw

theorem blk_block_1 (a : Option Addr) (n c : Nat) (l : List UInt8) (hl : l.length = n) (hp : a = none → n = 0) (hn : n ≤ 40000) (X : Block) (D : DB) (q : Nat) (hsz : (Bj D).length ≤ 40000) : Meets Tryz.prog 199 [.slice a n c, agg X.cells, ptr q 0] [] (fun W => SeesP W a (Ab l) ∧ BlockIs W X D ∧ W.cell? ⟨q, 0, none⟩ = some (.func (.func 111) #[] #[])) (fun v out => FreshRow v out (Ab (l ++ blkB (Bj D))) 5 (l ++ blkB (Bj D)).length 1) := by
 intro W hW
 have hok := hW.2.1.ok
 refine An Tryz.func199 rfl 17 Tryz.ntmps199 rfl ?_
 refine Sat.seq (Sat.region ?_)
 refine Tr.boxA rfl rfl ?_
 intro n4 hn4 hf4
 refine Tr.a rfl rfl rfl ?_
 refine Tr.nil (Aa (Sat.seq (Sat.region ?_)))
 refine Tr.loadE rfl rfl rfl Tryz.underlying160 rfl (by first | (simp; done) | (simp; exact hW.2.2) | (simp [Cx.with]; done) | (simp [Cx.with]; omega)) (hW.2.2) ?_
 refine Tr.lA rfl rfl rfl Y79 rfl Sz79 mM (Block.length (by first | exact oK  | exact hW.2.1.ok)) ?_
 refine Tr.call4 rfl rfl rfl rfl rfl Body111 (block_bytes X D) (fun w h => hW.2.1.ext h rfl) ?_
 rintro v11 out11 ⟨s11, rfl, hac11⟩
 have hnm := hac11.num
 refine Tr.m rfl rfl rfl ?_
 refine Tr.eX rfl rfl rfl rfl ?_
 refine Tr.eX rfl rfl rfl rfl ?_
 refine Tr.a rfl rfl rfl ?_
 refine Tr.a rfl rfl rfl ?_
 refine Tr.nil (Aa (Sat.seq (Sat.region ?_)))
 refine Tr.m rfl rfl rfl ?_
 refine Tr.m rfl rfl rfl ?_
 refine Tr.call4 rfl rfl rfl rfl rfl Body121 (oct_Block a s11.p n c s11.n s11.c l (Bj D) hl hnm.symm hp (fun e => hac11.nil e) hn oM) (fun w h => ⟨Aw h rfl hW.1, hac11.see (Lies.of h iN)⟩) ?_
 rintro v16 out16 ⟨q16, c16, rfl, hc16, rfl⟩
 have hq16 : n + szN s11.n + s11.n = (l ++ blkB (Bj D)).length := by rw [List.length_append, blkB_length oM, hl, hnm]; omega
 refine Tr.a rfl rfl rfl ?_
 refine Tr.nil (Aa (Sat.ret (Am ?_)))
 refine Ak (out := (⟨q16, Ab (l ++ blkB (Bj D)), 5, c16 * 1⟩ :: [])) (Ae rfl rfl) (pm_consE rM (by rw [blkB, hnm, List.append_assoc]) rfl Ad) ?_
 exact ⟨q16, c16, by rw [hq16], by rw [← hq16]; exact hc16, rfl⟩

theorem mk_blk_block  : Meets Tryz.prog 110 [.func (.func 111) #[] #[]] [] (fun _ => True) (fun v out => ∃ c, v = .func (.func 199) #[] #[ptr c 0] ∧ out = [⟨c, [.func (.func 111) #[] #[]], 160, 1⟩]) := by
 intro W hW
 refine An Tryz.func110 rfl 4 Tryz.ntmps110 rfl ?_
 refine Sat.seq (Sat.region ?_)
 refine Tr.box1 rfl rfl rfl ?_
 intro n1 hn1 hf1
 refine Tr.a rfl rfl rfl ?_
 refine Tr.nil (Aa (Sat.seq (Sat.region ?_)))
 refine Tr.makeFunc rfl rfl rfl rfl ?_
 refine Tr.a rfl rfl rfl ?_
 refine Tr.nil (Aa (Sat.ret (Am ?_)))
 refine Ak (out := (⟨n1, [.func (.func 111) #[] #[]], 160, 1⟩ :: [])) (Ae rfl rfl) (Ac rM Ad) ?_
 exact ⟨n1, rfl, by simp⟩

theorem put_blocks (a : Option Addr) (n c : Nat) (l : List UInt8) (s : Sl) (ds : List DB) (q M : Nat) (hl : l.length = n) (hp : a = none → n = 0) (hM : M ≤ 40000) (hsz : ∀ d ∈ ds, (Bj d).length ≤ M) (hs : s.n ≤ 1000) (hN : n + 9 + s.n * (M + 9) ≤ 40000) : Meets Tryz.prog 109 [.slice a n c, s.v, .func (.func 199) #[] #[ptr q 0]] [] (fun W => SeesP W a (Ab l) ∧ BlocksAt W s ds ∧ W.cell? ⟨q, 0, none⟩ = some (.func (.func 111) #[] #[])) (fun v out => FreshRow v out (Ab (l ++ Au (UInt64.ofNat s.n) ++ Av Bj ds)) 5 (l ++ Au (UInt64.ofNat s.n) ++ Av Bj ds).length 1) := by
 intro W hW
 obtain ⟨rs, hs1⟩ := hW.2.1
 have hnd := hs1.nd
 have hz := A8 s.n
 have hon := A1 (n := s.n) oM
 have hmul : ds.length * (M + 9) = s.n * (M + 9) := by rw [hnd]
 have hle : ∀ k, (l ++ Au (UInt64.ofNat s.n) ++ Av Bj (ds.take k)).length ≤ 40000 := fun k => by
  have := listB_take_le Bj M oM ds hsz k
  simp only [List.length_append, Aq, hon, hl]
  omega
 refine An Tryz.func109 rfl 26 Tryz.ntmps109 rfl ?_
 refine Sat.seq (Sat.region ?_)
 refine Tr.a rfl rfl rfl ?_
 refine Tr.nil (Aa (Sat.seq (Sat.region ?_)))
 refine Tr.m rfl rfl rfl ?_
 refine Tr.m rfl rfl rfl ?_
 refine Tr.lenSl rfl rfl rfl Y22 ?_
 refine Tr.conv rfl rfl rfl Y3 Y48 (Bh _) ?_
 rw [word_nat (n := s.n) oM]
 refine Tr.call4 rfl rfl rfl rfl rfl Body106 (oct_Number a n c l (UInt64.ofNat s.n) hl hp oM) (fun w h => Aw h rfl hW.1) ?_
 rintro v13 out13 ⟨q1, c1, rfl, hc1, rfl⟩
 have e13 : n + szN (UInt64.ofNat s.n).toNat = (l ++ Au (UInt64.ofNat s.n) ++ Av Bj (ds.take 0)).length := by simp [Av, Aq, hl]
 rw [e13] at hc1 ⊢
 refine Tr.a rfl rfl rfl ?_
 refine Tr.nil (Aa (Sat.seq (Sat.seq (Sat.region ?_))))
 refine Tr.m rfl rfl rfl ?_
 refine Tr.lenSl rfl rfl rfl Y22 ?_
 refine Tr.m rfl rfl rfl ?_
 refine Tr.nil (Aa (Sat.block ?_))
 refine Sat.loop (ι := Nat × Nat × Nat) (fun p => ⟨[(0, .slice (some ⟨p.2.1, 0, none⟩) (l ++ Au (UInt64.ofNat s.n) ++ Av Bj (ds.take p.1)).length p.2.2), (2, .func (.func 199) #[] #[ptr q 0]), (14, s.v), (15, i64 (s.n : Int)), (16, i64 (p.1 : Int))], [⟨p.2.1, Ab (l ++ Au (UInt64.ofNat s.n) ++ Av Bj (ds.take p.1)), 5, p.2.2 * 1⟩]⟩) (fun p => p.1 ≤ s.n ∧ (l ++ Au (UInt64.ofNat s.n) ++ Av Bj (ds.take p.1)).length ≤ p.2.2) (fun p => s.n - p.1) ((0, q1, c1)) ?_ ?_ ?_
 · exact ⟨Nat.zero_le _, hc1⟩
 · exact Ar (wk1 rfl (wk1 rfl (wk1 rfl (wk1 rfl (wk1 rfl wk0))))) (wh1 (by simp only [List.take_zero, Av, List.map_nil, List.flatten_nil, List.append_nil]; exact mem0) wh0) nD
 ·
  rintro p ⟨hp1, hp2⟩
  refine Sat.seq (Sat.region ?_)
  refine Tr.lss rfl rfl rfl rfl rfl ?_
  refine Tr.nil (Aa (Sat.seq ?_))
  first
   | refine Sat.condP rfl (fun hc0 => ?_) (fun hc0 => ?_)
   | refine Sat.condNP rfl (fun hc0 => ?_) (fun hc0 => ?_)
   | refine Sat.cond rfl (fun hc0 => ?_) (fun hc0 => ?_)
  ·
   have hk2 : p.1 < s.n := by omega
   obtain ⟨b, o, r, d, hsp, hr, hd, his, hlen, hsee⟩ := hs1.at dE hk2
   refine Sat.skip (Aa (Sat.seq (Sat.block (Sat.seq (Sat.region ?_)))))
   refine Tr.idxSlP 131 rfl rfl rfl hsp rfl Y22 Sz79 p.1 rfl oM ?_
   refine Tr.loadEN r.cells rfl rfl rfl Y79 rfl Sz79 sP hlen hsee ?_
   refine Tr.alloc (cs := Block.zero.cells) rfl Block.zr rfl ?_
   intro n8 hn8 hf8
   refine Tr.sA rfl rfl rfl rfl (Block.isCell (by first | exact oK  | exact his.ok)) Sz79 (Block.length (by first | exact oK  | exact his.ok)) mM (Block.length (by first | exact oK  | exact his.ok)) uU ?_
   refine Tr.nil (Aa (Sat.region ?_))
   refine Tr.m rfl rfl rfl ?_
   refine Tr.m rfl rfl rfl ?_
   refine Tr.lA rfl rfl rfl Y79 rfl Sz79 mM (Block.length (by first | exact oK  | exact his.ok)) ?_
   refine Tr.call4C rfl rfl rfl rfl rfl rfl Body199 (blk_block_1 (some ⟨p.2.1, 0, none⟩) (l ++ Au (UInt64.ofNat s.n) ++ Av Bj (ds.take p.1)).length p.2.2 (l ++ Au (UInt64.ofNat s.n) ++ Av Bj (ds.take p.1)) rfl (fun e => by cases e) (hle _) r d q (Nat.le_trans (hsz d (List.mem_of_getElem? hd)) hM)) (fun w h => ⟨SeesP.of (Ap h mM), his.ext h rfl, h.keeps.cell sP hW.2.2⟩) ?_
   rintro v23 out23 ⟨q2, c2, rfl, hq2, rfl⟩
   rw [show l ++ Au (UInt64.ofNat s.n) ++ Av Bj (ds.take p.1) ++ blkB (Bj d) = l ++ Au (UInt64.ofNat s.n) ++ Av Bj (ds.take (p.1 + 1)) by rw [listB_step Bj hd, ← List.append_assoc]] at hq2 ⊢
   refine Tr.a rfl rfl rfl ?_
   refine Tr.nil (B2 (Aa (Sat.region ?_)))
   refine Tr.aI rfl rfl rfl rfl oM ?_
   refine Tr.m rfl rfl rfl ?_
   refine Tr.nil (Aa ?_)
   exact ⟨(p.1 + 1, q2, c2), ⟨by simp only []; omega, hq2⟩, by simp only []; omega, Ar (wk1 rfl (wk1 rfl (wk1 rfl (wk1 rfl (wk1 rfl wk0))))) (wh1 mM wh0) nD⟩
  ·
   have hpe : p.1 = s.n := by omega
   have hds : ds = ds.take p.1 := by rw [List.take_of_length_le oM]
   refine Sat.exit (Bf (Bf (bl_h (Aa (Sat.seq (Sat.region ?_))))))
   refine Tr.m rfl rfl rfl ?_
   refine Tr.a rfl rfl rfl ?_
   refine Tr.nil (Aa (Sat.ret (Am ?_)))
   refine ⟨_, [⟨p.2.1, Ab (l ++ Au (UInt64.ofNat s.n) ++ Av Bj ds), 5, p.2.2 * 1⟩], Ae rfl rfl, (by intro b hb; rw [List.mem_singleton.1 hb, hds]; simp only [List.take_take, Nat.min_self]; exact mem0), Bz, ⟨p.2.1, p.2.2, by rw [← hds], by rw [← hds] at hp2; exact hp2, rfl⟩⟩

theorem blk_cut_1 (a : Option Addr) (n c : Nat) (l : List UInt8) (hl : l.length = n) (hp : a = none → n = 0) (hn : n ≤ 40000) (X : Cut) (D : DCut) (q : Nat) (hsz : (cutR D).length ≤ 40000) : Meets Tryz.prog 204 [.slice a n c, agg X.cells, ptr q 0] [] (fun W => SeesP W a (Ab l) ∧ CutIs W X D ∧ W.cell? ⟨q, 0, none⟩ = some (.func (.func 117) #[] #[])) (fun v out => FreshRow v out (Ab (l ++ blkB (cutR D))) 5 (l ++ blkB (cutR D)).length 1) := by
 intro W hW
 have hok := hW.2.1.ok
 refine An Tryz.func204 rfl 17 Tryz.ntmps204 rfl ?_
 refine Sat.seq (Sat.region ?_)
 refine Tr.boxA rfl rfl ?_
 intro n4 hn4 hf4
 refine Tr.a rfl rfl rfl ?_
 refine Tr.nil (Aa (Sat.seq (Sat.region ?_)))
 refine Tr.loadE rfl rfl rfl Tryz.underlying168 rfl (by first | (simp; done) | (simp; exact hW.2.2) | (simp [Cx.with]; done) | (simp [Cx.with]; omega)) (hW.2.2) ?_
 refine Tr.lA rfl rfl rfl Y53 rfl Ca mM (Cut.length (by first | exact oK  | exact hW.2.1.ok)) ?_
 refine Tr.call4 rfl rfl rfl rfl rfl Body117 (cut_bytes X D) (fun w h => hW.2.1.ext h rfl) ?_
 rintro v11 out11 ⟨s11, rfl, hac11⟩
 have hnm := hac11.num
 refine Tr.m rfl rfl rfl ?_
 refine Tr.eX rfl rfl rfl rfl ?_
 refine Tr.eX rfl rfl rfl rfl ?_
 refine Tr.a rfl rfl rfl ?_
 refine Tr.a rfl rfl rfl ?_
 refine Tr.nil (Aa (Sat.seq (Sat.region ?_)))
 refine Tr.m rfl rfl rfl ?_
 refine Tr.m rfl rfl rfl ?_
 refine Tr.call4 rfl rfl rfl rfl rfl Body121 (oct_Block a s11.p n c s11.n s11.c l (cutR D) hl hnm.symm hp (fun e => hac11.nil e) hn oM) (fun w h => ⟨Aw h rfl hW.1, hac11.see (Lies.of h iN)⟩) ?_
 rintro v16 out16 ⟨q16, c16, rfl, hc16, rfl⟩
 have hq16 : n + szN s11.n + s11.n = (l ++ blkB (cutR D)).length := by rw [List.length_append, blkB_length oM, hl, hnm]; omega
 refine Tr.a rfl rfl rfl ?_
 refine Tr.nil (Aa (Sat.ret (Am ?_)))
 refine Ak (out := (⟨q16, Ab (l ++ blkB (cutR D)), 5, c16 * 1⟩ :: [])) (Ae rfl rfl) (pm_consE rM (by rw [blkB, hnm, List.append_assoc]) rfl Ad) ?_
 exact ⟨q16, c16, by rw [hq16], by rw [← hq16]; exact hc16, rfl⟩

theorem mk_blk_cut  : Meets Tryz.prog 116 [.func (.func 117) #[] #[]] [] (fun _ => True) (fun v out => ∃ c, v = .func (.func 204) #[] #[ptr c 0] ∧ out = [⟨c, [.func (.func 117) #[] #[]], 168, 1⟩]) := by
 intro W hW
 refine An Tryz.func116 rfl 4 Tryz.ntmps116 rfl ?_
 refine Sat.seq (Sat.region ?_)
 refine Tr.box1 rfl rfl rfl ?_
 intro n1 hn1 hf1
 refine Tr.a rfl rfl rfl ?_
 refine Tr.nil (Aa (Sat.seq (Sat.region ?_)))
 refine Tr.makeFunc rfl rfl rfl rfl ?_
 refine Tr.a rfl rfl rfl ?_
 refine Tr.nil (Aa (Sat.ret (Am ?_)))
 refine Ak (out := (⟨n1, [.func (.func 117) #[] #[]], 168, 1⟩ :: [])) (Ae rfl rfl) (Ac rM Ad) ?_
 exact ⟨n1, rfl, by simp⟩

theorem put_cuts (a : Option Addr) (n c : Nat) (l : List UInt8) (s : Sl) (ds : List DCut) (q M : Nat) (hl : l.length = n) (hp : a = none → n = 0) (hM : M ≤ 40000) (hsz : ∀ d ∈ ds, (cutR d).length ≤ M) (hs : s.n ≤ 1000) (hN : n + 9 + s.n * (M + 9) ≤ 40000) : Meets Tryz.prog 115 [.slice a n c, s.v, .func (.func 204) #[] #[ptr q 0]] [] (fun W => SeesP W a (Ab l) ∧ CutsAt W s ds ∧ W.cell? ⟨q, 0, none⟩ = some (.func (.func 117) #[] #[])) (fun v out => FreshRow v out (Ab (l ++ Au (UInt64.ofNat s.n) ++ Av cutR ds)) 5 (l ++ Au (UInt64.ofNat s.n) ++ Av cutR ds).length 1) := by
 intro W hW
 obtain ⟨rs, hs1⟩ := hW.2.1
 have hnd := hs1.nd
 have hz := A8 s.n
 have hon := A1 (n := s.n) oM
 have hmul : ds.length * (M + 9) = s.n * (M + 9) := by rw [hnd]
 have hle : ∀ k, (l ++ Au (UInt64.ofNat s.n) ++ Av cutR (ds.take k)).length ≤ 40000 := fun k => by
  have := listB_take_le cutR M oM ds hsz k
  simp only [List.length_append, Aq, hon, hl]
  omega
 refine An Tryz.func115 rfl 26 Tryz.ntmps115 rfl ?_
 refine Sat.seq (Sat.region ?_)
 refine Tr.a rfl rfl rfl ?_
 refine Tr.nil (Aa (Sat.seq (Sat.region ?_)))
 refine Tr.m rfl rfl rfl ?_
 refine Tr.m rfl rfl rfl ?_
 refine Tr.lenSl rfl rfl rfl Y25 ?_
 refine Tr.conv rfl rfl rfl Y3 Y48 (Bh _) ?_
 rw [word_nat (n := s.n) oM]
 refine Tr.call4 rfl rfl rfl rfl rfl Body106 (oct_Number a n c l (UInt64.ofNat s.n) hl hp oM) (fun w h => Aw h rfl hW.1) ?_
 rintro v13 out13 ⟨q1, c1, rfl, hc1, rfl⟩
 have e13 : n + szN (UInt64.ofNat s.n).toNat = (l ++ Au (UInt64.ofNat s.n) ++ Av cutR (ds.take 0)).length := by simp [Av, Aq, hl]
 rw [e13] at hc1 ⊢
 refine Tr.a rfl rfl rfl ?_
 refine Tr.nil (Aa (Sat.seq (Sat.seq (Sat.region ?_))))
 refine Tr.m rfl rfl rfl ?_
 refine Tr.lenSl rfl rfl rfl Y25 ?_
 refine Tr.m rfl rfl rfl ?_
 refine Tr.nil (Aa (Sat.block ?_))
 refine Sat.loop (ι := Nat × Nat × Nat) (fun p => ⟨[(0, .slice (some ⟨p.2.1, 0, none⟩) (l ++ Au (UInt64.ofNat s.n) ++ Av cutR (ds.take p.1)).length p.2.2), (2, .func (.func 204) #[] #[ptr q 0]), (14, s.v), (15, i64 (s.n : Int)), (16, i64 (p.1 : Int))], [⟨p.2.1, Ab (l ++ Au (UInt64.ofNat s.n) ++ Av cutR (ds.take p.1)), 5, p.2.2 * 1⟩]⟩) (fun p => p.1 ≤ s.n ∧ (l ++ Au (UInt64.ofNat s.n) ++ Av cutR (ds.take p.1)).length ≤ p.2.2) (fun p => s.n - p.1) ((0, q1, c1)) ?_ ?_ ?_
 · exact ⟨Nat.zero_le _, hc1⟩
 · exact Ar (wk1 rfl (wk1 rfl (wk1 rfl (wk1 rfl (wk1 rfl wk0))))) (wh1 (by simp only [List.take_zero, Av, List.map_nil, List.flatten_nil, List.append_nil]; exact mem0) wh0) nD
 ·
  rintro p ⟨hp1, hp2⟩
  refine Sat.seq (Sat.region ?_)
  refine Tr.lss rfl rfl rfl rfl rfl ?_
  refine Tr.nil (Aa (Sat.seq ?_))
  first
   | refine Sat.condP rfl (fun hc0 => ?_) (fun hc0 => ?_)
   | refine Sat.condNP rfl (fun hc0 => ?_) (fun hc0 => ?_)
   | refine Sat.cond rfl (fun hc0 => ?_) (fun hc0 => ?_)
  ·
   have hk2 : p.1 < s.n := by omega
   obtain ⟨b, o, r, d, hsp, hr, hd, his, hlen, hsee⟩ := hs1.at dE hk2
   refine Sat.skip (Aa (Sat.seq (Sat.block (Sat.seq (Sat.region ?_)))))
   refine Tr.idxSlP 34 rfl rfl rfl hsp rfl Y25 Ca p.1 rfl oM ?_
   refine Tr.loadEN r.cells rfl rfl rfl Y53 rfl Ca sP hlen hsee ?_
   refine Tr.alloc (cs := Cut.zero.cells) rfl Cut.zr rfl ?_
   intro n8 hn8 hf8
   refine Tr.sA rfl rfl rfl rfl (Cut.isCell (by first | exact oK  | exact his.ok)) Ca (Cut.length (by first | exact oK  | exact his.ok)) mM (Cut.length (by first | exact oK  | exact his.ok)) uU ?_
   refine Tr.nil (Aa (Sat.region ?_))
   refine Tr.m rfl rfl rfl ?_
   refine Tr.m rfl rfl rfl ?_
   refine Tr.lA rfl rfl rfl Y53 rfl Ca mM (Cut.length (by first | exact oK  | exact his.ok)) ?_
   refine Tr.call4C rfl rfl rfl rfl rfl rfl Body204 (blk_cut_1 (some ⟨p.2.1, 0, none⟩) (l ++ Au (UInt64.ofNat s.n) ++ Av cutR (ds.take p.1)).length p.2.2 (l ++ Au (UInt64.ofNat s.n) ++ Av cutR (ds.take p.1)) rfl (fun e => by cases e) (hle _) r d q (Nat.le_trans (hsz d (List.mem_of_getElem? hd)) hM)) (fun w h => ⟨SeesP.of (Ap h mM), his.ext h rfl, h.keeps.cell sP hW.2.2⟩) ?_
   rintro v23 out23 ⟨q2, c2, rfl, hq2, rfl⟩
   rw [show l ++ Au (UInt64.ofNat s.n) ++ Av cutR (ds.take p.1) ++ blkB (cutR d) = l ++ Au (UInt64.ofNat s.n) ++ Av cutR (ds.take (p.1 + 1)) by rw [listB_step cutR hd, ← List.append_assoc]] at hq2 ⊢
   refine Tr.a rfl rfl rfl ?_
   refine Tr.nil (B2 (Aa (Sat.region ?_)))
   refine Tr.aI rfl rfl rfl rfl oM ?_
   refine Tr.m rfl rfl rfl ?_
   refine Tr.nil (Aa ?_)
   exact ⟨(p.1 + 1, q2, c2), ⟨by simp only []; omega, hq2⟩, by simp only []; omega, Ar (wk1 rfl (wk1 rfl (wk1 rfl (wk1 rfl (wk1 rfl wk0))))) (wh1 mM wh0) nD⟩
  ·
   have hpe : p.1 = s.n := by omega
   have hds : ds = ds.take p.1 := by rw [List.take_of_length_le oM]
   refine Sat.exit (Bf (Bf (bl_h (Aa (Sat.seq (Sat.region ?_))))))
   refine Tr.m rfl rfl rfl ?_
   refine Tr.a rfl rfl rfl ?_
   refine Tr.nil (Aa (Sat.ret (Am ?_)))
   refine ⟨_, [⟨p.2.1, Ab (l ++ Au (UInt64.ofNat s.n) ++ Av cutR ds), 5, p.2.2 * 1⟩], Ae rfl rfl, (by intro b hb; rw [List.mem_singleton.1 hb, hds]; simp only [List.take_take, Nat.min_self]; exact mem0), Bz, ⟨p.2.1, p.2.2, by rw [← hds], by rw [← hds] at hp2; exact hp2, rfl⟩⟩

theorem blk_cert_1 (a : Option Addr) (n c : Nat) (l : List UInt8) (hl : l.length = n) (hp : a = none → n = 0) (hn : n ≤ 40000) (X : Cert) (D : DCert) (q : Nat) (hsz : (Bt D).length ≤ 40000) : Meets Tryz.prog 205 [.slice a n c, agg X.cells, ptr q 0] [] (fun W => SeesP W a (Ab l) ∧ CertIs W X D ∧ W.cell? ⟨q, 0, none⟩ = some (.func (.func 30) #[] #[])) (fun v out => FreshRow v out (Ab (l ++ blkB (Bt D))) 5 (l ++ blkB (Bt D)).length 1) := by
 intro W hW
 have hok := hW.2.1.ok
 refine An Tryz.func205 rfl 17 Tryz.ntmps205 rfl ?_
 refine Sat.seq (Sat.region ?_)
 refine Tr.boxA rfl rfl ?_
 intro n4 hn4 hf4
 refine Tr.a rfl rfl rfl ?_
 refine Tr.nil (Aa (Sat.seq (Sat.region ?_)))
 refine Tr.loadE rfl rfl rfl Tryz.underlying68 rfl (by first | (simp; done) | (simp; exact hW.2.2) | (simp [Cx.with]; done) | (simp [Cx.with]; omega)) (hW.2.2) ?_
 refine Tr.lA rfl rfl rfl Y55 rfl Sz55 mM (Cert.length (by first | exact oK  | exact hW.2.1.ok)) ?_
 refine Tr.call4 rfl rfl rfl rfl rfl Body30 (cert_bytes X D) (fun w h => hW.2.1.ext h rfl) ?_
 rintro v11 out11 ⟨s11, rfl, hac11⟩
 have hnm := hac11.num
 refine Tr.m rfl rfl rfl ?_
 refine Tr.eX rfl rfl rfl rfl ?_
 refine Tr.eX rfl rfl rfl rfl ?_
 refine Tr.a rfl rfl rfl ?_
 refine Tr.a rfl rfl rfl ?_
 refine Tr.nil (Aa (Sat.seq (Sat.region ?_)))
 refine Tr.m rfl rfl rfl ?_
 refine Tr.m rfl rfl rfl ?_
 refine Tr.call4 rfl rfl rfl rfl rfl Body121 (oct_Block a s11.p n c s11.n s11.c l (Bt D) hl hnm.symm hp (fun e => hac11.nil e) hn oM) (fun w h => ⟨Aw h rfl hW.1, hac11.see (Lies.of h iN)⟩) ?_
 rintro v16 out16 ⟨q16, c16, rfl, hc16, rfl⟩
 have hq16 : n + szN s11.n + s11.n = (l ++ blkB (Bt D)).length := by rw [List.length_append, blkB_length oM, hl, hnm]; omega
 refine Tr.a rfl rfl rfl ?_
 refine Tr.nil (Aa (Sat.ret (Am ?_)))
 refine Ak (out := (⟨q16, Ab (l ++ blkB (Bt D)), 5, c16 * 1⟩ :: [])) (Ae rfl rfl) (pm_consE rM (by rw [blkB, hnm, List.append_assoc]) rfl Ad) ?_
 exact ⟨q16, c16, by rw [hq16], by rw [← hq16]; exact hc16, rfl⟩

theorem mk_blk_cert  : Meets Tryz.prog 119 [.func (.func 30) #[] #[]] [] (fun _ => True) (fun v out => ∃ c, v = .func (.func 205) #[] #[ptr c 0] ∧ out = [⟨c, [.func (.func 30) #[] #[]], 68, 1⟩]) := by
 intro W hW
 refine An Tryz.func119 rfl 4 Tryz.ntmps119 rfl ?_
 refine Sat.seq (Sat.region ?_)
 refine Tr.box1 rfl rfl rfl ?_
 intro n1 hn1 hf1
 refine Tr.a rfl rfl rfl ?_
 refine Tr.nil (Aa (Sat.seq (Sat.region ?_)))
 refine Tr.makeFunc rfl rfl rfl rfl ?_
 refine Tr.a rfl rfl rfl ?_
 refine Tr.nil (Aa (Sat.ret (Am ?_)))
 refine Ak (out := (⟨n1, [.func (.func 30) #[] #[]], 68, 1⟩ :: [])) (Ae rfl rfl) (Ac rM Ad) ?_
 exact ⟨n1, rfl, by simp⟩

theorem put_certs (a : Option Addr) (n c : Nat) (l : List UInt8) (s : Sl) (ds : List DCert) (q M : Nat) (hl : l.length = n) (hp : a = none → n = 0) (hM : M ≤ 40000) (hsz : ∀ d ∈ ds, (Bt d).length ≤ M) (hs : s.n ≤ 1000) (hN : n + 9 + s.n * (M + 9) ≤ 40000) : Meets Tryz.prog 118 [.slice a n c, s.v, .func (.func 205) #[] #[ptr q 0]] [] (fun W => SeesP W a (Ab l) ∧ CertsAt W s ds ∧ W.cell? ⟨q, 0, none⟩ = some (.func (.func 30) #[] #[])) (fun v out => FreshRow v out (Ab (l ++ Au (UInt64.ofNat s.n) ++ Av Bt ds)) 5 (l ++ Au (UInt64.ofNat s.n) ++ Av Bt ds).length 1) := by
 intro W hW
 obtain ⟨rs, hs1⟩ := hW.2.1
 have hnd := hs1.nd
 have hz := A8 s.n
 have hon := A1 (n := s.n) oM
 have hmul : ds.length * (M + 9) = s.n * (M + 9) := by rw [hnd]
 have hle : ∀ k, (l ++ Au (UInt64.ofNat s.n) ++ Av Bt (ds.take k)).length ≤ 40000 := fun k => by
  have := listB_take_le Bt M oM ds hsz k
  simp only [List.length_append, Aq, hon, hl]
  omega
 refine An Tryz.func118 rfl 26 Tryz.ntmps118 rfl ?_
 refine Sat.seq (Sat.region ?_)
 refine Tr.a rfl rfl rfl ?_
 refine Tr.nil (Aa (Sat.seq (Sat.region ?_)))
 refine Tr.m rfl rfl rfl ?_
 refine Tr.m rfl rfl rfl ?_
 refine Tr.lenSl rfl rfl rfl Y23 ?_
 refine Tr.conv rfl rfl rfl Y3 Y48 (Bh _) ?_
 rw [word_nat (n := s.n) oM]
 refine Tr.call4 rfl rfl rfl rfl rfl Body106 (oct_Number a n c l (UInt64.ofNat s.n) hl hp oM) (fun w h => Aw h rfl hW.1) ?_
 rintro v13 out13 ⟨q1, c1, rfl, hc1, rfl⟩
 have e13 : n + szN (UInt64.ofNat s.n).toNat = (l ++ Au (UInt64.ofNat s.n) ++ Av Bt (ds.take 0)).length := by simp [Av, Aq, hl]
 rw [e13] at hc1 ⊢
 refine Tr.a rfl rfl rfl ?_
 refine Tr.nil (Aa (Sat.seq (Sat.seq (Sat.region ?_))))
 refine Tr.m rfl rfl rfl ?_
 refine Tr.lenSl rfl rfl rfl Y23 ?_
 refine Tr.m rfl rfl rfl ?_
 refine Tr.nil (Aa (Sat.block ?_))
 refine Sat.loop (ι := Nat × Nat × Nat) (fun p => ⟨[(0, .slice (some ⟨p.2.1, 0, none⟩) (l ++ Au (UInt64.ofNat s.n) ++ Av Bt (ds.take p.1)).length p.2.2), (2, .func (.func 205) #[] #[ptr q 0]), (14, s.v), (15, i64 (s.n : Int)), (16, i64 (p.1 : Int))], [⟨p.2.1, Ab (l ++ Au (UInt64.ofNat s.n) ++ Av Bt (ds.take p.1)), 5, p.2.2 * 1⟩]⟩) (fun p => p.1 ≤ s.n ∧ (l ++ Au (UInt64.ofNat s.n) ++ Av Bt (ds.take p.1)).length ≤ p.2.2) (fun p => s.n - p.1) ((0, q1, c1)) ?_ ?_ ?_
 · exact ⟨Nat.zero_le _, hc1⟩
 · exact Ar (wk1 rfl (wk1 rfl (wk1 rfl (wk1 rfl (wk1 rfl wk0))))) (wh1 (by simp only [List.take_zero, Av, List.map_nil, List.flatten_nil, List.append_nil]; exact mem0) wh0) nD
 ·
  rintro p ⟨hp1, hp2⟩
  refine Sat.seq (Sat.region ?_)
  refine Tr.lss rfl rfl rfl rfl rfl ?_
  refine Tr.nil (Aa (Sat.seq ?_))
  first
   | refine Sat.condP rfl (fun hc0 => ?_) (fun hc0 => ?_)
   | refine Sat.condNP rfl (fun hc0 => ?_) (fun hc0 => ?_)
   | refine Sat.cond rfl (fun hc0 => ?_) (fun hc0 => ?_)
  ·
   have hk2 : p.1 < s.n := by omega
   obtain ⟨b, o, r, d, hsp, hr, hd, his, hlen, hsee⟩ := hs1.at dE hk2
   refine Sat.skip (Aa (Sat.seq (Sat.block (Sat.seq (Sat.region ?_)))))
   refine Tr.idxSlP 35 rfl rfl rfl hsp rfl Y23 Sz55 p.1 rfl oM ?_
   refine Tr.loadEN r.cells rfl rfl rfl Y55 rfl Sz55 sP hlen hsee ?_
   refine Tr.alloc (cs := Cert.zero.cells) rfl Cert.zr rfl ?_
   intro n8 hn8 hf8
   refine Tr.sA rfl rfl rfl rfl (Cert.isCell (by first | exact oK  | exact his.ok)) Sz55 (Cert.length (by first | exact oK  | exact his.ok)) mM (Cert.length (by first | exact oK  | exact his.ok)) uU ?_
   refine Tr.nil (Aa (Sat.region ?_))
   refine Tr.m rfl rfl rfl ?_
   refine Tr.m rfl rfl rfl ?_
   refine Tr.lA rfl rfl rfl Y55 rfl Sz55 mM (Cert.length (by first | exact oK  | exact his.ok)) ?_
   refine Tr.call4C rfl rfl rfl rfl rfl rfl Body205 (blk_cert_1 (some ⟨p.2.1, 0, none⟩) (l ++ Au (UInt64.ofNat s.n) ++ Av Bt (ds.take p.1)).length p.2.2 (l ++ Au (UInt64.ofNat s.n) ++ Av Bt (ds.take p.1)) rfl (fun e => by cases e) (hle _) r d q (Nat.le_trans (hsz d (List.mem_of_getElem? hd)) hM)) (fun w h => ⟨SeesP.of (Ap h mM), his.ext h rfl, h.keeps.cell sP hW.2.2⟩) ?_
   rintro v23 out23 ⟨q2, c2, rfl, hq2, rfl⟩
   rw [show l ++ Au (UInt64.ofNat s.n) ++ Av Bt (ds.take p.1) ++ blkB (Bt d) = l ++ Au (UInt64.ofNat s.n) ++ Av Bt (ds.take (p.1 + 1)) by rw [listB_step Bt hd, ← List.append_assoc]] at hq2 ⊢
   refine Tr.a rfl rfl rfl ?_
   refine Tr.nil (B2 (Aa (Sat.region ?_)))
   refine Tr.aI rfl rfl rfl rfl oM ?_
   refine Tr.m rfl rfl rfl ?_
   refine Tr.nil (Aa ?_)
   exact ⟨(p.1 + 1, q2, c2), ⟨by simp only []; omega, hq2⟩, by simp only []; omega, Ar (wk1 rfl (wk1 rfl (wk1 rfl (wk1 rfl (wk1 rfl wk0))))) (wh1 mM wh0) nD⟩
  ·
   have hpe : p.1 = s.n := by omega
   have hds : ds = ds.take p.1 := by rw [List.take_of_length_le oM]
   refine Sat.exit (Bf (Bf (bl_h (Aa (Sat.seq (Sat.region ?_))))))
   refine Tr.m rfl rfl rfl ?_
   refine Tr.a rfl rfl rfl ?_
   refine Tr.nil (Aa (Sat.ret (Am ?_)))
   refine ⟨_, [⟨p.2.1, Ab (l ++ Au (UInt64.ofNat s.n) ++ Av Bt ds), 5, p.2.2 * 1⟩], Ae rfl rfl, (by intro b hb; rw [List.mem_singleton.1 hb, hds]; simp only [List.take_take, Nat.min_self]; exact mem0), Bz, ⟨p.2.1, p.2.2, by rw [← hds], by rw [← hds] at hp2; exact hp2, rfl⟩⟩

def DMsg.has (D : DMsg) (k : Int) : Prop := ¬ B9 (As D.dKind) k = 0
open Classical in
noncomputable def mB1 (D : DMsg) : List UInt8 := if D.has 1 then [Hw.Bx D.dKind] ++ Au D.dHeight else [Hw.Bx D.dKind]
open Classical in
noncomputable def mB2 (D : DMsg) : List UInt8 := if D.has 2 then mB1 D ++ Au (UInt64.ofNat D.dHeads.length) ++ D.dHeads.flatten else mB1 D
open Classical in
noncomputable def mB3 (D : DMsg) : List UInt8 := if D.has 4 then mB2 D ++ Au (UInt64.ofNat D.dWant.length) ++ D.dWant.flatten else mB2 D
open Classical in
noncomputable def mB4 (D : DMsg) : List UInt8 := if D.has 8 then mB3 D ++ Au (UInt64.ofNat D.dBlocks.length) ++ Av Bj D.dBlocks else mB3 D
open Classical in
noncomputable def mB5 (D : DMsg) : List UInt8 := if D.has 16 then mB4 D ++ Au (UInt64.ofNat D.dVotes.length) ++ Av Be D.dVotes else mB4 D
open Classical in
noncomputable def mB6 (D : DMsg) : List UInt8 := if D.has 32 then mB5 D ++ Au (UInt64.ofNat D.dCuts.length) ++ Av cutR D.dCuts else mB5 D
open Classical in
noncomputable def msgB (D : DMsg) : List UInt8 := if D.has 64 then mB6 D ++ Au (UInt64.ofNat D.dCerts.length) ++ Av Bt D.dCerts else mB6 D
noncomputable def msgR (D : DMsg) : List UInt8 := if D.check = 0 then msgB D else []
structure DMsg.oks (D : DMsg) : Prop where
  h : ∀ l ∈ D.dHeads, l.length = 32
  w : ∀ l ∈ D.dWant, l.length = 32
  b : ∀ d ∈ D.dBlocks, d.ok
  v : ∀ d ∈ D.dVotes, d.ok
  c : ∀ d ∈ D.dCuts, d.dPrev.length = 32 ∧ ∀ l ∈ d.dHeads, l.length = 32
  e : ∀ d ∈ D.dCerts, (d.dCut.dPrev.length = 32 ∧ ∀ l ∈ d.dCut.dHeads, l.length = 32) ∧ ∀ v ∈ d.dVotes, v.ok
theorem seq_all2 {R D : Type} {cells : R → List Value} {k : Nat} {Is : World → R → D → Prop} {W : World} {s : Sl} {rs : List R} {ds : List D} {P : D → Prop} (h : SeqIs cells k Is W s rs ds) (hp : ∀ r d, Is W r d → P d) : ∀ d ∈ ds, P d := fun d hd => by
  obtain ⟨i, hi⟩ := List.getElem?_of_mem hd
  have h1 : i < rs.length := by rw [h.nr, ← h.nd]; exact (List.getElem?_eq_some_iff.1 hi).1
  exact hp _ d (h.is i _ d (List.getElem?_eq_getElem h1) hi)
theorem msg_oks {W : World} {m : Msg} {D : DMsg} (h : MsgIs W m D) : D.oks := by
  obtain ⟨_, hB⟩ := h.fBlocks
  obtain ⟨_, hE⟩ := h.fCerts
  obtain ⟨_, hV⟩ := h.fVotes
  obtain ⟨_, hC⟩ := h.fCuts
  exact ⟨h.fHeads.row, h.fWant.row, seq_all2 hB fun r d h => h.dok, seqv_ok hV, seq_all2 hC fun r d h => ⟨h.fPrev ▸ h.ok.l_fPrev, h.fHeads.row⟩, seq_all2 hE fun r d h => ⟨⟨h.fCut.fPrev ▸ h.fCut.ok.l_fPrev, h.fCut.fHeads.row⟩, by obtain ⟨_, hv⟩ := h.fVotes; exact seqv_ok hv⟩⟩
structure DMsg.Sizes (D : DMsg) : Prop where
  h : D.dHeads.length ≤ 32
  w : D.dWant.length ≤ 32
  b : D.dBlocks.length ≤ 8
  v : D.dVotes.length ≤ 20
  c : D.dCuts.length ≤ 4
  e : D.dCerts.length ≤ 2
  gb : ∀ d ∈ D.dBlocks, d.check = 0
  gv : ∀ d ∈ D.dVotes, Bw d = 0
  gc : ∀ d ∈ D.dCuts, d.check = 0
  ge : ∀ d ∈ D.dCerts, d.check = 0
  height : D.dHeight.toNat ≤ 4294967295
  part : ¬ As D.dKind = 0
  fit : andNotI D.used (As D.dKind) = 0
  some : ¬ (¬ D.dKind = 1 ∧ ¬ D.dKind = 2 ∧ D.used = 0)
theorem msg_not_bad {D : DMsg} (h : D.check = 0) : ¬ D.bad := fun hb => by rw [Bu hb] at h; cases h
theorem msg_sizes {D : DMsg} (h : D.check = 0) : D.Sizes := by
  have hb := msg_not_bad h
  unfold DMsg.bad at hb
  simp only [not_or, Classical.not_not] at hb
  obtain ⟨a1, a2, a3, a4, a5, a6, a7, a8, a9, a10, b1, b2, b3, b4⟩ := hb
  rw [List.all_eq_true] at b1 b2 b3 b4
  exact ⟨by omega, by omega, by omega, by omega, by omega, by omega, fun d hd => of_decide_eq_true (b1 d hd), fun d hd => of_decide_eq_true (b2 d hd), fun d hd => of_decide_eq_true (b3 d hd), fun d hd => of_decide_eq_true (b4 d hd), by omega, a1, a3, a10⟩
theorem block_tight {D : DB} (h : D.check = 0) (hd : D.ok) : D.bytes.length ≤ 1200 := by
  have hs := D.head_small h
  have hl1 : (UInt64.ofNat D.ls.length).toNat = D.ls.length := A1 oM
  have hfl := Bn hd.ls (Nat.le_refl D.ls.length)
  rw [List.take_length] at hfl
  have z1 := A8 D.seq.toNat
  have z2 := A8 D.ls.length
  have z3 := A8 D.ds.length
  simp only [DB.bytes, DB.body, List.length_append, Aq, hd.w, hd.prev, hd.sg, hfl, hl1, A1 (n := D.ds.length) oM]
  omega
theorem blockBy_tight {D : DB} (hd : D.ok) : (Bj D).length ≤ 1200 := by
  unfold Bj
  split
  · rename_i h; exact block_tight h hd
  · simp
theorem cutR_tight {D : DCut} (h : D.dPrev.length = 32 ∧ ∀ l ∈ D.dHeads, l.length = 32) : (cutR D).length ≤ 2000 := by
  unfold cutR
  split
  · rename_i hc; exact D.bytes_small hc h.1 h.2
  · simp
theorem certBy_tight {D : DCert} (h : (D.dCut.dPrev.length = 32 ∧ ∀ l ∈ D.dCut.dHeads, l.length = 32) ∧ ∀ v ∈ D.dVotes, v.ok) : (Bt D).length ≤ 5000 := by
  unfold Bt
  split
  · rename_i hc
    obtain ⟨h1, h2, h3⟩ := DCert.facts hc
    have hcl := cutR_tight h.1
    have h4 := listB_le Be 164 dE D.dVotes (fun d hd => voteBy_le (h.2 d hd))
    have h5 : D.dVotes.length * (164 + 9) ≤ 16 * (164 + 9) := Nat.mul_le_mul_right _ h3
    have hz := A8 (cutR D.dCut).length
    have hz2 := A8 (UInt64.ofNat D.dVotes.length).toNat
    rw [DCert.bytes, List.length_append, List.length_append, blkB_length oM, Aq]
    omega
  · simp
structure BSz (D : DMsg) : Prop where
  b1 : (mB1 D).length ≤ 10
  b2 : (mB2 D).length ≤ 1043
  b3 : (mB3 D).length ≤ 2076
  b4 : (mB4 D).length ≤ 11757
  b5 : (mB5 D).length ≤ 15226
  b6 : (mB6 D).length ≤ 23271
  b7 : (msgB D).length ≤ 33298
theorem flat32 {ls : List (List UInt8)} (h : ∀ l ∈ ls, l.length = 32) : ls.flatten.length = ls.length * 32 := by
  have := Bn h (Nat.le_refl ls.length)
  rwa [List.take_length] at this
theorem nb_le (n : Nat) (h : n ≤ 1000) : (Au (UInt64.ofNat n)).length ≤ 9 := by
  rw [Aq]; exact (A8 _).2
theorem msg_bsz {D : DMsg} (s : D.Sizes) (o : D.oks) : BSz D := by
  have b1 : (mB1 D).length ≤ 10 := by
    unfold mB1
    have := (A8 D.dHeight.toNat).2
    split <;> simp [Aq] <;> omega
  have b2 : (mB2 D).length ≤ 1043 := by
    unfold mB2
    have h1 := nb_le D.dHeads.length (by have := s.h; omega)
    have h2 := flat32 o.h
    have := s.h
    split
    · simp only [List.length_append]; omega
    · omega
  have b3 : (mB3 D).length ≤ 2076 := by
    unfold mB3
    have h1 := nb_le D.dWant.length (by have := s.w; omega)
    have h2 := flat32 o.w
    have := s.w
    split
    · simp only [List.length_append]; omega
    · omega
  have b4 : (mB4 D).length ≤ 11757 := by
    unfold mB4
    have h1 := nb_le D.dBlocks.length (by have := s.b; omega)
    have h2 := listB_le Bj 1200 dE D.dBlocks (fun d hd => blockBy_tight (o.b d hd))
    have h3 : D.dBlocks.length * (1200 + 9) ≤ 8 * 1209 := Nat.mul_le_mul_right _ s.b
    split
    · simp only [List.length_append]; omega
    · omega
  have b5 : (mB5 D).length ≤ 15226 := by
    unfold mB5
    have h1 := nb_le D.dVotes.length (by have := s.v; omega)
    have h2 := listB_le Be 164 dE D.dVotes (fun d hd => voteBy_le (o.v d hd))
    have h3 : D.dVotes.length * (164 + 9) ≤ 20 * 173 := Nat.mul_le_mul_right _ s.v
    split
    · simp only [List.length_append]; omega
    · omega
  have b6 : (mB6 D).length ≤ 23271 := by
    unfold mB6
    have h1 := nb_le D.dCuts.length (by have := s.c; omega)
    have h2 := listB_le cutR 2000 dE D.dCuts (fun d hd => cutR_tight (o.c d hd))
    have h3 : D.dCuts.length * (2000 + 9) ≤ 4 * 2009 := Nat.mul_le_mul_right _ s.c
    split
    · simp only [List.length_append]; omega
    · omega
  refine ⟨b1, b2, b3, b4, b5, b6, ?_⟩
  unfold msgB
  have h1 := nb_le D.dCerts.length (by have := s.e; omega)
  have h2 := listB_le Bt 5000 dE D.dCerts (fun d hd => certBy_tight (o.e d hd))
  have h3 : D.dCerts.length * (5000 + 9) ≤ 2 * 5009 := Nat.mul_le_mul_right _ s.e
  split
  · simp only [List.length_append]; omega
  · omega

theorem msg_bytes (m : Msg) (D : DMsg) : Meets Tryz.prog 28 [agg m.cells] [] (fun W => MsgIs W m D) (fun v out => ∃ s, v = .tuple #[s.v, i64 D.check] ∧ Hw.Acc s out (Ab (msgR D)) 5 (msgR D).length 1) := by
  intro W hW
  have hok := hW.ok
  have hl := hW.len
  have hoks := msg_oks hW
  refine An Tryz.func28 rfl 73 Tryz.ntmps28 rfl ?_
  refine Sat.seq (Sat.region ?_)
  refine Tr.boxA rfl rfl ?_
  intro n1 hn1 hf1
  refine Tr.a rfl rfl rfl ?_
  refine Tr.a rfl rfl rfl ?_
  refine Tr.nil (Aa (Sat.seq (Sat.seq (Sat.region ?_))))
  refine Tr.lA rfl rfl rfl Y57 rfl Sz57 mM (Msg.length (by first | exact oK  | exact hok)) ?_
  refine Tr.cV rfl rfl rfl rfl Body34 (msg_check m D) (fun w h => hW.ext h rfl) ?_
  refine Tr.a rfl rfl rfl ?_
  refine Tr.nil (Aa (Sat.seq (Sat.region ?_)))
  refine Tr.m rfl rfl rfl ?_
  refine Tr.nei rfl rfl rfl rfl rfl ?_
  refine Tr.nil (Aa ?_)
  first
    | refine Sat.condP rfl (fun hc0 => ?_) (fun hc0 => ?_)
    | refine Sat.condNP rfl (fun hc0 => ?_) (fun hc0 => ?_)
    | refine Sat.cond rfl (fun hc0 => ?_) (fun hc0 => ?_)
  ·
    refine Sat.seq (Sat.region ?_)
    refine Tr.m rfl rfl rfl ?_
    refine Tr.a rfl rfl rfl ?_
    refine Tr.a rfl rfl rfl ?_
    refine Tr.nil (Aa (Sat.ret (Ao (Am ?_))))
    refine Ak (out := []) (Ba rfl rfl rfl) Ad ?_
    exact ⟨Sl.nil, rfl, by rw [show msgR D = [] from if_neg hc0]; exact Acc.none⟩
  ·
    have hz := msg_sizes hc0
    have hbz := msg_bsz hz hoks
    obtain ⟨z1, z2, z3, z4, z5, z6, z7⟩ := hbz
    have y1 := hz.h
    have y2 := hz.w
    have y3 := hz.b
    have y4 := hz.v
    have y5 := hz.c
    have y6 := hz.e
    have k1 := hl.heads
    have k2 := hl.want
    have k3 := hl.blocks
    have k4 := hl.votes
    have k5 := hl.cuts
    have k6 := hl.certs
    refine Sat.skip (Aa (Sat.seq (Sat.region ?_)))
    refine Tr.fld rfl rfl rfl Y57 rfl Sz3 dE _ rfl ?_
    refine Tr.load1 rfl rfl rfl Y3 rfl mM (by first | exact Msg.get_fKind (by first | exact oK  | exact hok) | exact vL) ?_
    refine Tr.cV rfl rfl rfl rfl Body93 (sync_parts m.fKind) tV ?_
    refine Tr.a rfl rfl rfl ?_
    refine Tr.nil (Aa (Sat.seq (Sat.region ?_)))
    refine Tr.fld rfl rfl rfl Y57 rfl Sz3 dE _ rfl ?_
    refine Tr.load1 rfl rfl rfl Y3 rfl mM (by first | exact Msg.get_fKind (by first | exact oK  | exact hok) | exact vL) ?_
    refine Tr.conv rfl rfl rfl Y3 Y5 (cv_i64_u8 _) ?_
    rw [hW.fKind]
    refine Tr.mkRow (z := u8 0) [u8 (Hw.Bx D.dKind)] (Ab [Hw.Bx D.dKind]) rfl rfl rfl Y58 Sz5 Zr5 rfl rfl (by intro v hv; rw [List.mem_singleton.1 hv]; rfl) dE rfl ?_
    intro q18
    refine Tr.a rfl rfl rfl ?_
    refine Tr.nil (Aa ?_)
    refine Sat.join (ι := Nat × Nat) (fun p1 => ⟨[(1, ptr n1 0), (5, i64 (As D.dKind)), (6, .slice (some ⟨p1.1, 0, none⟩) (mB1 D).length p1.2)], [⟨n1, m.cells, 57, m.cells.length⟩, ⟨p1.1, Ab (mB1 D), 5, p1.2 * 1⟩]⟩) (fun p1 => (mB1 D).length ≤ p1.2) ?_ ?_
    ·
      refine Sat.seq (Sat.region ?_)
      refine Tr.m rfl rfl rfl ?_
      refine Tr.and_i64 rfl rfl rfl rfl ?_
      refine Tr.nei rfl rfl rfl rfl rfl ?_
      refine Tr.nil (Aa ?_)
      first
        | refine Sat.condP rfl (fun hc1 => ?_) (fun hc1 => ?_)
        | refine Sat.condNP rfl (fun hc1 => ?_) (fun hc1 => ?_)
        | refine Sat.cond rfl (fun hc1 => ?_) (fun hc1 => ?_)
      ·
        have hb1 : D.has 1 := hc1
        refine Sat.region ?_
        refine Tr.m rfl rfl rfl ?_
        refine Tr.fld rfl rfl rfl Y57 rfl B1 dE _ rfl ?_
        refine Tr.load1 rfl rfl rfl Y48 rfl mM (by first | exact Msg.get_fHeight (by first | exact oK  | exact hok) | exact vL) ?_
        refine Tr.call4 rfl rfl rfl rfl rfl Body106 (oct_Number (some ⟨q18, 0, none⟩) 1 1 [Hw.Bx D.dKind] m.fHeight rfl (fun e => by cases e) dE) (fun w h => SeesP.of (Ap h mM)) ?_
        rintro v25 out25 ⟨q25, c25, rfl, hc25_, rfl⟩
        rw [hW.fHeight] at hc25_ ⊢
        have hE1 : [Hw.Bx D.dKind] ++ Au D.dHeight = mB1 D := (if_pos hb1).symm
        have hN1 : 1 + szN D.dHeight.toNat = (mB1 D).length := by rw [← hE1]; simp only [List.length_append, Aq, List.length_singleton]
        rw [hN1] at hc25_ ⊢
        rw [hE1]
        refine Tr.a rfl rfl rfl ?_
        refine Tr.nil (Aa ?_)
        first
          | (have hN : mB1 D = [Hw.Bx D.dKind] := if_neg (fun h => h hc1)
             simp only [hN]
             exact ⟨(q18, 1), Nat.le_refl 1, Af (wk1 rfl (wk1 rfl (wk1 rfl wk0))) (Ac rM (Ac rM Ad))⟩)
          | (try simp only [List.cons_append, List.nil_append, List.append_nil]
             exact ⟨(q25, c25), hc25_, Af (wk1 rfl (wk1 rfl (wk1 rfl wk0))) (Ac rM (Ac rM Ad))⟩)
      ·
        refine Sat.skip (Aa ?_)
        first
          | (have hN : mB1 D = [Hw.Bx D.dKind] := if_neg (fun h => h hc1)
             simp only [hN]
             exact ⟨(q18, 1), Nat.le_refl 1, Af (wk1 rfl (wk1 rfl (wk1 rfl wk0))) (Ac rM (Ac rM Ad))⟩)
          | (try simp only [List.cons_append, List.nil_append, List.append_nil]
             exact ⟨(q25, c25), hc25_, Af (wk1 rfl (wk1 rfl (wk1 rfl wk0))) (Ac rM (Ac rM Ad))⟩)
    ·
      intro p1 hj
      have hp1 := hj
      refine Sat.join (ι := Nat × Nat) (fun p2 => ⟨[(1, ptr n1 0), (5, i64 (As D.dKind)), (6, .slice (some ⟨p2.1, 0, none⟩) (mB2 D).length p2.2)], [⟨n1, m.cells, 57, m.cells.length⟩, ⟨p2.1, Ab (mB2 D), 5, p2.2 * 1⟩]⟩) (fun p2 => (mB2 D).length ≤ p2.2) ?_ ?_
      ·
        refine Sat.seq (Sat.region ?_)
        refine Tr.m rfl rfl rfl ?_
        refine Tr.and_i64 rfl rfl rfl rfl ?_
        refine Tr.nei rfl rfl rfl rfl rfl ?_
        refine Tr.nil (Aa ?_)
        first
          | refine Sat.condP rfl (fun hc2 => ?_) (fun hc2 => ?_)
          | refine Sat.condNP rfl (fun hc2 => ?_) (fun hc2 => ?_)
          | refine Sat.cond rfl (fun hc2 => ?_) (fun hc2 => ?_)
        ·
          have hb2 : D.has 2 := hc2
          refine Sat.region ?_
          refine Tr.m rfl rfl rfl ?_
          refine Tr.fld rfl rfl rfl Y57 rfl Sz51 dE _ rfl ?_
          refine Tr.load1 rfl rfl rfl Y51 rfl mM (by first | exact Msg.get_fHeads (by first | exact oK  | exact hok) | exact vL) ?_
          refine Tr.call4 rfl rfl rfl rfl rfl Body107 (put_digests (some ⟨p1.1, 0, none⟩) (mB1 D).length p1.2 (mB1 D) m.fHeads D.dHeads rfl (fun e => by cases e) oM oM) (fun w h => ⟨SeesP.of (Ap h mM), rows_ext h rfl hW.fHeads⟩) ?_
          rintro v32 out32 ⟨q32, c32, rfl, hc32_, rfl⟩
          rw [hl.heads] at hc32_ ⊢
          have hE2 : mB1 D ++ Au (UInt64.ofNat D.dHeads.length) ++ D.dHeads.flatten = mB2 D := (if_pos hb2).symm
          have hN2 : (mB1 D).length + szN D.dHeads.length + D.dHeads.length * 32 = (mB2 D).length := by rw [← hE2]; simp only [List.length_append, Aq, flat32 hoks.h, A1 (n := D.dHeads.length) oM]
          rw [hN2] at hc32_ ⊢
          rw [hE2]
          refine Tr.a rfl rfl rfl ?_
          refine Tr.nil (Aa ?_)
          first
            | (have hN : mB2 D = mB1 D := if_neg (fun h => h hc2)
               simp only [hN]
               exact ⟨p1, hp1, Af (wk1 rfl (wk1 rfl (wk1 rfl wk0))) (Ac rM (Ac rM Ad))⟩)
            | (try simp only [List.cons_append, List.nil_append, List.append_nil]
               exact ⟨(q32, c32), hc32_, Af (wk1 rfl (wk1 rfl (wk1 rfl wk0))) (Ac rM (Ac rM Ad))⟩)
        ·
          refine Sat.skip (Aa ?_)
          first
            | (have hN : mB2 D = mB1 D := if_neg (fun h => h hc2)
               simp only [hN]
               exact ⟨p1, hp1, Af (wk1 rfl (wk1 rfl (wk1 rfl wk0))) (Ac rM (Ac rM Ad))⟩)
            | (try simp only [List.cons_append, List.nil_append, List.append_nil]
               exact ⟨(q32, c32), hc32_, Af (wk1 rfl (wk1 rfl (wk1 rfl wk0))) (Ac rM (Ac rM Ad))⟩)
      ·
        intro p2 hj
        have hp2 := hj
        refine Sat.join (ι := Nat × Nat) (fun p3 => ⟨[(1, ptr n1 0), (5, i64 (As D.dKind)), (6, .slice (some ⟨p3.1, 0, none⟩) (mB3 D).length p3.2)], [⟨n1, m.cells, 57, m.cells.length⟩, ⟨p3.1, Ab (mB3 D), 5, p3.2 * 1⟩]⟩) (fun p3 => (mB3 D).length ≤ p3.2) ?_ ?_
        ·
          refine Sat.seq (Sat.region ?_)
          refine Tr.m rfl rfl rfl ?_
          refine Tr.and_i64 rfl rfl rfl rfl ?_
          refine Tr.nei rfl rfl rfl rfl rfl ?_
          refine Tr.nil (Aa ?_)
          first
            | refine Sat.condP rfl (fun hc3 => ?_) (fun hc3 => ?_)
            | refine Sat.condNP rfl (fun hc3 => ?_) (fun hc3 => ?_)
            | refine Sat.cond rfl (fun hc3 => ?_) (fun hc3 => ?_)
          ·
            have hb3 : D.has 4 := hc3
            refine Sat.region ?_
            refine Tr.m rfl rfl rfl ?_
            refine Tr.fld rfl rfl rfl Y57 rfl Sz51 dE _ rfl ?_
            refine Tr.load1 rfl rfl rfl Y51 rfl mM (by first | exact Msg.get_fWant (by first | exact oK  | exact hok) | exact vL) ?_
            refine Tr.call4 rfl rfl rfl rfl rfl Body107 (put_digests (some ⟨p2.1, 0, none⟩) (mB2 D).length p2.2 (mB2 D) m.fWant D.dWant rfl (fun e => by cases e) oM oM) (fun w h => ⟨SeesP.of (Ap h mM), rows_ext h rfl hW.fWant⟩) ?_
            rintro v39 out39 ⟨q39, c39, rfl, hc39_, rfl⟩
            rw [hl.want] at hc39_ ⊢
            have hE3 : mB2 D ++ Au (UInt64.ofNat D.dWant.length) ++ D.dWant.flatten = mB3 D := (if_pos hb3).symm
            have hN3 : (mB2 D).length + szN D.dWant.length + D.dWant.length * 32 = (mB3 D).length := by rw [← hE3]; simp only [List.length_append, Aq, flat32 hoks.w, A1 (n := D.dWant.length) oM]
            rw [hN3] at hc39_ ⊢
            rw [hE3]
            refine Tr.a rfl rfl rfl ?_
            refine Tr.nil (Aa ?_)
            first
              | (have hN : mB3 D = mB2 D := if_neg (fun h => h hc3)
                 simp only [hN]
                 exact ⟨p2, hp2, Af (wk1 rfl (wk1 rfl (wk1 rfl wk0))) (Ac rM (Ac rM Ad))⟩)
              | (try simp only [List.cons_append, List.nil_append, List.append_nil]
                 exact ⟨(q39, c39), hc39_, Af (wk1 rfl (wk1 rfl (wk1 rfl wk0))) (Ac rM (Ac rM Ad))⟩)
          ·
            refine Sat.skip (Aa ?_)
            first
              | (have hN : mB3 D = mB2 D := if_neg (fun h => h hc3)
                 simp only [hN]
                 exact ⟨p2, hp2, Af (wk1 rfl (wk1 rfl (wk1 rfl wk0))) (Ac rM (Ac rM Ad))⟩)
              | (try simp only [List.cons_append, List.nil_append, List.append_nil]
                 exact ⟨(q39, c39), hc39_, Af (wk1 rfl (wk1 rfl (wk1 rfl wk0))) (Ac rM (Ac rM Ad))⟩)
        ·
          intro p3 hj
          have hp3 := hj
          refine Sat.join (ι := Nat × Nat) (fun p4 => ⟨[(1, ptr n1 0), (5, i64 (As D.dKind)), (6, .slice (some ⟨p4.1, 0, none⟩) (mB4 D).length p4.2)], [⟨n1, m.cells, 57, m.cells.length⟩, ⟨p4.1, Ab (mB4 D), 5, p4.2 * 1⟩]⟩) (fun p4 => (mB4 D).length ≤ p4.2) ?_ ?_
          ·
            refine Sat.seq (Sat.region ?_)
            refine Tr.m rfl rfl rfl ?_
            refine Tr.and_i64 rfl rfl rfl rfl ?_
            refine Tr.nei rfl rfl rfl rfl rfl ?_
            refine Tr.nil (Aa ?_)
            first
              | refine Sat.condP rfl (fun hc4 => ?_) (fun hc4 => ?_)
              | refine Sat.condNP rfl (fun hc4 => ?_) (fun hc4 => ?_)
              | refine Sat.cond rfl (fun hc4 => ?_) (fun hc4 => ?_)
            ·
              have hb4 : D.has 8 := hc4
              refine Sat.withK (sp_k (sp_v sp_n)) rfl ?_
              refine Sat.draw [(0, 0), (0, 1), (0, 2), (4, 3), (4, 4), (0, 5)] Bv zK ?_
              refine Tr.m rfl rfl rfl ?_
              refine Tr.fld rfl rfl rfl Y57 rfl Sz22 dE _ rfl ?_
              refine Tr.kload1 rfl rfl rfl Y22 rfl mM (by first | exact Msg.get_fBlocks (by first | exact oK  | exact hok) | exact vL) ?_
              refine Tr.call4 rfl rfl rfl rfl rfl Body110 (mk_blk_block) tV ?_
              rintro v46 out46 ⟨c46, rfl, rfl⟩
              refine Tr.call4 rfl rfl rfl rfl rfl Body109 (put_blocks (some ⟨p3.1, 0, none⟩) (mB3 D).length p3.2 (mB3 D) m.fBlocks D.dBlocks c46 1200 rfl (fun e => by cases e) dE (fun d hd => blockBy_tight (hoks.b d hd)) oM oM) (fun w h => ⟨SeesP.of (Ap (cs := Ab (mB3 D)) h mM), Blocks_ext h rfl hW.fBlocks, (Ai (B := ⟨c46, _, _, _⟩) h mM).cell (o := 0) rfl⟩) ?_
              rintro v47 out47 ⟨q47, c47, rfl, hc47_, rfl⟩
              rw [hl.blocks] at hc47_ ⊢
              have hE4 : mB3 D ++ Au (UInt64.ofNat D.dBlocks.length) ++ Av Bj D.dBlocks = mB4 D := (if_pos hb4).symm
              rw [hE4] at hc47_ ⊢
              refine Tr.a rfl rfl rfl ?_
              refine Tr.nil (Aa ?_)
              first
                | (have hN : mB4 D = mB3 D := if_neg (fun h => h hc4)
                   simp only [hN]
                   exact ⟨p3, hp3, Af (wk1 rfl (wk1 rfl (wk1 rfl wk0))) (Ac rM (Ac rM Ad))⟩)
                | (try simp only [List.cons_append, List.nil_append, List.append_nil]
                   exact ⟨(q47, c47), hc47_, Af (wk1 rfl (wk1 rfl (wk1 rfl wk0))) (Ac rM (Ac rM Ad))⟩)
            ·
              refine Sat.skip (Aa ?_)
              first
                | (have hN : mB4 D = mB3 D := if_neg (fun h => h hc4)
                   simp only [hN]
                   exact ⟨p3, hp3, Af (wk1 rfl (wk1 rfl (wk1 rfl wk0))) (Ac rM (Ac rM Ad))⟩)
                | (try simp only [List.cons_append, List.nil_append, List.append_nil]
                   exact ⟨(q47, c47), hc47_, Af (wk1 rfl (wk1 rfl (wk1 rfl wk0))) (Ac rM (Ac rM Ad))⟩)
          ·
            intro p4 hj
            have hp4 := hj
            refine Sat.join (ι := Nat × Nat) (fun p5 => ⟨[(1, ptr n1 0), (5, i64 (As D.dKind)), (6, .slice (some ⟨p5.1, 0, none⟩) (mB5 D).length p5.2)], [⟨n1, m.cells, 57, m.cells.length⟩, ⟨p5.1, Ab (mB5 D), 5, p5.2 * 1⟩]⟩) (fun p5 => (mB5 D).length ≤ p5.2) ?_ ?_
            ·
              refine Sat.seq (Sat.region ?_)
              refine Tr.m rfl rfl rfl ?_
              refine Tr.and_i64 rfl rfl rfl rfl ?_
              refine Tr.nei rfl rfl rfl rfl rfl ?_
              refine Tr.nil (Aa ?_)
              first
                | refine Sat.condP rfl (fun hc5 => ?_) (fun hc5 => ?_)
                | refine Sat.condNP rfl (fun hc5 => ?_) (fun hc5 => ?_)
                | refine Sat.cond rfl (fun hc5 => ?_) (fun hc5 => ?_)
              ·
                have hb5 : D.has 16 := hc5
                refine Sat.withK (sp_k (sp_v sp_n)) rfl ?_
                refine Sat.draw [(0, 0), (0, 1), (0, 2), (4, 3), (4, 4), (0, 5)] Bv zK ?_
                refine Tr.m rfl rfl rfl ?_
                refine Tr.fld rfl rfl rfl Y57 rfl Sz24 dE _ rfl ?_
                refine Tr.kload1 rfl rfl rfl Y24 rfl mM (by first | exact Msg.get_fVotes (by first | exact oK  | exact hok) | exact vL) ?_
                refine Tr.call4 rfl rfl rfl rfl rfl Body113 (mk_blk_vote) tV ?_
                rintro v54 out54 ⟨c54, rfl, rfl⟩
                refine Tr.call4 rfl rfl rfl rfl rfl Body112 (put_votes (some ⟨p4.1, 0, none⟩) (mB4 D).length p4.2 (mB4 D) m.fVotes D.dVotes c54 164 rfl (fun e => by cases e) dE (fun d hd => voteBy_le (hoks.v d hd)) oM oM) (fun w h => ⟨SeesP.of (Ap (cs := Ab (mB4 D)) h mM), Votes_ext h rfl hW.fVotes, (Ai (B := ⟨c54, _, _, _⟩) h mM).cell (o := 0) rfl⟩) ?_
                rintro v55 out55 ⟨q55, c55, rfl, hc55_, rfl⟩
                rw [hl.votes] at hc55_ ⊢
                have hE5 : mB4 D ++ Au (UInt64.ofNat D.dVotes.length) ++ Av Be D.dVotes = mB5 D := (if_pos hb5).symm
                rw [hE5] at hc55_ ⊢
                refine Tr.a rfl rfl rfl ?_
                refine Tr.nil (Aa ?_)
                first
                  | (have hN : mB5 D = mB4 D := if_neg (fun h => h hc5)
                     simp only [hN]
                     exact ⟨p4, hp4, Af (wk1 rfl (wk1 rfl (wk1 rfl wk0))) (Ac rM (Ac rM Ad))⟩)
                  | (try simp only [List.cons_append, List.nil_append, List.append_nil]
                     exact ⟨(q55, c55), hc55_, Af (wk1 rfl (wk1 rfl (wk1 rfl wk0))) (Ac rM (Ac rM Ad))⟩)
              ·
                refine Sat.skip (Aa ?_)
                first
                  | (have hN : mB5 D = mB4 D := if_neg (fun h => h hc5)
                     simp only [hN]
                     exact ⟨p4, hp4, Af (wk1 rfl (wk1 rfl (wk1 rfl wk0))) (Ac rM (Ac rM Ad))⟩)
                  | (try simp only [List.cons_append, List.nil_append, List.append_nil]
                     exact ⟨(q55, c55), hc55_, Af (wk1 rfl (wk1 rfl (wk1 rfl wk0))) (Ac rM (Ac rM Ad))⟩)
            ·
              intro p5 hj
              have hp5 := hj
              refine Sat.join (ι := Nat × Nat) (fun p6 => ⟨[(1, ptr n1 0), (5, i64 (As D.dKind)), (6, .slice (some ⟨p6.1, 0, none⟩) (mB6 D).length p6.2)], [⟨n1, m.cells, 57, m.cells.length⟩, ⟨p6.1, Ab (mB6 D), 5, p6.2 * 1⟩]⟩) (fun p6 => (mB6 D).length ≤ p6.2) ?_ ?_
              ·
                refine Sat.seq (Sat.region ?_)
                refine Tr.m rfl rfl rfl ?_
                refine Tr.and_i64 rfl rfl rfl rfl ?_
                refine Tr.nei rfl rfl rfl rfl rfl ?_
                refine Tr.nil (Aa ?_)
                first
                  | refine Sat.condP rfl (fun hc6 => ?_) (fun hc6 => ?_)
                  | refine Sat.condNP rfl (fun hc6 => ?_) (fun hc6 => ?_)
                  | refine Sat.cond rfl (fun hc6 => ?_) (fun hc6 => ?_)
                ·
                  have hb6 : D.has 32 := hc6
                  refine Sat.withK (sp_k (sp_v sp_n)) rfl ?_
                  refine Sat.draw [(0, 0), (0, 1), (0, 2), (4, 3), (4, 4), (0, 5)] Bv zK ?_
                  refine Tr.m rfl rfl rfl ?_
                  refine Tr.fld rfl rfl rfl Y57 rfl Sz25 dE _ rfl ?_
                  refine Tr.kload1 rfl rfl rfl Y25 rfl mM (by first | exact Msg.get_fCuts (by first | exact oK  | exact hok) | exact vL) ?_
                  refine Tr.call4 rfl rfl rfl rfl rfl Body116 (mk_blk_cut) tV ?_
                  rintro v62 out62 ⟨c62, rfl, rfl⟩
                  refine Tr.call4 rfl rfl rfl rfl rfl Body115 (put_cuts (some ⟨p5.1, 0, none⟩) (mB5 D).length p5.2 (mB5 D) m.fCuts D.dCuts c62 2000 rfl (fun e => by cases e) dE (fun d hd => cutR_tight (hoks.c d hd)) oM oM) (fun w h => ⟨SeesP.of (Ap (cs := Ab (mB5 D)) h mM), Cuts_ext h rfl hW.fCuts, (Ai (B := ⟨c62, _, _, _⟩) h mM).cell (o := 0) rfl⟩) ?_
                  rintro v63 out63 ⟨q63, c63, rfl, hc63_, rfl⟩
                  rw [hl.cuts] at hc63_ ⊢
                  have hE6 : mB5 D ++ Au (UInt64.ofNat D.dCuts.length) ++ Av cutR D.dCuts = mB6 D := (if_pos hb6).symm
                  rw [hE6] at hc63_ ⊢
                  refine Tr.a rfl rfl rfl ?_
                  refine Tr.nil (Aa ?_)
                  first
                    | (have hN : mB6 D = mB5 D := if_neg (fun h => h hc6)
                       simp only [hN]
                       exact ⟨p5, hp5, Af (wk1 rfl (wk1 rfl (wk1 rfl wk0))) (Ac rM (Ac rM Ad))⟩)
                    | (try simp only [List.cons_append, List.nil_append, List.append_nil]
                       exact ⟨(q63, c63), hc63_, Af (wk1 rfl (wk1 rfl (wk1 rfl wk0))) (Ac rM (Ac rM Ad))⟩)
                ·
                  refine Sat.skip (Aa ?_)
                  first
                    | (have hN : mB6 D = mB5 D := if_neg (fun h => h hc6)
                       simp only [hN]
                       exact ⟨p5, hp5, Af (wk1 rfl (wk1 rfl (wk1 rfl wk0))) (Ac rM (Ac rM Ad))⟩)
                    | (try simp only [List.cons_append, List.nil_append, List.append_nil]
                       exact ⟨(q63, c63), hc63_, Af (wk1 rfl (wk1 rfl (wk1 rfl wk0))) (Ac rM (Ac rM Ad))⟩)
              ·
                intro p6 hj
                have hp6 := hj
                refine Sat.join (ι := Nat × Nat) (fun p7 => ⟨[(1, ptr n1 0), (5, i64 (As D.dKind)), (6, .slice (some ⟨p7.1, 0, none⟩) (msgB D).length p7.2)], [⟨n1, m.cells, 57, m.cells.length⟩, ⟨p7.1, Ab (msgB D), 5, p7.2 * 1⟩]⟩) (fun p7 => (msgB D).length ≤ p7.2) ?_ ?_
                ·
                  refine Sat.seq (Sat.region ?_)
                  refine Tr.m rfl rfl rfl ?_
                  refine Tr.and_i64 rfl rfl rfl rfl ?_
                  refine Tr.nei rfl rfl rfl rfl rfl ?_
                  refine Tr.nil (Aa ?_)
                  first
                    | refine Sat.condP rfl (fun hc7 => ?_) (fun hc7 => ?_)
                    | refine Sat.condNP rfl (fun hc7 => ?_) (fun hc7 => ?_)
                    | refine Sat.cond rfl (fun hc7 => ?_) (fun hc7 => ?_)
                  ·
                    have hb7 : D.has 64 := hc7
                    refine Sat.withK (sp_k (sp_v sp_n)) rfl ?_
                    refine Sat.draw [(0, 0), (0, 1), (0, 2), (4, 3), (4, 4), (0, 5)] Bv zK ?_
                    refine Tr.m rfl rfl rfl ?_
                    refine Tr.fld rfl rfl rfl Y57 rfl Sz23 dE _ rfl ?_
                    refine Tr.kload1 rfl rfl rfl Y23 rfl mM (by first | exact Msg.get_fCerts (by first | exact oK  | exact hok) | exact vL) ?_
                    refine Tr.call4 rfl rfl rfl rfl rfl Body119 (mk_blk_cert) tV ?_
                    rintro v70 out70 ⟨c70, rfl, rfl⟩
                    refine Tr.call4 rfl rfl rfl rfl rfl Body118 (put_certs (some ⟨p6.1, 0, none⟩) (mB6 D).length p6.2 (mB6 D) m.fCerts D.dCerts c70 5000 rfl (fun e => by cases e) dE (fun d hd => certBy_tight (hoks.e d hd)) oM oM) (fun w h => ⟨SeesP.of (Ap (cs := Ab (mB6 D)) h mM), Certs_ext h rfl hW.fCerts, (Ai (B := ⟨c70, _, _, _⟩) h mM).cell (o := 0) rfl⟩) ?_
                    rintro v71 out71 ⟨q71, c71, rfl, hc71_, rfl⟩
                    rw [hl.certs] at hc71_ ⊢
                    have hE7 : mB6 D ++ Au (UInt64.ofNat D.dCerts.length) ++ Av Bt D.dCerts = msgB D := (if_pos hb7).symm
                    rw [hE7] at hc71_ ⊢
                    refine Tr.a rfl rfl rfl ?_
                    refine Tr.nil (Aa ?_)
                    first
                      | (have hN : msgB D = mB6 D := if_neg (fun h => h hc7)
                         simp only [hN]
                         exact ⟨p6, hp6, Af (wk1 rfl (wk1 rfl (wk1 rfl wk0))) (Ac rM (Ac rM Ad))⟩)
                      | (try simp only [List.cons_append, List.nil_append, List.append_nil]
                         exact ⟨(q71, c71), hc71_, Af (wk1 rfl (wk1 rfl (wk1 rfl wk0))) (Ac rM (Ac rM Ad))⟩)
                  ·
                    refine Sat.skip (Aa ?_)
                    first
                      | (have hN : msgB D = mB6 D := if_neg (fun h => h hc7)
                         simp only [hN]
                         exact ⟨p6, hp6, Af (wk1 rfl (wk1 rfl (wk1 rfl wk0))) (Ac rM (Ac rM Ad))⟩)
                      | (try simp only [List.cons_append, List.nil_append, List.append_nil]
                         exact ⟨(q71, c71), hc71_, Af (wk1 rfl (wk1 rfl (wk1 rfl wk0))) (Ac rM (Ac rM Ad))⟩)
                ·
                  intro p7 hj
                  have hp7 := hj
                  refine Sat.seq (Sat.region ?_)
                  refine Tr.m rfl rfl rfl ?_
                  refine Tr.a rfl rfl rfl ?_
                  refine Tr.a rfl rfl rfl ?_
                  refine Tr.nil (Aa (Sat.ret (Am ?_)))
                  refine Ak (out := (⟨p7.1, Ab (msgB D), 5, p7.2 * 1⟩ :: [])) (Ba rfl rfl rfl) (Ac rM Ad) ?_
                  refine ⟨⟨some ⟨p7.1, 0, none⟩, (msgB D).length, p7.2⟩, (by rw [hc0]; try rfl), ?_⟩
                  rw [show msgR D = msgB D from if_pos hc0]
                  exact Acc.some hp7 (by rw [Ab, List.length_map, Nat.mul_one])

end Go.Proofs.YtdifpjmfabhpiaaGreat
end

section
namespace Go.Proofs.YtdifpjmfabhpiaaGreat
open Go Hw

def longB (d : List UInt8) : Bool := decide ((16384 : Int) < (d.length : Int))
def goodI (ds : List (List UInt8)) : Bool := decide ((ds.length : Int) ≤ 64) && !(ds.any longB)

end Go.Proofs.YtdifpjmfabhpiaaGreat
end

section
namespace Go.Proofs.YtdifpjmfabhpiaaGreat
open Go Hw

def pushE (ds : List (List UInt8)) (l : List UInt8) : Int := if goodI ds = true then (if (16384 : Int) < (l.length : Int) then 3 else if (64 : Int) ≤ (ds.length : Int) then 7 else 0) else 2
def pushD (ds : List (List UInt8)) (l : List UInt8) : List (List UInt8) := if pushE ds l = 0 then ds ++ [l] else []
section
variable {C : Cx} {ops : Array Oper} {rest : List (Nat × Oper)} {sl : List (Nat × Value)} {hp : List Blk} {Q : St → Prop} {c d : Nat} {ty : TypeId} {pos : String} {af : Array Edge} {g : Option (Nat × Bool)}
end

end Go.Proofs.YtdifpjmfabhpiaaGreat
end

section
namespace Go.Proofs.YtdifpjmfabhpiaaGreat
open Go Hw

theorem oct_clamp1  : Meets Tryz.prog 188 [i64 1] [] (fun _ => True) (fun v out => v = i64 1 ∧ out = []) := by
 intro W hW
 refine An Tryz.func188 rfl 6 Tryz.ntmps188 rfl ?_
 refine Sat.seq (Sat.region ?_)
 refine Tr.a rfl rfl rfl ?_
 refine Tr.nil (Aa (Sat.seq (Sat.region ?_)))
 refine Tr.m rfl rfl rfl ?_
 refine Tr.min2 rfl rfl rfl rfl (rfl) ?_
 refine Tr.max2 rfl rfl rfl rfl (rfl) ?_
 refine Tr.a rfl rfl rfl ?_
 refine Tr.nil (Aa (Sat.ret (Am ?_)))
 refine ⟨_, [], Ae rfl rfl, sP, sP, ?_, rfl⟩
 rfl

def wordR (xs : List UInt8) (a : Nat) (e : Int) : UInt64 × Nat × Int :=
  if ¬ e = 0 then (0, a, e) else if xs.length < a + 1 then (0, a, 5) else ((xs.getD a 0).toUInt64, a + 1, 0)
theorem shl_none (x : UInt64) : 0 ||| shl64 x 0 = x := by
  apply UInt64.toNat_inj.1
  rw [UInt64.toNat_or]
  simp [shl64]

theorem rd_word_err (n q N cp at' : Nat) (e : Int) (xs : List UInt8) (hx : xs.length = N) (hat : at' ≤ N) (hN : N ≤ cp) (hbig : N ≤ 1000000) (he : ¬ e = 0) : Meets Tryz.prog 92 [ptr n 0, i64 1] [n] (fun W => BlkOk W (RB n q N cp (at') (e)) ∧ Cb W q 0 (Ab xs) ∧ q ≠ n) (fun v out => v = u64 0 ∧ out = [RB n q N cp (at') (e)]) := by
 intro W hW
 refine A7 (hp0 := [RB n q N cp (at') (e)]) Tryz.func92 rfl 36 Tryz.ntmps92 rfl (HRep.one hW.1) ?_
 refine Sat.seq (Sat.region ?_)
 refine Tr.a rfl rfl (show Aj _ _ = some (u64 0) from rfl) ?_
 refine Tr.nil (Aa (Sat.seq (Sat.region ?_)))
 refine Tr.m rfl rfl rfl ?_
 refine Tr.m rfl rfl rfl ?_
 refine Tr.cV rfl rfl rfl rfl Body188 (oct_clamp1) tV ?_
 refine Tr.conv rfl rfl rfl Y3 Y48 (Bh _) ?_
 rw [show Bi 1 = 1 from rfl]
 refine Tr.callL (L := [RB n q N cp (at') (e)]) rfl rfl rfl rfl rfl Body187 (rd_take_err n q N cp at' e 1 hat hN hbig he) Ay lO (fun w h => Ai h mM) ?_
 rintro v2 out2 ⟨rfl, rfl⟩
 refine Tr.m rfl rfl rfl ?_
 refine Tr.eX rfl rfl rfl rfl ?_
 refine Tr.eX rfl rfl rfl rfl ?_
 refine Tr.a rfl rfl rfl ?_
 refine Tr.a rfl rfl rfl ?_
 refine Tr.nil (Aa (Sat.seq (Sat.seq (Sat.region ?_))))
 refine Tr.m rfl rfl rfl ?_
 refine Tr.not rfl rfl rfl ?_
 refine Tr.nil (Aa ?_)
 refine Sat.cond_t rfl (rfl) ?_
 refine Sat.seq (Sat.region ?_)
 refine Tr.a rfl rfl (show Aj _ _ = some (u64 0) from rfl) ?_
 refine Tr.nil (Aa (Sat.ret (Ao (Am ?_))))
 refine ⟨_, [RB n q N cp (at') (e)], Ae rfl rfl, (by intro b hb; rw [List.mem_singleton.1 hb]; exact mem0), Bz, ?_⟩
 exact ⟨rfl, rfl⟩

theorem rd_word_more (n q N cp at' : Nat) (xs : List UInt8) (hx : xs.length = N) (hat : at' ≤ N) (hN : N ≤ cp) (hbig : N ≤ 1000000) (hk : N < at' + 1) : Meets Tryz.prog 92 [ptr n 0, i64 1] [n] (fun W => BlkOk W (RB n q N cp (at') (0)) ∧ Cb W q 0 (Ab xs) ∧ q ≠ n) (fun v out => v = u64 0 ∧ out = [RB n q N cp (at') (5)]) := by
 intro W hW
 refine A7 (hp0 := [RB n q N cp (at') (0)]) Tryz.func92 rfl 36 Tryz.ntmps92 rfl (HRep.one hW.1) ?_
 refine Sat.seq (Sat.region ?_)
 refine Tr.a rfl rfl (show Aj _ _ = some (u64 0) from rfl) ?_
 refine Tr.nil (Aa (Sat.seq (Sat.region ?_)))
 refine Tr.m rfl rfl rfl ?_
 refine Tr.m rfl rfl rfl ?_
 refine Tr.cV rfl rfl rfl rfl Body188 (oct_clamp1) tV ?_
 refine Tr.conv rfl rfl rfl Y3 Y48 (Bh _) ?_
 rw [show Bi 1 = 1 from rfl]
 refine Tr.callL (L := [RB n q N cp (at') (0)]) rfl rfl rfl rfl rfl Body187 (rd_take_more n q N cp at' 1 hat hN hbig hk) Ay lO (fun w h => Ai h mM) ?_
 rintro v2 out2 ⟨rfl, rfl⟩
 refine Tr.m rfl rfl rfl ?_
 refine Tr.eX rfl rfl rfl rfl ?_
 refine Tr.eX rfl rfl rfl rfl ?_
 refine Tr.a rfl rfl rfl ?_
 refine Tr.a rfl rfl rfl ?_
 refine Tr.nil (Aa (Sat.seq (Sat.seq (Sat.region ?_))))
 refine Tr.m rfl rfl rfl ?_
 refine Tr.not rfl rfl rfl ?_
 refine Tr.nil (Aa ?_)
 refine Sat.cond_t rfl (rfl) ?_
 refine Sat.seq (Sat.region ?_)
 refine Tr.a rfl rfl (show Aj _ _ = some (u64 0) from rfl) ?_
 refine Tr.nil (Aa (Sat.ret (Ao (Am ?_))))
 refine ⟨_, [RB n q N cp (at') (5)], Ae rfl rfl, (by intro b hb; rw [List.mem_singleton.1 hb]; exact mem0), Bz, ?_⟩
 exact ⟨rfl, rfl⟩

theorem rd_word_ok (n q N cp at' : Nat) (xs : List UInt8) (hx : xs.length = N) (hat : at' ≤ N) (hN : N ≤ cp) (hbig : N ≤ 1000000) (hk : at' + 1 ≤ N) : Meets Tryz.prog 92 [ptr n 0, i64 1] [n] (fun W => BlkOk W (RB n q N cp (at') (0)) ∧ Cb W q 0 (Ab xs) ∧ q ≠ n) (fun v out => v = u64 (xs.getD at' 0).toUInt64 ∧ out = [RB n q N cp (at' + 1) (0)]) := by
 intro W hW
 refine A7 (hp0 := [RB n q N cp (at') (0)]) Tryz.func92 rfl 36 Tryz.ntmps92 rfl (HRep.one hW.1) ?_
 refine Sat.seq (Sat.region ?_)
 refine Tr.a rfl rfl (show Aj _ _ = some (u64 0) from rfl) ?_
 refine Tr.nil (Aa (Sat.seq (Sat.region ?_)))
 refine Tr.m rfl rfl rfl ?_
 refine Tr.m rfl rfl rfl ?_
 refine Tr.cV rfl rfl rfl rfl Body188 (oct_clamp1) tV ?_
 refine Tr.conv rfl rfl rfl Y3 Y48 (Bh _) ?_
 rw [show Bi 1 = 1 from rfl]
 refine Tr.callL (L := [RB n q N cp (at') (0)]) rfl rfl rfl rfl rfl Body187 (rd_take_pos n q N cp at' 1 hN hbig hk dE) Ay lO (fun w h => Ai h mM) ?_
 rintro v2 out2 ⟨rfl, rfl⟩
 refine Tr.m rfl rfl rfl ?_
 refine Tr.eX rfl rfl rfl rfl ?_
 refine Tr.eX rfl rfl rfl rfl ?_
 refine Tr.a rfl rfl rfl ?_
 refine Tr.a rfl rfl rfl ?_
 refine Tr.nil (Aa (Sat.seq (Sat.seq (Sat.region ?_))))
 refine Tr.m rfl rfl rfl ?_
 refine Tr.not rfl rfl rfl ?_
 refine Tr.nil (Aa ?_)
 refine Sat.cond_f rfl (rfl) ?_
 refine Sat.skip (Aa (Sat.seq (Sat.region ?_)))
 refine Tr.a rfl rfl (show Aj _ _ = some (u64 0) from rfl) ?_
 refine Tr.nil (Aa (Sat.seq (Sat.seq (Sat.region ?_))))
 refine Tr.m rfl rfl rfl ?_
 refine Tr.lenSl rfl rfl rfl Y58 ?_
 refine Tr.m rfl rfl rfl ?_
 refine Tr.nil (Aa (Sat.block ?_))
 refine Sat.rounds 2 (SRounds.more ?_)
 refine Sat.seq (Sat.region ?_)
 refine Tr.lss rfl rfl rfl rfl rfl ?_
 refine Tr.nil (Aa (Sat.seq ?_))
 refine Sat.cond_t rfl dE ?_
 refine Sat.skip (Aa (Sat.seq (Sat.block (Sat.seq (Sat.region ?_)))))
 refine Tr.m rfl rfl rfl ?_
 first
  | refine Tr.idxSlP 1 rfl rfl rfl rfl rfl Y58 Sz5 0 rfl dE ?_
 refine Tr.loadE rfl rfl rfl Y5 rfl (by first | (simp; done) | (simp; exact hW.2.2) | (simp [Cx.with]; done) | (simp [Cx.with]; omega)) ((by have h9 := hW.2.1 at' _ (A9 oM); rw [Nat.zero_add] at h9; exact h9)) ?_
 refine Tr.a rfl rfl rfl ?_
 refine Tr.a rfl rfl rfl ?_
 refine Tr.nil (Aa (Sat.region ?_))
 refine Tr.m rfl rfl rfl ?_
 refine Tr.m rfl rfl rfl ?_
 refine Tr.conv rfl rfl rfl Y5 Y48 (cv_u8_u64 _) ?_
 refine Tr.m rfl rfl rfl ?_
 refine Tr.mul_i64 rfl rfl rfl rfl oM ?_
 refine Tr.shl_u64 rfl rfl rfl rfl 0 rfl dE ?_
 refine Tr.or_u64 rfl rfl rfl rfl ?_
 refine Tr.a rfl rfl rfl ?_
 refine Tr.nil (B2 (Aa (Sat.region ?_)))
 refine Tr.aI rfl rfl rfl rfl oM ?_
 refine Tr.m rfl rfl rfl ?_
 refine Tr.nil ?_
 refine Aa (SRounds.more (Sat.seq (Sat.region ?_)))
 refine Tr.lss rfl rfl rfl rfl rfl ?_
 refine Tr.nil (Aa (Sat.seq ?_))
 refine Sat.cond_f rfl dE ?_
 refine Sat.exit (Bf (Bf (bl_h (Aa (Sat.seq (Sat.region ?_))))))
 refine Tr.m rfl rfl rfl ?_
 refine Tr.a rfl rfl rfl ?_
 refine Tr.nil (Aa (Sat.ret (Am ?_)))
 refine ⟨_, [RB n q N cp (at' + 1) (0)], Ae rfl rfl, (by intro b hb; rw [List.mem_singleton.1 hb]; exact mem0), Bz, ?_⟩
 exact ⟨congrArg u64 (shl_none _), rfl⟩

end Go.Proofs.YtdifpjmfabhpiaaGreat
end

section
namespace Go.Proofs.YtdifpjmfabhpiaaGreat
open Go Hw

def itR {D : Type} (f : List UInt8 → D × Int) (xs : List UInt8) : Nat → Nat → Int → Option (List D × Nat × Int)
  | 0, a, e => some ([], a, e)
  | k + 1, a, e => (itR f xs k a e).bind fun r => if (f ((blkR xs r.2.1 r.2.2).1.getD [])).2 = 0 ∧ (blkR xs r.2.1 r.2.2).2.2 = 0 then some (r.1 ++ [(f ((blkR xs r.2.1 r.2.2).1.getD [])).1], (blkR xs r.2.1 r.2.2).2) else none
def listR {D : Type} (f : List UInt8 → D × Int) (xs : List UInt8) (M a : Nat) (e : Int) : Option (List D × Nat × Int) :=
  if (Bg xs a e).2.2 = 0 ∧ (Bg xs a e).1.toNat ≤ M then itR f xs (Bg xs a e).1.toNat (Bg xs a e).2.1 (Bg xs a e).2.2 else none
theorem itR_step {D : Type} {f : List UInt8 → D × Int} {xs : List UInt8} {k a : Nat} {e : Int} {vs : List D} {a2 a3 : Nat} {e2 e3 : Int} {o : Option (List UInt8)} (h : itR f xs k a e = some (vs, a2, e2)) (hb : blkR xs a2 e2 = (o, a3, e3)) (h1 : (f (o.getD [])).2 = 0) (h2 : e3 = 0) : itR f xs (k + 1) a e = some (vs ++ [(f (o.getD [])).1], a3, e3) := by
  rw [itR, h, Option.bind_some]
  simp only [hb]
  rw [if_pos ⟨h1, h2⟩]
theorem itR_stop {D : Type} {f : List UInt8 → D × Int} {xs : List UInt8} {k a : Nat} {e : Int} {vs : List D} {a2 a3 : Nat} {e2 e3 : Int} {o : Option (List UInt8)} (h : itR f xs k a e = some (vs, a2, e2)) (hb : blkR xs a2 e2 = (o, a3, e3)) (h1 : ¬ ((f (o.getD [])).2 = 0 ∧ e3 = 0)) : ∀ m, k < m → itR f xs m a e = none
  | 0, hm => absurd hm oM
  | m + 1, hm => by
    rcases Nat.lt_succ_iff_lt_or_eq.1 hm with h3 | rfl
    · rw [itR, itR_stop h hb h1 m h3]; rfl
    · rw [itR, h, Option.bind_some]
      simp only [hb]
      rw [if_neg h1]
theorem votesR_it {xs : List UInt8} {a : Nat} {e : Int} : ∀ k, votesR xs k a e = itR voteRd xs k a e
  | 0 => rfl
  | k + 1 => by rw [votesR, itR, votesR_it k]
theorem readVL_is (xs : List UInt8) (M a : Nat) (e : Int) : readVL xs M a e = listR voteRd xs M a e := by
  unfold readVL listR
  rw [votesR_it]
def dgR (xs : List UInt8) : Nat → Nat → Int → Option (List (List UInt8) × Nat × Int)
  | 0, a, e => some ([], a, e)
  | k + 1, a, e => (dgR xs k a e).bind fun r => if (digR xs r.2.1 r.2.2).2.2 = 0 then some (r.1 ++ [(digR xs r.2.1 r.2.2).1], (digR xs r.2.1 r.2.2).2) else none
def dlistR (xs : List UInt8) (M a : Nat) (e : Int) : Option (List (List UInt8) × Nat × Int) :=
  if (Bg xs a e).2.2 = 0 ∧ (Bg xs a e).1.toNat ≤ M then dgR xs (Bg xs a e).1.toNat (Bg xs a e).2.1 (Bg xs a e).2.2 else none
theorem dgR_step {xs : List UInt8} {k a : Nat} {e : Int} {vs : List (List UInt8)} {a2 a3 : Nat} {e2 e3 : Int} {l : List UInt8} (h : dgR xs k a e = some (vs, a2, e2)) (hb : digR xs a2 e2 = (l, a3, e3)) (h2 : e3 = 0) : dgR xs (k + 1) a e = some (vs ++ [l], a3, e3) := by
  rw [dgR, h, Option.bind_some]
  simp only [hb]
  rw [if_pos h2]
theorem dgR_stop {xs : List UInt8} {k a : Nat} {e : Int} {vs : List (List UInt8)} {a2 a3 : Nat} {e2 e3 : Int} {l : List UInt8} (h : dgR xs k a e = some (vs, a2, e2)) (hb : digR xs a2 e2 = (l, a3, e3)) (h1 : ¬ e3 = 0) : ∀ m, k < m → dgR xs m a e = none
  | 0, hm => absurd hm oM
  | m + 1, hm => by
    rcases Nat.lt_succ_iff_lt_or_eq.1 hm with h3 | rfl
    · rw [dgR, dgR_stop h hb h1 m h3]; rfl
    · rw [dgR, h, Option.bind_some]
      simp only [hb]
      rw [if_neg h1]
theorem no_lie1 {n : Nat} {v : Value} {T : TypeId} {W : World} (h : Lies [⟨n, [v], T, 0⟩] W) : False := by
  obtain ⟨full, fr, hb⟩ := h _ (List.mem_singleton.2 rfl)
  have h1 := hb.pre.length_le
  have h2 := hb.size
  simp at h1
  simp only at h2
  omega
theorem made_loose {R : Type} {F : World → R → Prop} {ok : R → Prop} {g : R → Value} (X0 : R) (h0 : ok X0) : Loose (fun v out => ∃ X : R, ok X ∧ v = g X ∧ ∀ W2, Lies out W2 → F W2 X) := fun l hl => by
  obtain ⟨q, _, hq⟩ := fresh_is 0 l
  refine ⟨_, [⟨q, [undef], 0, 0⟩], ⟨X0, h0, rfl, fun W2 h => (no_lie1 h).elim⟩, ?_⟩
  simp only [List.cons_append, List.nil_append, List.map_cons, List.nodup_cons, List.mem_map]
  exact ⟨fun ⟨b, hb, e⟩ => hq b hb e, hl⟩
def ListRead {R D : Type} (cells : R → List Value) (k : Nat) (Is : World → R → D → Prop) (E : TypeId) (f : List UInt8 → D × Int) (xs : List UInt8) (M a : Nat) (e : Int) (n q N cp : Nat) (v : Value) (out : List Blk) : Prop :=
  ∃ s bl o rs a1 e1, a1 ≤ N ∧ out = bl ++ (o ++ [RB n q N cp a1 e1]) ∧ v = .tuple #[Sl.v s, .bool (listR f xs M a e).isSome] ∧ (∀ vs a2 e2, listR f xs M a e = some (vs, a2, e2) → a1 = a2 ∧ e1 = e2 ∧ vs.length ≤ M ∧ OwnSeq cells k Is E s bl o rs vs vs.length)
theorem listr_none {R D : Type} {cells : R → List Value} {k : Nat} {Is : World → R → D → Prop} {E : TypeId} {f : List UInt8 → D × Int} {xs : List UInt8} {M a : Nat} {e : Int} {n q N cp a1 : Nat} {e1 : Int} (h : listR f xs M a e = none) (ha : a1 ≤ N) : ListRead cells k Is E f xs M a e n q N cp (.tuple #[.slice none 0 0, .bool false]) (RB n q N cp a1 e1 :: []) :=
  ⟨Sl.nil, [], [], [], a1, e1, ha, rfl, by rw [h]; rfl, fun vs a2 e2 h2 => by rw [h] at h2; cases h2⟩
structure LSt (R D : Type) where
  k : Nat
  s : Sl
  bl : List Blk
  o : List Blk
  rs : List R
  vs : List D
  a : Nat
  e : Int
def DListRead (xs : List UInt8) (M a : Nat) (e : Int) (n q N cp : Nat) (v : Value) (out : List Blk) : Prop :=
  ∃ s bl a1 e1, a1 ≤ N ∧ out = bl ++ [RB n q N cp a1 e1] ∧ v = .tuple #[Sl.v s, .bool (dlistR xs M a e).isSome] ∧ (∀ vs a2 e2, dlistR xs M a e = some (vs, a2, e2) → a1 = a2 ∧ e1 = e2 ∧ vs.length ≤ M ∧ (∀ l ∈ vs, l.length = 32) ∧ Hw.Acc s bl (B5 vs) 50 vs.length 32)
theorem dlistr_none {xs : List UInt8} {M a : Nat} {e : Int} {n q N cp a1 : Nat} {e1 : Int} (h : dlistR xs M a e = none) (ha : a1 ≤ N) : DListRead xs M a e n q N cp (.tuple #[.slice none 0 0, .bool false]) (RB n q N cp a1 e1 :: []) :=
  ⟨Sl.nil, [], a1, e1, ha, rfl, by rw [h]; rfl, fun vs a2 e2 h2 => by rw [h] at h2; cases h2⟩
structure DSt where
  k : Nat
  s : Sl
  bl : List Blk
  vs : List (List UInt8)
  a : Nat
  e : Int
theorem pm_one' {hp l R : List Blk} {x : Blk} (h : hp.Perm ((x :: l) ++ R)) : hp.Perm (([x] ++ l) ++ R) := h

theorem mk_item_block  : Meets Tryz.prog 98 [.func (.func 74) #[] #[]] [] (fun _ => True) (fun v out => ∃ c, v = .func (.func 193) #[] #[ptr c 0] ∧ out = [⟨c, [.func (.func 74) #[] #[]], 109, 1⟩]) := by
 intro W hW
 refine An Tryz.func98 rfl 4 Tryz.ntmps98 rfl ?_
 refine Sat.seq (Sat.region ?_)
 refine Tr.box1 rfl rfl rfl ?_
 intro n1 hn1 hf1
 refine Tr.a rfl rfl rfl ?_
 refine Tr.nil (Aa (Sat.seq (Sat.region ?_)))
 refine Tr.makeFunc rfl rfl rfl rfl ?_
 refine Tr.a rfl rfl rfl ?_
 refine Tr.nil (Aa (Sat.ret (Am ?_)))
 refine Ak (out := (⟨n1, [.func (.func 74) #[] #[]], 109, 1⟩ :: [])) (Ae rfl rfl) (Ac rM Ad) ?_
 exact ⟨n1, rfl, by simp⟩

theorem item_block (n q N cp at' : Nat) (e : Int) (c : Nat) (xs : List UInt8) (hx : xs.length = N) (hat : at' ≤ N) (hN : N ≤ cp) (hbig : N ≤ 90000) (hcn : c ≠ n) (o : Option (List UInt8)) (a1 : Nat) (e1 : Int) (h1 : blkR xs at' e = (o, a1, e1)) : Meets Tryz.prog 193 [ptr n 0, ptr c 0] [n] (fun W => BlkOk W (RB n q N cp at' e) ∧ Cb W q 0 (Ab xs) ∧ q ≠ n ∧ W.cell? ⟨c, 0, none⟩ = some (.func (.func 74) #[] #[])) (fun v out => ∃ (X : Block) (o2 : List Blk), X.ok ∧ v = .tuple #[agg X.cells, .bool (decide ((readD (o.getD [])).2 = 0))] ∧ out = o2 ++ [RB n q N cp a1 e1] ∧ ∀ W2, Lies o2 W2 → BlockIs W2 X (readD (o.getD [])).1) := by
 intro W hW
 have hb1 := blkE_le h1 hx hat
 refine A7 (hp0 := [RB n q N cp at' e]) Tryz.func193 rfl 17 Tryz.ntmps193 rfl (HRep.one hW.1) ?_
 refine Sat.seq (Sat.region ?_)
 refine Tr.alloc (cs := Block.zero.cells) rfl Block.zr rfl ?_
 intro n3 hn3 hf3
 refine Tr.a rfl rfl rfl ?_
 refine Tr.nil (Aa (Sat.seq ?_))
 refine Sat.withK (sp_v (sp_v sp_n)) rfl ?_
 refine Sat.draw [(0, 0), (0, 1), (5, 2), (3, 3), (0, 4), (0, 5), (0, 6), (2, 7), (4, 8), (0, 9)] Bv zK ?_
 refine Tr.kloadE rfl rfl rfl Tryz.underlying109 rfl (by first | (simp; done) | (simp; exact hW.2.2) | (simp [Cx.with]; done) | (simp [Cx.with]; omega)) (hW.2.2.2) ?_
 refine Tr.m rfl rfl rfl ?_
 refine Tr.callL5 (L := [RB n q N cp at' e]) rfl rfl rfl rfl rfl Body120 (rd_BlockE n q N cp at' e xs hx hat hN hbig o a1 e1 h1) (rdblk_loose n q N cp a1 e1 (o.getD [])) (Ac rM Ad) (A0 rfl) (fun w h => ⟨Ai h mM, Bk h (by simp [Cx.with]; exact hW.2.2.1) hW.2.1, hW.2.2.1⟩) ?_
 rintro v10 out10 ⟨s10, bl10, rfl, hac10, rfl⟩
 simp only [List.append_assoc, List.cons_append, List.nil_append]
 refine Tr.call rfl rfl rfl rfl Body74 (block_read s10.p s10.n s10.c (o.getD []) hac10.num.symm (fun e => hac10.nil e) (by rw [hac10.num]; omega)) (made_loose Block.zero Block.zero_ok) (fun w h => hac10.see (Lies.of h iN)) ?_
 rintro v11 out11 ⟨X11, okX, rfl, hX11⟩
 try simp only [List.append_assoc, List.cons_append, List.nil_append]
 refine Tr.m rfl rfl rfl ?_
 refine Tr.eX rfl rfl rfl rfl ?_
 refine Tr.eX rfl rfl rfl rfl ?_
 refine Tr.alloc (cs := Block.zero.cells) rfl Block.zr rfl ?_
 intro n5 hn5 hf5
 refine Tr.sA rfl rfl rfl rfl (Block.isCell (by first | exact oK  | exact okX | exact Block.zero_ok)) Sz79 (Block.length (by first | exact oK  | exact okX | exact Block.zero_ok)) mM (Block.length (by first | exact oK  | exact okX | exact Block.zero_ok)) uU ?_
 refine Tr.a rfl rfl rfl ?_
 refine Tr.nil (Aa (Sat.seq (Sat.region ?_)))
 try simp only [List.cons_append, List.nil_append, List.append_nil, List.append_assoc]
 refine Tr.lA rfl rfl rfl Y79 rfl Sz79 mM (Block.length (by first | exact oK  | exact okX | exact Block.zero_ok)) ?_
 refine Tr.m rfl rfl rfl ?_
 refine Tr.eqi rfl rfl rfl rfl rfl ?_
 refine Tr.sA rfl rfl rfl rfl (Block.isCell (by first | exact oK  | exact okX | exact Block.zero_ok)) Sz79 (Block.length (by first | exact oK  | exact okX | exact Block.zero_ok)) mM (Block.length (by first | exact oK  | exact okX | exact Block.zero_ok)) uU ?_
 refine Tr.a rfl rfl rfl ?_
 refine Tr.nil (Aa (Sat.ret (Am ?_)))
 refine Ak (out := (out11 ++ (RB n q N cp a1 e1 :: []))) (A6 rfl rfl rfl Y79 rfl Sz79 mM (by first | (simp; done) | exact Block.length (by first | exact oK  | exact okX | exact Block.zero_ok))) (Ah sG (Ac rM Ad)) ?_
 exact ⟨X11, out11, okX, rfl, by simp, hX11⟩

theorem read_blocks (n q N cp at' : Nat) (e : Int) (c M : Nat) (xs : List UInt8) (hx : xs.length = N) (hat : at' ≤ N) (hN : N ≤ cp) (hbig : N ≤ 90000) (hcn : c ≠ n) (hM : M ≤ 1000) : Meets Tryz.prog 97 [ptr n 0, i64 (M : Int), .func (.func 193) #[] #[ptr c 0]] [n] (fun W => BlkOk W (RB n q N cp at' e) ∧ Cb W q 0 (Ab xs) ∧ q ≠ n ∧ W.cell? ⟨c, 0, none⟩ = some (.func (.func 74) #[] #[])) (ListRead Block.cells 131 BlockIs 79 readD xs M at' e n q N cp) := by
 intro W hW
 obtain ⟨x1, r1, h1⟩ : ∃ l r, Bg xs at' e = (l, r) := ⟨_, _, rfl⟩
 obtain ⟨a1, e1⟩ := r1
 have hd1 := numE_le h1 hx hat
 have hMw : (UInt64.ofNat M).toNat = M := A1 oM
 have hrv : listR readD xs M at' e = if e1 = 0 ∧ x1.toNat ≤ M then itR readD xs x1.toNat a1 e1 else none := by simp only [listR, h1]
 refine A7 (hp0 := [RB n q N cp at' e]) Tryz.func97 rfl 47 Tryz.ntmps97 rfl (HRep.one hW.1) ?_
 refine Sat.seq (Sat.region ?_)
 refine Tr.a rfl rfl rfl ?_
 refine Tr.a rfl rfl rfl ?_
 refine Tr.nil (Aa (Sat.seq (Sat.region ?_)))
 refine Tr.m rfl rfl rfl ?_
 refine Tr.callL (L := [RB n q N cp at' e]) rfl rfl rfl rfl rfl Body94 (rd_NumberE n q N cp at' e xs hx hat hN oM x1 a1 e1 h1) (Ac rM Ad) (A0 rfl) (fun w h => ⟨Ai h mM, Bk h (by simp; exact hW.2.2.1) hW.2.1, hW.2.2.1⟩) ?_
 rintro v13 out13 ⟨rfl, rfl⟩
 refine Tr.a rfl rfl rfl ?_
 refine Tr.nil (Aa (Sat.seq (Sat.seq (Sat.region ?_))))
 refine Tr.m rfl rfl rfl ?_
 refine Tr.cV rfl rfl rfl rfl Body192 (rd_Err n q N cp a1 e1) (fun w h => Ai h mM) ?_
 refine two (fun r hr k => Tr.nei rfl rfl rfl rfl hr k) (fun hs2_20 => ?_) (fun hs2_20 => ?_)
 ·
  first | have hs2_2 := of_decide_eq_true hs2_20 | have hs2_2 := of_decide_eq_false hs2_20 | have hs2_2 := A2 hs2_20 | have hs2_2 := A3 hs2_20 | have hs2_2 := hs2_20
  refine Tr.m rfl rfl rfl ?_
  refine Tr.skp rfl rfl ?_
  refine Tr.skp rfl rfl ?_
  refine Tr.skp rfl rfl ?_
  refine Tr.skp rfl rfl ?_
  refine Tr.pick rfl rfl rfl rfl rfl rfl ?_
  refine Tr.nil (Aa ?_)
  refine Sat.cond_t rfl rfl ?_
  refine Sat.seq (Sat.region ?_)
  refine Tr.a rfl rfl rfl ?_
  refine Tr.a rfl rfl rfl ?_
  refine Tr.nil (Aa (Sat.ret (Ao (Am ?_))))
  refine Ak (out := (RB n q N cp a1 e1 :: [])) (Ba rfl rfl rfl) (Ac rM Ad) ?_
  exact listr_none (by rw [hrv]; exact if_neg (fun h => by omega)) oM
 ·
  first | have hs2_2 := of_decide_eq_true hs2_20 | have hs2_2 := of_decide_eq_false hs2_20 | have hs2_2 := A2 hs2_20 | have hs2_2 := A3 hs2_20 | have hs2_2 := hs2_20
  refine Tr.m rfl rfl rfl ?_
  refine Tr.m rfl rfl rfl ?_
  refine Tr.m rfl rfl rfl ?_
  refine Tr.conv rfl rfl rfl Y3 Y48 (Bh _) ?_
  rw [word_nat (n := M) oM]
  refine Tr.gtr rfl rfl rfl rfl rfl ?_
  refine Tr.pick rfl rfl rfl rfl rfl rfl ?_
  refine Tr.nil (Aa ?_)
  first
   | refine Sat.condP rfl (fun hc0 => ?_) (fun hc0 => ?_)
   | refine Sat.condNP rfl (fun hc0 => ?_) (fun hc0 => ?_)
   | refine Sat.cond rfl (fun hc0 => ?_) (fun hc0 => ?_)
  ·
   have hno : ¬ (e1 = 0 ∧ x1.toNat ≤ M) := by omega
   refine Sat.seq (Sat.region ?_)
   refine Tr.a rfl rfl rfl ?_
   refine Tr.a rfl rfl rfl ?_
   refine Tr.nil (Aa (Sat.ret (Ao (Am ?_))))
   refine Ak (out := (RB n q N cp a1 e1 :: [])) (Ba rfl rfl rfl) (Ac rM Ad) ?_
   exact listr_none (by rw [hrv]; exact if_neg (fun h => by omega)) oM
  ·
   have hyes : e1 = 0 ∧ x1.toNat ≤ M := by omega
   have hx64 : x1 = UInt64.ofNat x1.toNat := by simp
   refine Sat.skip (Aa (Sat.seq (Sat.region ?_)))
   refine Tr.m rfl rfl rfl ?_
   refine Tr.mkRoomN (z := agg Block.zero.cells) (by' := 184) x1.toNat rfl rfl rfl rfl rfl Y22 Sz79 Block.zr (by unfold By; kernel_rfl) oM oM ?_
   intro q9
   refine Tr.a rfl rfl rfl ?_
   refine Tr.nil (Aa (Sat.seq (Sat.seq (Sat.region ?_))))
   refine Tr.m rfl rfl rfl ?_
   refine Tr.m rfl rfl rfl ?_
   refine Tr.nil (Aa (Sat.block ?_))
   refine Sat.loop (ι := LSt Block DB) (fun p => ⟨[(0, ptr n 0), (2, .func (.func 193) #[] #[ptr c 0]), (9, p.s.v), (25, u64 x1), (26, u64 (UInt64.ofNat p.k))], (RB n q N cp p.a p.e :: (p.bl ++ (p.o ++ [])))⟩) (fun p => p.k ≤ x1.toNat ∧ itR readD xs p.k a1 e1 = some (p.vs, p.a, p.e) ∧ p.a ≤ N ∧ OwnSeq Block.cells 131 BlockIs 79 p.s p.bl p.o p.rs p.vs p.k) (fun p => x1.toNat - p.k) (⟨0, ⟨some ⟨q9, 0, none⟩, 0, x1.toNat⟩, [⟨q9, [], 79, x1.toNat * 131⟩], [], [], [], a1, e1⟩) ?_ ?_ ?_
   · exact ⟨Nat.zero_le _, rfl, hd1, ⟨Acc.some (Nat.zero_le _) sP, rfl, rfl, fun r h => (by cases h), fun W2 _ i r d h => (by simp at h)⟩⟩
   · exact Af (wk1 rfl (wk1 rfl (wk1 rfl (wk1 rfl (wk1 rfl wk0))))) (Ac rM (pm_one' (Ac rM (Bl Ad))))
   ·
    rintro p hp
    obtain ⟨k, s, bl, o1, rs, vs, a2, e2⟩ := p
    obtain ⟨hk, hvr, ha2, hos⟩ := hp
    dsimp only at hk hvr ha2 hos ⊢
    obtain ⟨o, r3, hb3⟩ : ∃ l r, blkR xs a2 e2 = (l, r) := ⟨_, _, rfl⟩
    obtain ⟨a3, e3⟩ := r3
    have hd3 := blkE_le hb3 hx ha2
    refine Sat.seq (Sat.region ?_)
    refine Tr.lss rfl rfl rfl rfl rfl ?_
    refine Tr.nil (Aa (Sat.seq ?_))
    first
     | refine Sat.condP rfl (fun hc1 => ?_) (fun hc1 => ?_)
     | refine Sat.condNP rfl (fun hc1 => ?_) (fun hc1 => ?_)
     | refine Sat.cond rfl (fun hc1 => ?_) (fun hc1 => ?_)
    ·
     have hk64 : (UInt64.ofNat k).toNat = k := A1 oM
     have hk2 : k < x1.toNat := by omega
     refine Sat.skip (Aa (Sat.seq (Sat.block (Sat.seq (Sat.region ?_)))))
     refine Tr.m rfl rfl rfl ?_
     refine Tr.m rfl rfl rfl ?_
     refine Tr.callCL (L := [RB n q N cp a2 e2]) rfl rfl rfl rfl rfl rfl Body193 (item_block n q N cp a2 e2 c xs hx ha2 hN hbig hcn o a3 e3 hb3) (Ac rM Ad) (A0 rfl) (fun w h => ⟨Ai h mM, Bk h (by simp; exact hW.2.2.1) hW.2.1, hW.2.2.1, h.keeps.cell (by simp; exact hcn) hW.2.2.2⟩) ?_
     rintro v31 out31 ⟨X31, o31, okX, rfl, rfl, hX31⟩
     simp only [List.append_assoc, List.cons_append, List.nil_append]
     refine Tr.m rfl rfl rfl ?_
     refine Tr.eX rfl rfl rfl rfl ?_
     refine Tr.extractB rfl rfl rfl rfl (fun hs7_50 => ?_) (fun hs7_50 => ?_)
     ·
      first | have hs7_5 := of_decide_eq_true hs7_50 | have hs7_5 := of_decide_eq_false hs7_50 | have hs7_5 := A2 hs7_50 | have hs7_5 := A3 hs7_50 | have hs7_5 := hs7_50
      refine Tr.alloc (cs := Block.zero.cells) rfl Block.zr rfl ?_
      intro n10 hn10 hf10
      refine Tr.sA rfl rfl rfl rfl (Block.isCell (by first | exact oK  | exact okX)) Sz79 (Block.length (by first | exact oK  | exact okX)) mM (Block.length (by first | exact oK  | exact okX)) uU ?_
      refine Tr.a rfl rfl rfl ?_
      refine Tr.nil (Aa (Sat.seq (Sat.seq (Sat.region ?_))))
      refine Tr.m rfl rfl rfl ?_
      refine Tr.not rfl rfl rfl ?_
      refine Tr.m rfl rfl rfl ?_
      refine Tr.m rfl rfl rfl ?_
      refine Tr.cV rfl rfl rfl rfl Body192 (rd_Err n q N cp a3 e3) (fun w h => Ai h mM) ?_
      refine Tr.nei rfl rfl rfl rfl rfl ?_
      refine Tr.pick rfl rfl rfl rfl rfl rfl ?_
      refine Tr.nil (Aa ?_)
      first
       | refine Sat.condP rfl (fun hc2 => ?_) (fun hc2 => ?_)
       | refine Sat.condNP rfl (fun hc2 => ?_) (fun hc2 => ?_)
       | refine Sat.cond rfl (fun hc2 => ?_) (fun hc2 => ?_)
      ·
       refine Sat.seq (Sat.region ?_)
       refine Tr.a rfl rfl rfl ?_
       refine Tr.a rfl rfl rfl ?_
       refine Tr.nil (Aa (Sat.ret (Ao (B8 (Ao (Ao (B8 (Ao (Am ?_)))))))))
       refine Ak (out := (RB n q N cp a3 e3 :: [])) (Ba rfl rfl rfl) (Ac rM Ad) ?_
       exact listr_none (by rw [hrv, if_pos hyes]; exact itR_stop hvr hb3 oM _ hk2) hd3.1
      ·
       refine Sat.skip (Aa (Sat.region ?_))
       refine Tr.m rfl rfl rfl ?_
       refine Tr.lA rfl rfl rfl Y79 rfl Sz79 mM (Block.length (by first | exact oK  | exact okX)) ?_
       refine Tr.mkRow (z := agg Block.zero.cells) [agg X31.cells] X31.cells rfl rfl rfl Y22 Sz79 Block.zr rfl rfl (by intro v hv; rw [List.mem_singleton.1 hv]; exact Block.length okX) dE (by simp [Value.cells]) ?_
       intro q43
       refine Tr.appendAcc (z := agg Block.zero.cells) (by' := 184) (X31.cells) rfl rfl rfl rfl rfl Y22 Y22 Sz79 Zr79 (by unfold By; kernel_rfl) rfl hos.acc sG (fun w h => SeesP.of (Ap h mM)) (fun e => by cases e) (Block.isCell okX) oM oM (by rw [Block.length okX]) ?_
       intro s44 bl44 hac44
       refine Tr.a rfl rfl rfl ?_
       refine Tr.nil (B2 (Aa (Sat.region ?_)))
       refine Tr.add_u64 rfl rfl rfl (show Aj _ _ = some (u64 1) from rfl) ?_
       refine Tr.m rfl rfl rfl ?_
       refine Tr.nil (Aa ?_)
       exact ⟨⟨k + 1, s44, bl44, o31 ++ o1, rs ++ [X31], vs ++ [(readD (o.getD [])).1], a3, e3⟩, ⟨by simp only []; omega, itR_step hvr hb3 hs7_5 oM, hd3.1, hos.snoc (by simpa using hac44) (Block.length okX) hX31⟩, by simp only []; omega, Af (wk1 rfl (wk1 rfl (wk1 rfl (wk1 rfl (wk1 (congrArg (fun z => some (u64 z)) (ofNat_step _)) wk0))))) (Ac rM (Ah sG (B4 (Ah sG (Ah sG Ad)))))⟩
     ·
      first | have hs7_5 := of_decide_eq_true hs7_50 | have hs7_5 := of_decide_eq_false hs7_50 | have hs7_5 := A2 hs7_50 | have hs7_5 := A3 hs7_50 | have hs7_5 := hs7_50
      refine Tr.alloc (cs := Block.zero.cells) rfl Block.zr rfl ?_
      intro n10 hn10 hf10
      refine Tr.sA rfl rfl rfl rfl (Block.isCell (by first | exact oK  | exact okX)) Sz79 (Block.length (by first | exact oK  | exact okX)) mM (Block.length (by first | exact oK  | exact okX)) uU ?_
      refine Tr.a rfl rfl rfl ?_
      refine Tr.nil (Aa (Sat.seq (Sat.seq (Sat.region ?_))))
      refine Tr.m rfl rfl rfl ?_
      refine Tr.not rfl rfl rfl ?_
      refine Tr.m rfl rfl rfl ?_
      refine Tr.skp rfl rfl ?_
      refine Tr.skp rfl rfl ?_
      refine Tr.skp rfl rfl ?_
      refine Tr.pick rfl rfl rfl rfl rfl rfl ?_
      refine Tr.nil (Aa ?_)
      refine Sat.cond_t rfl rfl ?_
      refine Sat.seq (Sat.region ?_)
      refine Tr.a rfl rfl rfl ?_
      refine Tr.a rfl rfl rfl ?_
      refine Tr.nil (Aa (Sat.ret (Ao (B8 (Ao (Ao (B8 (Ao (Am ?_)))))))))
      refine Ak (out := (RB n q N cp a3 e3 :: [])) (Ba rfl rfl rfl) (Ac rM Ad) ?_
      exact listr_none (by rw [hrv, if_pos hyes]; exact itR_stop hvr hb3 oM _ hk2) hd3.1
    ·
     have hk64 : (UInt64.ofNat k).toNat = k := A1 oM
     have hke : k = x1.toNat := by omega
     refine Sat.exit (Bf (Bf (bl_h (Aa (Sat.seq (Sat.region ?_))))))
     refine Tr.m rfl rfl rfl ?_
     refine Tr.a rfl rfl rfl ?_
     refine Tr.a rfl rfl rfl ?_
     refine Tr.nil (Aa (Sat.ret (Am ?_)))
     refine Ak (out := (bl ++ (o1 ++ (RB n q N cp a2 e2 :: [])))) (Ba rfl rfl rfl) (Ah sG (Ah sG (Ac rM Ad))) ?_
     have hfin : listR readD xs M at' e = some (vs, a2, e2) := by rw [hrv, if_pos hyes, ← hke]; exact hvr
     have hvl := hos.nd
     exact ⟨s, bl, o1, rs, a2, e2, ha2, by simp, by rw [hfin]; rfl, fun vs2 a4 e4 h4 => by rw [hfin] at h4; cases h4; exact ⟨rfl, rfl, by omega, by rw [hvl]; exact hos⟩⟩

theorem mk_item_cut  : Meets Tryz.prog 102 [.func (.func 79) #[] #[]] [] (fun _ => True) (fun v out => ∃ c, v = .func (.func 195) #[] #[ptr c 0] ∧ out = [⟨c, [.func (.func 79) #[] #[]], 117, 1⟩]) := by
 intro W hW
 refine An Tryz.func102 rfl 4 Tryz.ntmps102 rfl ?_
 refine Sat.seq (Sat.region ?_)
 refine Tr.box1 rfl rfl rfl ?_
 intro n1 hn1 hf1
 refine Tr.a rfl rfl rfl ?_
 refine Tr.nil (Aa (Sat.seq (Sat.region ?_)))
 refine Tr.makeFunc rfl rfl rfl rfl ?_
 refine Tr.a rfl rfl rfl ?_
 refine Tr.nil (Aa (Sat.ret (Am ?_)))
 refine Ak (out := (⟨n1, [.func (.func 79) #[] #[]], 117, 1⟩ :: [])) (Ae rfl rfl) (Ac rM Ad) ?_
 exact ⟨n1, rfl, by simp⟩

theorem item_cut (n q N cp at' : Nat) (e : Int) (c : Nat) (xs : List UInt8) (hx : xs.length = N) (hat : at' ≤ N) (hN : N ≤ cp) (hbig : N ≤ 90000) (hcn : c ≠ n) (o : Option (List UInt8)) (a1 : Nat) (e1 : Int) (h1 : blkR xs at' e = (o, a1, e1)) : Meets Tryz.prog 195 [ptr n 0, ptr c 0] [n] (fun W => BlkOk W (RB n q N cp at' e) ∧ Cb W q 0 (Ab xs) ∧ q ≠ n ∧ W.cell? ⟨c, 0, none⟩ = some (.func (.func 79) #[] #[])) (fun v out => ∃ (X : Cut) (o2 : List Blk), X.ok ∧ v = .tuple #[agg X.cells, .bool (decide ((cutRd (o.getD [])).2 = 0))] ∧ out = o2 ++ [RB n q N cp a1 e1] ∧ ∀ W2, Lies o2 W2 → CutIs W2 X (cutRd (o.getD [])).1) := by
 intro W hW
 have hb1 := blkE_le h1 hx hat
 refine A7 (hp0 := [RB n q N cp at' e]) Tryz.func195 rfl 17 Tryz.ntmps195 rfl (HRep.one hW.1) ?_
 refine Sat.seq (Sat.region ?_)
 refine Tr.alloc (cs := Cut.zero.cells) rfl Cut.zr rfl ?_
 intro n3 hn3 hf3
 refine Tr.a rfl rfl rfl ?_
 refine Tr.nil (Aa (Sat.seq ?_))
 refine Sat.withK (sp_v (sp_v sp_n)) rfl ?_
 refine Sat.draw [(0, 0), (0, 1), (5, 2), (3, 3), (0, 4), (0, 5), (0, 6), (2, 7), (4, 8), (0, 9)] Bv zK ?_
 refine Tr.kloadE rfl rfl rfl Tryz.underlying117 rfl (by first | (simp; done) | (simp; exact hW.2.2) | (simp [Cx.with]; done) | (simp [Cx.with]; omega)) (hW.2.2.2) ?_
 refine Tr.m rfl rfl rfl ?_
 refine Tr.callL5 (L := [RB n q N cp at' e]) rfl rfl rfl rfl rfl Body120 (rd_BlockE n q N cp at' e xs hx hat hN hbig o a1 e1 h1) (rdblk_loose n q N cp a1 e1 (o.getD [])) (Ac rM Ad) (A0 rfl) (fun w h => ⟨Ai h mM, Bk h (by simp [Cx.with]; exact hW.2.2.1) hW.2.1, hW.2.2.1⟩) ?_
 rintro v10 out10 ⟨s10, bl10, rfl, hac10, rfl⟩
 simp only [List.append_assoc, List.cons_append, List.nil_append]
 refine Tr.call rfl rfl rfl rfl Body79 (cut_read s10.p s10.n s10.c (o.getD []) hac10.num.symm (fun e => hac10.nil e) (by rw [hac10.num]; omega)) (made_loose Cut.zero Cut.zero_ok) (fun w h => hac10.see (Lies.of h iN)) ?_
 rintro v11 out11 ⟨X11, okX, rfl, hX11⟩
 try simp only [List.append_assoc, List.cons_append, List.nil_append]
 refine Tr.m rfl rfl rfl ?_
 refine Tr.eX rfl rfl rfl rfl ?_
 refine Tr.eX rfl rfl rfl rfl ?_
 refine Tr.alloc (cs := Cut.zero.cells) rfl Cut.zr rfl ?_
 intro n5 hn5 hf5
 refine Tr.sA rfl rfl rfl rfl (Cut.isCell (by first | exact oK  | exact okX | exact Cut.zero_ok)) Ca (Cut.length (by first | exact oK  | exact okX | exact Cut.zero_ok)) mM (Cut.length (by first | exact oK  | exact okX | exact Cut.zero_ok)) uU ?_
 refine Tr.a rfl rfl rfl ?_
 refine Tr.nil (Aa (Sat.seq (Sat.region ?_)))
 try simp only [List.cons_append, List.nil_append, List.append_nil, List.append_assoc]
 refine Tr.lA rfl rfl rfl Y53 rfl Ca mM (Cut.length (by first | exact oK  | exact okX | exact Cut.zero_ok)) ?_
 refine Tr.m rfl rfl rfl ?_
 refine Tr.eqi rfl rfl rfl rfl rfl ?_
 refine Tr.sA rfl rfl rfl rfl (Cut.isCell (by first | exact oK  | exact okX | exact Cut.zero_ok)) Ca (Cut.length (by first | exact oK  | exact okX | exact Cut.zero_ok)) mM (Cut.length (by first | exact oK  | exact okX | exact Cut.zero_ok)) uU ?_
 refine Tr.a rfl rfl rfl ?_
 refine Tr.nil (Aa (Sat.ret (Am ?_)))
 refine Ak (out := (out11 ++ (RB n q N cp a1 e1 :: []))) (A6 rfl rfl rfl Y53 rfl Ca mM (by first | (simp; done) | exact Cut.length (by first | exact oK  | exact okX | exact Cut.zero_ok))) (Ah sG (Ac rM Ad)) ?_
 exact ⟨X11, out11, okX, rfl, by simp, hX11⟩

theorem read_cuts (n q N cp at' : Nat) (e : Int) (c M : Nat) (xs : List UInt8) (hx : xs.length = N) (hat : at' ≤ N) (hN : N ≤ cp) (hbig : N ≤ 90000) (hcn : c ≠ n) (hM : M ≤ 1000) : Meets Tryz.prog 101 [ptr n 0, i64 (M : Int), .func (.func 195) #[] #[ptr c 0]] [n] (fun W => BlkOk W (RB n q N cp at' e) ∧ Cb W q 0 (Ab xs) ∧ q ≠ n ∧ W.cell? ⟨c, 0, none⟩ = some (.func (.func 79) #[] #[])) (ListRead Cut.cells 34 CutIs 53 cutRd xs M at' e n q N cp) := by
 intro W hW
 obtain ⟨x1, r1, h1⟩ : ∃ l r, Bg xs at' e = (l, r) := ⟨_, _, rfl⟩
 obtain ⟨a1, e1⟩ := r1
 have hd1 := numE_le h1 hx hat
 have hMw : (UInt64.ofNat M).toNat = M := A1 oM
 have hrv : listR cutRd xs M at' e = if e1 = 0 ∧ x1.toNat ≤ M then itR cutRd xs x1.toNat a1 e1 else none := by simp only [listR, h1]
 refine A7 (hp0 := [RB n q N cp at' e]) Tryz.func101 rfl 47 Tryz.ntmps101 rfl (HRep.one hW.1) ?_
 refine Sat.seq (Sat.region ?_)
 refine Tr.a rfl rfl rfl ?_
 refine Tr.a rfl rfl rfl ?_
 refine Tr.nil (Aa (Sat.seq (Sat.region ?_)))
 refine Tr.m rfl rfl rfl ?_
 refine Tr.callL (L := [RB n q N cp at' e]) rfl rfl rfl rfl rfl Body94 (rd_NumberE n q N cp at' e xs hx hat hN oM x1 a1 e1 h1) (Ac rM Ad) (A0 rfl) (fun w h => ⟨Ai h mM, Bk h (by simp; exact hW.2.2.1) hW.2.1, hW.2.2.1⟩) ?_
 rintro v13 out13 ⟨rfl, rfl⟩
 refine Tr.a rfl rfl rfl ?_
 refine Tr.nil (Aa (Sat.seq (Sat.seq (Sat.region ?_))))
 refine Tr.m rfl rfl rfl ?_
 refine Tr.cV rfl rfl rfl rfl Body192 (rd_Err n q N cp a1 e1) (fun w h => Ai h mM) ?_
 refine two (fun r hr k => Tr.nei rfl rfl rfl rfl hr k) (fun hs2_20 => ?_) (fun hs2_20 => ?_)
 ·
  first | have hs2_2 := of_decide_eq_true hs2_20 | have hs2_2 := of_decide_eq_false hs2_20 | have hs2_2 := A2 hs2_20 | have hs2_2 := A3 hs2_20 | have hs2_2 := hs2_20
  refine Tr.m rfl rfl rfl ?_
  refine Tr.skp rfl rfl ?_
  refine Tr.skp rfl rfl ?_
  refine Tr.skp rfl rfl ?_
  refine Tr.skp rfl rfl ?_
  refine Tr.pick rfl rfl rfl rfl rfl rfl ?_
  refine Tr.nil (Aa ?_)
  refine Sat.cond_t rfl rfl ?_
  refine Sat.seq (Sat.region ?_)
  refine Tr.a rfl rfl rfl ?_
  refine Tr.a rfl rfl rfl ?_
  refine Tr.nil (Aa (Sat.ret (Ao (Am ?_))))
  refine Ak (out := (RB n q N cp a1 e1 :: [])) (Ba rfl rfl rfl) (Ac rM Ad) ?_
  exact listr_none (by rw [hrv]; exact if_neg (fun h => by omega)) oM
 ·
  first | have hs2_2 := of_decide_eq_true hs2_20 | have hs2_2 := of_decide_eq_false hs2_20 | have hs2_2 := A2 hs2_20 | have hs2_2 := A3 hs2_20 | have hs2_2 := hs2_20
  refine Tr.m rfl rfl rfl ?_
  refine Tr.m rfl rfl rfl ?_
  refine Tr.m rfl rfl rfl ?_
  refine Tr.conv rfl rfl rfl Y3 Y48 (Bh _) ?_
  rw [word_nat (n := M) oM]
  refine Tr.gtr rfl rfl rfl rfl rfl ?_
  refine Tr.pick rfl rfl rfl rfl rfl rfl ?_
  refine Tr.nil (Aa ?_)
  first
   | refine Sat.condP rfl (fun hc0 => ?_) (fun hc0 => ?_)
   | refine Sat.condNP rfl (fun hc0 => ?_) (fun hc0 => ?_)
   | refine Sat.cond rfl (fun hc0 => ?_) (fun hc0 => ?_)
  ·
   have hno : ¬ (e1 = 0 ∧ x1.toNat ≤ M) := by omega
   refine Sat.seq (Sat.region ?_)
   refine Tr.a rfl rfl rfl ?_
   refine Tr.a rfl rfl rfl ?_
   refine Tr.nil (Aa (Sat.ret (Ao (Am ?_))))
   refine Ak (out := (RB n q N cp a1 e1 :: [])) (Ba rfl rfl rfl) (Ac rM Ad) ?_
   exact listr_none (by rw [hrv]; exact if_neg (fun h => by omega)) oM
  ·
   have hyes : e1 = 0 ∧ x1.toNat ≤ M := by omega
   have hx64 : x1 = UInt64.ofNat x1.toNat := by simp
   refine Sat.skip (Aa (Sat.seq (Sat.region ?_)))
   refine Tr.m rfl rfl rfl ?_
   refine Tr.mkRoomN (z := agg Cut.zero.cells) (by' := 64) x1.toNat rfl rfl rfl rfl rfl Y25 Ca Cut.zr (by unfold By; kernel_rfl) oM oM ?_
   intro q9
   refine Tr.a rfl rfl rfl ?_
   refine Tr.nil (Aa (Sat.seq (Sat.seq (Sat.region ?_))))
   refine Tr.m rfl rfl rfl ?_
   refine Tr.m rfl rfl rfl ?_
   refine Tr.nil (Aa (Sat.block ?_))
   refine Sat.loop (ι := LSt Cut DCut) (fun p => ⟨[(0, ptr n 0), (2, .func (.func 195) #[] #[ptr c 0]), (9, p.s.v), (25, u64 x1), (26, u64 (UInt64.ofNat p.k))], (RB n q N cp p.a p.e :: (p.bl ++ (p.o ++ [])))⟩) (fun p => p.k ≤ x1.toNat ∧ itR cutRd xs p.k a1 e1 = some (p.vs, p.a, p.e) ∧ p.a ≤ N ∧ OwnSeq Cut.cells 34 CutIs 53 p.s p.bl p.o p.rs p.vs p.k) (fun p => x1.toNat - p.k) (⟨0, ⟨some ⟨q9, 0, none⟩, 0, x1.toNat⟩, [⟨q9, [], 53, x1.toNat * 34⟩], [], [], [], a1, e1⟩) ?_ ?_ ?_
   · exact ⟨Nat.zero_le _, rfl, hd1, ⟨Acc.some (Nat.zero_le _) sP, rfl, rfl, fun r h => (by cases h), fun W2 _ i r d h => (by simp at h)⟩⟩
   · exact Af (wk1 rfl (wk1 rfl (wk1 rfl (wk1 rfl (wk1 rfl wk0))))) (Ac rM (pm_one' (Ac rM (Bl Ad))))
   ·
    rintro p hp
    obtain ⟨k, s, bl, o1, rs, vs, a2, e2⟩ := p
    obtain ⟨hk, hvr, ha2, hos⟩ := hp
    dsimp only at hk hvr ha2 hos ⊢
    obtain ⟨o, r3, hb3⟩ : ∃ l r, blkR xs a2 e2 = (l, r) := ⟨_, _, rfl⟩
    obtain ⟨a3, e3⟩ := r3
    have hd3 := blkE_le hb3 hx ha2
    refine Sat.seq (Sat.region ?_)
    refine Tr.lss rfl rfl rfl rfl rfl ?_
    refine Tr.nil (Aa (Sat.seq ?_))
    first
     | refine Sat.condP rfl (fun hc1 => ?_) (fun hc1 => ?_)
     | refine Sat.condNP rfl (fun hc1 => ?_) (fun hc1 => ?_)
     | refine Sat.cond rfl (fun hc1 => ?_) (fun hc1 => ?_)
    ·
     have hk64 : (UInt64.ofNat k).toNat = k := A1 oM
     have hk2 : k < x1.toNat := by omega
     refine Sat.skip (Aa (Sat.seq (Sat.block (Sat.seq (Sat.region ?_)))))
     refine Tr.m rfl rfl rfl ?_
     refine Tr.m rfl rfl rfl ?_
     refine Tr.callCL (L := [RB n q N cp a2 e2]) rfl rfl rfl rfl rfl rfl Body195 (item_cut n q N cp a2 e2 c xs hx ha2 hN hbig hcn o a3 e3 hb3) (Ac rM Ad) (A0 rfl) (fun w h => ⟨Ai h mM, Bk h (by simp; exact hW.2.2.1) hW.2.1, hW.2.2.1, h.keeps.cell (by simp; exact hcn) hW.2.2.2⟩) ?_
     rintro v31 out31 ⟨X31, o31, okX, rfl, rfl, hX31⟩
     simp only [List.append_assoc, List.cons_append, List.nil_append]
     refine Tr.m rfl rfl rfl ?_
     refine Tr.eX rfl rfl rfl rfl ?_
     refine Tr.extractB rfl rfl rfl rfl (fun hs7_50 => ?_) (fun hs7_50 => ?_)
     ·
      first | have hs7_5 := of_decide_eq_true hs7_50 | have hs7_5 := of_decide_eq_false hs7_50 | have hs7_5 := A2 hs7_50 | have hs7_5 := A3 hs7_50 | have hs7_5 := hs7_50
      refine Tr.alloc (cs := Cut.zero.cells) rfl Cut.zr rfl ?_
      intro n10 hn10 hf10
      refine Tr.sA rfl rfl rfl rfl (Cut.isCell (by first | exact oK  | exact okX)) Ca (Cut.length (by first | exact oK  | exact okX)) mM (Cut.length (by first | exact oK  | exact okX)) uU ?_
      refine Tr.a rfl rfl rfl ?_
      refine Tr.nil (Aa (Sat.seq (Sat.seq (Sat.region ?_))))
      refine Tr.m rfl rfl rfl ?_
      refine Tr.not rfl rfl rfl ?_
      refine Tr.m rfl rfl rfl ?_
      refine Tr.m rfl rfl rfl ?_
      refine Tr.cV rfl rfl rfl rfl Body192 (rd_Err n q N cp a3 e3) (fun w h => Ai h mM) ?_
      refine Tr.nei rfl rfl rfl rfl rfl ?_
      refine Tr.pick rfl rfl rfl rfl rfl rfl ?_
      refine Tr.nil (Aa ?_)
      first
       | refine Sat.condP rfl (fun hc2 => ?_) (fun hc2 => ?_)
       | refine Sat.condNP rfl (fun hc2 => ?_) (fun hc2 => ?_)
       | refine Sat.cond rfl (fun hc2 => ?_) (fun hc2 => ?_)
      ·
       refine Sat.seq (Sat.region ?_)
       refine Tr.a rfl rfl rfl ?_
       refine Tr.a rfl rfl rfl ?_
       refine Tr.nil (Aa (Sat.ret (Ao (B8 (Ao (Ao (B8 (Ao (Am ?_)))))))))
       refine Ak (out := (RB n q N cp a3 e3 :: [])) (Ba rfl rfl rfl) (Ac rM Ad) ?_
       exact listr_none (by rw [hrv, if_pos hyes]; exact itR_stop hvr hb3 oM _ hk2) hd3.1
      ·
       refine Sat.skip (Aa (Sat.region ?_))
       refine Tr.m rfl rfl rfl ?_
       refine Tr.lA rfl rfl rfl Y53 rfl Ca mM (Cut.length (by first | exact oK  | exact okX)) ?_
       refine Tr.mkRow (z := agg Cut.zero.cells) [agg X31.cells] X31.cells rfl rfl rfl Y25 Ca Cut.zr rfl rfl (by intro v hv; rw [List.mem_singleton.1 hv]; exact Cut.length okX) dE (by simp [Value.cells]) ?_
       intro q43
       refine Tr.appendAcc (z := agg Cut.zero.cells) (by' := 64) (X31.cells) rfl rfl rfl rfl rfl Y25 Y25 Ca Zr53 (by unfold By; kernel_rfl) rfl hos.acc sG (fun w h => SeesP.of (Ap h mM)) (fun e => by cases e) (Cut.isCell okX) oM oM (by rw [Cut.length okX]) ?_
       intro s44 bl44 hac44
       refine Tr.a rfl rfl rfl ?_
       refine Tr.nil (B2 (Aa (Sat.region ?_)))
       refine Tr.add_u64 rfl rfl rfl (show Aj _ _ = some (u64 1) from rfl) ?_
       refine Tr.m rfl rfl rfl ?_
       refine Tr.nil (Aa ?_)
       exact ⟨⟨k + 1, s44, bl44, o31 ++ o1, rs ++ [X31], vs ++ [(cutRd (o.getD [])).1], a3, e3⟩, ⟨by simp only []; omega, itR_step hvr hb3 hs7_5 oM, hd3.1, hos.snoc (by simpa using hac44) (Cut.length okX) hX31⟩, by simp only []; omega, Af (wk1 rfl (wk1 rfl (wk1 rfl (wk1 rfl (wk1 (congrArg (fun z => some (u64 z)) (ofNat_step _)) wk0))))) (Ac rM (Ah sG (B4 (Ah sG (Ah sG Ad)))))⟩
     ·
      first | have hs7_5 := of_decide_eq_true hs7_50 | have hs7_5 := of_decide_eq_false hs7_50 | have hs7_5 := A2 hs7_50 | have hs7_5 := A3 hs7_50 | have hs7_5 := hs7_50
      refine Tr.alloc (cs := Cut.zero.cells) rfl Cut.zr rfl ?_
      intro n10 hn10 hf10
      refine Tr.sA rfl rfl rfl rfl (Cut.isCell (by first | exact oK  | exact okX)) Ca (Cut.length (by first | exact oK  | exact okX)) mM (Cut.length (by first | exact oK  | exact okX)) uU ?_
      refine Tr.a rfl rfl rfl ?_
      refine Tr.nil (Aa (Sat.seq (Sat.seq (Sat.region ?_))))
      refine Tr.m rfl rfl rfl ?_
      refine Tr.not rfl rfl rfl ?_
      refine Tr.m rfl rfl rfl ?_
      refine Tr.skp rfl rfl ?_
      refine Tr.skp rfl rfl ?_
      refine Tr.skp rfl rfl ?_
      refine Tr.pick rfl rfl rfl rfl rfl rfl ?_
      refine Tr.nil (Aa ?_)
      refine Sat.cond_t rfl rfl ?_
      refine Sat.seq (Sat.region ?_)
      refine Tr.a rfl rfl rfl ?_
      refine Tr.a rfl rfl rfl ?_
      refine Tr.nil (Aa (Sat.ret (Ao (B8 (Ao (Ao (B8 (Ao (Am ?_)))))))))
      refine Ak (out := (RB n q N cp a3 e3 :: [])) (Ba rfl rfl rfl) (Ac rM Ad) ?_
      exact listr_none (by rw [hrv, if_pos hyes]; exact itR_stop hvr hb3 oM _ hk2) hd3.1
    ·
     have hk64 : (UInt64.ofNat k).toNat = k := A1 oM
     have hke : k = x1.toNat := by omega
     refine Sat.exit (Bf (Bf (bl_h (Aa (Sat.seq (Sat.region ?_))))))
     refine Tr.m rfl rfl rfl ?_
     refine Tr.a rfl rfl rfl ?_
     refine Tr.a rfl rfl rfl ?_
     refine Tr.nil (Aa (Sat.ret (Am ?_)))
     refine Ak (out := (bl ++ (o1 ++ (RB n q N cp a2 e2 :: [])))) (Ba rfl rfl rfl) (Ah sG (Ah sG (Ac rM Ad))) ?_
     have hfin : listR cutRd xs M at' e = some (vs, a2, e2) := by rw [hrv, if_pos hyes, ← hke]; exact hvr
     have hvl := hos.nd
     exact ⟨s, bl, o1, rs, a2, e2, ha2, by simp, by rw [hfin]; rfl, fun vs2 a4 e4 h4 => by rw [hfin] at h4; cases h4; exact ⟨rfl, rfl, by omega, by rw [hvl]; exact hos⟩⟩

theorem mk_item_cert  : Meets Tryz.prog 104 [.func (.func 29) #[] #[]] [] (fun _ => True) (fun v out => ∃ c, v = .func (.func 196) #[] #[ptr c 0] ∧ out = [⟨c, [.func (.func 29) #[] #[]], 67, 1⟩]) := by
 intro W hW
 refine An Tryz.func104 rfl 4 Tryz.ntmps104 rfl ?_
 refine Sat.seq (Sat.region ?_)
 refine Tr.box1 rfl rfl rfl ?_
 intro n1 hn1 hf1
 refine Tr.a rfl rfl rfl ?_
 refine Tr.nil (Aa (Sat.seq (Sat.region ?_)))
 refine Tr.makeFunc rfl rfl rfl rfl ?_
 refine Tr.a rfl rfl rfl ?_
 refine Tr.nil (Aa (Sat.ret (Am ?_)))
 refine Ak (out := (⟨n1, [.func (.func 29) #[] #[]], 67, 1⟩ :: [])) (Ae rfl rfl) (Ac rM Ad) ?_
 exact ⟨n1, rfl, by simp⟩

theorem item_cert (n q N cp at' : Nat) (e : Int) (c : Nat) (xs : List UInt8) (hx : xs.length = N) (hat : at' ≤ N) (hN : N ≤ cp) (hbig : N ≤ 90000) (hcn : c ≠ n) (o : Option (List UInt8)) (a1 : Nat) (e1 : Int) (h1 : blkR xs at' e = (o, a1, e1)) : Meets Tryz.prog 196 [ptr n 0, ptr c 0] [n] (fun W => BlkOk W (RB n q N cp at' e) ∧ Cb W q 0 (Ab xs) ∧ q ≠ n ∧ W.cell? ⟨c, 0, none⟩ = some (.func (.func 29) #[] #[])) (fun v out => ∃ (X : Cert) (o2 : List Blk), X.ok ∧ v = .tuple #[agg X.cells, .bool (decide ((certRd (o.getD [])).2 = 0))] ∧ out = o2 ++ [RB n q N cp a1 e1] ∧ ∀ W2, Lies o2 W2 → CertIs W2 X (certRd (o.getD [])).1) := by
 intro W hW
 have hb1 := blkE_le h1 hx hat
 refine A7 (hp0 := [RB n q N cp at' e]) Tryz.func196 rfl 17 Tryz.ntmps196 rfl (HRep.one hW.1) ?_
 refine Sat.seq (Sat.region ?_)
 refine Tr.alloc (cs := Cert.zero.cells) rfl Cert.zr rfl ?_
 intro n3 hn3 hf3
 refine Tr.a rfl rfl rfl ?_
 refine Tr.nil (Aa (Sat.seq ?_))
 refine Sat.withK (sp_v (sp_v sp_n)) rfl ?_
 refine Sat.draw [(0, 0), (0, 1), (5, 2), (3, 3), (0, 4), (0, 5), (0, 6), (2, 7), (4, 8), (0, 9)] Bv zK ?_
 refine Tr.kloadE rfl rfl rfl Tryz.underlying67 rfl (by first | (simp; done) | (simp; exact hW.2.2) | (simp [Cx.with]; done) | (simp [Cx.with]; omega)) (hW.2.2.2) ?_
 refine Tr.m rfl rfl rfl ?_
 refine Tr.callL5 (L := [RB n q N cp at' e]) rfl rfl rfl rfl rfl Body120 (rd_BlockE n q N cp at' e xs hx hat hN hbig o a1 e1 h1) (rdblk_loose n q N cp a1 e1 (o.getD [])) (Ac rM Ad) (A0 rfl) (fun w h => ⟨Ai h mM, Bk h (by simp [Cx.with]; exact hW.2.2.1) hW.2.1, hW.2.2.1⟩) ?_
 rintro v10 out10 ⟨s10, bl10, rfl, hac10, rfl⟩
 simp only [List.append_assoc, List.cons_append, List.nil_append]
 refine Tr.call rfl rfl rfl rfl Body29 (cert_read s10.p s10.n s10.c (o.getD []) hac10.num.symm (fun e => hac10.nil e) (by rw [hac10.num]; omega)) (made_loose Cert.zero Cert.zero_ok) (fun w h => hac10.see (Lies.of h iN)) ?_
 rintro v11 out11 ⟨X11, okX, rfl, hX11⟩
 try simp only [List.append_assoc, List.cons_append, List.nil_append]
 refine Tr.m rfl rfl rfl ?_
 refine Tr.eX rfl rfl rfl rfl ?_
 refine Tr.eX rfl rfl rfl rfl ?_
 refine Tr.alloc (cs := Cert.zero.cells) rfl Cert.zr rfl ?_
 intro n5 hn5 hf5
 refine Tr.sA rfl rfl rfl rfl (Cert.isCell (by first | exact oK  | exact okX | exact Cert.zero_ok)) Sz55 (Cert.length (by first | exact oK  | exact okX | exact Cert.zero_ok)) mM (Cert.length (by first | exact oK  | exact okX | exact Cert.zero_ok)) uU ?_
 refine Tr.a rfl rfl rfl ?_
 refine Tr.nil (Aa (Sat.seq (Sat.region ?_)))
 try simp only [List.cons_append, List.nil_append, List.append_nil, List.append_assoc]
 refine Tr.lA rfl rfl rfl Y55 rfl Sz55 mM (Cert.length (by first | exact oK  | exact okX | exact Cert.zero_ok)) ?_
 refine Tr.m rfl rfl rfl ?_
 refine Tr.eqi rfl rfl rfl rfl rfl ?_
 refine Tr.sA rfl rfl rfl rfl (Cert.isCell (by first | exact oK  | exact okX | exact Cert.zero_ok)) Sz55 (Cert.length (by first | exact oK  | exact okX | exact Cert.zero_ok)) mM (Cert.length (by first | exact oK  | exact okX | exact Cert.zero_ok)) uU ?_
 refine Tr.a rfl rfl rfl ?_
 refine Tr.nil (Aa (Sat.ret (Am ?_)))
 refine Ak (out := (out11 ++ (RB n q N cp a1 e1 :: []))) (A6 rfl rfl rfl Y55 rfl Sz55 mM (by first | (simp; done) | exact Cert.length (by first | exact oK  | exact okX | exact Cert.zero_ok))) (Ah sG (Ac rM Ad)) ?_
 exact ⟨X11, out11, okX, rfl, by simp, hX11⟩

theorem read_certs (n q N cp at' : Nat) (e : Int) (c M : Nat) (xs : List UInt8) (hx : xs.length = N) (hat : at' ≤ N) (hN : N ≤ cp) (hbig : N ≤ 90000) (hcn : c ≠ n) (hM : M ≤ 1000) : Meets Tryz.prog 103 [ptr n 0, i64 (M : Int), .func (.func 196) #[] #[ptr c 0]] [n] (fun W => BlkOk W (RB n q N cp at' e) ∧ Cb W q 0 (Ab xs) ∧ q ≠ n ∧ W.cell? ⟨c, 0, none⟩ = some (.func (.func 29) #[] #[])) (ListRead Cert.cells 35 CertIs 55 certRd xs M at' e n q N cp) := by
 intro W hW
 obtain ⟨x1, r1, h1⟩ : ∃ l r, Bg xs at' e = (l, r) := ⟨_, _, rfl⟩
 obtain ⟨a1, e1⟩ := r1
 have hd1 := numE_le h1 hx hat
 have hMw : (UInt64.ofNat M).toNat = M := A1 oM
 have hrv : listR certRd xs M at' e = if e1 = 0 ∧ x1.toNat ≤ M then itR certRd xs x1.toNat a1 e1 else none := by simp only [listR, h1]
 refine A7 (hp0 := [RB n q N cp at' e]) Tryz.func103 rfl 47 Tryz.ntmps103 rfl (HRep.one hW.1) ?_
 refine Sat.seq (Sat.region ?_)
 refine Tr.a rfl rfl rfl ?_
 refine Tr.a rfl rfl rfl ?_
 refine Tr.nil (Aa (Sat.seq (Sat.region ?_)))
 refine Tr.m rfl rfl rfl ?_
 refine Tr.callL (L := [RB n q N cp at' e]) rfl rfl rfl rfl rfl Body94 (rd_NumberE n q N cp at' e xs hx hat hN oM x1 a1 e1 h1) (Ac rM Ad) (A0 rfl) (fun w h => ⟨Ai h mM, Bk h (by simp; exact hW.2.2.1) hW.2.1, hW.2.2.1⟩) ?_
 rintro v13 out13 ⟨rfl, rfl⟩
 refine Tr.a rfl rfl rfl ?_
 refine Tr.nil (Aa (Sat.seq (Sat.seq (Sat.region ?_))))
 refine Tr.m rfl rfl rfl ?_
 refine Tr.cV rfl rfl rfl rfl Body192 (rd_Err n q N cp a1 e1) (fun w h => Ai h mM) ?_
 refine two (fun r hr k => Tr.nei rfl rfl rfl rfl hr k) (fun hs2_20 => ?_) (fun hs2_20 => ?_)
 ·
  first | have hs2_2 := of_decide_eq_true hs2_20 | have hs2_2 := of_decide_eq_false hs2_20 | have hs2_2 := A2 hs2_20 | have hs2_2 := A3 hs2_20 | have hs2_2 := hs2_20
  refine Tr.m rfl rfl rfl ?_
  refine Tr.skp rfl rfl ?_
  refine Tr.skp rfl rfl ?_
  refine Tr.skp rfl rfl ?_
  refine Tr.skp rfl rfl ?_
  refine Tr.pick rfl rfl rfl rfl rfl rfl ?_
  refine Tr.nil (Aa ?_)
  refine Sat.cond_t rfl rfl ?_
  refine Sat.seq (Sat.region ?_)
  refine Tr.a rfl rfl rfl ?_
  refine Tr.a rfl rfl rfl ?_
  refine Tr.nil (Aa (Sat.ret (Ao (Am ?_))))
  refine Ak (out := (RB n q N cp a1 e1 :: [])) (Ba rfl rfl rfl) (Ac rM Ad) ?_
  exact listr_none (by rw [hrv]; exact if_neg (fun h => by omega)) oM
 ·
  first | have hs2_2 := of_decide_eq_true hs2_20 | have hs2_2 := of_decide_eq_false hs2_20 | have hs2_2 := A2 hs2_20 | have hs2_2 := A3 hs2_20 | have hs2_2 := hs2_20
  refine Tr.m rfl rfl rfl ?_
  refine Tr.m rfl rfl rfl ?_
  refine Tr.m rfl rfl rfl ?_
  refine Tr.conv rfl rfl rfl Y3 Y48 (Bh _) ?_
  rw [word_nat (n := M) oM]
  refine Tr.gtr rfl rfl rfl rfl rfl ?_
  refine Tr.pick rfl rfl rfl rfl rfl rfl ?_
  refine Tr.nil (Aa ?_)
  first
   | refine Sat.condP rfl (fun hc0 => ?_) (fun hc0 => ?_)
   | refine Sat.condNP rfl (fun hc0 => ?_) (fun hc0 => ?_)
   | refine Sat.cond rfl (fun hc0 => ?_) (fun hc0 => ?_)
  ·
   have hno : ¬ (e1 = 0 ∧ x1.toNat ≤ M) := by omega
   refine Sat.seq (Sat.region ?_)
   refine Tr.a rfl rfl rfl ?_
   refine Tr.a rfl rfl rfl ?_
   refine Tr.nil (Aa (Sat.ret (Ao (Am ?_))))
   refine Ak (out := (RB n q N cp a1 e1 :: [])) (Ba rfl rfl rfl) (Ac rM Ad) ?_
   exact listr_none (by rw [hrv]; exact if_neg (fun h => by omega)) oM
  ·
   have hyes : e1 = 0 ∧ x1.toNat ≤ M := by omega
   have hx64 : x1 = UInt64.ofNat x1.toNat := by simp
   refine Sat.skip (Aa (Sat.seq (Sat.region ?_)))
   refine Tr.m rfl rfl rfl ?_
   refine Tr.mkRoomN (z := agg Cert.zero.cells) (by' := 88) x1.toNat rfl rfl rfl rfl rfl Y23 Sz55 Cert.zr (by unfold By; kernel_rfl) oM oM ?_
   intro q9
   refine Tr.a rfl rfl rfl ?_
   refine Tr.nil (Aa (Sat.seq (Sat.seq (Sat.region ?_))))
   refine Tr.m rfl rfl rfl ?_
   refine Tr.m rfl rfl rfl ?_
   refine Tr.nil (Aa (Sat.block ?_))
   refine Sat.loop (ι := LSt Cert DCert) (fun p => ⟨[(0, ptr n 0), (2, .func (.func 196) #[] #[ptr c 0]), (9, p.s.v), (25, u64 x1), (26, u64 (UInt64.ofNat p.k))], (RB n q N cp p.a p.e :: (p.bl ++ (p.o ++ [])))⟩) (fun p => p.k ≤ x1.toNat ∧ itR certRd xs p.k a1 e1 = some (p.vs, p.a, p.e) ∧ p.a ≤ N ∧ OwnSeq Cert.cells 35 CertIs 55 p.s p.bl p.o p.rs p.vs p.k) (fun p => x1.toNat - p.k) (⟨0, ⟨some ⟨q9, 0, none⟩, 0, x1.toNat⟩, [⟨q9, [], 55, x1.toNat * 35⟩], [], [], [], a1, e1⟩) ?_ ?_ ?_
   · exact ⟨Nat.zero_le _, rfl, hd1, ⟨Acc.some (Nat.zero_le _) sP, rfl, rfl, fun r h => (by cases h), fun W2 _ i r d h => (by simp at h)⟩⟩
   · exact Af (wk1 rfl (wk1 rfl (wk1 rfl (wk1 rfl (wk1 rfl wk0))))) (Ac rM (pm_one' (Ac rM (Bl Ad))))
   ·
    rintro p hp
    obtain ⟨k, s, bl, o1, rs, vs, a2, e2⟩ := p
    obtain ⟨hk, hvr, ha2, hos⟩ := hp
    dsimp only at hk hvr ha2 hos ⊢
    obtain ⟨o, r3, hb3⟩ : ∃ l r, blkR xs a2 e2 = (l, r) := ⟨_, _, rfl⟩
    obtain ⟨a3, e3⟩ := r3
    have hd3 := blkE_le hb3 hx ha2
    refine Sat.seq (Sat.region ?_)
    refine Tr.lss rfl rfl rfl rfl rfl ?_
    refine Tr.nil (Aa (Sat.seq ?_))
    first
     | refine Sat.condP rfl (fun hc1 => ?_) (fun hc1 => ?_)
     | refine Sat.condNP rfl (fun hc1 => ?_) (fun hc1 => ?_)
     | refine Sat.cond rfl (fun hc1 => ?_) (fun hc1 => ?_)
    ·
     have hk64 : (UInt64.ofNat k).toNat = k := A1 oM
     have hk2 : k < x1.toNat := by omega
     refine Sat.skip (Aa (Sat.seq (Sat.block (Sat.seq (Sat.region ?_)))))
     refine Tr.m rfl rfl rfl ?_
     refine Tr.m rfl rfl rfl ?_
     refine Tr.callCL (L := [RB n q N cp a2 e2]) rfl rfl rfl rfl rfl rfl Body196 (item_cert n q N cp a2 e2 c xs hx ha2 hN hbig hcn o a3 e3 hb3) (Ac rM Ad) (A0 rfl) (fun w h => ⟨Ai h mM, Bk h (by simp; exact hW.2.2.1) hW.2.1, hW.2.2.1, h.keeps.cell (by simp; exact hcn) hW.2.2.2⟩) ?_
     rintro v31 out31 ⟨X31, o31, okX, rfl, rfl, hX31⟩
     simp only [List.append_assoc, List.cons_append, List.nil_append]
     refine Tr.m rfl rfl rfl ?_
     refine Tr.eX rfl rfl rfl rfl ?_
     refine Tr.extractB rfl rfl rfl rfl (fun hs7_50 => ?_) (fun hs7_50 => ?_)
     ·
      first | have hs7_5 := of_decide_eq_true hs7_50 | have hs7_5 := of_decide_eq_false hs7_50 | have hs7_5 := A2 hs7_50 | have hs7_5 := A3 hs7_50 | have hs7_5 := hs7_50
      refine Tr.alloc (cs := Cert.zero.cells) rfl Cert.zr rfl ?_
      intro n10 hn10 hf10
      refine Tr.sA rfl rfl rfl rfl (Cert.isCell (by first | exact oK  | exact okX)) Sz55 (Cert.length (by first | exact oK  | exact okX)) mM (Cert.length (by first | exact oK  | exact okX)) uU ?_
      refine Tr.a rfl rfl rfl ?_
      refine Tr.nil (Aa (Sat.seq (Sat.seq (Sat.region ?_))))
      refine Tr.m rfl rfl rfl ?_
      refine Tr.not rfl rfl rfl ?_
      refine Tr.m rfl rfl rfl ?_
      refine Tr.m rfl rfl rfl ?_
      refine Tr.cV rfl rfl rfl rfl Body192 (rd_Err n q N cp a3 e3) (fun w h => Ai h mM) ?_
      refine Tr.nei rfl rfl rfl rfl rfl ?_
      refine Tr.pick rfl rfl rfl rfl rfl rfl ?_
      refine Tr.nil (Aa ?_)
      first
       | refine Sat.condP rfl (fun hc2 => ?_) (fun hc2 => ?_)
       | refine Sat.condNP rfl (fun hc2 => ?_) (fun hc2 => ?_)
       | refine Sat.cond rfl (fun hc2 => ?_) (fun hc2 => ?_)
      ·
       refine Sat.seq (Sat.region ?_)
       refine Tr.a rfl rfl rfl ?_
       refine Tr.a rfl rfl rfl ?_
       refine Tr.nil (Aa (Sat.ret (Ao (B8 (Ao (Ao (B8 (Ao (Am ?_)))))))))
       refine Ak (out := (RB n q N cp a3 e3 :: [])) (Ba rfl rfl rfl) (Ac rM Ad) ?_
       exact listr_none (by rw [hrv, if_pos hyes]; exact itR_stop hvr hb3 oM _ hk2) hd3.1
      ·
       refine Sat.skip (Aa (Sat.region ?_))
       refine Tr.m rfl rfl rfl ?_
       refine Tr.lA rfl rfl rfl Y55 rfl Sz55 mM (Cert.length (by first | exact oK  | exact okX)) ?_
       refine Tr.mkRow (z := agg Cert.zero.cells) [agg X31.cells] X31.cells rfl rfl rfl Y23 Sz55 Cert.zr rfl rfl (by intro v hv; rw [List.mem_singleton.1 hv]; exact Cert.length okX) dE (by simp [Value.cells]) ?_
       intro q43
       refine Tr.appendAcc (z := agg Cert.zero.cells) (by' := 88) (X31.cells) rfl rfl rfl rfl rfl Y23 Y23 Sz55 Zr55 (by unfold By; kernel_rfl) rfl hos.acc sG (fun w h => SeesP.of (Ap h mM)) (fun e => by cases e) (Cert.isCell okX) oM oM (by rw [Cert.length okX]) ?_
       intro s44 bl44 hac44
       refine Tr.a rfl rfl rfl ?_
       refine Tr.nil (B2 (Aa (Sat.region ?_)))
       refine Tr.add_u64 rfl rfl rfl (show Aj _ _ = some (u64 1) from rfl) ?_
       refine Tr.m rfl rfl rfl ?_
       refine Tr.nil (Aa ?_)
       exact ⟨⟨k + 1, s44, bl44, o31 ++ o1, rs ++ [X31], vs ++ [(certRd (o.getD [])).1], a3, e3⟩, ⟨by simp only []; omega, itR_step hvr hb3 hs7_5 oM, hd3.1, hos.snoc (by simpa using hac44) (Cert.length okX) hX31⟩, by simp only []; omega, Af (wk1 rfl (wk1 rfl (wk1 rfl (wk1 rfl (wk1 (congrArg (fun z => some (u64 z)) (ofNat_step _)) wk0))))) (Ac rM (Ah sG (B4 (Ah sG (Ah sG Ad)))))⟩
     ·
      first | have hs7_5 := of_decide_eq_true hs7_50 | have hs7_5 := of_decide_eq_false hs7_50 | have hs7_5 := A2 hs7_50 | have hs7_5 := A3 hs7_50 | have hs7_5 := hs7_50
      refine Tr.alloc (cs := Cert.zero.cells) rfl Cert.zr rfl ?_
      intro n10 hn10 hf10
      refine Tr.sA rfl rfl rfl rfl (Cert.isCell (by first | exact oK  | exact okX)) Sz55 (Cert.length (by first | exact oK  | exact okX)) mM (Cert.length (by first | exact oK  | exact okX)) uU ?_
      refine Tr.a rfl rfl rfl ?_
      refine Tr.nil (Aa (Sat.seq (Sat.seq (Sat.region ?_))))
      refine Tr.m rfl rfl rfl ?_
      refine Tr.not rfl rfl rfl ?_
      refine Tr.m rfl rfl rfl ?_
      refine Tr.skp rfl rfl ?_
      refine Tr.skp rfl rfl ?_
      refine Tr.skp rfl rfl ?_
      refine Tr.pick rfl rfl rfl rfl rfl rfl ?_
      refine Tr.nil (Aa ?_)
      refine Sat.cond_t rfl rfl ?_
      refine Sat.seq (Sat.region ?_)
      refine Tr.a rfl rfl rfl ?_
      refine Tr.a rfl rfl rfl ?_
      refine Tr.nil (Aa (Sat.ret (Ao (B8 (Ao (Ao (B8 (Ao (Am ?_)))))))))
      refine Ak (out := (RB n q N cp a3 e3 :: [])) (Ba rfl rfl rfl) (Ac rM Ad) ?_
      exact listr_none (by rw [hrv, if_pos hyes]; exact itR_stop hvr hb3 oM _ hk2) hd3.1
    ·
     have hk64 : (UInt64.ofNat k).toNat = k := A1 oM
     have hke : k = x1.toNat := by omega
     refine Sat.exit (Bf (Bf (bl_h (Aa (Sat.seq (Sat.region ?_))))))
     refine Tr.m rfl rfl rfl ?_
     refine Tr.a rfl rfl rfl ?_
     refine Tr.a rfl rfl rfl ?_
     refine Tr.nil (Aa (Sat.ret (Am ?_)))
     refine Ak (out := (bl ++ (o1 ++ (RB n q N cp a2 e2 :: [])))) (Ba rfl rfl rfl) (Ah sG (Ah sG (Ac rM Ad))) ?_
     have hfin : listR certRd xs M at' e = some (vs, a2, e2) := by rw [hrv, if_pos hyes, ← hke]; exact hvr
     have hvl := hos.nd
     exact ⟨s, bl, o1, rs, a2, e2, ha2, by simp, by rw [hfin]; rfl, fun vs2 a4 e4 h4 => by rw [hfin] at h4; cases h4; exact ⟨rfl, rfl, by omega, by rw [hvl]; exact hos⟩⟩

theorem read_digest (n q N cp at' : Nat) (e : Int) (xs : List UInt8) (hx : xs.length = N) (hat : at' ≤ N) (hN : N ≤ cp) (hbig : N ≤ 90000) (l : List UInt8) (a1 : Nat) (e1 : Int) (h1 : digR xs at' e = (l, a1, e1)) : Meets Tryz.prog 96 [ptr n 0] [n] (fun W => BlkOk W (RB n q N cp at' e) ∧ Cb W q 0 (Ab xs) ∧ q ≠ n) (fun v out => v = .tuple #[agg (Ab l), .bool true] ∧ out = [RB n q N cp a1 e1]) := by
 intro W hW
 have hd1 := digE_le h1 hx hat
 refine A7 (hp0 := [RB n q N cp at' e]) Tryz.func96 rfl 6 Tryz.ntmps96 rfl (HRep.one hW.1) ?_
 refine Sat.seq (Sat.region ?_)
 refine Tr.alloc (cs := (Ab (List.replicate 32 0))) rfl Zr50 rfl ?_
 intro n2 hn2 hf2
 refine Tr.a rfl rfl rfl ?_
 refine Tr.nil (Aa (Sat.seq (Sat.region ?_)))
 refine Tr.m rfl rfl rfl ?_
 refine Tr.callL (L := [RB n q N cp at' e]) rfl rfl rfl rfl rfl Body173 (rd_DigestE n q N cp at' e xs hx hat hN oM l a1 e1 h1) (Ac rM Ad) (A0 rfl) (fun w h => ⟨Ai h mM, Bk h (by simp; exact hW.2.2) hW.2.1, hW.2.2⟩) ?_
 rintro v13 out13 ⟨rfl, rfl⟩
 first
  | refine Tr.sA rfl rfl rfl rfl cB Bb (by first | (simp [hd1.2]; done) | assumption | (rw [Ab, List.length_map]; assumption)) mM (by first | (simp [hd1.2]; done) | assumption | (rw [Ab, List.length_map]; assumption)) uU ?_
  | refine Tr.storeN _ rfl rfl rfl rfl rfl cB Bb (by first | (simp [hd1.2]; done) | assumption | (rw [Ab, List.length_map]; assumption)) mM (by first | (simp [hd1.2]; done) | assumption | (rw [Ab, List.length_map]; assumption)) (by exact rfl) uU ?_
 refine Tr.a rfl rfl rfl ?_
 refine Tr.nil (Aa (Sat.ret (Am ?_)))
 refine Ak (out := (RB n q N cp a1 e1 :: [])) (A6 rfl rfl rfl Y50 rfl Bb mM (by simp [hd1.2])) (Ac rM Ad) ?_
 exact ⟨rfl, rfl⟩

theorem read_digests (n q N cp at' : Nat) (e : Int) (M : Nat) (xs : List UInt8) (hx : xs.length = N) (hat : at' ≤ N) (hN : N ≤ cp) (hbig : N ≤ 90000) (hM : M ≤ 1000) : Meets Tryz.prog 95 [ptr n 0, i64 (M : Int), .func (.func 96) #[] #[]] [n] (fun W => BlkOk W (RB n q N cp at' e) ∧ Cb W q 0 (Ab xs) ∧ q ≠ n) (DListRead xs M at' e n q N cp) := by
  intro W hW
  obtain ⟨x1, r1, h1⟩ : ∃ l r, Bg xs at' e = (l, r) := ⟨_, _, rfl⟩
  obtain ⟨a1, e1⟩ := r1
  have hd1 := numE_le h1 hx hat
  have hMw : (UInt64.ofNat M).toNat = M := A1 oM
  have hrv : dlistR xs M at' e = if e1 = 0 ∧ x1.toNat ≤ M then dgR xs x1.toNat a1 e1 else none := by simp only [dlistR, h1]
  refine A7 (hp0 := [RB n q N cp at' e]) Tryz.func95 rfl 47 Tryz.ntmps95 rfl (HRep.one hW.1) ?_
  refine Sat.seq (Sat.region ?_)
  refine Tr.a rfl rfl rfl ?_
  refine Tr.a rfl rfl rfl ?_
  refine Tr.nil (Aa (Sat.seq (Sat.region ?_)))
  refine Tr.m rfl rfl rfl ?_
  refine Tr.callL (L := [RB n q N cp at' e]) rfl rfl rfl rfl rfl Body94 (rd_NumberE n q N cp at' e xs hx hat hN oM x1 a1 e1 h1) (Ac rM Ad) (A0 rfl) (fun w h => ⟨Ai h mM, Bk h (by simp; exact hW.2.2) hW.2.1, hW.2.2⟩) ?_
  rintro v13 out13 ⟨rfl, rfl⟩
  refine Tr.a rfl rfl rfl ?_
  refine Tr.nil (Aa (Sat.seq (Sat.seq (Sat.region ?_))))
  refine Tr.m rfl rfl rfl ?_
  refine Tr.cV rfl rfl rfl rfl Body192 (rd_Err n q N cp a1 e1) (fun w h => Ai h mM) ?_
  refine two (fun r hr k => Tr.nei rfl rfl rfl rfl hr k) (fun hs2_20 => ?_) (fun hs2_20 => ?_)
  ·
    first | have hs2_2 := of_decide_eq_true hs2_20 | have hs2_2 := of_decide_eq_false hs2_20 | have hs2_2 := A2 hs2_20 | have hs2_2 := A3 hs2_20 | have hs2_2 := hs2_20
    refine Tr.m rfl rfl rfl ?_
    refine Tr.skp rfl rfl ?_
    refine Tr.skp rfl rfl ?_
    refine Tr.skp rfl rfl ?_
    refine Tr.skp rfl rfl ?_
    refine Tr.pick rfl rfl rfl rfl rfl rfl ?_
    refine Tr.nil (Aa ?_)
    refine Sat.cond_t rfl rfl ?_
    refine Sat.seq (Sat.region ?_)
    refine Tr.a rfl rfl rfl ?_
    refine Tr.a rfl rfl rfl ?_
    refine Tr.nil (Aa (Sat.ret (Ao (Am ?_))))
    refine Ak (out := (RB n q N cp a1 e1 :: [])) (Ba rfl rfl rfl) (Ac rM Ad) ?_
    exact dlistr_none (by rw [hrv]; exact if_neg (fun h => by omega)) oM
  ·
    first | have hs2_2 := of_decide_eq_true hs2_20 | have hs2_2 := of_decide_eq_false hs2_20 | have hs2_2 := A2 hs2_20 | have hs2_2 := A3 hs2_20 | have hs2_2 := hs2_20
    refine Tr.m rfl rfl rfl ?_
    refine Tr.m rfl rfl rfl ?_
    refine Tr.m rfl rfl rfl ?_
    refine Tr.conv rfl rfl rfl Y3 Y48 (Bh _) ?_
    rw [word_nat (n := M) oM]
    refine Tr.gtr rfl rfl rfl rfl rfl ?_
    refine Tr.pick rfl rfl rfl rfl rfl rfl ?_
    refine Tr.nil (Aa ?_)
    first
      | refine Sat.condP rfl (fun hc0 => ?_) (fun hc0 => ?_)
      | refine Sat.condNP rfl (fun hc0 => ?_) (fun hc0 => ?_)
      | refine Sat.cond rfl (fun hc0 => ?_) (fun hc0 => ?_)
    ·
      have hno : ¬ (e1 = 0 ∧ x1.toNat ≤ M) := by omega
      refine Sat.seq (Sat.region ?_)
      refine Tr.a rfl rfl rfl ?_
      refine Tr.a rfl rfl rfl ?_
      refine Tr.nil (Aa (Sat.ret (Ao (Am ?_))))
      refine Ak (out := (RB n q N cp a1 e1 :: [])) (Ba rfl rfl rfl) (Ac rM Ad) ?_
      exact dlistr_none (by rw [hrv]; exact if_neg (fun h => by omega)) oM
    ·
      have hyes : e1 = 0 ∧ x1.toNat ≤ M := by omega
      have hx64 : x1 = UInt64.ofNat x1.toNat := by simp
      refine Sat.skip (Aa (Sat.seq (Sat.region ?_)))
      refine Tr.m rfl rfl rfl ?_
      refine Tr.mkRoomN (z := agg (Ab (List.replicate 32 0))) (by' := 32) x1.toNat rfl rfl rfl rfl rfl Y51 Bb Zr50 (by unfold By; kernel_rfl) oM oM ?_
      intro q9
      refine Tr.a rfl rfl rfl ?_
      refine Tr.nil (Aa (Sat.seq (Sat.seq (Sat.region ?_))))
      refine Tr.m rfl rfl rfl ?_
      refine Tr.m rfl rfl rfl ?_
      refine Tr.nil (Aa (Sat.block ?_))
      refine Sat.loop (ι := DSt) (fun p => ⟨[(0, ptr n 0), (2, .func (.func 96) #[] #[]), (9, p.s.v), (25, u64 x1), (26, u64 (UInt64.ofNat p.k))], (RB n q N cp p.a p.e :: (p.bl ++ []))⟩) (fun p => p.k ≤ x1.toNat ∧ dgR xs p.k a1 e1 = some (p.vs, p.a, p.e) ∧ p.a ≤ N ∧ Hw.Acc p.s p.bl (B5 p.vs) 50 p.k 32 ∧ p.vs.length = p.k ∧ ∀ l ∈ p.vs, l.length = 32) (fun p => x1.toNat - p.k) (⟨0, ⟨some ⟨q9, 0, none⟩, 0, x1.toNat⟩, [⟨q9, [], 50, x1.toNat * 32⟩], [], a1, e1⟩) ?_ ?_ ?_
      · exact ⟨Nat.zero_le _, rfl, hd1, Acc.some (Nat.zero_le _) (by simp [B5]), rfl, fun V h => (by cases h)⟩
      · exact Af (wk1 rfl (wk1 rfl (wk1 rfl (wk1 rfl (wk1 rfl wk0))))) (Ac rM (pm_one' (Ac rM Ad)))
      ·
        rintro p hp
        obtain ⟨k, s, bl, vs, a2, e2⟩ := p
        obtain ⟨hk, hvr, ha2, hac, hvl, hvo⟩ := hp
        dsimp only at hk hvr ha2 hac hvl hvo ⊢
        obtain ⟨l5, r3, hb3⟩ : ∃ l r, digR xs a2 e2 = (l, r) := ⟨_, _, rfl⟩
        obtain ⟨a3, e3⟩ := r3
        have hdl := digE_le hb3 hx ha2
        refine Sat.seq (Sat.region ?_)
        refine Tr.lss rfl rfl rfl rfl rfl ?_
        refine Tr.nil (Aa (Sat.seq ?_))
        first
          | refine Sat.condP rfl (fun hc1 => ?_) (fun hc1 => ?_)
          | refine Sat.condNP rfl (fun hc1 => ?_) (fun hc1 => ?_)
          | refine Sat.cond rfl (fun hc1 => ?_) (fun hc1 => ?_)
        ·
          have hk64 : (UInt64.ofNat k).toNat = k := A1 oM
          have hk2 : k < x1.toNat := by omega
          refine Sat.skip (Aa (Sat.seq (Sat.block (Sat.seq (Sat.region ?_)))))
          refine Tr.m rfl rfl rfl ?_
          refine Tr.m rfl rfl rfl ?_
          refine Tr.callCL (L := [RB n q N cp a2 e2]) rfl rfl rfl rfl rfl rfl Body96 (read_digest n q N cp a2 e2 xs hx ha2 hN hbig l5 a3 e3 hb3) (Ac rM Ad) (A0 rfl) (fun w h => ⟨Ai h mM, Bk h (by simp; exact hW.2.2) hW.2.1, hW.2.2⟩) ?_
          rintro v31 out31 ⟨rfl, rfl⟩
          refine Tr.m rfl rfl rfl ?_
          refine Tr.eX rfl rfl rfl rfl ?_
          refine Tr.eX rfl rfl rfl rfl ?_
          refine Tr.alloc (cs := (Ab (List.replicate 32 0))) rfl Zr50 rfl ?_
          intro n10 hn10 hf10
          first
            | refine Tr.sA rfl rfl rfl rfl cB Bb (by first | (simp [hdl.2]; done) | assumption | (rw [Ab, List.length_map]; assumption)) mM (by first | (simp [hdl.2]; done) | assumption | (rw [Ab, List.length_map]; assumption)) uU ?_
            | refine Tr.storeN _ rfl rfl rfl rfl rfl cB Bb (by first | (simp [hdl.2]; done) | assumption | (rw [Ab, List.length_map]; assumption)) mM (by first | (simp [hdl.2]; done) | assumption | (rw [Ab, List.length_map]; assumption)) (by exact rfl) uU ?_
          refine Tr.a rfl rfl rfl ?_
          refine Tr.nil (Aa (Sat.seq (Sat.seq (Sat.region ?_))))
          refine Tr.m rfl rfl rfl ?_
          refine Tr.not rfl rfl rfl ?_
          refine Tr.m rfl rfl rfl ?_
          refine Tr.m rfl rfl rfl ?_
          refine Tr.cV rfl rfl rfl rfl Body192 (rd_Err n q N cp a3 e3) (fun w h => Ai h mM) ?_
          refine Tr.nei rfl rfl rfl rfl rfl ?_
          refine Tr.pick rfl rfl rfl rfl rfl rfl ?_
          refine Tr.nil (Aa ?_)
          first
            | refine Sat.condP rfl (fun hc2 => ?_) (fun hc2 => ?_)
            | refine Sat.condNP rfl (fun hc2 => ?_) (fun hc2 => ?_)
            | refine Sat.cond rfl (fun hc2 => ?_) (fun hc2 => ?_)
          ·
            refine Sat.seq (Sat.region ?_)
            refine Tr.a rfl rfl rfl ?_
            refine Tr.a rfl rfl rfl ?_
            refine Tr.nil (Aa (Sat.ret (Ao (B8 (Ao (Ao (B8 (Ao (Am ?_)))))))))
            refine Ak (out := (RB n q N cp a3 e3 :: [])) (Ba rfl rfl rfl) (Ac rM Ad) ?_
            exact dlistr_none (by rw [hrv, if_pos hyes]; exact dgR_stop hvr hb3 oM _ hk2) hdl.1
          ·
            refine Sat.skip (Aa (Sat.region ?_))
            refine Tr.m rfl rfl rfl ?_
            first
              | refine Tr.lA rfl rfl rfl Y50 rfl Bb mM (by first | (simp [hdl.2]; done) | assumption | (rw [Ab, List.length_map]; assumption)) ?_
              | refine Tr.lN _ rfl rfl rfl Y50 rfl Bb mM (by exact rfl) (by first | (simp [hdl.2]; done) | assumption | (rw [Ab, List.length_map]; assumption)) ?_
            refine Tr.mkRow (z := agg (Ab (List.replicate 32 0))) [agg (Ab l5)] (Ab l5) rfl rfl rfl Y51 Bb Zr50 rfl rfl (by intro v hv; rw [List.mem_singleton.1 hv]; simp [Value.cells, hdl.2]) dE (by simp [Value.cells]) ?_
            intro q43
            refine Tr.appendAcc (z := agg (Ab (List.replicate 32 0))) (by' := 32) (Ab l5) rfl rfl rfl rfl rfl Y51 Y51 Bb Zr50 (by unfold By; kernel_rfl) rfl hac sG (fun w h => SeesP.of (Ap h mM)) (fun e => by cases e) (Bc _) oM oM (by simp [Ab, hdl.2]) ?_
            intro s44 bl44 hac44
            refine Tr.a rfl rfl rfl ?_
            refine Tr.nil (B2 (Aa (Sat.region ?_)))
            refine Tr.add_u64 rfl rfl rfl (show Aj _ _ = some (u64 1) from rfl) ?_
            refine Tr.m rfl rfl rfl ?_
            refine Tr.nil (Aa ?_)
            refine ⟨⟨k + 1, s44, bl44, vs ++ [l5], a3, e3⟩, ⟨by simp only []; omega, dgR_step hvr hb3 oM, hdl.1, ?_, by simp [hvl], fun V hV => ?_⟩, by simp only []; omega, Af (wk1 rfl (wk1 rfl (wk1 rfl (wk1 rfl (wk1 (congrArg (fun z => some (u64 z)) (ofNat_step _)) wk0))))) (Ac rM (Ah sG Ad))⟩
            · rw [flatB_append]; simpa [B5] using hac44
            · rcases List.mem_append.1 hV with h | h
              · exact hvo V h
              · rw [List.mem_singleton.1 h]; exact hdl.2
        ·
          have hk64 : (UInt64.ofNat k).toNat = k := A1 oM
          have hke : k = x1.toNat := by omega
          refine Sat.exit (Bf (Bf (bl_h (Aa (Sat.seq (Sat.region ?_))))))
          refine Tr.m rfl rfl rfl ?_
          refine Tr.a rfl rfl rfl ?_
          refine Tr.a rfl rfl rfl ?_
          refine Tr.nil (Aa (Sat.ret (Am ?_)))
          refine Ak (out := (bl ++ (RB n q N cp a2 e2 :: []))) (Ba rfl rfl rfl) (Ah sG (Ac rM Ad)) ?_
          have hfin : dlistR xs M at' e = some (vs, a2, e2) := by rw [hrv, if_pos hyes, ← hke]; exact hvr
          exact ⟨s, bl, a2, e2, ha2, by simp, by rw [hfin]; rfl, fun vs2 a4 e4 h4 => by rw [hfin] at h4; cases h4; exact ⟨rfl, rfl, by omega, hvo, by rw [hvl]; exact hac⟩⟩

end Go.Proofs.YtdifpjmfabhpiaaGreat
end

section
namespace Go.Proofs.YtdifpjmfabhpiaaGreat
open Go Hw

abbrev RS := Option (DMsg × Nat × Int)
open Classical in
noncomputable def stageO (r : RS) (b : Int) (F : DMsg → Nat → Int → RS) : RS := r.bind fun p => if ¬ B9 (As p.1.dKind) b = 0 then F p.1 p.2.1 p.2.2 else some p
theorem Bq {r : RS} {b : Int} {F : DMsg → Nat → Int → RS} {D : DMsg} {a : Nat} {e : Int} (h : r = some (D, a, e)) (hb : B9 (As D.dKind) b = 0) : stageO r b F = some (D, a, e) := by
  rw [stageO, h, Option.bind_some]
  exact if_neg (fun h => h hb)
theorem Ax {r : RS} {b : Int} {F : DMsg → Nat → Int → RS} {D : DMsg} {a : Nat} {e : Int} (h : r = some (D, a, e)) (hb : ¬ B9 (As D.dKind) b = 0) : stageO r b F = F D a e := by
  rw [stageO, h, Option.bind_some]
  exact if_pos hb
theorem stageO_none {r : RS} {b : Int} {F : DMsg → Nat → Int → RS} (h : r = none) : stageO r b F = none := by rw [stageO, h]; rfl
noncomputable def rS0 (xs : List UInt8) : RS := if As ((wordR xs 0 0).1.toNat : Int) = 0 then none else some (dz ((wordR xs 0 0).1.toNat : Int) 0, (wordR xs 0 0).2)
noncomputable def rS1 (xs : List UInt8) : RS := stageO (rS0 xs) 1 fun D a e => some ({ D with dHeight := (Bg xs a e).1 }, (Bg xs a e).2)
noncomputable def rS2 (xs : List UInt8) : RS := stageO (rS1 xs) 2 fun D a e => (dlistR xs 32 a e).map fun r => ({ D with dHeads := r.1 }, r.2)
noncomputable def rS3 (xs : List UInt8) : RS := stageO (rS2 xs) 4 fun D a e => (dlistR xs 32 a e).map fun r => ({ D with dWant := r.1 }, r.2)
noncomputable def rS4 (xs : List UInt8) : RS := stageO (rS3 xs) 8 fun D a e => (listR readD xs 8 a e).map fun r => ({ D with dBlocks := r.1 }, r.2)
noncomputable def rS5 (xs : List UInt8) : RS := stageO (rS4 xs) 16 fun D a e => (readVL xs 20 a e).map fun r => ({ D with dVotes := r.1 }, r.2)
noncomputable def rS6 (xs : List UInt8) : RS := stageO (rS5 xs) 32 fun D a e => (listR cutRd xs 4 a e).map fun r => ({ D with dCuts := r.1 }, r.2)
noncomputable def rS7 (xs : List UInt8) : RS := stageO (rS6 xs) 64 fun D a e => (listR certRd xs 2 a e).map fun r => ({ D with dCerts := r.1 }, r.2)
theorem bad7 {xs : List UInt8} (h : rS7 xs = none) : rS7 xs = none := h
theorem bad6 {xs : List UInt8} (h : rS6 xs = none) : rS7 xs = none := stageO_none h
theorem bad5 {xs : List UInt8} (h : rS5 xs = none) : rS7 xs = none := bad6 (stageO_none h)
theorem bad4 {xs : List UInt8} (h : rS4 xs = none) : rS7 xs = none := bad5 (stageO_none h)
theorem bad3 {xs : List UInt8} (h : rS3 xs = none) : rS7 xs = none := bad4 (stageO_none h)
theorem bad2 {xs : List UInt8} (h : rS2 xs = none) : rS7 xs = none := bad3 (stageO_none h)
theorem bad1 {xs : List UInt8} (h : rS1 xs = none) : rS7 xs = none := bad2 (stageO_none h)
theorem bad0 {xs : List UInt8} (h : rS0 xs = none) : rS7 xs = none := bad1 (stageO_none h)
def dmz : DMsg := dz 0 0
noncomputable def msgFin (n : Nat) : RS → DMsg × Int
  | some (D, a, e) => if endR n a e = 0 ∧ D.check = 0 then (D, 0) else (dmz, 4)
  | none => (dmz, 4)
noncomputable def msgRd (xs : List UInt8) : DMsg × Int := msgFin xs.length (rS7 xs)
theorem msgFin_none (n : Nat) : msgFin n none = (dmz, 4) := rfl
theorem msgFin_some (n : Nat) (D : DMsg) (a : Nat) (e : Int) : msgFin n (some (D, a, e)) = if endR n a e = 0 ∧ D.check = 0 then (D, 0) else (dmz, 4) := rfl
theorem msgRd_none {xs : List UInt8} (h : rS7 xs = none) : msgRd xs = (dmz, 4) := by unfold msgRd; rw [h, msgFin_none]
theorem msgRd_bad {xs : List UInt8} {D : DMsg} {a : Nat} {e : Int} (h : rS7 xs = some (D, a, e)) (hb : ¬ (endR xs.length a e = 0 ∧ D.check = 0)) : msgRd xs = (dmz, 4) := by
  unfold msgRd; rw [h, msgFin_some]; exact if_neg hb
theorem msgRd_ok {xs : List UInt8} {D : DMsg} {a : Nat} {e : Int} (h : rS7 xs = some (D, a, e)) (hb : endR xs.length a e = 0 ∧ D.check = 0) : msgRd xs = (D, 0) := by
  unfold msgRd; rw [h, msgFin_some]; exact if_pos hb
def MsgRead (xs : List UInt8) (v : Value) (out : List Blk) : Prop := ∃ m : Msg, m.ok ∧ v = .tuple #[agg m.cells, i64 (msgRd xs).2] ∧ ∀ W2, Lies out W2 → MsgIs W2 m (msgRd xs).1
theorem msg_zero_is (W : World) : MsgIs W Msg.zero dmz := mz_is 0 0 rfl
theorem msg_badR {xs : List UInt8} {out : List Blk} (h : msgRd xs = (dmz, 4)) : MsgRead xs (.tuple #[agg Msg.zero.cells, i64 4]) out :=
  ⟨Msg.zero, ⟨trivial⟩, by rw [h], fun W2 _ => by rw [h]; exact msg_zero_is W2⟩
theorem msg_okR {xs : List UInt8} {out : List Blk} {m : Msg} {D : DMsg} (h : msgRd xs = (D, 0)) (hm : ∀ W2, Lies out W2 → MsgIs W2 m D) : MsgRead xs (.tuple #[agg m.cells, i64 0]) out :=
  ⟨m, ⟨trivial⟩, by rw [h], fun W2 hl => by rw [h]; exact hm W2 hl⟩
structure RSt where
  b : Bool
  m : Msg
  D : DMsg
  a : Nat
  e : Int
  bl : List Blk
structure RJ (k : Int) (st : RS) (N : Nat) (p : RSt) : Prop where
  a : p.a ≤ N
  yes : p.b = true → st = some (p.D, p.a, p.e) ∧ p.D.dKind = k ∧ ∀ W2, Lies p.bl W2 → MsgIs W2 p.m p.D
  no : p.b = false → st = none
theorem RJ.good {k : Int} {st : RS} {N : Nat} {m : Msg} {D : DMsg} {a : Nat} {e : Int} {bl : List Blk} (ha : a ≤ N) (h1 : st = some (D, a, e)) (h2 : D.dKind = k) (h3 : ∀ W2, Lies bl W2 → MsgIs W2 m D) : RJ k st N ⟨true, m, D, a, e, bl⟩ := ⟨ha, fun _ => ⟨h1, h2, h3⟩, fun h => by cases h⟩
theorem RJ.fail {k : Int} {st : RS} {N : Nat} {m : Msg} {D : DMsg} {a : Nat} {e : Int} {bl : List Blk} (ha : a ≤ N) (h1 : st = none) : RJ k st N ⟨false, m, D, a, e, bl⟩ := ⟨ha, fun h => (by cases h), fun _ => h1⟩

theorem MsgIs.putHeads {W : World} {m : Msg} {D : DMsg} (h : MsgIs W m D) {s : Sl} {ds : List (List UInt8)} (hr : RowsAt W s 32 ds) : MsgIs W { m with fHeads := s } { D with dHeads := ds } := ⟨⟨trivial⟩, h.fKind, h.wKind, h.fHeight, hr, h.fWant, h.fBlocks, h.fVotes, h.fCuts, h.fCerts⟩

theorem MsgIs.putWant {W : World} {m : Msg} {D : DMsg} (h : MsgIs W m D) {s : Sl} {ds : List (List UInt8)} (hr : RowsAt W s 32 ds) : MsgIs W { m with fWant := s } { D with dWant := ds } := ⟨⟨trivial⟩, h.fKind, h.wKind, h.fHeight, h.fHeads, hr, h.fBlocks, h.fVotes, h.fCuts, h.fCerts⟩

theorem MsgIs.putBlocks {W : World} {m : Msg} {D : DMsg} (h : MsgIs W m D) {s : Sl} {ds : List DB} (hr : BlocksAt W s ds) : MsgIs W { m with fBlocks := s } { D with dBlocks := ds } := ⟨⟨trivial⟩, h.fKind, h.wKind, h.fHeight, h.fHeads, h.fWant, hr, h.fVotes, h.fCuts, h.fCerts⟩

theorem MsgIs.putVotes {W : World} {m : Msg} {D : DMsg} (h : MsgIs W m D) {s : Sl} {ds : List Vote} (hr : VotesAt W s ds) : MsgIs W { m with fVotes := s } { D with dVotes := ds } := ⟨⟨trivial⟩, h.fKind, h.wKind, h.fHeight, h.fHeads, h.fWant, h.fBlocks, hr, h.fCuts, h.fCerts⟩

theorem MsgIs.putCuts {W : World} {m : Msg} {D : DMsg} (h : MsgIs W m D) {s : Sl} {ds : List DCut} (hr : CutsAt W s ds) : MsgIs W { m with fCuts := s } { D with dCuts := ds } := ⟨⟨trivial⟩, h.fKind, h.wKind, h.fHeight, h.fHeads, h.fWant, h.fBlocks, h.fVotes, hr, h.fCerts⟩

theorem MsgIs.putCerts {W : World} {m : Msg} {D : DMsg} (h : MsgIs W m D) {s : Sl} {ds : List DCert} (hr : CertsAt W s ds) : MsgIs W { m with fCerts := s } { D with dCerts := ds } := ⟨⟨trivial⟩, h.fKind, h.wKind, h.fHeight, h.fHeads, h.fWant, h.fBlocks, h.fVotes, h.fCuts, hr⟩

theorem MsgIs.putHeight {W : World} {m : Msg} {D : DMsg} (h : MsgIs W m D) (x : UInt64) : MsgIs W { m with fHeight := x } { D with dHeight := x } := ⟨⟨trivial⟩, h.fKind, h.wKind, rfl, h.fHeads, h.fWant, h.fBlocks, h.fVotes, h.fCuts, h.fCerts⟩
theorem rd_Word1 (n q N cp at' : Nat) (e : Int) (xs : List UInt8) (hx : xs.length = N) (hat : at' ≤ N) (hN : N ≤ cp) (hbig : N ≤ 1000000) (x : UInt64) (a1 : Nat) (e1 : Int) (h : wordR xs at' e = (x, a1, e1)) : Meets Tryz.prog 92 [ptr n 0, i64 1] [n] (fun W => BlkOk W (RB n q N cp at' e) ∧ Cb W q 0 (Ab xs) ∧ q ≠ n) (fun v out => v = u64 x ∧ out = [RB n q N cp a1 e1]) := by
  unfold wordR at h
  by_cases he : e = 0
  · subst he
    rw [if_neg sP] at h
    by_cases hk : xs.length < at' + 1
    · rw [if_pos hk] at h
      cases h
      exact rd_word_more n q N cp at' xs hx hat hN hbig oM
    · rw [if_neg hk] at h
      cases h
      exact rd_word_ok n q N cp at' xs hx hat hN hbig oM
  · rw [if_pos he] at h
    cases h
    exact rd_word_err n q N cp at' e xs hx hat hN hbig he
theorem wordE_le {xs : List UInt8} {x : UInt64} {a a1 N : Nat} {e e1 : Int} (h : wordR xs a e = (x, a1, e1)) (hx : xs.length = N) (hat : a ≤ N) : a1 ≤ N ∧ x.toNat ≤ 255 := by
  unfold wordR at h
  split at h
  · cases h; exact ⟨hat, by decide⟩
  · split at h
    · cases h; exact ⟨hat, by decide⟩
    · cases h
      have := (xs.getD a 0).toNat_lt
      exact ⟨by omega, by rw [UInt8.toNat_toUInt64]; omega⟩
theorem wf_byte {x : UInt64} (h : x.toNat ≤ 255) : (Lit.int .i64 (x.toNat : Int)).wf = true := by
  have e1 : IntKind.i64.min = -9223372036854775808 := rfl
  have e2 : IntKind.i64.max = 9223372036854775807 := rfl
  simp [Lit.wf]
  omega

theorem sync_read (a : Option Addr) (n c : Nat) (xs : List UInt8) (hl : xs.length = n) (hp : a = none → n = 0) (hn : n ≤ 90000) : Meets Tryz.prog 26 [.slice a n c] [] (fun W => SeesP W a (Ab xs)) (MsgRead xs) := by
 intro W hW
 obtain ⟨x0, r0, h0⟩ : ∃ l r, wordR xs 0 0 = (l, r) := ⟨_, _, rfl⟩
 obtain ⟨a0, e0⟩ := r0
 have hw := wordE_le h0 hl (Nat.zero_le _)
 have ha0 := hw.1
 obtain ⟨kk, hkk⟩ : ∃ k : Int, (x0.toNat : Int) = k := ⟨_, rfl⟩
 refine An Tryz.func26 rfl 118 Tryz.ntmps26 rfl ?_
 refine Sat.seq (Sat.region ?_)
 refine Tr.alloc (cs := Msg.zero.cells) rfl Msg.zr rfl ?_
 intro n2 hn2 hf2
 refine Tr.a rfl rfl rfl ?_
 refine Tr.nil (Aa (Sat.seq (Sat.region ?_)))
 refine Tr.m rfl rfl rfl ?_
 refine Tr.call4 rfl rfl rfl rfl rfl Body91 (oct_Read a n c xs hl hp hn) (fun w h => Aw h rfl hW) ?_
 rintro v9 out9 ⟨n9, q9, cp9, rfl, hcp9, rfl⟩
 refine Tr.nd (fun hnd => ?_)
 have hne : q9 ≠ n9 := by intro e; simp [RB, e] at hnd
 clear hnd
 refine Tr.a rfl rfl rfl ?_
 refine Tr.nil (Aa (Sat.seq (Sat.region ?_)))
 refine Tr.m rfl rfl rfl ?_
 refine Tr.callL (L := [RB n9 q9 n cp9 0 0]) rfl rfl rfl rfl rfl Body92 (rd_Word1 n9 q9 n cp9 0 0 xs hl (Nat.zero_le _) hcp9 oM x0 a0 e0 h0) (Ac rM Ad) (A0 rfl) (fun w h => ⟨Ai h mM, Ap h mM, hne⟩) ?_
 rintro v11 out11 ⟨rfl, rfl⟩
 refine Tr.conv rfl rfl rfl Y48 Y3 (cv_u64_i64 oM) ?_
 rw [hkk]
 refine Tr.build (cs := (mz kk 0).cells) rfl rfl rfl (fun w => by kernel_rfl) ?_
 refine Tr.alloc (cs := Msg.zero.cells) rfl Msg.zr rfl ?_
 intro n5 hn5 hf5
 refine Tr.sA rfl rfl rfl rfl (Msg.isCell (by first | exact oK  | exact ⟨trivial⟩)) Sz57 (Msg.length (by first | exact oK  | exact ⟨trivial⟩)) mM (Msg.length (by first | exact oK  | exact ⟨trivial⟩)) uU ?_
 refine Tr.nil (Aa (Sat.seq (Sat.region ?_)))
 refine Tr.fld rfl rfl rfl Y57 rfl Sz3 dE _ rfl ?_
 refine Tr.load1 rfl rfl rfl Y3 rfl mM (by first | exact Msg.get_fKind (by first | exact oK  | exact ⟨trivial⟩) | exact vL) ?_
 refine Tr.cV rfl rfl rfl rfl Body93 (sync_parts kk) tV ?_
 refine Tr.a rfl rfl rfl ?_
 refine Tr.nil (Aa (Sat.seq (Sat.region ?_)))
 refine Tr.m rfl rfl rfl ?_
 refine two (fun r hr k => Tr.nei rfl rfl rfl rfl hr k) (fun hs4_10 => ?_) (fun hs4_10 => ?_)
 ·
  first | have hs4_1 := of_decide_eq_true hs4_10 | have hs4_1 := of_decide_eq_false hs4_10 | have hs4_1 := A2 hs4_10 | have hs4_1 := A3 hs4_10 | have hs4_1 := hs4_10
  have hst0 : rS0 xs = some (dz kk 0, a0, e0) := by
   unfold rS0
   rw [h0]
   dsimp only
   rw [hkk]
   exact if_neg hs4_1
  have hkd0 : (dz kk 0).dKind = kk := rfl
  have hm0 : ∀ W2, Lies [] W2 → MsgIs W2 (mz kk 0) (dz kk 0) := fun W2 _ => mz_is kk 0 (by rw [← hkk]; exact wf_byte hw.2)
  refine Tr.a rfl rfl rfl ?_
  refine Tr.nil (Aa ?_)
  refine Sat.join (ι := RSt) (fun p1 => ⟨[(2, ptr n2 0), (3, i64 0), (4, ptr n9 0), (5, ptr n5 0), (6, i64 (As kk)), (7, .bool p1.b)], (RB n9 q9 n cp9 p1.a p1.e :: (⟨q9, Ab xs, 5, cp9 * 1⟩ :: (⟨n2, Msg.zero.cells, 57, 8⟩ :: (⟨n5, p1.m.cells, 57, 8⟩ :: (p1.bl ++ [])))))⟩) (fun p1 => RJ kk (rS1 xs) n p1) ?_ ?_
  ·
   refine Sat.seq (Sat.region ?_)
   refine Tr.m rfl rfl rfl ?_
   refine Tr.m rfl rfl rfl ?_
   refine Tr.m rfl rfl rfl ?_
   refine Tr.and_i64 rfl rfl rfl rfl ?_
   refine two (fun r hr k => Tr.nei rfl rfl rfl rfl hr k) (fun hs5_40 => ?_) (fun hs5_40 => ?_)
   ·
    first | have hs5_4 := of_decide_eq_true hs5_40 | have hs5_4 := of_decide_eq_false hs5_40 | have hs5_4 := A2 hs5_40 | have hs5_4 := A3 hs5_40 | have hs5_4 := hs5_40
    refine Tr.pick rfl rfl rfl rfl rfl rfl ?_
    refine Tr.nil (Aa ?_)
    refine Sat.cond_t rfl rfl ?_
    refine Sat.region ?_
    refine Tr.m rfl rfl rfl ?_
    obtain ⟨x1, r1, h1⟩ : ∃ l r, Bg xs a0 e0 = (l, r) := ⟨_, _, rfl⟩
    obtain ⟨a_1, e_1⟩ := r1
    have hle1 := numE_le h1 hl ha0
    refine Tr.callL (L := [RB n9 q9 n cp9 a0 e0]) rfl rfl rfl rfl rfl Body94 (rd_NumberE n9 q9 n cp9 a0 e0 xs hl ha0 hcp9 oM x1 a_1 e_1 h1) (Ac rM Ad) (A0 rfl) (fun w h => ⟨Ai h mM, Ap h mM, hne⟩) ?_
    rintro v26 out26 ⟨rfl, rfl⟩
    refine Tr.fld rfl rfl rfl Y57 rfl B1 dE _ rfl ?_
    refine Tr.s1 rfl rfl rfl rfl rfl B1 mM (by rw [Msg.length (by first | exact oK  | exact ⟨trivial⟩)]; decide) (Msg.set_fHeight (by first | exact oK  | exact ⟨trivial⟩) _) uU ?_
    refine Tr.nil (Aa ?_)
    first
     | exact ⟨⟨true, (mz kk 0), (dz kk 0), a0, e0, []⟩, RJ.good ha0 (Bq hst0 (by rw [hkd0]; exact hs5_4)) hkd0 hm0, Af (wk1 rfl (wk1 rfl (wk1 rfl (wk1 rfl (wk1 rfl (wk1 rfl wk0)))))) (Ac rM (Ac rM (Ac rM (Ac rM (Bl Ad)))))⟩
     | exact ⟨⟨true, { mz kk 0 with fHeight := x1 }, { dz kk 0 with dHeight := x1 }, a_1, e_1, []⟩, RJ.good hle1 ((Ax hst0 hs5_4).trans (by rw [h1])) rfl (fun W2 hl => (hm0 W2 hl).putHeight x1), Af (wk1 rfl (wk1 rfl (wk1 rfl (wk1 rfl (wk1 rfl (wk1 rfl wk0)))))) (Ac rM (Ac rM (Ac rM (Ac rM (Bl Ad)))))⟩
   ·
    first | have hs5_4 := of_decide_eq_true hs5_40 | have hs5_4 := of_decide_eq_false hs5_40 | have hs5_4 := A2 hs5_40 | have hs5_4 := A3 hs5_40 | have hs5_4 := hs5_40
    refine Tr.pick rfl rfl rfl rfl rfl rfl ?_
    refine Tr.nil (Aa ?_)
    refine Sat.cond_f rfl rfl ?_
    refine Sat.skip (Aa ?_)
    first
     | exact ⟨⟨true, (mz kk 0), (dz kk 0), a0, e0, []⟩, RJ.good ha0 (Bq hst0 (by rw [hkd0]; exact hs5_4)) hkd0 hm0, Af (wk1 rfl (wk1 rfl (wk1 rfl (wk1 rfl (wk1 rfl (wk1 rfl wk0)))))) (Ac rM (Ac rM (Ac rM (Ac rM (Bl Ad)))))⟩
     | exact ⟨⟨true, { mz kk 0 with fHeight := x1 }, { dz kk 0 with dHeight := x1 }, a_1, e_1, []⟩, RJ.good hle1 ((Ax hst0 hs5_4).trans (by rw [h1])) rfl (fun W2 hl => (hm0 W2 hl).putHeight x1), Af (wk1 rfl (wk1 rfl (wk1 rfl (wk1 rfl (wk1 rfl (wk1 rfl wk0)))))) (Ac rM (Ac rM (Ac rM (Ac rM (Bl Ad)))))⟩
  ·
   intro p1 hj
   obtain ⟨b1, m1, D1, a1, e1, bl1⟩ := p1
   cases b1
   rotate_left
   ·
    have ha1 := hj.a
    obtain ⟨hst1, hkd1, hm1⟩ := hj.yes rfl
    dsimp only at ha1 hst1 hkd1 hm1 ⊢
    refine Sat.join (ι := RSt) (fun p2 => ⟨[(2, ptr n2 0), (3, i64 0), (4, ptr n9 0), (5, ptr n5 0), (6, i64 (As kk)), (7, .bool p2.b)], (RB n9 q9 n cp9 p2.a p2.e :: (⟨q9, Ab xs, 5, cp9 * 1⟩ :: (⟨n2, Msg.zero.cells, 57, 8⟩ :: (⟨n5, p2.m.cells, 57, 8⟩ :: (p2.bl ++ [])))))⟩) (fun p2 => RJ kk (rS2 xs) n p2) ?_ ?_
    ·
     refine Sat.seq (Sat.region ?_)
     refine Tr.m rfl rfl rfl ?_
     refine Tr.m rfl rfl rfl ?_
     refine Tr.m rfl rfl rfl ?_
     refine Tr.and_i64 rfl rfl rfl rfl ?_
     refine two (fun r hr k => Tr.nei rfl rfl rfl rfl hr k) (fun hs7_40 => ?_) (fun hs7_40 => ?_)
     ·
      first | have hs7_4 := of_decide_eq_true hs7_40 | have hs7_4 := of_decide_eq_false hs7_40 | have hs7_4 := A2 hs7_40 | have hs7_4 := A3 hs7_40 | have hs7_4 := hs7_40
      refine Tr.pick rfl rfl rfl rfl rfl rfl ?_
      refine Tr.nil (Aa ?_)
      refine Sat.cond_t rfl rfl ?_
      refine Sat.region ?_
      refine Tr.m rfl rfl rfl ?_
      refine Tr.callL (L := [RB n9 q9 n cp9 a1 e1]) rfl rfl rfl rfl rfl Body95 (read_digests n9 q9 n cp9 a1 e1 32 xs hl ha1 hcp9 hn dE) (Ac rM Ad) (A0 rfl) (fun w h => ⟨Ai h mM, Ap h mM, hne⟩) ?_
      rintro v2_ out2_ ⟨s2, bl_2, a_2, e_2, hle2, rfl, rfl, hv2⟩
      try simp only [List.append_assoc, List.cons_append, List.nil_append]
      refine Tr.m rfl rfl rfl ?_
      refine Tr.eX rfl rfl rfl rfl ?_
      refine Tr.extractB rfl rfl rfl rfl (fun hs8_40 => ?_) (fun hs8_40 => ?_)
      ·
       first | have hs8_4 := of_decide_eq_true hs8_40 | have hs8_4 := of_decide_eq_false hs8_40 | have hs8_4 := A2 hs8_40 | have hs8_4 := A3 hs8_40 | have hs8_4 := hs8_40
       obtain ⟨r, hr2⟩ := Option.isSome_iff_exists.1 hs8_4
       obtain ⟨vs2, x_2, y_2⟩ := r
       obtain ⟨rfl, rfl, hvn2, hl322, hac2⟩ := hv2 _ _ _ hr2
       refine Tr.fld rfl rfl rfl Y57 rfl Sz51 dE _ rfl ?_
       refine Tr.s1 rfl rfl rfl rfl rfl Sz51 mM (by rw [Msg.length (by first | exact oK  | exact ⟨trivial⟩)]; decide) (by first | exact Msg.set_fHeads (by first | exact oK  | exact ⟨trivial⟩) _ | exact Msg.setS_fHeads (by first | exact oK  | exact ⟨trivial⟩) _ _ _) uU ?_
       refine Tr.a rfl rfl rfl ?_
       refine Tr.nil (Aa ?_)
       first
        | exact ⟨⟨true, m1, D1, a1, e1, bl1⟩, RJ.good ha1 (Bq hst1 (by rw [hkd1]; exact hs7_4)) hkd1 hm1, Af (wk1 rfl (wk1 rfl (wk1 rfl (wk1 rfl (wk1 rfl (wk1 rfl wk0)))))) (Ac rM (Ac rM (Ac rM (Ac rM (Ah sG Ad)))))⟩
        | exact ⟨⟨true, { m1 with fHeads := s2 }, { D1 with dHeads := vs2 }, a_2, e_2, bl_2 ++ bl1⟩, RJ.good hle2 ((Ax hst1 (by rw [hkd1]; exact hs7_4)).trans (by rw [hr2]; rfl)) hkd1 (fun W2 hl => (hm1 W2 (hl.sub iN)).putHeads (acc_rows hac2 (hl.sub iN) hl322 rfl oM)), Af (wk1 rfl (wk1 rfl (wk1 rfl (wk1 rfl (wk1 rfl (wk1 rfl wk0)))))) (Ac rM (Ac rM (Ac rM (Ac rM (B4 (Ah sG (Ah sG Ad)))))))⟩
        | exact ⟨⟨false, { m1 with fHeads := s2 }, D1, a_2, e_2, []⟩, RJ.fail hle2 ((Ax hst1 (by rw [hkd1]; exact hs7_4)).trans (by rw [hr2]; rfl)), Af (wk1 rfl (wk1 rfl (wk1 rfl (wk1 rfl (wk1 rfl (wk1 rfl wk0)))))) (Ac rM (Ac rM (Ac rM (Ac rM (Bl Ad)))))⟩
      ·
       first | have hs8_4 := of_decide_eq_true hs8_40 | have hs8_4 := of_decide_eq_false hs8_40 | have hs8_4 := A2 hs8_40 | have hs8_4 := A3 hs8_40 | have hs8_4 := hs8_40
       have hr2 : dlistR xs 32 a1 e1 = none := by simpa using hs8_4
       refine Tr.fld rfl rfl rfl Y57 rfl Sz51 dE _ rfl ?_
       refine Tr.s1 rfl rfl rfl rfl rfl Sz51 mM (by rw [Msg.length (by first | exact oK  | exact ⟨trivial⟩)]; decide) (by first | exact Msg.set_fHeads (by first | exact oK  | exact ⟨trivial⟩) _ | exact Msg.setS_fHeads (by first | exact oK  | exact ⟨trivial⟩) _ _ _) uU ?_
       refine Tr.a rfl rfl rfl ?_
       refine Tr.nil (Aa ?_)
       first
        | exact ⟨⟨true, m1, D1, a1, e1, bl1⟩, RJ.good ha1 (Bq hst1 (by rw [hkd1]; exact hs7_4)) hkd1 hm1, Af (wk1 rfl (wk1 rfl (wk1 rfl (wk1 rfl (wk1 rfl (wk1 rfl wk0)))))) (Ac rM (Ac rM (Ac rM (Ac rM (Ah sG Ad)))))⟩
        | exact ⟨⟨true, { m1 with fHeads := s2 }, { D1 with dHeads := vs2 }, a_2, e_2, bl_2 ++ bl1⟩, RJ.good hle2 ((Ax hst1 (by rw [hkd1]; exact hs7_4)).trans (by rw [hr2]; rfl)) hkd1 (fun W2 hl => (hm1 W2 (hl.sub iN)).putHeads (acc_rows hac2 (hl.sub iN) hl322 rfl oM)), Af (wk1 rfl (wk1 rfl (wk1 rfl (wk1 rfl (wk1 rfl (wk1 rfl wk0)))))) (Ac rM (Ac rM (Ac rM (Ac rM (B4 (Ah sG (Ah sG Ad)))))))⟩
        | exact ⟨⟨false, { m1 with fHeads := s2 }, D1, a_2, e_2, []⟩, RJ.fail hle2 ((Ax hst1 (by rw [hkd1]; exact hs7_4)).trans (by rw [hr2]; rfl)), Af (wk1 rfl (wk1 rfl (wk1 rfl (wk1 rfl (wk1 rfl (wk1 rfl wk0)))))) (Ac rM (Ac rM (Ac rM (Ac rM (Bl Ad)))))⟩
     ·
      first | have hs7_4 := of_decide_eq_true hs7_40 | have hs7_4 := of_decide_eq_false hs7_40 | have hs7_4 := A2 hs7_40 | have hs7_4 := A3 hs7_40 | have hs7_4 := hs7_40
      refine Tr.pick rfl rfl rfl rfl rfl rfl ?_
      refine Tr.nil (Aa ?_)
      refine Sat.cond_f rfl rfl ?_
      refine Sat.skip (Aa ?_)
      first
       | exact ⟨⟨true, m1, D1, a1, e1, bl1⟩, RJ.good ha1 (Bq hst1 (by rw [hkd1]; exact hs7_4)) hkd1 hm1, Af (wk1 rfl (wk1 rfl (wk1 rfl (wk1 rfl (wk1 rfl (wk1 rfl wk0)))))) (Ac rM (Ac rM (Ac rM (Ac rM (Ah sG Ad)))))⟩
       | exact ⟨⟨true, { m1 with fHeads := s2 }, { D1 with dHeads := vs2 }, a_2, e_2, bl_2 ++ bl1⟩, RJ.good hle2 ((Ax hst1 (by rw [hkd1]; exact hs7_4)).trans (by rw [hr2]; rfl)) hkd1 (fun W2 hl => (hm1 W2 (hl.sub iN)).putHeads (acc_rows hac2 (hl.sub iN) hl322 rfl oM)), Af (wk1 rfl (wk1 rfl (wk1 rfl (wk1 rfl (wk1 rfl (wk1 rfl wk0)))))) (Ac rM (Ac rM (Ac rM (Ac rM (B4 (Ah sG (Ah sG Ad)))))))⟩
       | exact ⟨⟨false, { m1 with fHeads := s2 }, D1, a_2, e_2, []⟩, RJ.fail hle2 ((Ax hst1 (by rw [hkd1]; exact hs7_4)).trans (by rw [hr2]; rfl)), Af (wk1 rfl (wk1 rfl (wk1 rfl (wk1 rfl (wk1 rfl (wk1 rfl wk0)))))) (Ac rM (Ac rM (Ac rM (Ac rM (Bl Ad)))))⟩
    ·
     intro p2 hj
     obtain ⟨b2, m2, D2, a2, e2, bl2⟩ := p2
     cases b2
     rotate_left
     ·
      have ha2 := hj.a
      obtain ⟨hst2, hkd2, hm2⟩ := hj.yes rfl
      dsimp only at ha2 hst2 hkd2 hm2 ⊢
      refine Sat.join (ι := RSt) (fun p3 => ⟨[(2, ptr n2 0), (3, i64 0), (4, ptr n9 0), (5, ptr n5 0), (6, i64 (As kk)), (7, .bool p3.b)], (RB n9 q9 n cp9 p3.a p3.e :: (⟨q9, Ab xs, 5, cp9 * 1⟩ :: (⟨n2, Msg.zero.cells, 57, 8⟩ :: (⟨n5, p3.m.cells, 57, 8⟩ :: (p3.bl ++ [])))))⟩) (fun p3 => RJ kk (rS3 xs) n p3) ?_ ?_
      ·
       refine Sat.seq (Sat.region ?_)
       refine Tr.m rfl rfl rfl ?_
       refine Tr.m rfl rfl rfl ?_
       refine Tr.m rfl rfl rfl ?_
       refine Tr.and_i64 rfl rfl rfl rfl ?_
       refine two (fun r hr k => Tr.nei rfl rfl rfl rfl hr k) (fun hs9_40 => ?_) (fun hs9_40 => ?_)
       ·
        first | have hs9_4 := of_decide_eq_true hs9_40 | have hs9_4 := of_decide_eq_false hs9_40 | have hs9_4 := A2 hs9_40 | have hs9_4 := A3 hs9_40 | have hs9_4 := hs9_40
        refine Tr.pick rfl rfl rfl rfl rfl rfl ?_
        refine Tr.nil (Aa ?_)
        refine Sat.cond_t rfl rfl ?_
        refine Sat.region ?_
        refine Tr.m rfl rfl rfl ?_
        refine Tr.callL (L := [RB n9 q9 n cp9 a2 e2]) rfl rfl rfl rfl rfl Body95 (read_digests n9 q9 n cp9 a2 e2 32 xs hl ha2 hcp9 hn dE) (Ac rM Ad) (A0 rfl) (fun w h => ⟨Ai h mM, Ap h mM, hne⟩) ?_
        rintro v3_ out3_ ⟨s3, bl_3, a_3, e_3, hle3, rfl, rfl, hv3⟩
        try simp only [List.append_assoc, List.cons_append, List.nil_append]
        refine Tr.m rfl rfl rfl ?_
        refine Tr.eX rfl rfl rfl rfl ?_
        refine Tr.extractB rfl rfl rfl rfl (fun hs10_40 => ?_) (fun hs10_40 => ?_)
        ·
         first | have hs10_4 := of_decide_eq_true hs10_40 | have hs10_4 := of_decide_eq_false hs10_40 | have hs10_4 := A2 hs10_40 | have hs10_4 := A3 hs10_40 | have hs10_4 := hs10_40
         obtain ⟨r, hr3⟩ := Option.isSome_iff_exists.1 hs10_4
         obtain ⟨vs3, x_3, y_3⟩ := r
         obtain ⟨rfl, rfl, hvn3, hl323, hac3⟩ := hv3 _ _ _ hr3
         refine Tr.fld rfl rfl rfl Y57 rfl Sz51 dE _ rfl ?_
         refine Tr.s1 rfl rfl rfl rfl rfl Sz51 mM (by rw [Msg.length (by first | exact oK  | exact ⟨trivial⟩)]; decide) (by first | exact Msg.set_fWant (by first | exact oK  | exact ⟨trivial⟩) _ | exact Msg.setS_fWant (by first | exact oK  | exact ⟨trivial⟩) _ _ _) uU ?_
         refine Tr.a rfl rfl rfl ?_
         refine Tr.nil (Aa ?_)
         first
          | exact ⟨⟨true, m2, D2, a2, e2, bl2⟩, RJ.good ha2 (Bq hst2 (by rw [hkd2]; exact hs9_4)) hkd2 hm2, Af (wk1 rfl (wk1 rfl (wk1 rfl (wk1 rfl (wk1 rfl (wk1 rfl wk0)))))) (Ac rM (Ac rM (Ac rM (Ac rM (Ah sG Ad)))))⟩
          | exact ⟨⟨true, { m2 with fWant := s3 }, { D2 with dWant := vs3 }, a_3, e_3, bl_3 ++ bl2⟩, RJ.good hle3 ((Ax hst2 (by rw [hkd2]; exact hs9_4)).trans (by rw [hr3]; rfl)) hkd2 (fun W2 hl => (hm2 W2 (hl.sub iN)).putWant (acc_rows hac3 (hl.sub iN) hl323 rfl oM)), Af (wk1 rfl (wk1 rfl (wk1 rfl (wk1 rfl (wk1 rfl (wk1 rfl wk0)))))) (Ac rM (Ac rM (Ac rM (Ac rM (B4 (Ah sG (Ah sG Ad)))))))⟩
          | exact ⟨⟨false, { m2 with fWant := s3 }, D2, a_3, e_3, []⟩, RJ.fail hle3 ((Ax hst2 (by rw [hkd2]; exact hs9_4)).trans (by rw [hr3]; rfl)), Af (wk1 rfl (wk1 rfl (wk1 rfl (wk1 rfl (wk1 rfl (wk1 rfl wk0)))))) (Ac rM (Ac rM (Ac rM (Ac rM (Bl Ad)))))⟩
        ·
         first | have hs10_4 := of_decide_eq_true hs10_40 | have hs10_4 := of_decide_eq_false hs10_40 | have hs10_4 := A2 hs10_40 | have hs10_4 := A3 hs10_40 | have hs10_4 := hs10_40
         have hr3 : dlistR xs 32 a2 e2 = none := by simpa using hs10_4
         refine Tr.fld rfl rfl rfl Y57 rfl Sz51 dE _ rfl ?_
         refine Tr.s1 rfl rfl rfl rfl rfl Sz51 mM (by rw [Msg.length (by first | exact oK  | exact ⟨trivial⟩)]; decide) (by first | exact Msg.set_fWant (by first | exact oK  | exact ⟨trivial⟩) _ | exact Msg.setS_fWant (by first | exact oK  | exact ⟨trivial⟩) _ _ _) uU ?_
         refine Tr.a rfl rfl rfl ?_
         refine Tr.nil (Aa ?_)
         first
          | exact ⟨⟨true, m2, D2, a2, e2, bl2⟩, RJ.good ha2 (Bq hst2 (by rw [hkd2]; exact hs9_4)) hkd2 hm2, Af (wk1 rfl (wk1 rfl (wk1 rfl (wk1 rfl (wk1 rfl (wk1 rfl wk0)))))) (Ac rM (Ac rM (Ac rM (Ac rM (Ah sG Ad)))))⟩
          | exact ⟨⟨true, { m2 with fWant := s3 }, { D2 with dWant := vs3 }, a_3, e_3, bl_3 ++ bl2⟩, RJ.good hle3 ((Ax hst2 (by rw [hkd2]; exact hs9_4)).trans (by rw [hr3]; rfl)) hkd2 (fun W2 hl => (hm2 W2 (hl.sub iN)).putWant (acc_rows hac3 (hl.sub iN) hl323 rfl oM)), Af (wk1 rfl (wk1 rfl (wk1 rfl (wk1 rfl (wk1 rfl (wk1 rfl wk0)))))) (Ac rM (Ac rM (Ac rM (Ac rM (B4 (Ah sG (Ah sG Ad)))))))⟩
          | exact ⟨⟨false, { m2 with fWant := s3 }, D2, a_3, e_3, []⟩, RJ.fail hle3 ((Ax hst2 (by rw [hkd2]; exact hs9_4)).trans (by rw [hr3]; rfl)), Af (wk1 rfl (wk1 rfl (wk1 rfl (wk1 rfl (wk1 rfl (wk1 rfl wk0)))))) (Ac rM (Ac rM (Ac rM (Ac rM (Bl Ad)))))⟩
       ·
        first | have hs9_4 := of_decide_eq_true hs9_40 | have hs9_4 := of_decide_eq_false hs9_40 | have hs9_4 := A2 hs9_40 | have hs9_4 := A3 hs9_40 | have hs9_4 := hs9_40
        refine Tr.pick rfl rfl rfl rfl rfl rfl ?_
        refine Tr.nil (Aa ?_)
        refine Sat.cond_f rfl rfl ?_
        refine Sat.skip (Aa ?_)
        first
         | exact ⟨⟨true, m2, D2, a2, e2, bl2⟩, RJ.good ha2 (Bq hst2 (by rw [hkd2]; exact hs9_4)) hkd2 hm2, Af (wk1 rfl (wk1 rfl (wk1 rfl (wk1 rfl (wk1 rfl (wk1 rfl wk0)))))) (Ac rM (Ac rM (Ac rM (Ac rM (Ah sG Ad)))))⟩
         | exact ⟨⟨true, { m2 with fWant := s3 }, { D2 with dWant := vs3 }, a_3, e_3, bl_3 ++ bl2⟩, RJ.good hle3 ((Ax hst2 (by rw [hkd2]; exact hs9_4)).trans (by rw [hr3]; rfl)) hkd2 (fun W2 hl => (hm2 W2 (hl.sub iN)).putWant (acc_rows hac3 (hl.sub iN) hl323 rfl oM)), Af (wk1 rfl (wk1 rfl (wk1 rfl (wk1 rfl (wk1 rfl (wk1 rfl wk0)))))) (Ac rM (Ac rM (Ac rM (Ac rM (B4 (Ah sG (Ah sG Ad)))))))⟩
         | exact ⟨⟨false, { m2 with fWant := s3 }, D2, a_3, e_3, []⟩, RJ.fail hle3 ((Ax hst2 (by rw [hkd2]; exact hs9_4)).trans (by rw [hr3]; rfl)), Af (wk1 rfl (wk1 rfl (wk1 rfl (wk1 rfl (wk1 rfl (wk1 rfl wk0)))))) (Ac rM (Ac rM (Ac rM (Ac rM (Bl Ad)))))⟩
      ·
       intro p3 hj
       obtain ⟨b3, m3, D3, a3, e3, bl3⟩ := p3
       cases b3
       rotate_left
       ·
        have ha3 := hj.a
        obtain ⟨hst3, hkd3, hm3⟩ := hj.yes rfl
        dsimp only at ha3 hst3 hkd3 hm3 ⊢
        refine Sat.join (ι := RSt) (fun p4 => ⟨[(2, ptr n2 0), (3, i64 0), (4, ptr n9 0), (5, ptr n5 0), (6, i64 (As kk)), (7, .bool p4.b)], (RB n9 q9 n cp9 p4.a p4.e :: (⟨q9, Ab xs, 5, cp9 * 1⟩ :: (⟨n2, Msg.zero.cells, 57, 8⟩ :: (⟨n5, p4.m.cells, 57, 8⟩ :: (p4.bl ++ [])))))⟩) (fun p4 => RJ kk (rS4 xs) n p4) ?_ ?_
        ·
         refine Sat.seq (Sat.region ?_)
         refine Tr.m rfl rfl rfl ?_
         refine Tr.m rfl rfl rfl ?_
         refine Tr.m rfl rfl rfl ?_
         refine Tr.and_i64 rfl rfl rfl rfl ?_
         refine two (fun r hr k => Tr.nei rfl rfl rfl rfl hr k) (fun hs11_40 => ?_) (fun hs11_40 => ?_)
         ·
          first | have hs11_4 := of_decide_eq_true hs11_40 | have hs11_4 := of_decide_eq_false hs11_40 | have hs11_4 := A2 hs11_40 | have hs11_4 := A3 hs11_40 | have hs11_4 := hs11_40
          refine Tr.pick rfl rfl rfl rfl rfl rfl ?_
          refine Tr.nil (Aa ?_)
          refine Sat.cond_t rfl rfl ?_
          refine Sat.region ?_
          refine Tr.m rfl rfl rfl ?_
          refine Tr.call4 rfl rfl rfl rfl rfl Body98 (mk_item_block) tV ?_
          rintro v60 out60 ⟨c60, rfl, rfl⟩
          refine Tr.nd (fun hnd => ?_)
          have hcn60 : c60 ≠ n9 := by intro e; simp [RB, e] at hnd
          clear hnd
          try simp only [List.append_assoc, List.cons_append, List.nil_append]
          refine Tr.callL (L := [RB n9 q9 n cp9 a3 e3]) rfl rfl rfl rfl rfl Body97 (read_blocks n9 q9 n cp9 a3 e3 c60 8 xs hl ha3 hcp9 hn hcn60 dE) (Ac rM Ad) (A0 rfl) (fun w h => ⟨Ai h mM, Ap h mM, hne, (Ai (B := ⟨c60, _, _, _⟩) h mM).cell (o := 0) rfl⟩) ?_
          rintro v4_ out4_ ⟨s4, bl_4, o_4, rs_4, a_4, e_4, hle4, rfl, rfl, hv4⟩
          try simp only [List.append_assoc, List.cons_append, List.nil_append]
          refine Tr.m rfl rfl rfl ?_
          refine Tr.eX rfl rfl rfl rfl ?_
          refine Tr.extractB rfl rfl rfl rfl (fun hs12_50 => ?_) (fun hs12_50 => ?_)
          ·
           first | have hs12_5 := of_decide_eq_true hs12_50 | have hs12_5 := of_decide_eq_false hs12_50 | have hs12_5 := A2 hs12_50 | have hs12_5 := A3 hs12_50 | have hs12_5 := hs12_50
           obtain ⟨r, hr4⟩ := Option.isSome_iff_exists.1 hs12_5
           obtain ⟨vs4, x_4, y_4⟩ := r
           obtain ⟨rfl, rfl, hvn4, hos4⟩ := hv4 _ _ _ hr4
           refine Tr.fld rfl rfl rfl Y57 rfl Sz22 dE _ rfl ?_
           refine Tr.s1 rfl rfl rfl rfl rfl Sz22 mM (by rw [Msg.length (by first | exact oK  | exact ⟨trivial⟩)]; decide) (by first | exact Msg.set_fBlocks (by first | exact oK  | exact ⟨trivial⟩) _ | exact Msg.setS_fBlocks (by first | exact oK  | exact ⟨trivial⟩) _ _ _) uU ?_
           refine Tr.a rfl rfl rfl ?_
           refine Tr.nil (Aa ?_)
           first
            | exact ⟨⟨true, m3, D3, a3, e3, bl3⟩, RJ.good ha3 (Bq hst3 (by rw [hkd3]; exact hs11_4)) hkd3 hm3, Af (wk1 rfl (wk1 rfl (wk1 rfl (wk1 rfl (wk1 rfl (wk1 rfl wk0)))))) (Ac rM (Ac rM (Ac rM (Ac rM (Ah sG Ad)))))⟩
            | exact ⟨⟨true, { m3 with fBlocks := s4 }, { D3 with dBlocks := vs4 }, a_4, e_4, bl_4 ++ (o_4 ++ bl3)⟩, RJ.good hle4 ((Ax hst3 (by rw [hkd3]; exact hs11_4)).trans (by rw [hr4]; rfl)) hkd3 (fun W2 hl => (hm3 W2 (hl.sub iN)).putBlocks (⟨_, hos4.seq (hl.sub iN) (hl.sub iN) oM⟩)), Af (wk1 rfl (wk1 rfl (wk1 rfl (wk1 rfl (wk1 rfl (wk1 rfl wk0)))))) (Ac rM (Ac rM (Ac rM (Ac rM (B4 (Ah sG (B4 (Ah sG (Ah sG Ad)))))))))⟩
            | exact ⟨⟨false, { m3 with fBlocks := s4 }, D3, a_4, e_4, []⟩, RJ.fail hle4 ((Ax hst3 (by rw [hkd3]; exact hs11_4)).trans (by rw [hr4]; rfl)), Af (wk1 rfl (wk1 rfl (wk1 rfl (wk1 rfl (wk1 rfl (wk1 rfl wk0)))))) (Ac rM (Ac rM (Ac rM (Ac rM (Bl Ad)))))⟩
          ·
           first | have hs12_5 := of_decide_eq_true hs12_50 | have hs12_5 := of_decide_eq_false hs12_50 | have hs12_5 := A2 hs12_50 | have hs12_5 := A3 hs12_50 | have hs12_5 := hs12_50
           have hr4 : listR readD xs 8 a3 e3 = none := by simpa using hs12_5
           refine Tr.fld rfl rfl rfl Y57 rfl Sz22 dE _ rfl ?_
           refine Tr.s1 rfl rfl rfl rfl rfl Sz22 mM (by rw [Msg.length (by first | exact oK  | exact ⟨trivial⟩)]; decide) (by first | exact Msg.set_fBlocks (by first | exact oK  | exact ⟨trivial⟩) _ | exact Msg.setS_fBlocks (by first | exact oK  | exact ⟨trivial⟩) _ _ _) uU ?_
           refine Tr.a rfl rfl rfl ?_
           refine Tr.nil (Aa ?_)
           first
            | exact ⟨⟨true, m3, D3, a3, e3, bl3⟩, RJ.good ha3 (Bq hst3 (by rw [hkd3]; exact hs11_4)) hkd3 hm3, Af (wk1 rfl (wk1 rfl (wk1 rfl (wk1 rfl (wk1 rfl (wk1 rfl wk0)))))) (Ac rM (Ac rM (Ac rM (Ac rM (Ah sG Ad)))))⟩
            | exact ⟨⟨true, { m3 with fBlocks := s4 }, { D3 with dBlocks := vs4 }, a_4, e_4, bl_4 ++ (o_4 ++ bl3)⟩, RJ.good hle4 ((Ax hst3 (by rw [hkd3]; exact hs11_4)).trans (by rw [hr4]; rfl)) hkd3 (fun W2 hl => (hm3 W2 (hl.sub iN)).putBlocks (⟨_, hos4.seq (hl.sub iN) (hl.sub iN) oM⟩)), Af (wk1 rfl (wk1 rfl (wk1 rfl (wk1 rfl (wk1 rfl (wk1 rfl wk0)))))) (Ac rM (Ac rM (Ac rM (Ac rM (B4 (Ah sG (B4 (Ah sG (Ah sG Ad)))))))))⟩
            | exact ⟨⟨false, { m3 with fBlocks := s4 }, D3, a_4, e_4, []⟩, RJ.fail hle4 ((Ax hst3 (by rw [hkd3]; exact hs11_4)).trans (by rw [hr4]; rfl)), Af (wk1 rfl (wk1 rfl (wk1 rfl (wk1 rfl (wk1 rfl (wk1 rfl wk0)))))) (Ac rM (Ac rM (Ac rM (Ac rM (Bl Ad)))))⟩
         ·
          first | have hs11_4 := of_decide_eq_true hs11_40 | have hs11_4 := of_decide_eq_false hs11_40 | have hs11_4 := A2 hs11_40 | have hs11_4 := A3 hs11_40 | have hs11_4 := hs11_40
          refine Tr.pick rfl rfl rfl rfl rfl rfl ?_
          refine Tr.nil (Aa ?_)
          refine Sat.cond_f rfl rfl ?_
          refine Sat.skip (Aa ?_)
          first
           | exact ⟨⟨true, m3, D3, a3, e3, bl3⟩, RJ.good ha3 (Bq hst3 (by rw [hkd3]; exact hs11_4)) hkd3 hm3, Af (wk1 rfl (wk1 rfl (wk1 rfl (wk1 rfl (wk1 rfl (wk1 rfl wk0)))))) (Ac rM (Ac rM (Ac rM (Ac rM (Ah sG Ad)))))⟩
           | exact ⟨⟨true, { m3 with fBlocks := s4 }, { D3 with dBlocks := vs4 }, a_4, e_4, bl_4 ++ (o_4 ++ bl3)⟩, RJ.good hle4 ((Ax hst3 (by rw [hkd3]; exact hs11_4)).trans (by rw [hr4]; rfl)) hkd3 (fun W2 hl => (hm3 W2 (hl.sub iN)).putBlocks (⟨_, hos4.seq (hl.sub iN) (hl.sub iN) oM⟩)), Af (wk1 rfl (wk1 rfl (wk1 rfl (wk1 rfl (wk1 rfl (wk1 rfl wk0)))))) (Ac rM (Ac rM (Ac rM (Ac rM (B4 (Ah sG (B4 (Ah sG (Ah sG Ad)))))))))⟩
           | exact ⟨⟨false, { m3 with fBlocks := s4 }, D3, a_4, e_4, []⟩, RJ.fail hle4 ((Ax hst3 (by rw [hkd3]; exact hs11_4)).trans (by rw [hr4]; rfl)), Af (wk1 rfl (wk1 rfl (wk1 rfl (wk1 rfl (wk1 rfl (wk1 rfl wk0)))))) (Ac rM (Ac rM (Ac rM (Ac rM (Bl Ad)))))⟩
        ·
         intro p4 hj
         obtain ⟨b4, m4, D4, a4, e4, bl4⟩ := p4
         cases b4
         rotate_left
         ·
          have ha4 := hj.a
          obtain ⟨hst4, hkd4, hm4⟩ := hj.yes rfl
          dsimp only at ha4 hst4 hkd4 hm4 ⊢
          refine Sat.join (ι := RSt) (fun p5 => ⟨[(2, ptr n2 0), (3, i64 0), (4, ptr n9 0), (5, ptr n5 0), (6, i64 (As kk)), (7, .bool p5.b)], (RB n9 q9 n cp9 p5.a p5.e :: (⟨q9, Ab xs, 5, cp9 * 1⟩ :: (⟨n2, Msg.zero.cells, 57, 8⟩ :: (⟨n5, p5.m.cells, 57, 8⟩ :: (p5.bl ++ [])))))⟩) (fun p5 => RJ kk (rS5 xs) n p5) ?_ ?_
          ·
           refine Sat.seq (Sat.region ?_)
           refine Tr.m rfl rfl rfl ?_
           refine Tr.m rfl rfl rfl ?_
           refine Tr.m rfl rfl rfl ?_
           refine Tr.and_i64 rfl rfl rfl rfl ?_
           refine two (fun r hr k => Tr.nei rfl rfl rfl rfl hr k) (fun hs13_40 => ?_) (fun hs13_40 => ?_)
           ·
            first | have hs13_4 := of_decide_eq_true hs13_40 | have hs13_4 := of_decide_eq_false hs13_40 | have hs13_4 := A2 hs13_40 | have hs13_4 := A3 hs13_40 | have hs13_4 := hs13_40
            refine Tr.pick rfl rfl rfl rfl rfl rfl ?_
            refine Tr.nil (Aa ?_)
            refine Sat.cond_t rfl rfl ?_
            refine Sat.region ?_
            refine Tr.m rfl rfl rfl ?_
            refine Tr.call4 rfl rfl rfl rfl rfl Body100 (mk_item_vote) tV ?_
            rintro v73 out73 ⟨c73, rfl, rfl⟩
            refine Tr.nd (fun hnd => ?_)
            have hcn73 : c73 ≠ n9 := by intro e; simp [RB, e] at hnd
            clear hnd
            try simp only [List.append_assoc, List.cons_append, List.nil_append]
            refine Tr.callL (L := [RB n9 q9 n cp9 a4 e4]) rfl rfl rfl rfl rfl Body99 (read_votes n9 q9 n cp9 a4 e4 c73 20 xs hl ha4 hcp9 hn hcn73 dE) (Ac rM Ad) (A0 rfl) (fun w h => ⟨Ai h mM, Ap h mM, hne, (Ai (B := ⟨c73, _, _, _⟩) h mM).cell (o := 0) rfl⟩) ?_
            rintro v5_ out5_ ⟨s5, bl_5, a_5, e_5, hle5, rfl, rfl, hv5⟩
            try simp only [List.append_assoc, List.cons_append, List.nil_append]
            refine Tr.m rfl rfl rfl ?_
            refine Tr.eX rfl rfl rfl rfl ?_
            refine Tr.extractB rfl rfl rfl rfl (fun hs14_50 => ?_) (fun hs14_50 => ?_)
            ·
             first | have hs14_5 := of_decide_eq_true hs14_50 | have hs14_5 := of_decide_eq_false hs14_50 | have hs14_5 := A2 hs14_50 | have hs14_5 := A3 hs14_50 | have hs14_5 := hs14_50
             obtain ⟨r, hr5⟩ := Option.isSome_iff_exists.1 hs14_5
             obtain ⟨vs5, x_5, y_5⟩ := r
             obtain ⟨rfl, rfl, hvn5, hvo5, hac5⟩ := hv5 _ _ _ hr5
             refine Tr.fld rfl rfl rfl Y57 rfl Sz24 dE _ rfl ?_
             refine Tr.s1 rfl rfl rfl rfl rfl Sz24 mM (by rw [Msg.length (by first | exact oK  | exact ⟨trivial⟩)]; decide) (by first | exact Msg.set_fVotes (by first | exact oK  | exact ⟨trivial⟩) _ | exact Msg.setS_fVotes (by first | exact oK  | exact ⟨trivial⟩) _ _ _) uU ?_
             refine Tr.a rfl rfl rfl ?_
             refine Tr.nil (Aa ?_)
             first
              | exact ⟨⟨true, m4, D4, a4, e4, bl4⟩, RJ.good ha4 (Bq hst4 (by rw [hkd4]; exact hs13_4)) hkd4 hm4, Af (wk1 rfl (wk1 rfl (wk1 rfl (wk1 rfl (wk1 rfl (wk1 rfl wk0)))))) (Ac rM (Ac rM (Ac rM (Ac rM (Ah sG Ad)))))⟩
              | exact ⟨⟨true, { m4 with fVotes := s5 }, { D4 with dVotes := vs5 }, a_5, e_5, bl_5 ++ bl4⟩, RJ.good hle5 ((Ax hst4 (by rw [hkd4]; exact hs13_4)).trans (by rw [hr5]; rfl)) hkd4 (fun W2 hl => (hm4 W2 (hl.sub iN)).putVotes (owned_vs hvo5 hac5 oM W2 (hl.sub iN))), Af (wk1 rfl (wk1 rfl (wk1 rfl (wk1 rfl (wk1 rfl (wk1 rfl wk0)))))) (Ac rM (Ac rM (Ac rM (Ac rM (B4 (Ah sG (Ah sG Ad)))))))⟩
              | exact ⟨⟨false, { m4 with fVotes := s5 }, D4, a_5, e_5, []⟩, RJ.fail hle5 ((Ax hst4 (by rw [hkd4]; exact hs13_4)).trans (by rw [hr5]; rfl)), Af (wk1 rfl (wk1 rfl (wk1 rfl (wk1 rfl (wk1 rfl (wk1 rfl wk0)))))) (Ac rM (Ac rM (Ac rM (Ac rM (Bl Ad)))))⟩
            ·
             first | have hs14_5 := of_decide_eq_true hs14_50 | have hs14_5 := of_decide_eq_false hs14_50 | have hs14_5 := A2 hs14_50 | have hs14_5 := A3 hs14_50 | have hs14_5 := hs14_50
             have hr5 : readVL xs 20 a4 e4 = none := by simpa using hs14_5
             refine Tr.fld rfl rfl rfl Y57 rfl Sz24 dE _ rfl ?_
             refine Tr.s1 rfl rfl rfl rfl rfl Sz24 mM (by rw [Msg.length (by first | exact oK  | exact ⟨trivial⟩)]; decide) (by first | exact Msg.set_fVotes (by first | exact oK  | exact ⟨trivial⟩) _ | exact Msg.setS_fVotes (by first | exact oK  | exact ⟨trivial⟩) _ _ _) uU ?_
             refine Tr.a rfl rfl rfl ?_
             refine Tr.nil (Aa ?_)
             first
              | exact ⟨⟨true, m4, D4, a4, e4, bl4⟩, RJ.good ha4 (Bq hst4 (by rw [hkd4]; exact hs13_4)) hkd4 hm4, Af (wk1 rfl (wk1 rfl (wk1 rfl (wk1 rfl (wk1 rfl (wk1 rfl wk0)))))) (Ac rM (Ac rM (Ac rM (Ac rM (Ah sG Ad)))))⟩
              | exact ⟨⟨true, { m4 with fVotes := s5 }, { D4 with dVotes := vs5 }, a_5, e_5, bl_5 ++ bl4⟩, RJ.good hle5 ((Ax hst4 (by rw [hkd4]; exact hs13_4)).trans (by rw [hr5]; rfl)) hkd4 (fun W2 hl => (hm4 W2 (hl.sub iN)).putVotes (owned_vs hvo5 hac5 oM W2 (hl.sub iN))), Af (wk1 rfl (wk1 rfl (wk1 rfl (wk1 rfl (wk1 rfl (wk1 rfl wk0)))))) (Ac rM (Ac rM (Ac rM (Ac rM (B4 (Ah sG (Ah sG Ad)))))))⟩
              | exact ⟨⟨false, { m4 with fVotes := s5 }, D4, a_5, e_5, []⟩, RJ.fail hle5 ((Ax hst4 (by rw [hkd4]; exact hs13_4)).trans (by rw [hr5]; rfl)), Af (wk1 rfl (wk1 rfl (wk1 rfl (wk1 rfl (wk1 rfl (wk1 rfl wk0)))))) (Ac rM (Ac rM (Ac rM (Ac rM (Bl Ad)))))⟩
           ·
            first | have hs13_4 := of_decide_eq_true hs13_40 | have hs13_4 := of_decide_eq_false hs13_40 | have hs13_4 := A2 hs13_40 | have hs13_4 := A3 hs13_40 | have hs13_4 := hs13_40
            refine Tr.pick rfl rfl rfl rfl rfl rfl ?_
            refine Tr.nil (Aa ?_)
            refine Sat.cond_f rfl rfl ?_
            refine Sat.skip (Aa ?_)
            first
             | exact ⟨⟨true, m4, D4, a4, e4, bl4⟩, RJ.good ha4 (Bq hst4 (by rw [hkd4]; exact hs13_4)) hkd4 hm4, Af (wk1 rfl (wk1 rfl (wk1 rfl (wk1 rfl (wk1 rfl (wk1 rfl wk0)))))) (Ac rM (Ac rM (Ac rM (Ac rM (Ah sG Ad)))))⟩
             | exact ⟨⟨true, { m4 with fVotes := s5 }, { D4 with dVotes := vs5 }, a_5, e_5, bl_5 ++ bl4⟩, RJ.good hle5 ((Ax hst4 (by rw [hkd4]; exact hs13_4)).trans (by rw [hr5]; rfl)) hkd4 (fun W2 hl => (hm4 W2 (hl.sub iN)).putVotes (owned_vs hvo5 hac5 oM W2 (hl.sub iN))), Af (wk1 rfl (wk1 rfl (wk1 rfl (wk1 rfl (wk1 rfl (wk1 rfl wk0)))))) (Ac rM (Ac rM (Ac rM (Ac rM (B4 (Ah sG (Ah sG Ad)))))))⟩
             | exact ⟨⟨false, { m4 with fVotes := s5 }, D4, a_5, e_5, []⟩, RJ.fail hle5 ((Ax hst4 (by rw [hkd4]; exact hs13_4)).trans (by rw [hr5]; rfl)), Af (wk1 rfl (wk1 rfl (wk1 rfl (wk1 rfl (wk1 rfl (wk1 rfl wk0)))))) (Ac rM (Ac rM (Ac rM (Ac rM (Bl Ad)))))⟩
          ·
           intro p5 hj
           obtain ⟨b5, m5, D5, a5, e5, bl5⟩ := p5
           cases b5
           rotate_left
           ·
            have ha5 := hj.a
            obtain ⟨hst5, hkd5, hm5⟩ := hj.yes rfl
            dsimp only at ha5 hst5 hkd5 hm5 ⊢
            refine Sat.join (ι := RSt) (fun p6 => ⟨[(2, ptr n2 0), (3, i64 0), (4, ptr n9 0), (5, ptr n5 0), (6, i64 (As kk)), (7, .bool p6.b)], (RB n9 q9 n cp9 p6.a p6.e :: (⟨q9, Ab xs, 5, cp9 * 1⟩ :: (⟨n2, Msg.zero.cells, 57, 8⟩ :: (⟨n5, p6.m.cells, 57, 8⟩ :: (p6.bl ++ [])))))⟩) (fun p6 => RJ kk (rS6 xs) n p6) ?_ ?_
            ·
             refine Sat.seq (Sat.region ?_)
             refine Tr.m rfl rfl rfl ?_
             refine Tr.m rfl rfl rfl ?_
             refine Tr.m rfl rfl rfl ?_
             refine Tr.and_i64 rfl rfl rfl rfl ?_
             refine two (fun r hr k => Tr.nei rfl rfl rfl rfl hr k) (fun hs15_40 => ?_) (fun hs15_40 => ?_)
             ·
              first | have hs15_4 := of_decide_eq_true hs15_40 | have hs15_4 := of_decide_eq_false hs15_40 | have hs15_4 := A2 hs15_40 | have hs15_4 := A3 hs15_40 | have hs15_4 := hs15_40
              refine Tr.pick rfl rfl rfl rfl rfl rfl ?_
              refine Tr.nil (Aa ?_)
              refine Sat.cond_t rfl rfl ?_
              refine Sat.region ?_
              refine Tr.m rfl rfl rfl ?_
              refine Tr.call4 rfl rfl rfl rfl rfl Body102 (mk_item_cut) tV ?_
              rintro v86 out86 ⟨c86, rfl, rfl⟩
              refine Tr.nd (fun hnd => ?_)
              have hcn86 : c86 ≠ n9 := by intro e; simp [RB, e] at hnd
              clear hnd
              try simp only [List.append_assoc, List.cons_append, List.nil_append]
              refine Tr.callL (L := [RB n9 q9 n cp9 a5 e5]) rfl rfl rfl rfl rfl Body101 (read_cuts n9 q9 n cp9 a5 e5 c86 4 xs hl ha5 hcp9 hn hcn86 dE) (Ac rM Ad) (A0 rfl) (fun w h => ⟨Ai h mM, Ap h mM, hne, (Ai (B := ⟨c86, _, _, _⟩) h mM).cell (o := 0) rfl⟩) ?_
              rintro v6_ out6_ ⟨s6, bl_6, o_6, rs_6, a_6, e_6, hle6, rfl, rfl, hv6⟩
              try simp only [List.append_assoc, List.cons_append, List.nil_append]
              refine Tr.m rfl rfl rfl ?_
              refine Tr.eX rfl rfl rfl rfl ?_
              refine Tr.extractB rfl rfl rfl rfl (fun hs16_50 => ?_) (fun hs16_50 => ?_)
              ·
               first | have hs16_5 := of_decide_eq_true hs16_50 | have hs16_5 := of_decide_eq_false hs16_50 | have hs16_5 := A2 hs16_50 | have hs16_5 := A3 hs16_50 | have hs16_5 := hs16_50
               obtain ⟨r, hr6⟩ := Option.isSome_iff_exists.1 hs16_5
               obtain ⟨vs6, x_6, y_6⟩ := r
               obtain ⟨rfl, rfl, hvn6, hos6⟩ := hv6 _ _ _ hr6
               refine Tr.fld rfl rfl rfl Y57 rfl Sz25 dE _ rfl ?_
               refine Tr.s1 rfl rfl rfl rfl rfl Sz25 mM (by rw [Msg.length (by first | exact oK  | exact ⟨trivial⟩)]; decide) (by first | exact Msg.set_fCuts (by first | exact oK  | exact ⟨trivial⟩) _ | exact Msg.setS_fCuts (by first | exact oK  | exact ⟨trivial⟩) _ _ _) uU ?_
               refine Tr.a rfl rfl rfl ?_
               refine Tr.nil (Aa ?_)
               first
                | exact ⟨⟨true, m5, D5, a5, e5, bl5⟩, RJ.good ha5 (Bq hst5 (by rw [hkd5]; exact hs15_4)) hkd5 hm5, Af (wk1 rfl (wk1 rfl (wk1 rfl (wk1 rfl (wk1 rfl (wk1 rfl wk0)))))) (Ac rM (Ac rM (Ac rM (Ac rM (Ah sG Ad)))))⟩
                | exact ⟨⟨true, { m5 with fCuts := s6 }, { D5 with dCuts := vs6 }, a_6, e_6, bl_6 ++ (o_6 ++ bl5)⟩, RJ.good hle6 ((Ax hst5 (by rw [hkd5]; exact hs15_4)).trans (by rw [hr6]; rfl)) hkd5 (fun W2 hl => (hm5 W2 (hl.sub iN)).putCuts (⟨_, hos6.seq (hl.sub iN) (hl.sub iN) oM⟩)), Af (wk1 rfl (wk1 rfl (wk1 rfl (wk1 rfl (wk1 rfl (wk1 rfl wk0)))))) (Ac rM (Ac rM (Ac rM (Ac rM (B4 (Ah sG (B4 (Ah sG (Ah sG Ad)))))))))⟩
                | exact ⟨⟨false, { m5 with fCuts := s6 }, D5, a_6, e_6, []⟩, RJ.fail hle6 ((Ax hst5 (by rw [hkd5]; exact hs15_4)).trans (by rw [hr6]; rfl)), Af (wk1 rfl (wk1 rfl (wk1 rfl (wk1 rfl (wk1 rfl (wk1 rfl wk0)))))) (Ac rM (Ac rM (Ac rM (Ac rM (Bl Ad)))))⟩
              ·
               first | have hs16_5 := of_decide_eq_true hs16_50 | have hs16_5 := of_decide_eq_false hs16_50 | have hs16_5 := A2 hs16_50 | have hs16_5 := A3 hs16_50 | have hs16_5 := hs16_50
               have hr6 : listR cutRd xs 4 a5 e5 = none := by simpa using hs16_5
               refine Tr.fld rfl rfl rfl Y57 rfl Sz25 dE _ rfl ?_
               refine Tr.s1 rfl rfl rfl rfl rfl Sz25 mM (by rw [Msg.length (by first | exact oK  | exact ⟨trivial⟩)]; decide) (by first | exact Msg.set_fCuts (by first | exact oK  | exact ⟨trivial⟩) _ | exact Msg.setS_fCuts (by first | exact oK  | exact ⟨trivial⟩) _ _ _) uU ?_
               refine Tr.a rfl rfl rfl ?_
               refine Tr.nil (Aa ?_)
               first
                | exact ⟨⟨true, m5, D5, a5, e5, bl5⟩, RJ.good ha5 (Bq hst5 (by rw [hkd5]; exact hs15_4)) hkd5 hm5, Af (wk1 rfl (wk1 rfl (wk1 rfl (wk1 rfl (wk1 rfl (wk1 rfl wk0)))))) (Ac rM (Ac rM (Ac rM (Ac rM (Ah sG Ad)))))⟩
                | exact ⟨⟨true, { m5 with fCuts := s6 }, { D5 with dCuts := vs6 }, a_6, e_6, bl_6 ++ (o_6 ++ bl5)⟩, RJ.good hle6 ((Ax hst5 (by rw [hkd5]; exact hs15_4)).trans (by rw [hr6]; rfl)) hkd5 (fun W2 hl => (hm5 W2 (hl.sub iN)).putCuts (⟨_, hos6.seq (hl.sub iN) (hl.sub iN) oM⟩)), Af (wk1 rfl (wk1 rfl (wk1 rfl (wk1 rfl (wk1 rfl (wk1 rfl wk0)))))) (Ac rM (Ac rM (Ac rM (Ac rM (B4 (Ah sG (B4 (Ah sG (Ah sG Ad)))))))))⟩
                | exact ⟨⟨false, { m5 with fCuts := s6 }, D5, a_6, e_6, []⟩, RJ.fail hle6 ((Ax hst5 (by rw [hkd5]; exact hs15_4)).trans (by rw [hr6]; rfl)), Af (wk1 rfl (wk1 rfl (wk1 rfl (wk1 rfl (wk1 rfl (wk1 rfl wk0)))))) (Ac rM (Ac rM (Ac rM (Ac rM (Bl Ad)))))⟩
             ·
              first | have hs15_4 := of_decide_eq_true hs15_40 | have hs15_4 := of_decide_eq_false hs15_40 | have hs15_4 := A2 hs15_40 | have hs15_4 := A3 hs15_40 | have hs15_4 := hs15_40
              refine Tr.pick rfl rfl rfl rfl rfl rfl ?_
              refine Tr.nil (Aa ?_)
              refine Sat.cond_f rfl rfl ?_
              refine Sat.skip (Aa ?_)
              first
               | exact ⟨⟨true, m5, D5, a5, e5, bl5⟩, RJ.good ha5 (Bq hst5 (by rw [hkd5]; exact hs15_4)) hkd5 hm5, Af (wk1 rfl (wk1 rfl (wk1 rfl (wk1 rfl (wk1 rfl (wk1 rfl wk0)))))) (Ac rM (Ac rM (Ac rM (Ac rM (Ah sG Ad)))))⟩
               | exact ⟨⟨true, { m5 with fCuts := s6 }, { D5 with dCuts := vs6 }, a_6, e_6, bl_6 ++ (o_6 ++ bl5)⟩, RJ.good hle6 ((Ax hst5 (by rw [hkd5]; exact hs15_4)).trans (by rw [hr6]; rfl)) hkd5 (fun W2 hl => (hm5 W2 (hl.sub iN)).putCuts (⟨_, hos6.seq (hl.sub iN) (hl.sub iN) oM⟩)), Af (wk1 rfl (wk1 rfl (wk1 rfl (wk1 rfl (wk1 rfl (wk1 rfl wk0)))))) (Ac rM (Ac rM (Ac rM (Ac rM (B4 (Ah sG (B4 (Ah sG (Ah sG Ad)))))))))⟩
               | exact ⟨⟨false, { m5 with fCuts := s6 }, D5, a_6, e_6, []⟩, RJ.fail hle6 ((Ax hst5 (by rw [hkd5]; exact hs15_4)).trans (by rw [hr6]; rfl)), Af (wk1 rfl (wk1 rfl (wk1 rfl (wk1 rfl (wk1 rfl (wk1 rfl wk0)))))) (Ac rM (Ac rM (Ac rM (Ac rM (Bl Ad)))))⟩
            ·
             intro p6 hj
             obtain ⟨b6, m6, D6, a6, e6, bl6⟩ := p6
             cases b6
             rotate_left
             ·
              have ha6 := hj.a
              obtain ⟨hst6, hkd6, hm6⟩ := hj.yes rfl
              dsimp only at ha6 hst6 hkd6 hm6 ⊢
              refine Sat.join (ι := RSt) (fun p7 => ⟨[(2, ptr n2 0), (3, i64 0), (4, ptr n9 0), (5, ptr n5 0), (6, i64 (As kk)), (7, .bool p7.b)], (RB n9 q9 n cp9 p7.a p7.e :: (⟨q9, Ab xs, 5, cp9 * 1⟩ :: (⟨n2, Msg.zero.cells, 57, 8⟩ :: (⟨n5, p7.m.cells, 57, 8⟩ :: (p7.bl ++ [])))))⟩) (fun p7 => RJ kk (rS7 xs) n p7) ?_ ?_
              ·
               refine Sat.seq (Sat.region ?_)
               refine Tr.m rfl rfl rfl ?_
               refine Tr.m rfl rfl rfl ?_
               refine Tr.m rfl rfl rfl ?_
               refine Tr.and_i64 rfl rfl rfl rfl ?_
               refine two (fun r hr k => Tr.nei rfl rfl rfl rfl hr k) (fun hs17_40 => ?_) (fun hs17_40 => ?_)
               ·
                first | have hs17_4 := of_decide_eq_true hs17_40 | have hs17_4 := of_decide_eq_false hs17_40 | have hs17_4 := A2 hs17_40 | have hs17_4 := A3 hs17_40 | have hs17_4 := hs17_40
                refine Tr.pick rfl rfl rfl rfl rfl rfl ?_
                refine Tr.nil (Aa ?_)
                refine Sat.cond_t rfl rfl ?_
                refine Sat.region ?_
                refine Tr.m rfl rfl rfl ?_
                refine Tr.call4 rfl rfl rfl rfl rfl Body104 (mk_item_cert) tV ?_
                rintro v99 out99 ⟨c99, rfl, rfl⟩
                refine Tr.nd (fun hnd => ?_)
                have hcn99 : c99 ≠ n9 := by intro e; simp [RB, e] at hnd
                clear hnd
                try simp only [List.append_assoc, List.cons_append, List.nil_append]
                refine Tr.callL (L := [RB n9 q9 n cp9 a6 e6]) rfl rfl rfl rfl rfl Body103 (read_certs n9 q9 n cp9 a6 e6 c99 2 xs hl ha6 hcp9 hn hcn99 dE) (Ac rM Ad) (A0 rfl) (fun w h => ⟨Ai h mM, Ap h mM, hne, (Ai (B := ⟨c99, _, _, _⟩) h mM).cell (o := 0) rfl⟩) ?_
                rintro v7_ out7_ ⟨s7, bl_7, o_7, rs_7, a_7, e_7, hle7, rfl, rfl, hv7⟩
                try simp only [List.append_assoc, List.cons_append, List.nil_append]
                refine Tr.m rfl rfl rfl ?_
                refine Tr.eX rfl rfl rfl rfl ?_
                refine Tr.extractB rfl rfl rfl rfl (fun hs18_50 => ?_) (fun hs18_50 => ?_)
                ·
                 first | have hs18_5 := of_decide_eq_true hs18_50 | have hs18_5 := of_decide_eq_false hs18_50 | have hs18_5 := A2 hs18_50 | have hs18_5 := A3 hs18_50 | have hs18_5 := hs18_50
                 obtain ⟨r, hr7⟩ := Option.isSome_iff_exists.1 hs18_5
                 obtain ⟨vs7, x_7, y_7⟩ := r
                 obtain ⟨rfl, rfl, hvn7, hos7⟩ := hv7 _ _ _ hr7
                 refine Tr.fld rfl rfl rfl Y57 rfl Sz23 dE _ rfl ?_
                 refine Tr.s1 rfl rfl rfl rfl rfl Sz23 mM (by rw [Msg.length (by first | exact oK  | exact ⟨trivial⟩)]; decide) (by first | exact Msg.set_fCerts (by first | exact oK  | exact ⟨trivial⟩) _ | exact Msg.setS_fCerts (by first | exact oK  | exact ⟨trivial⟩) _ _ _) uU ?_
                 refine Tr.a rfl rfl rfl ?_
                 refine Tr.nil (Aa ?_)
                 first
                  | exact ⟨⟨true, m6, D6, a6, e6, bl6⟩, RJ.good ha6 (Bq hst6 (by rw [hkd6]; exact hs17_4)) hkd6 hm6, Af (wk1 rfl (wk1 rfl (wk1 rfl (wk1 rfl (wk1 rfl (wk1 rfl wk0)))))) (Ac rM (Ac rM (Ac rM (Ac rM (Ah sG Ad)))))⟩
                  | exact ⟨⟨true, { m6 with fCerts := s7 }, { D6 with dCerts := vs7 }, a_7, e_7, bl_7 ++ (o_7 ++ bl6)⟩, RJ.good hle7 ((Ax hst6 (by rw [hkd6]; exact hs17_4)).trans (by rw [hr7]; rfl)) hkd6 (fun W2 hl => (hm6 W2 (hl.sub iN)).putCerts (⟨_, hos7.seq (hl.sub iN) (hl.sub iN) oM⟩)), Af (wk1 rfl (wk1 rfl (wk1 rfl (wk1 rfl (wk1 rfl (wk1 rfl wk0)))))) (Ac rM (Ac rM (Ac rM (Ac rM (B4 (Ah sG (B4 (Ah sG (Ah sG Ad)))))))))⟩
                  | exact ⟨⟨false, { m6 with fCerts := s7 }, D6, a_7, e_7, []⟩, RJ.fail hle7 ((Ax hst6 (by rw [hkd6]; exact hs17_4)).trans (by rw [hr7]; rfl)), Af (wk1 rfl (wk1 rfl (wk1 rfl (wk1 rfl (wk1 rfl (wk1 rfl wk0)))))) (Ac rM (Ac rM (Ac rM (Ac rM (Bl Ad)))))⟩
                ·
                 first | have hs18_5 := of_decide_eq_true hs18_50 | have hs18_5 := of_decide_eq_false hs18_50 | have hs18_5 := A2 hs18_50 | have hs18_5 := A3 hs18_50 | have hs18_5 := hs18_50
                 have hr7 : listR certRd xs 2 a6 e6 = none := by simpa using hs18_5
                 refine Tr.fld rfl rfl rfl Y57 rfl Sz23 dE _ rfl ?_
                 refine Tr.s1 rfl rfl rfl rfl rfl Sz23 mM (by rw [Msg.length (by first | exact oK  | exact ⟨trivial⟩)]; decide) (by first | exact Msg.set_fCerts (by first | exact oK  | exact ⟨trivial⟩) _ | exact Msg.setS_fCerts (by first | exact oK  | exact ⟨trivial⟩) _ _ _) uU ?_
                 refine Tr.a rfl rfl rfl ?_
                 refine Tr.nil (Aa ?_)
                 first
                  | exact ⟨⟨true, m6, D6, a6, e6, bl6⟩, RJ.good ha6 (Bq hst6 (by rw [hkd6]; exact hs17_4)) hkd6 hm6, Af (wk1 rfl (wk1 rfl (wk1 rfl (wk1 rfl (wk1 rfl (wk1 rfl wk0)))))) (Ac rM (Ac rM (Ac rM (Ac rM (Ah sG Ad)))))⟩
                  | exact ⟨⟨true, { m6 with fCerts := s7 }, { D6 with dCerts := vs7 }, a_7, e_7, bl_7 ++ (o_7 ++ bl6)⟩, RJ.good hle7 ((Ax hst6 (by rw [hkd6]; exact hs17_4)).trans (by rw [hr7]; rfl)) hkd6 (fun W2 hl => (hm6 W2 (hl.sub iN)).putCerts (⟨_, hos7.seq (hl.sub iN) (hl.sub iN) oM⟩)), Af (wk1 rfl (wk1 rfl (wk1 rfl (wk1 rfl (wk1 rfl (wk1 rfl wk0)))))) (Ac rM (Ac rM (Ac rM (Ac rM (B4 (Ah sG (B4 (Ah sG (Ah sG Ad)))))))))⟩
                  | exact ⟨⟨false, { m6 with fCerts := s7 }, D6, a_7, e_7, []⟩, RJ.fail hle7 ((Ax hst6 (by rw [hkd6]; exact hs17_4)).trans (by rw [hr7]; rfl)), Af (wk1 rfl (wk1 rfl (wk1 rfl (wk1 rfl (wk1 rfl (wk1 rfl wk0)))))) (Ac rM (Ac rM (Ac rM (Ac rM (Bl Ad)))))⟩
               ·
                first | have hs17_4 := of_decide_eq_true hs17_40 | have hs17_4 := of_decide_eq_false hs17_40 | have hs17_4 := A2 hs17_40 | have hs17_4 := A3 hs17_40 | have hs17_4 := hs17_40
                refine Tr.pick rfl rfl rfl rfl rfl rfl ?_
                refine Tr.nil (Aa ?_)
                refine Sat.cond_f rfl rfl ?_
                refine Sat.skip (Aa ?_)
                first
                 | exact ⟨⟨true, m6, D6, a6, e6, bl6⟩, RJ.good ha6 (Bq hst6 (by rw [hkd6]; exact hs17_4)) hkd6 hm6, Af (wk1 rfl (wk1 rfl (wk1 rfl (wk1 rfl (wk1 rfl (wk1 rfl wk0)))))) (Ac rM (Ac rM (Ac rM (Ac rM (Ah sG Ad)))))⟩
                 | exact ⟨⟨true, { m6 with fCerts := s7 }, { D6 with dCerts := vs7 }, a_7, e_7, bl_7 ++ (o_7 ++ bl6)⟩, RJ.good hle7 ((Ax hst6 (by rw [hkd6]; exact hs17_4)).trans (by rw [hr7]; rfl)) hkd6 (fun W2 hl => (hm6 W2 (hl.sub iN)).putCerts (⟨_, hos7.seq (hl.sub iN) (hl.sub iN) oM⟩)), Af (wk1 rfl (wk1 rfl (wk1 rfl (wk1 rfl (wk1 rfl (wk1 rfl wk0)))))) (Ac rM (Ac rM (Ac rM (Ac rM (B4 (Ah sG (B4 (Ah sG (Ah sG Ad)))))))))⟩
                 | exact ⟨⟨false, { m6 with fCerts := s7 }, D6, a_7, e_7, []⟩, RJ.fail hle7 ((Ax hst6 (by rw [hkd6]; exact hs17_4)).trans (by rw [hr7]; rfl)), Af (wk1 rfl (wk1 rfl (wk1 rfl (wk1 rfl (wk1 rfl (wk1 rfl wk0)))))) (Ac rM (Ac rM (Ac rM (Ac rM (Bl Ad)))))⟩
              ·
               intro p7 hj
               obtain ⟨b7, m7, D7, a7, e7, bl7⟩ := p7
               cases b7
               rotate_left
               ·
                have ha7 := hj.a
                obtain ⟨hst7, hkd7, hm7⟩ := hj.yes rfl
                dsimp only at ha7 hst7 hkd7 hm7 ⊢
                refine Sat.seq (Sat.seq (Sat.region ?_))
                refine Tr.m rfl rfl rfl ?_
                refine Tr.not rfl rfl rfl ?_
                refine Tr.m rfl rfl rfl ?_
                refine Tr.m rfl rfl rfl ?_
                refine Tr.cV rfl rfl rfl rfl Body105 (rd_End n9 q9 n cp9 a7 e7 ha7 oM) (fun w h => Ai h mM) ?_
                refine two (fun r hr k => Tr.nei rfl rfl rfl rfl hr k) (fun hs19_50 => ?_) (fun hs19_50 => ?_)
                ·
                 first | have hs19_5 := of_decide_eq_true hs19_50 | have hs19_5 := of_decide_eq_false hs19_50 | have hs19_5 := A2 hs19_50 | have hs19_5 := A3 hs19_50 | have hs19_5 := hs19_50
                 refine Tr.pick rfl rfl rfl rfl rfl rfl ?_
                 refine Tr.m rfl rfl rfl ?_
                 refine Tr.skp rfl rfl ?_
                 refine Tr.skp rfl rfl ?_
                 refine Tr.skp rfl rfl ?_
                 refine Tr.pick rfl rfl rfl rfl rfl rfl ?_
                 refine Tr.nil (Aa ?_)
                 refine Sat.cond_t rfl rfl ?_
                 refine Sat.seq (Sat.region ?_)
                 refine Tr.build (cs := Msg.zero.cells) rfl rfl rfl (fun w => by kernel_rfl) ?_
                 refine Tr.sA rfl rfl rfl rfl (Msg.isCell (by first | exact oK  | exact ⟨trivial⟩)) Sz57 (Msg.length (by first | exact oK  | exact ⟨trivial⟩)) mM (Msg.length (by first | exact oK  | exact ⟨trivial⟩)) uU ?_
                 refine Tr.a rfl rfl rfl ?_
                 refine Tr.nil (Aa (Sat.ret (Ao (Am ?_))))
                 refine Ak (out := []) (A6 rfl rfl rfl Y57 rfl Sz57 mM (by first | (simp; done) | exact Msg.length (by first | exact oK  | exact ⟨trivial⟩))) Ad ?_
                 exact msg_badR (msgRd_bad hst7 (by rw [hl]; exact fun h => hs19_5 h.1))
                ·
                 first | have hs19_5 := of_decide_eq_true hs19_50 | have hs19_5 := of_decide_eq_false hs19_50 | have hs19_5 := A2 hs19_50 | have hs19_5 := A3 hs19_50 | have hs19_5 := hs19_50
                 refine Tr.pick rfl rfl rfl rfl rfl rfl ?_
                 refine Tr.m rfl rfl rfl ?_
                 refine Tr.lA rfl rfl rfl Y57 rfl Sz57 mM (Msg.length (by first | exact oK  | exact ⟨trivial⟩)) ?_
                 refine Tr.cV rfl rfl rfl rfl Body34 (msg_check m7 D7) (fun w h => hm7 w (Lies.of h iN)) ?_
                 refine Tr.nei rfl rfl rfl rfl rfl ?_
                 refine Tr.pick rfl rfl rfl rfl rfl rfl ?_
                 refine Tr.nil (Aa ?_)
                 first
                  | refine Sat.condP rfl (fun hc7 => ?_) (fun hc7 => ?_)
                  | refine Sat.condNP rfl (fun hc7 => ?_) (fun hc7 => ?_)
                  | refine Sat.cond rfl (fun hc7 => ?_) (fun hc7 => ?_)
                 ·
                  refine Sat.seq (Sat.region ?_)
                  refine Tr.build (cs := Msg.zero.cells) rfl rfl rfl (fun w => by kernel_rfl) ?_
                  refine Tr.sA rfl rfl rfl rfl (Msg.isCell (by first | exact oK  | exact ⟨trivial⟩)) Sz57 (Msg.length (by first | exact oK  | exact ⟨trivial⟩)) mM (Msg.length (by first | exact oK  | exact ⟨trivial⟩)) uU ?_
                  refine Tr.a rfl rfl rfl ?_
                  refine Tr.nil (Aa (Sat.ret (Ao (Am ?_))))
                  refine Ak (out := []) (A6 rfl rfl rfl Y57 rfl Sz57 mM (by first | (simp; done) | exact Msg.length (by first | exact oK  | exact ⟨trivial⟩))) Ad ?_
                  exact msg_badR (msgRd_bad hst7 (by rw [hl]; exact fun h => hc7 h.2))
                 ·
                  refine Sat.skip (Aa (Sat.seq (Sat.region ?_)))
                  refine Tr.lA rfl rfl rfl Y57 rfl Sz57 mM (Msg.length (by first | exact oK  | exact ⟨trivial⟩)) ?_
                  refine Tr.sA rfl rfl rfl rfl (Msg.isCell (by first | exact oK  | exact ⟨trivial⟩)) Sz57 (Msg.length (by first | exact oK  | exact ⟨trivial⟩)) mM (Msg.length (by first | exact oK  | exact ⟨trivial⟩)) uU ?_
                  refine Tr.a rfl rfl rfl ?_
                  refine Tr.nil (Aa (Sat.ret (Am ?_)))
                  refine Ak (out := (bl7 ++ [])) (A6 rfl rfl rfl Y57 rfl Sz57 mM (by first | (simp; done) | exact Msg.length (by first | exact oK  | exact ⟨trivial⟩))) (Ah sG Ad) ?_
                  rw [List.append_nil]
                  exact msg_okR (msgRd_ok hst7 (by rw [hl]; exact ⟨hs19_5, hc7⟩)) hm7
               ·
                have hbad := hj.no rfl
                dsimp only at hbad ⊢
                refine Sat.seq (Sat.seq (Sat.region ?_))
                refine Tr.m rfl rfl rfl ?_
                refine Tr.not rfl rfl rfl ?_
                refine Tr.m rfl rfl rfl ?_
                refine Tr.skp rfl rfl ?_
                refine Tr.skp rfl rfl ?_
                refine Tr.skp rfl rfl ?_
                refine Tr.pick rfl rfl rfl rfl rfl rfl ?_
                refine Tr.m rfl rfl rfl ?_
                refine Tr.skp rfl rfl ?_
                refine Tr.skp rfl rfl ?_
                refine Tr.skp rfl rfl ?_
                refine Tr.pick rfl rfl rfl rfl rfl rfl ?_
                refine Tr.nil (Aa ?_)
                refine Sat.cond_t rfl rfl ?_
                refine Sat.seq (Sat.region ?_)
                refine Tr.build (cs := Msg.zero.cells) rfl rfl rfl (fun w => by kernel_rfl) ?_
                refine Tr.sA rfl rfl rfl rfl (Msg.isCell (by first | exact oK  | exact ⟨trivial⟩)) Sz57 (Msg.length (by first | exact oK  | exact ⟨trivial⟩)) mM (Msg.length (by first | exact oK  | exact ⟨trivial⟩)) uU ?_
                refine Tr.a rfl rfl rfl ?_
                refine Tr.nil (Aa (Sat.ret (Ao (Am ?_))))
                refine Ak (out := []) (A6 rfl rfl rfl Y57 rfl Sz57 mM (by first | (simp; done) | exact Msg.length (by first | exact oK  | exact ⟨trivial⟩))) Ad ?_
                exact msg_badR (msgRd_none (by first | exact bad7 hbad | exact bad6 hbad | exact bad5 hbad | exact bad4 hbad | exact bad3 hbad | exact bad2 hbad | exact bad1 hbad | exact bad0 hbad))
             ·
              have hbad := hj.no rfl
              dsimp only at hbad ⊢
              refine Sat.seq (Sat.seq (Sat.region ?_))
              refine Tr.m rfl rfl rfl ?_
              refine Tr.m rfl rfl rfl ?_
              refine Tr.skp rfl rfl ?_
              refine Tr.skp rfl rfl ?_
              refine Tr.skp rfl rfl ?_
              refine Tr.pick rfl rfl rfl rfl rfl rfl ?_
              refine Tr.nil (Aa ?_)
              refine Sat.cond_f rfl rfl ?_
              refine Sat.skip (Aa (Sat.seq (Sat.seq (Sat.region ?_))))
              refine Tr.m rfl rfl rfl ?_
              refine Tr.not rfl rfl rfl ?_
              refine Tr.m rfl rfl rfl ?_
              refine Tr.skp rfl rfl ?_
              refine Tr.skp rfl rfl ?_
              refine Tr.skp rfl rfl ?_
              refine Tr.pick rfl rfl rfl rfl rfl rfl ?_
              refine Tr.m rfl rfl rfl ?_
              refine Tr.skp rfl rfl ?_
              refine Tr.skp rfl rfl ?_
              refine Tr.skp rfl rfl ?_
              refine Tr.pick rfl rfl rfl rfl rfl rfl ?_
              refine Tr.nil (Aa ?_)
              refine Sat.cond_t rfl rfl ?_
              refine Sat.seq (Sat.region ?_)
              refine Tr.build (cs := Msg.zero.cells) rfl rfl rfl (fun w => by kernel_rfl) ?_
              refine Tr.sA rfl rfl rfl rfl (Msg.isCell (by first | exact oK  | exact ⟨trivial⟩)) Sz57 (Msg.length (by first | exact oK  | exact ⟨trivial⟩)) mM (Msg.length (by first | exact oK  | exact ⟨trivial⟩)) uU ?_
              refine Tr.a rfl rfl rfl ?_
              refine Tr.nil (Aa (Sat.ret (Ao (Am ?_))))
              refine Ak (out := []) (A6 rfl rfl rfl Y57 rfl Sz57 mM (by first | (simp; done) | exact Msg.length (by first | exact oK  | exact ⟨trivial⟩))) Ad ?_
              exact msg_badR (msgRd_none (by first | exact bad7 hbad | exact bad6 hbad | exact bad5 hbad | exact bad4 hbad | exact bad3 hbad | exact bad2 hbad | exact bad1 hbad | exact bad0 hbad))
           ·
            have hbad := hj.no rfl
            dsimp only at hbad ⊢
            refine Sat.seq (Sat.seq (Sat.region ?_))
            refine Tr.m rfl rfl rfl ?_
            refine Tr.m rfl rfl rfl ?_
            refine Tr.skp rfl rfl ?_
            refine Tr.skp rfl rfl ?_
            refine Tr.skp rfl rfl ?_
            refine Tr.pick rfl rfl rfl rfl rfl rfl ?_
            refine Tr.nil (Aa ?_)
            refine Sat.cond_f rfl rfl ?_
            refine Sat.skip (Aa (Sat.seq (Sat.seq (Sat.region ?_))))
            refine Tr.m rfl rfl rfl ?_
            refine Tr.m rfl rfl rfl ?_
            refine Tr.skp rfl rfl ?_
            refine Tr.skp rfl rfl ?_
            refine Tr.skp rfl rfl ?_
            refine Tr.pick rfl rfl rfl rfl rfl rfl ?_
            refine Tr.nil (Aa ?_)
            refine Sat.cond_f rfl rfl ?_
            refine Sat.skip (Aa (Sat.seq (Sat.seq (Sat.region ?_))))
            refine Tr.m rfl rfl rfl ?_
            refine Tr.not rfl rfl rfl ?_
            refine Tr.m rfl rfl rfl ?_
            refine Tr.skp rfl rfl ?_
            refine Tr.skp rfl rfl ?_
            refine Tr.skp rfl rfl ?_
            refine Tr.pick rfl rfl rfl rfl rfl rfl ?_
            refine Tr.m rfl rfl rfl ?_
            refine Tr.skp rfl rfl ?_
            refine Tr.skp rfl rfl ?_
            refine Tr.skp rfl rfl ?_
            refine Tr.pick rfl rfl rfl rfl rfl rfl ?_
            refine Tr.nil (Aa ?_)
            refine Sat.cond_t rfl rfl ?_
            refine Sat.seq (Sat.region ?_)
            refine Tr.build (cs := Msg.zero.cells) rfl rfl rfl (fun w => by kernel_rfl) ?_
            refine Tr.sA rfl rfl rfl rfl (Msg.isCell (by first | exact oK  | exact ⟨trivial⟩)) Sz57 (Msg.length (by first | exact oK  | exact ⟨trivial⟩)) mM (Msg.length (by first | exact oK  | exact ⟨trivial⟩)) uU ?_
            refine Tr.a rfl rfl rfl ?_
            refine Tr.nil (Aa (Sat.ret (Ao (Am ?_))))
            refine Ak (out := []) (A6 rfl rfl rfl Y57 rfl Sz57 mM (by first | (simp; done) | exact Msg.length (by first | exact oK  | exact ⟨trivial⟩))) Ad ?_
            exact msg_badR (msgRd_none (by first | exact bad7 hbad | exact bad6 hbad | exact bad5 hbad | exact bad4 hbad | exact bad3 hbad | exact bad2 hbad | exact bad1 hbad | exact bad0 hbad))
         ·
          have hbad := hj.no rfl
          dsimp only at hbad ⊢
          refine Sat.seq (Sat.seq (Sat.region ?_))
          refine Tr.m rfl rfl rfl ?_
          refine Tr.m rfl rfl rfl ?_
          refine Tr.skp rfl rfl ?_
          refine Tr.skp rfl rfl ?_
          refine Tr.skp rfl rfl ?_
          refine Tr.pick rfl rfl rfl rfl rfl rfl ?_
          refine Tr.nil (Aa ?_)
          refine Sat.cond_f rfl rfl ?_
          refine Sat.skip (Aa (Sat.seq (Sat.seq (Sat.region ?_))))
          refine Tr.m rfl rfl rfl ?_
          refine Tr.m rfl rfl rfl ?_
          refine Tr.skp rfl rfl ?_
          refine Tr.skp rfl rfl ?_
          refine Tr.skp rfl rfl ?_
          refine Tr.pick rfl rfl rfl rfl rfl rfl ?_
          refine Tr.nil (Aa ?_)
          refine Sat.cond_f rfl rfl ?_
          refine Sat.skip (Aa (Sat.seq (Sat.seq (Sat.region ?_))))
          refine Tr.m rfl rfl rfl ?_
          refine Tr.m rfl rfl rfl ?_
          refine Tr.skp rfl rfl ?_
          refine Tr.skp rfl rfl ?_
          refine Tr.skp rfl rfl ?_
          refine Tr.pick rfl rfl rfl rfl rfl rfl ?_
          refine Tr.nil (Aa ?_)
          refine Sat.cond_f rfl rfl ?_
          refine Sat.skip (Aa (Sat.seq (Sat.seq (Sat.region ?_))))
          refine Tr.m rfl rfl rfl ?_
          refine Tr.not rfl rfl rfl ?_
          refine Tr.m rfl rfl rfl ?_
          refine Tr.skp rfl rfl ?_
          refine Tr.skp rfl rfl ?_
          refine Tr.skp rfl rfl ?_
          refine Tr.pick rfl rfl rfl rfl rfl rfl ?_
          refine Tr.m rfl rfl rfl ?_
          refine Tr.skp rfl rfl ?_
          refine Tr.skp rfl rfl ?_
          refine Tr.skp rfl rfl ?_
          refine Tr.pick rfl rfl rfl rfl rfl rfl ?_
          refine Tr.nil (Aa ?_)
          refine Sat.cond_t rfl rfl ?_
          refine Sat.seq (Sat.region ?_)
          refine Tr.build (cs := Msg.zero.cells) rfl rfl rfl (fun w => by kernel_rfl) ?_
          refine Tr.sA rfl rfl rfl rfl (Msg.isCell (by first | exact oK  | exact ⟨trivial⟩)) Sz57 (Msg.length (by first | exact oK  | exact ⟨trivial⟩)) mM (Msg.length (by first | exact oK  | exact ⟨trivial⟩)) uU ?_
          refine Tr.a rfl rfl rfl ?_
          refine Tr.nil (Aa (Sat.ret (Ao (Am ?_))))
          refine Ak (out := []) (A6 rfl rfl rfl Y57 rfl Sz57 mM (by first | (simp; done) | exact Msg.length (by first | exact oK  | exact ⟨trivial⟩))) Ad ?_
          exact msg_badR (msgRd_none (by first | exact bad7 hbad | exact bad6 hbad | exact bad5 hbad | exact bad4 hbad | exact bad3 hbad | exact bad2 hbad | exact bad1 hbad | exact bad0 hbad))
       ·
        have hbad := hj.no rfl
        dsimp only at hbad ⊢
        refine Sat.seq (Sat.seq (Sat.region ?_))
        refine Tr.m rfl rfl rfl ?_
        refine Tr.m rfl rfl rfl ?_
        refine Tr.skp rfl rfl ?_
        refine Tr.skp rfl rfl ?_
        refine Tr.skp rfl rfl ?_
        refine Tr.pick rfl rfl rfl rfl rfl rfl ?_
        refine Tr.nil (Aa ?_)
        refine Sat.cond_f rfl rfl ?_
        refine Sat.skip (Aa (Sat.seq (Sat.seq (Sat.region ?_))))
        refine Tr.m rfl rfl rfl ?_
        refine Tr.m rfl rfl rfl ?_
        refine Tr.skp rfl rfl ?_
        refine Tr.skp rfl rfl ?_
        refine Tr.skp rfl rfl ?_
        refine Tr.pick rfl rfl rfl rfl rfl rfl ?_
        refine Tr.nil (Aa ?_)
        refine Sat.cond_f rfl rfl ?_
        refine Sat.skip (Aa (Sat.seq (Sat.seq (Sat.region ?_))))
        refine Tr.m rfl rfl rfl ?_
        refine Tr.m rfl rfl rfl ?_
        refine Tr.skp rfl rfl ?_
        refine Tr.skp rfl rfl ?_
        refine Tr.skp rfl rfl ?_
        refine Tr.pick rfl rfl rfl rfl rfl rfl ?_
        refine Tr.nil (Aa ?_)
        refine Sat.cond_f rfl rfl ?_
        refine Sat.skip (Aa (Sat.seq (Sat.seq (Sat.region ?_))))
        refine Tr.m rfl rfl rfl ?_
        refine Tr.m rfl rfl rfl ?_
        refine Tr.skp rfl rfl ?_
        refine Tr.skp rfl rfl ?_
        refine Tr.skp rfl rfl ?_
        refine Tr.pick rfl rfl rfl rfl rfl rfl ?_
        refine Tr.nil (Aa ?_)
        refine Sat.cond_f rfl rfl ?_
        refine Sat.skip (Aa (Sat.seq (Sat.seq (Sat.region ?_))))
        refine Tr.m rfl rfl rfl ?_
        refine Tr.not rfl rfl rfl ?_
        refine Tr.m rfl rfl rfl ?_
        refine Tr.skp rfl rfl ?_
        refine Tr.skp rfl rfl ?_
        refine Tr.skp rfl rfl ?_
        refine Tr.pick rfl rfl rfl rfl rfl rfl ?_
        refine Tr.m rfl rfl rfl ?_
        refine Tr.skp rfl rfl ?_
        refine Tr.skp rfl rfl ?_
        refine Tr.skp rfl rfl ?_
        refine Tr.pick rfl rfl rfl rfl rfl rfl ?_
        refine Tr.nil (Aa ?_)
        refine Sat.cond_t rfl rfl ?_
        refine Sat.seq (Sat.region ?_)
        refine Tr.build (cs := Msg.zero.cells) rfl rfl rfl (fun w => by kernel_rfl) ?_
        refine Tr.sA rfl rfl rfl rfl (Msg.isCell (by first | exact oK  | exact ⟨trivial⟩)) Sz57 (Msg.length (by first | exact oK  | exact ⟨trivial⟩)) mM (Msg.length (by first | exact oK  | exact ⟨trivial⟩)) uU ?_
        refine Tr.a rfl rfl rfl ?_
        refine Tr.nil (Aa (Sat.ret (Ao (Am ?_))))
        refine Ak (out := []) (A6 rfl rfl rfl Y57 rfl Sz57 mM (by first | (simp; done) | exact Msg.length (by first | exact oK  | exact ⟨trivial⟩))) Ad ?_
        exact msg_badR (msgRd_none (by first | exact bad7 hbad | exact bad6 hbad | exact bad5 hbad | exact bad4 hbad | exact bad3 hbad | exact bad2 hbad | exact bad1 hbad | exact bad0 hbad))
     ·
      have hbad := hj.no rfl
      dsimp only at hbad ⊢
      refine Sat.seq (Sat.seq (Sat.region ?_))
      refine Tr.m rfl rfl rfl ?_
      refine Tr.m rfl rfl rfl ?_
      refine Tr.skp rfl rfl ?_
      refine Tr.skp rfl rfl ?_
      refine Tr.skp rfl rfl ?_
      refine Tr.pick rfl rfl rfl rfl rfl rfl ?_
      refine Tr.nil (Aa ?_)
      refine Sat.cond_f rfl rfl ?_
      refine Sat.skip (Aa (Sat.seq (Sat.seq (Sat.region ?_))))
      refine Tr.m rfl rfl rfl ?_
      refine Tr.m rfl rfl rfl ?_
      refine Tr.skp rfl rfl ?_
      refine Tr.skp rfl rfl ?_
      refine Tr.skp rfl rfl ?_
      refine Tr.pick rfl rfl rfl rfl rfl rfl ?_
      refine Tr.nil (Aa ?_)
      refine Sat.cond_f rfl rfl ?_
      refine Sat.skip (Aa (Sat.seq (Sat.seq (Sat.region ?_))))
      refine Tr.m rfl rfl rfl ?_
      refine Tr.m rfl rfl rfl ?_
      refine Tr.skp rfl rfl ?_
      refine Tr.skp rfl rfl ?_
      refine Tr.skp rfl rfl ?_
      refine Tr.pick rfl rfl rfl rfl rfl rfl ?_
      refine Tr.nil (Aa ?_)
      refine Sat.cond_f rfl rfl ?_
      refine Sat.skip (Aa (Sat.seq (Sat.seq (Sat.region ?_))))
      refine Tr.m rfl rfl rfl ?_
      refine Tr.m rfl rfl rfl ?_
      refine Tr.skp rfl rfl ?_
      refine Tr.skp rfl rfl ?_
      refine Tr.skp rfl rfl ?_
      refine Tr.pick rfl rfl rfl rfl rfl rfl ?_
      refine Tr.nil (Aa ?_)
      refine Sat.cond_f rfl rfl ?_
      refine Sat.skip (Aa (Sat.seq (Sat.seq (Sat.region ?_))))
      refine Tr.m rfl rfl rfl ?_
      refine Tr.m rfl rfl rfl ?_
      refine Tr.skp rfl rfl ?_
      refine Tr.skp rfl rfl ?_
      refine Tr.skp rfl rfl ?_
      refine Tr.pick rfl rfl rfl rfl rfl rfl ?_
      refine Tr.nil (Aa ?_)
      refine Sat.cond_f rfl rfl ?_
      refine Sat.skip (Aa (Sat.seq (Sat.seq (Sat.region ?_))))
      refine Tr.m rfl rfl rfl ?_
      refine Tr.not rfl rfl rfl ?_
      refine Tr.m rfl rfl rfl ?_
      refine Tr.skp rfl rfl ?_
      refine Tr.skp rfl rfl ?_
      refine Tr.skp rfl rfl ?_
      refine Tr.pick rfl rfl rfl rfl rfl rfl ?_
      refine Tr.m rfl rfl rfl ?_
      refine Tr.skp rfl rfl ?_
      refine Tr.skp rfl rfl ?_
      refine Tr.skp rfl rfl ?_
      refine Tr.pick rfl rfl rfl rfl rfl rfl ?_
      refine Tr.nil (Aa ?_)
      refine Sat.cond_t rfl rfl ?_
      refine Sat.seq (Sat.region ?_)
      refine Tr.build (cs := Msg.zero.cells) rfl rfl rfl (fun w => by kernel_rfl) ?_
      refine Tr.sA rfl rfl rfl rfl (Msg.isCell (by first | exact oK  | exact ⟨trivial⟩)) Sz57 (Msg.length (by first | exact oK  | exact ⟨trivial⟩)) mM (Msg.length (by first | exact oK  | exact ⟨trivial⟩)) uU ?_
      refine Tr.a rfl rfl rfl ?_
      refine Tr.nil (Aa (Sat.ret (Ao (Am ?_))))
      refine Ak (out := []) (A6 rfl rfl rfl Y57 rfl Sz57 mM (by first | (simp; done) | exact Msg.length (by first | exact oK  | exact ⟨trivial⟩))) Ad ?_
      exact msg_badR (msgRd_none (by first | exact bad7 hbad | exact bad6 hbad | exact bad5 hbad | exact bad4 hbad | exact bad3 hbad | exact bad2 hbad | exact bad1 hbad | exact bad0 hbad))
   ·
    have hbad := hj.no rfl
    dsimp only at hbad ⊢
    refine Sat.seq (Sat.seq (Sat.region ?_))
    refine Tr.m rfl rfl rfl ?_
    refine Tr.m rfl rfl rfl ?_
    refine Tr.skp rfl rfl ?_
    refine Tr.skp rfl rfl ?_
    refine Tr.skp rfl rfl ?_
    refine Tr.pick rfl rfl rfl rfl rfl rfl ?_
    refine Tr.nil (Aa ?_)
    refine Sat.cond_f rfl rfl ?_
    refine Sat.skip (Aa (Sat.seq (Sat.seq (Sat.region ?_))))
    refine Tr.m rfl rfl rfl ?_
    refine Tr.m rfl rfl rfl ?_
    refine Tr.skp rfl rfl ?_
    refine Tr.skp rfl rfl ?_
    refine Tr.skp rfl rfl ?_
    refine Tr.pick rfl rfl rfl rfl rfl rfl ?_
    refine Tr.nil (Aa ?_)
    refine Sat.cond_f rfl rfl ?_
    refine Sat.skip (Aa (Sat.seq (Sat.seq (Sat.region ?_))))
    refine Tr.m rfl rfl rfl ?_
    refine Tr.m rfl rfl rfl ?_
    refine Tr.skp rfl rfl ?_
    refine Tr.skp rfl rfl ?_
    refine Tr.skp rfl rfl ?_
    refine Tr.pick rfl rfl rfl rfl rfl rfl ?_
    refine Tr.nil (Aa ?_)
    refine Sat.cond_f rfl rfl ?_
    refine Sat.skip (Aa (Sat.seq (Sat.seq (Sat.region ?_))))
    refine Tr.m rfl rfl rfl ?_
    refine Tr.m rfl rfl rfl ?_
    refine Tr.skp rfl rfl ?_
    refine Tr.skp rfl rfl ?_
    refine Tr.skp rfl rfl ?_
    refine Tr.pick rfl rfl rfl rfl rfl rfl ?_
    refine Tr.nil (Aa ?_)
    refine Sat.cond_f rfl rfl ?_
    refine Sat.skip (Aa (Sat.seq (Sat.seq (Sat.region ?_))))
    refine Tr.m rfl rfl rfl ?_
    refine Tr.m rfl rfl rfl ?_
    refine Tr.skp rfl rfl ?_
    refine Tr.skp rfl rfl ?_
    refine Tr.skp rfl rfl ?_
    refine Tr.pick rfl rfl rfl rfl rfl rfl ?_
    refine Tr.nil (Aa ?_)
    refine Sat.cond_f rfl rfl ?_
    refine Sat.skip (Aa (Sat.seq (Sat.seq (Sat.region ?_))))
    refine Tr.m rfl rfl rfl ?_
    refine Tr.m rfl rfl rfl ?_
    refine Tr.skp rfl rfl ?_
    refine Tr.skp rfl rfl ?_
    refine Tr.skp rfl rfl ?_
    refine Tr.pick rfl rfl rfl rfl rfl rfl ?_
    refine Tr.nil (Aa ?_)
    refine Sat.cond_f rfl rfl ?_
    refine Sat.skip (Aa (Sat.seq (Sat.seq (Sat.region ?_))))
    refine Tr.m rfl rfl rfl ?_
    refine Tr.not rfl rfl rfl ?_
    refine Tr.m rfl rfl rfl ?_
    refine Tr.skp rfl rfl ?_
    refine Tr.skp rfl rfl ?_
    refine Tr.skp rfl rfl ?_
    refine Tr.pick rfl rfl rfl rfl rfl rfl ?_
    refine Tr.m rfl rfl rfl ?_
    refine Tr.skp rfl rfl ?_
    refine Tr.skp rfl rfl ?_
    refine Tr.skp rfl rfl ?_
    refine Tr.pick rfl rfl rfl rfl rfl rfl ?_
    refine Tr.nil (Aa ?_)
    refine Sat.cond_t rfl rfl ?_
    refine Sat.seq (Sat.region ?_)
    refine Tr.build (cs := Msg.zero.cells) rfl rfl rfl (fun w => by kernel_rfl) ?_
    refine Tr.sA rfl rfl rfl rfl (Msg.isCell (by first | exact oK  | exact ⟨trivial⟩)) Sz57 (Msg.length (by first | exact oK  | exact ⟨trivial⟩)) mM (Msg.length (by first | exact oK  | exact ⟨trivial⟩)) uU ?_
    refine Tr.a rfl rfl rfl ?_
    refine Tr.nil (Aa (Sat.ret (Ao (Am ?_))))
    refine Ak (out := []) (A6 rfl rfl rfl Y57 rfl Sz57 mM (by first | (simp; done) | exact Msg.length (by first | exact oK  | exact ⟨trivial⟩))) Ad ?_
    exact msg_badR (msgRd_none (by first | exact bad7 hbad | exact bad6 hbad | exact bad5 hbad | exact bad4 hbad | exact bad3 hbad | exact bad2 hbad | exact bad1 hbad | exact bad0 hbad))
 ·
  first | have hs4_1 := of_decide_eq_true hs4_10 | have hs4_1 := of_decide_eq_false hs4_10 | have hs4_1 := A2 hs4_10 | have hs4_1 := A3 hs4_10 | have hs4_1 := hs4_10
  have hbad : rS0 xs = none := by
   unfold rS0
   rw [h0]
   dsimp only
   rw [hkk]
   exact if_pos hs4_1
  refine Tr.a rfl rfl rfl ?_
  refine Tr.nil (Aa (Sat.seq (Sat.seq (Sat.region ?_))))
  refine Tr.m rfl rfl rfl ?_
  refine Tr.m rfl rfl rfl ?_
  refine Tr.skp rfl rfl ?_
  refine Tr.skp rfl rfl ?_
  refine Tr.skp rfl rfl ?_
  refine Tr.pick rfl rfl rfl rfl rfl rfl ?_
  refine Tr.nil (Aa ?_)
  refine Sat.cond_f rfl rfl ?_
  refine Sat.skip (Aa (Sat.seq (Sat.seq (Sat.region ?_))))
  refine Tr.m rfl rfl rfl ?_
  refine Tr.m rfl rfl rfl ?_
  refine Tr.skp rfl rfl ?_
  refine Tr.skp rfl rfl ?_
  refine Tr.skp rfl rfl ?_
  refine Tr.pick rfl rfl rfl rfl rfl rfl ?_
  refine Tr.nil (Aa ?_)
  refine Sat.cond_f rfl rfl ?_
  refine Sat.skip (Aa (Sat.seq (Sat.seq (Sat.region ?_))))
  refine Tr.m rfl rfl rfl ?_
  refine Tr.m rfl rfl rfl ?_
  refine Tr.skp rfl rfl ?_
  refine Tr.skp rfl rfl ?_
  refine Tr.skp rfl rfl ?_
  refine Tr.pick rfl rfl rfl rfl rfl rfl ?_
  refine Tr.nil (Aa ?_)
  refine Sat.cond_f rfl rfl ?_
  refine Sat.skip (Aa (Sat.seq (Sat.seq (Sat.region ?_))))
  refine Tr.m rfl rfl rfl ?_
  refine Tr.m rfl rfl rfl ?_
  refine Tr.skp rfl rfl ?_
  refine Tr.skp rfl rfl ?_
  refine Tr.skp rfl rfl ?_
  refine Tr.pick rfl rfl rfl rfl rfl rfl ?_
  refine Tr.nil (Aa ?_)
  refine Sat.cond_f rfl rfl ?_
  refine Sat.skip (Aa (Sat.seq (Sat.seq (Sat.region ?_))))
  refine Tr.m rfl rfl rfl ?_
  refine Tr.m rfl rfl rfl ?_
  refine Tr.skp rfl rfl ?_
  refine Tr.skp rfl rfl ?_
  refine Tr.skp rfl rfl ?_
  refine Tr.pick rfl rfl rfl rfl rfl rfl ?_
  refine Tr.nil (Aa ?_)
  refine Sat.cond_f rfl rfl ?_
  refine Sat.skip (Aa (Sat.seq (Sat.seq (Sat.region ?_))))
  refine Tr.m rfl rfl rfl ?_
  refine Tr.m rfl rfl rfl ?_
  refine Tr.skp rfl rfl ?_
  refine Tr.skp rfl rfl ?_
  refine Tr.skp rfl rfl ?_
  refine Tr.pick rfl rfl rfl rfl rfl rfl ?_
  refine Tr.nil (Aa ?_)
  refine Sat.cond_f rfl rfl ?_
  refine Sat.skip (Aa (Sat.seq (Sat.seq (Sat.region ?_))))
  refine Tr.m rfl rfl rfl ?_
  refine Tr.m rfl rfl rfl ?_
  refine Tr.skp rfl rfl ?_
  refine Tr.skp rfl rfl ?_
  refine Tr.skp rfl rfl ?_
  refine Tr.pick rfl rfl rfl rfl rfl rfl ?_
  refine Tr.nil (Aa ?_)
  refine Sat.cond_f rfl rfl ?_
  refine Sat.skip (Aa (Sat.seq (Sat.seq (Sat.region ?_))))
  refine Tr.m rfl rfl rfl ?_
  refine Tr.not rfl rfl rfl ?_
  refine Tr.m rfl rfl rfl ?_
  refine Tr.skp rfl rfl ?_
  refine Tr.skp rfl rfl ?_
  refine Tr.skp rfl rfl ?_
  refine Tr.pick rfl rfl rfl rfl rfl rfl ?_
  refine Tr.m rfl rfl rfl ?_
  refine Tr.skp rfl rfl ?_
  refine Tr.skp rfl rfl ?_
  refine Tr.skp rfl rfl ?_
  refine Tr.pick rfl rfl rfl rfl rfl rfl ?_
  refine Tr.nil (Aa ?_)
  refine Sat.cond_t rfl rfl ?_
  refine Sat.seq (Sat.region ?_)
  refine Tr.build (cs := Msg.zero.cells) rfl rfl rfl (fun w => by kernel_rfl) ?_
  refine Tr.sA rfl rfl rfl rfl (Msg.isCell (by first | exact oK  | exact ⟨trivial⟩)) Sz57 (Msg.length (by first | exact oK  | exact ⟨trivial⟩)) mM (Msg.length (by first | exact oK  | exact ⟨trivial⟩)) uU ?_
  refine Tr.a rfl rfl rfl ?_
  refine Tr.nil (Aa (Sat.ret (Ao (Am ?_))))
  refine Ak (out := []) (A6 rfl rfl rfl Y57 rfl Sz57 mM (by first | (simp; done) | exact Msg.length (by first | exact oK  | exact ⟨trivial⟩))) Ad ?_
  exact msg_badR (msgRd_none (by first | exact bad7 hbad | exact bad6 hbad | exact bad5 hbad | exact bad4 hbad | exact bad3 hbad | exact bad2 hbad | exact bad1 hbad | exact bad0 hbad))

end Go.Proofs.YtdifpjmfabhpiaaGreat
end

section
namespace Go.Proofs.YtdifpjmfabhpiaaGreat
open Go Hw

def dkz : DKept := ⟨[], [], [], []⟩
noncomputable def keepStep (D : DKept) (r : DRecord) : Option DKept :=
  if r.dKind = 1 then (if (readD r.dData).2 = 0 then some { D with dBlocks := D.dBlocks ++ [(readD r.dData).1] } else none)
  else if r.dKind = 2 then (if (certRd r.dData).2 = 0 then some { D with dCerts := D.dCerts ++ [(certRd r.dData).1] } else none)
  else if r.dKind = 3 then (if (voteRd r.dData).2 = 0 then some { D with dVotes := D.dVotes ++ [(voteRd r.dData).1] } else none)
  else if r.dKind = 4 then (if (cutRd r.dData).2 = 0 then some { D with dCuts := D.dCuts ++ [(cutRd r.dData).1] } else none)
  else none
noncomputable def keepR (ds : List DRecord) : Option DKept := ds.foldl (fun o r => o.bind fun D => keepStep D r) (some dkz)
theorem keepR_snoc (l : List DRecord) (d : DRecord) : keepR (l ++ [d]) = (keepR l).bind fun D => keepStep D d := by simp [keepR, List.foldl_append]
theorem fold_none (l : List DRecord) : l.foldl (fun o r => o.bind fun D => keepStep D r) none = none := by
  induction l with
  | nil => rfl
  | cons a l ih => exact ih
theorem keepR_none {ds : List DRecord} {j : Nat} (h : keepR (ds.take j) = none) : keepR ds = none := by
  have e : keepR ds = keepR (ds.take j ++ ds.drop j) := by rw [List.take_append_drop]
  rw [e, keepR, List.foldl_append]
  have h' : (ds.take j).foldl (fun o r => o.bind fun D => keepStep D r) (some dkz) = none := h
  rw [h', fold_none]
theorem keepR_step {ds : List DRecord} {k : Nat} {d : DRecord} (h : ds[k]? = some d) {D : DKept} (hD : keepR (ds.take k) = some D) : keepR (ds.take (k + 1)) = keepStep D d := by
  rw [take_snoc h, keepR_snoc, hD]; rfl
structure KSt where
  i : Nat
  K : Kept
  D : DKept
  m1 : Nat
  m2 : Nat
  m3 : Nat
  m4 : Nat
  b1 : List Blk
  o1 : List Blk
  r1 : List Block
  b2 : List Blk
  o2 : List Blk
  r2 : List Cert
  b3 : List Blk
  r3 : List Vote
  b4 : List Blk
  o4 : List Blk
  r4 : List Cut
structure KInv (ds : List DRecord) (p : KSt) : Prop where
  fold : keepR (ds.take p.i) = some p.D
  ok : p.K.ok
  q1 : OwnSeq Block.cells 131 BlockIs 79 p.K.fBlocks p.b1 p.o1 p.r1 p.D.dBlocks p.m1
  q2 : OwnSeq Cert.cells 35 CertIs 55 p.K.fCerts p.b2 p.o2 p.r2 p.D.dCerts p.m2
  q3 : OwnSeq Vote.cells 132 VoteIs 81 p.K.fVotes p.b3 [] p.r3 p.D.dVotes p.m3
  q4 : OwnSeq Cut.cells 34 CutIs 53 p.K.fCuts p.b4 p.o4 p.r4 p.D.dCuts p.m4
  le : p.m1 ≤ p.i ∧ p.m2 ≤ p.i ∧ p.m3 ≤ p.i ∧ p.m4 ≤ p.i
def ks0 : KSt := ⟨0, Kept.zero, dkz, 0, 0, 0, 0, [], [], [], [], [], [], [], [], [], [], []⟩
theorem KInv.first (ds : List DRecord) : KInv ds ks0 := ⟨rfl, Kept.zero_ok, OwnSeq.none, OwnSeq.none, OwnSeq.none, OwnSeq.none, ⟨Nat.le_refl _, Nat.le_refl _, Nat.le_refl _, Nat.le_refl _⟩⟩
def JI (ds : List DRecord) (i : Nat) (pb : Bool × KSt) : Prop := (pb.1 = true → KInv ds pb.2 ∧ pb.2.i = i + 1) ∧ (pb.1 = false → keepR ds = none)
theorem KInv.fail {ds : List DRecord} {p : KSt} {d : DRecord} (h : KInv ds p) (hd : ds[p.i]? = some d) (h1 : d.dKind = 1 → ¬ (readD d.dData).2 = 0) (h2 : d.dKind = 2 → ¬ (certRd d.dData).2 = 0) (h3 : d.dKind = 3 → ¬ (voteRd d.dData).2 = 0) (h4 : d.dKind = 4 → ¬ (cutRd d.dData).2 = 0) : keepR ds = none := by
  refine keepR_none (j := p.i + 1) ?_
  rw [keepR_step hd h.fold, keepStep]
  split
  · rename_i e; rw [if_neg (h1 e)]
  · split
    · rename_i e; rw [if_neg (h2 e)]
    · split
      · rename_i e; rw [if_neg (h3 e)]
      · split
        · rename_i e; rw [if_neg (h4 e)]
        · rfl
theorem KInv.skip {ds : List DRecord} {p : KSt} {d : DRecord} (h : KInv ds p) (hd : ds[p.i]? = some d) (h1 : ¬ d.dKind = 1) (h2 : ¬ d.dKind = 2) (h3 : ¬ d.dKind = 3) (h4 : ¬ d.dKind = 4) : JI ds p.i (false, p) :=
  ⟨fun e => (by cases e), fun _ => h.fail hd (fun e => absurd e h1) (fun e => absurd e h2) (fun e => absurd e h3) (fun e => absurd e h4)⟩

end Go.Proofs.YtdifpjmfabhpiaaGreat
end

section
namespace Go.Proofs.YtdifpjmfabhpiaaGreat
open Go Hw

def sameC (a b : DCut) : Bool := decide ((a.dHeight.toNat : Int) = (b.dHeight.toNat : Int)) && (decide (a.dPrev = b.dPrev) && decide (a.dHeads = b.dHeads))

theorem kit_cut (A B : Cut) (a b : DCut) (hn : A.fHeads.n ≤ 1000000) : Meets Tryz.prog 90 [agg A.cells, agg B.cells] [] (fun W => CutIs W A a ∧ CutIs W B b) (fun v out => v = .bool (sameC a b) ∧ out = []) := by
 intro W hW
 have hA := hW.1.ok
 have hB := hW.2.ok
 have e1 := hW.1.fHeight
 have e2 := hW.2.fHeight
 have e3 := hW.1.fPrev
 have e4 := hW.2.fPrev
 refine An Tryz.func90 rfl 24 Tryz.ntmps90 rfl ?_
 refine Sat.seq (Sat.region ?_)
 refine Tr.boxA rfl rfl ?_
 intro n2 hn2 hf2
 refine Tr.boxA rfl rfl ?_
 intro n3 hn3 hf3
 refine Tr.a rfl rfl rfl ?_
 refine Tr.nil (Aa (Sat.seq (Sat.region ?_)))
 refine Tr.fld rfl rfl rfl Y53 rfl B1 dE _ rfl ?_
 refine Tr.load1 rfl rfl rfl Y48 rfl mM (by first | exact Cut.get_fHeight (by first | (simp [hA.l_fPrev, hB.l_fPrev]; done) | exact oK  | exact hA | exact hB) | exact (by first | rfl | exact Az (by first | omega | (simp [hA.l_fPrev, hB.l_fPrev]; done) | (simp [hA.l_fPrev, hB.l_fPrev]; omega)) | exact A9 (by first | omega | (simp [hA.l_fPrev, hB.l_fPrev]; done) | (simp [hA.l_fPrev, hB.l_fPrev]; omega)) | exact Bp (by first | omega | (simp [hA.l_fPrev, hB.l_fPrev]; done) | (simp [hA.l_fPrev, hB.l_fPrev]; omega)))) ?_
 refine Tr.fld rfl rfl rfl Y53 rfl B1 dE _ rfl ?_
 refine Tr.load1 rfl rfl rfl Y48 rfl mM (by first | exact Cut.get_fHeight (by first | (simp [hA.l_fPrev, hB.l_fPrev]; done) | exact oK  | exact hA | exact hB) | exact (by first | rfl | exact Az (by first | omega | (simp [hA.l_fPrev, hB.l_fPrev]; done) | (simp [hA.l_fPrev, hB.l_fPrev]; omega)) | exact A9 (by first | omega | (simp [hA.l_fPrev, hB.l_fPrev]; done) | (simp [hA.l_fPrev, hB.l_fPrev]; omega)) | exact Bp (by first | omega | (simp [hA.l_fPrev, hB.l_fPrev]; done) | (simp [hA.l_fPrev, hB.l_fPrev]; omega)))) ?_
 refine two (fun r hr k => Tr.eqi rfl rfl rfl rfl hr k) (fun hs1_40 => ?_) (fun hs1_40 => ?_)
 ·
  first | have hs1_4 := of_decide_eq_true hs1_40 | have hs1_4 := of_decide_eq_false hs1_40 | have hs1_4 := A2 hs1_40 | have hs1_4 := A3 hs1_40 | have hs1_4 := hs1_40
  refine Tr.m rfl rfl rfl ?_
  refine Tr.fld rfl rfl rfl Y53 rfl Bb dE _ rfl ?_
  first
   | refine Tr.lN (Ab _) rfl rfl rfl Y50 rfl Bb mM (Cut.row_fPrev (by first | (simp [hA.l_fPrev, hB.l_fPrev]; done) | exact oK  | exact hA | exact hB)) (Cut.rl_fPrev (by first | (simp [hA.l_fPrev, hB.l_fPrev]; done) | exact oK  | exact hA | exact hB)) ?_
  refine Tr.fld rfl rfl rfl Y53 rfl Bb dE _ rfl ?_
  first
   | refine Tr.lN (Ab _) rfl rfl rfl Y50 rfl Bb mM (Cut.row_fPrev (by first | (simp [hA.l_fPrev, hB.l_fPrev]; done) | exact oK  | exact hA | exact hB)) (Cut.rl_fPrev (by first | (simp [hA.l_fPrev, hB.l_fPrev]; done) | exact oK  | exact hA | exact hB)) ?_
  refine two (fun r hr k => Tr.eql_bytes rfl rfl rfl rfl Tryz.eqGuardType50 Y50 Y5 Sz5 (by first | (simp [hA.l_fPrev, hB.l_fPrev]; done) | assumption | (rw [Ab, List.length_map]; assumption)) (by first | (simp [hA.l_fPrev, hB.l_fPrev]; done) | assumption | (rw [Ab, List.length_map]; assumption)) hr k) (fun hs1_100 => ?_) (fun hs1_100 => ?_)
  ·
   first | have hs1_10 := of_decide_eq_true hs1_100 | have hs1_10 := of_decide_eq_false hs1_100 | have hs1_10 := A2 hs1_100 | have hs1_10 := A3 hs1_100 | have hs1_10 := hs1_100
   refine Tr.pick rfl rfl rfl rfl rfl rfl ?_
   refine Tr.m rfl rfl rfl ?_
   refine Tr.fld rfl rfl rfl Y53 rfl Sz51 dE _ rfl ?_
   refine Tr.load1 rfl rfl rfl Y51 rfl mM (by first | exact Cut.get_fHeads (by first | (simp [hA.l_fPrev, hB.l_fPrev]; done) | exact oK  | exact hA | exact hB) | exact (by first | rfl | exact Az (by first | omega | (simp [hA.l_fPrev, hB.l_fPrev]; done) | (simp [hA.l_fPrev, hB.l_fPrev]; omega)) | exact A9 (by first | omega | (simp [hA.l_fPrev, hB.l_fPrev]; done) | (simp [hA.l_fPrev, hB.l_fPrev]; omega)) | exact Bp (by first | omega | (simp [hA.l_fPrev, hB.l_fPrev]; done) | (simp [hA.l_fPrev, hB.l_fPrev]; omega)))) ?_
   refine Tr.fld rfl rfl rfl Y53 rfl Sz51 dE _ rfl ?_
   refine Tr.load1 rfl rfl rfl Y51 rfl mM (by first | exact Cut.get_fHeads (by first | (simp [hA.l_fPrev, hB.l_fPrev]; done) | exact oK  | exact hA | exact hB) | exact (by first | rfl | exact Az (by first | omega | (simp [hA.l_fPrev, hB.l_fPrev]; done) | (simp [hA.l_fPrev, hB.l_fPrev]; omega)) | exact A9 (by first | omega | (simp [hA.l_fPrev, hB.l_fPrev]; done) | (simp [hA.l_fPrev, hB.l_fPrev]; omega)) | exact Bp (by first | omega | (simp [hA.l_fPrev, hB.l_fPrev]; done) | (simp [hA.l_fPrev, hB.l_fPrev]; omega)))) ?_
   refine Tr.cV rfl rfl rfl rfl Body130 (digests_any2 _ _ _ _ _ _ a.dHeads b.dHeads hW.1.fHeads.row hW.2.fHeads.row hW.1.fHeads.len hW.2.fHeads.len hn) (fun w h => ⟨Aw h rfl hW.1.fHeads.see, Aw h rfl hW.2.fHeads.see⟩) ?_
   refine Tr.pick rfl rfl rfl rfl rfl rfl ?_
   refine Tr.a rfl rfl rfl ?_
   refine Tr.nil (Aa (Sat.ret (Am ?_)))
   refine ⟨_, [], Ae rfl rfl, sP, sP, ?_, rfl⟩
   unfold sameC
   simp_all
  ·
   first | have hs1_10 := of_decide_eq_true hs1_100 | have hs1_10 := of_decide_eq_false hs1_100 | have hs1_10 := A2 hs1_100 | have hs1_10 := A3 hs1_100 | have hs1_10 := hs1_100
   refine Tr.pick rfl rfl rfl rfl rfl rfl ?_
   refine Tr.m rfl rfl rfl ?_
   refine Tr.skp rfl rfl ?_
   refine Tr.skp rfl rfl ?_
   refine Tr.skp rfl rfl ?_
   refine Tr.skp rfl rfl ?_
   refine Tr.skp rfl rfl ?_
   refine Tr.pick rfl rfl rfl rfl rfl rfl ?_
   refine Tr.a rfl rfl rfl ?_
   refine Tr.nil (Aa (Sat.ret (Am ?_)))
   refine ⟨_, [], Ae rfl rfl, sP, sP, ?_, rfl⟩
   unfold sameC
   simp_all
 ·
  first | have hs1_4 := of_decide_eq_true hs1_40 | have hs1_4 := of_decide_eq_false hs1_40 | have hs1_4 := A2 hs1_40 | have hs1_4 := A3 hs1_40 | have hs1_4 := hs1_40
  refine Tr.m rfl rfl rfl ?_
  refine Tr.skp rfl rfl ?_
  refine Tr.skp rfl rfl ?_
  refine Tr.skp rfl rfl ?_
  refine Tr.skp rfl rfl ?_
  refine Tr.skp rfl rfl ?_
  refine Tr.pick rfl rfl rfl rfl rfl rfl ?_
  refine Tr.m rfl rfl rfl ?_
  refine Tr.skp rfl rfl ?_
  refine Tr.skp rfl rfl ?_
  refine Tr.skp rfl rfl ?_
  refine Tr.skp rfl rfl ?_
  refine Tr.skp rfl rfl ?_
  refine Tr.pick rfl rfl rfl rfl rfl rfl ?_
  refine Tr.a rfl rfl rfl ?_
  refine Tr.nil (Aa (Sat.ret (Am ?_)))
  refine ⟨_, [], Ae rfl rfl, sP, sP, ?_, rfl⟩
  unfold sameC
  simp_all

def sameL {D : Type} (f : D → D → Bool) (xs ys : List D) : Bool := decide (xs.length = ys.length) && (xs.zip ys).all fun p => f p.1 p.2
theorem sameL_yes {D : Type} {f : D → D → Bool} {xs ys : List D} (hl : xs.length = ys.length) (h : ∀ (j : Nat) (a b : D), j < xs.length → xs[j]? = some a → ys[j]? = some b → f a b = true) : sameL f xs ys = true := by
  have e : ((xs.zip ys).all fun p => f p.1 p.2) = true := by
    rw [List.all_eq_true]
    rintro ⟨a, b⟩ hm
    obtain ⟨j, hj⟩ := List.getElem?_of_mem hm
    obtain ⟨h1, h2⟩ := List.getElem?_zip_eq_some.1 hj
    exact h j a b (List.getElem?_eq_some_iff.1 h1).1 h1 h2
  rw [sameL, e, decide_eq_true hl]; rfl
theorem sameL_no {D : Type} {f : D → D → Bool} {xs ys : List D} {k : Nat} {a b : D} (ha : xs[k]? = some a) (hb : ys[k]? = some b) (h : f a b = false) : sameL f xs ys = false := by
  have e : ((xs.zip ys).all fun p => f p.1 p.2) = false := by
    rw [List.all_eq_false]
    exact ⟨(a, b), List.mem_of_getElem? (List.getElem?_zip_eq_some.2 ⟨ha, hb⟩), by rw [h]; simp⟩
  rw [sameL, e, Bool.and_false]
theorem sameL_len {D : Type} {f : D → D → Bool} {xs ys : List D} (h : ¬ xs.length = ys.length) : sameL f xs ys = false := by rw [sameL, decide_eq_false h]; rfl

theorem kit_cuts (s u : Sl) (xs ys : List DCut) (hsm : ∀ d ∈ xs, d.dHeads.length ≤ 1000000) : Meets Tryz.prog 22 [s.v, u.v] [] (fun W => CutsAt W s xs ∧ CutsAt W u ys) (fun v out => v = .bool (sameL sameC xs ys) ∧ out = []) := by
 intro W hW
 obtain ⟨⟨rs, hs⟩, ⟨ru, hu⟩⟩ := hW
 have hnd := hs.nd
 have hnu := hu.nd
 have hmax := hs.max
 have hmaxu := hu.max
 simp only [maxLen] at hmax hmaxu
 refine An Tryz.func22 rfl 27 Tryz.ntmps22 rfl ?_
 refine Sat.seq (Sat.region ?_)
 refine Tr.a rfl rfl rfl ?_
 refine Tr.nil (Aa (Sat.seq (Sat.seq (Sat.region ?_))))
 refine Tr.m rfl rfl rfl ?_
 refine Tr.lenSl rfl rfl rfl Y25 ?_
 refine Tr.m rfl rfl rfl ?_
 refine Tr.lenSl rfl rfl rfl Y25 ?_
 refine Tr.nei rfl rfl rfl rfl rfl ?_
 refine Tr.nil (Aa ?_)
 first
  | refine Sat.condP rfl (fun hc0 => ?_) (fun hc0 => ?_)
  | refine Sat.condNP rfl (fun hc0 => ?_) (fun hc0 => ?_)
  | refine Sat.cond rfl (fun hc0 => ?_) (fun hc0 => ?_)
 ·
  refine Sat.seq (Sat.region ?_)
  refine Tr.a rfl rfl rfl ?_
  refine Tr.nil (Aa (Sat.ret (Ao (Am ?_))))
  refine ⟨_, [], Ae rfl rfl, sP, sP, ?_, rfl⟩
  first
   | exact congrArg Value.bool (sameL_len (by rw [hnd, hnu]; omega)).symm
   | exact congrArg Value.bool (sameL_yes (by rw [hnd, hnu]; omega) (by rw [hnd]; exact hg)).symm
   | exact congrArg Value.bool (sameL_no hd hdu (by simp_all; done)).symm
 ·
  refine Sat.skip (Aa (Sat.seq (Sat.seq (Sat.region ?_))))
  refine Tr.a rfl rfl rfl ?_
  refine Tr.nil (Aa (Sat.block ?_))
  refine Sat.loop (ι := Nat) (fun k => ⟨[(0, s.v), (1, u.v), (5, i64 (k : Int))], []⟩) (fun k => k ≤ s.n ∧ s.n = u.n ∧ ∀ (j : Nat) (a b : DCut), j < k → xs[j]? = some a → ys[j]? = some b → sameC a b = true) (fun k => s.n - k) (0) ?_ ?_ ?_
  · exact ⟨by omega, by omega, fun j a b hj => by omega⟩
  · exact Ar (wk1 rfl (wk1 rfl (wk1 rfl wk0))) wh0 nD
  ·
   rintro k ⟨hk, hsu, hg⟩
   refine Sat.seq (Sat.seq (Sat.region ?_))
   refine Tr.m rfl rfl rfl ?_
   refine Tr.m rfl rfl rfl ?_
   refine Tr.lenSl rfl rfl rfl Y25 ?_
   refine Tr.lss rfl rfl rfl rfl rfl ?_
   refine Tr.nil (Aa ?_)
   first
    | refine Sat.condP rfl (fun hc1 => ?_) (fun hc1 => ?_)
    | refine Sat.condNP rfl (fun hc1 => ?_) (fun hc1 => ?_)
    | refine Sat.cond rfl (fun hc1 => ?_) (fun hc1 => ?_)
   ·
    have hk2 : k < s.n := by omega
    obtain ⟨b, o, r, d, hsp, hr, hd, his, hlen, hsee⟩ := hs.at dE hk2
    obtain ⟨b2, o2, r2, d2, hspu, hru, hdu, hiu, hlenu, hseeu⟩ := hu.at dE (show k < u.n by omega)
    refine Sat.skip (Aa (Sat.seq (Sat.block (Sat.seq ?_))))
    refine Sat.draw [(0, 0), (0, 1), (0, 2), (1, 3), (0, 4), (0, 5), (0, 6), (1, 7), (3, 8), (0, 9)] Bv zK ?_
    refine Tr.m rfl rfl rfl ?_
    refine Tr.m rfl rfl rfl ?_
    refine Tr.idxSlP 34 rfl rfl rfl hsp rfl Y25 Ca k rfl oM ?_
    refine Tr.loadEN r.cells rfl rfl rfl Y53 rfl Ca sP hlen hsee ?_
    refine Tr.m rfl rfl rfl ?_
    refine Tr.m rfl rfl rfl ?_
    refine Tr.idxSlP 34 rfl rfl rfl hspu rfl Y25 Ca k rfl oM ?_
    refine Tr.loadEN r2.cells rfl rfl rfl Y53 rfl Ca sP hlenu hseeu ?_
    refine Tr.cV rfl rfl rfl rfl Body90 (kit_cut r r2 d d2 (by rw [← his.fHeads.len]; exact hsm d (List.mem_of_getElem? hd))) (fun w h => ⟨his.ext h rfl, hiu.ext h rfl⟩) ?_
    refine Tr.not rfl rfl rfl ?_
    refine Tr.nil (Aa ?_)
    first
     | refine Sat.condP rfl (fun hc2 => ?_) (fun hc2 => ?_)
     | refine Sat.condNP rfl (fun hc2 => ?_) (fun hc2 => ?_)
     | refine Sat.cond rfl (fun hc2 => ?_) (fun hc2 => ?_)
    ·
     refine Sat.seq (Sat.region ?_)
     refine Tr.a rfl rfl rfl ?_
     refine Tr.nil (Aa (Sat.ret (B8 (Ao (Ao (B8 (Ao (Am ?_))))))))
     refine ⟨_, [], Ae rfl rfl, sP, sP, ?_, rfl⟩
     first
      | exact congrArg Value.bool (sameL_len (by rw [hnd, hnu]; omega)).symm
      | exact congrArg Value.bool (sameL_yes (by rw [hnd, hnu]; omega) (by rw [hnd]; exact hg)).symm
      | exact congrArg Value.bool (sameL_no hd hdu (by simp_all; done)).symm
    ·
     refine Sat.skip (B2 (Aa (Sat.region ?_)))
     refine Tr.m rfl rfl rfl ?_
     refine Tr.aI rfl rfl rfl rfl oM ?_
     refine Tr.a rfl rfl rfl ?_
     refine Tr.nil (Aa ?_)
     exact ⟨k + 1, ⟨by omega, hsu, fun j a b hj ha hb => by rcases Nat.lt_succ_iff_lt_or_eq.1 hj with h | rfl; exact hg j a b h ha hb; exact (by rw [hd] at ha; rw [hdu] at hb; cases ha; cases hb; simp_all)⟩, by omega, Ar (wk1 rfl (wk1 rfl (wk1 rfl wk0))) wh0 nD⟩
   ·
    obtain rfl : k = s.n := by omega
    refine Sat.exit (Bf (Bf (bl_h (Aa (Sat.seq (Sat.region ?_))))))
    refine Tr.a rfl rfl rfl ?_
    refine Tr.nil (Aa (Sat.ret (Am ?_)))
    refine ⟨_, [], Ae rfl rfl, sP, sP, ?_, rfl⟩
    first
     | exact congrArg Value.bool (sameL_len (by rw [hnd, hnu]; omega)).symm
     | exact congrArg Value.bool (sameL_yes (by rw [hnd, hnu]; omega) (by rw [hnd]; exact hg)).symm
     | exact congrArg Value.bool (sameL_no hd hdu (by simp_all; done)).symm

open Classical in
noncomputable def sameV (a b : Vote) : Bool := decide (a = b)
theorem sameV_eq {a b : Vote} (h : a = b) : sameV a b = true := by unfold sameV; simp [h]
theorem sameV_ne {a b : Vote} (h : ¬ a = b) : sameV a b = false := by unfold sameV; simp [h]

theorem kit_votes (s u : Sl) (xs ys : List Vote) : Meets Tryz.prog 21 [s.v, u.v] [] (fun W => VotesAt W s xs ∧ VotesAt W u ys) (fun v out => v = .bool (sameL sameV xs ys) ∧ out = []) := by
 intro W hW
 obtain ⟨⟨rs, hs⟩, ⟨ru, hu⟩⟩ := hW
 have hnd := hs.nd
 have hnu := hu.nd
 have hmax := hs.max
 have hmaxu := hu.max
 simp only [maxLen] at hmax hmaxu
 refine An Tryz.func21 rfl 26 Tryz.ntmps21 rfl ?_
 refine Sat.seq (Sat.region ?_)
 refine Tr.a rfl rfl rfl ?_
 refine Tr.nil (Aa (Sat.seq (Sat.seq (Sat.region ?_))))
 refine Tr.m rfl rfl rfl ?_
 refine Tr.lenSl rfl rfl rfl Y24 ?_
 refine Tr.m rfl rfl rfl ?_
 refine Tr.lenSl rfl rfl rfl Y24 ?_
 refine Tr.nei rfl rfl rfl rfl rfl ?_
 refine Tr.nil (Aa ?_)
 first
  | refine Sat.condP rfl (fun hc0 => ?_) (fun hc0 => ?_)
  | refine Sat.condNP rfl (fun hc0 => ?_) (fun hc0 => ?_)
  | refine Sat.cond rfl (fun hc0 => ?_) (fun hc0 => ?_)
 ·
  refine Sat.seq (Sat.region ?_)
  refine Tr.a rfl rfl rfl ?_
  refine Tr.nil (Aa (Sat.ret (Ao (Am ?_))))
  refine ⟨_, [], Ae rfl rfl, sP, sP, ?_, rfl⟩
  first
   | exact congrArg Value.bool (sameL_len (by rw [hnd, hnu]; omega)).symm
   | exact congrArg Value.bool (sameL_yes (by rw [hnd, hnu]; omega) (by rw [hnd]; exact hg)).symm
   | exact congrArg Value.bool (sameL_no hd hdu (sameV_ne (by first | assumption | (intro h9; simp_all; done)))).symm
 ·
  refine Sat.skip (Aa (Sat.seq (Sat.seq (Sat.region ?_))))
  refine Tr.a rfl rfl rfl ?_
  refine Tr.nil (Aa (Sat.block ?_))
  refine Sat.loop (ι := Nat) (fun k => ⟨[(0, s.v), (1, u.v), (5, i64 (k : Int))], []⟩) (fun k => k ≤ s.n ∧ s.n = u.n ∧ ∀ (j : Nat) (a b : Vote), j < k → xs[j]? = some a → ys[j]? = some b → sameV a b = true) (fun k => s.n - k) (0) ?_ ?_ ?_
  · exact ⟨by omega, by omega, fun j a b hj => by omega⟩
  · exact Ar (wk1 rfl (wk1 rfl (wk1 rfl wk0))) wh0 nD
  ·
   rintro k ⟨hk, hsu, hg⟩
   refine Sat.seq (Sat.seq (Sat.region ?_))
   refine Tr.m rfl rfl rfl ?_
   refine Tr.m rfl rfl rfl ?_
   refine Tr.lenSl rfl rfl rfl Y24 ?_
   refine Tr.lss rfl rfl rfl rfl rfl ?_
   refine Tr.nil (Aa ?_)
   first
    | refine Sat.condP rfl (fun hc1 => ?_) (fun hc1 => ?_)
    | refine Sat.condNP rfl (fun hc1 => ?_) (fun hc1 => ?_)
    | refine Sat.cond rfl (fun hc1 => ?_) (fun hc1 => ?_)
   ·
    have hk2 : k < s.n := by omega
    obtain ⟨b, o, r, d, hsp, hr, hd, his, hlen, hsee⟩ := hs.at dE hk2
    obtain ⟨b2, o2, r2, d2, hspu, hru, hdu, hiu, hlenu, hseeu⟩ := hu.at dE (show k < u.n by omega)
    obtain rfl := his.eq
    obtain rfl := hiu.eq
    refine Sat.skip (Aa (Sat.seq (Sat.block (Sat.seq ?_))))
    refine Sat.draw [(0, 0), (0, 1), (0, 2), (1, 3), (0, 4), (0, 5), (0, 6), (1, 7), (0, 8)] Bv zK ?_
    refine Tr.m rfl rfl rfl ?_
    refine Tr.m rfl rfl rfl ?_
    refine Tr.idxSlP 132 rfl rfl rfl hsp rfl Y24 Sz81 k rfl oM ?_
    refine Tr.loadEN r.cells rfl rfl rfl Y81 rfl Sz81 sP hlen hsee ?_
    refine Tr.m rfl rfl rfl ?_
    refine Tr.m rfl rfl rfl ?_
    refine Tr.idxSlP 132 rfl rfl rfl hspu rfl Y24 Sz81 k rfl oM ?_
    refine Tr.loadEN r2.cells rfl rfl rfl Y81 rfl Sz81 sP hlenu hseeu ?_
    refine Tr.neq_rec rfl rfl rfl rfl Vote.eg (fun w => Vote.eq_runC (by first | exact oK  | exact his.ok | exact hiu.ok) (by first | exact oK  | exact his.ok | exact hiu.ok) w) rfl ?_
    refine Tr.nil (Aa ?_)
    first
     | refine Sat.condP rfl (fun hc2 => ?_) (fun hc2 => ?_)
     | refine Sat.condNP rfl (fun hc2 => ?_) (fun hc2 => ?_)
     | refine Sat.cond rfl (fun hc2 => ?_) (fun hc2 => ?_)
    ·
     refine Sat.seq (Sat.region ?_)
     refine Tr.a rfl rfl rfl ?_
     refine Tr.nil (Aa (Sat.ret (B8 (Ao (Ao (B8 (Ao (Am ?_))))))))
     refine ⟨_, [], Ae rfl rfl, sP, sP, ?_, rfl⟩
     first
      | exact congrArg Value.bool (sameL_len (by rw [hnd, hnu]; omega)).symm
      | exact congrArg Value.bool (sameL_yes (by rw [hnd, hnu]; omega) (by rw [hnd]; exact hg)).symm
      | exact congrArg Value.bool (sameL_no hd hdu (sameV_ne (by first | assumption | (intro h9; simp_all; done)))).symm
    ·
     refine Sat.skip (B2 (Aa (Sat.region ?_)))
     refine Tr.m rfl rfl rfl ?_
     refine Tr.aI rfl rfl rfl rfl oM ?_
     refine Tr.a rfl rfl rfl ?_
     refine Tr.nil (Aa ?_)
     exact ⟨k + 1, ⟨by omega, hsu, fun j a b hj ha hb => by rcases Nat.lt_succ_iff_lt_or_eq.1 hj with h | rfl; exact hg j a b h ha hb; exact (by rw [hd] at ha; rw [hdu] at hb; cases ha; cases hb; exact sameV_eq (by first | assumption | (simp_all; done)))⟩, by omega, Ar (wk1 rfl (wk1 rfl (wk1 rfl wk0))) wh0 nD⟩
   ·
    obtain rfl : k = s.n := by omega
    refine Sat.exit (Bf (Bf (bl_h (Aa (Sat.seq (Sat.region ?_))))))
    refine Tr.a rfl rfl rfl ?_
    refine Tr.nil (Aa (Sat.ret (Am ?_)))
    refine ⟨_, [], Ae rfl rfl, sP, sP, ?_, rfl⟩
    first
     | exact congrArg Value.bool (sameL_len (by rw [hnd, hnu]; omega)).symm
     | exact congrArg Value.bool (sameL_yes (by rw [hnd, hnu]; omega) (by rw [hnd]; exact hg)).symm
     | exact congrArg Value.bool (sameL_no hd hdu (sameV_ne (by first | assumption | (intro h9; simp_all; done)))).symm

noncomputable def sameE (a b : DCert) : Bool := sameC a.dCut b.dCut && sameL sameV a.dVotes b.dVotes

theorem kit_cert (A B : Cert) (a b : DCert) (hn : A.fCut.fHeads.n ≤ 1000000) : Meets Tryz.prog 32 [agg A.cells, agg B.cells] [] (fun W => CertIs W A a ∧ CertIs W B b) (fun v out => v = .bool (sameE a b) ∧ out = []) := by
 intro W hW
 have hA := hW.1.ok
 have hB := hW.2.ok
 refine An Tryz.func32 rfl 17 Tryz.ntmps32 rfl ?_
 refine Sat.seq (Sat.region ?_)
 refine Tr.boxA rfl rfl ?_
 intro n2 hn2 hf2
 refine Tr.boxA rfl rfl ?_
 intro n3 hn3 hf3
 refine Tr.a rfl rfl rfl ?_
 refine Tr.nil (Aa (Sat.seq (Sat.region ?_)))
 refine Tr.fld rfl rfl rfl Y55 rfl Ca dE _ rfl ?_
 refine Tr.lN (Cut.cells _) rfl rfl rfl Y53 rfl Ca mM (Cert.row_fCut (by first | exact oK  | exact hA | exact hB)) (Cert.rl_fCut (by first | exact oK  | exact hA | exact hB)) ?_
 refine Tr.fld rfl rfl rfl Y55 rfl Ca dE _ rfl ?_
 refine Tr.lN (Cut.cells _) rfl rfl rfl Y53 rfl Ca mM (Cert.row_fCut (by first | exact oK  | exact hA | exact hB)) (Cert.rl_fCut (by first | exact oK  | exact hA | exact hB)) ?_
 refine Tr.callB rfl rfl rfl rfl Body90 (kit_cut A.fCut B.fCut a.dCut b.dCut hn) (fun w h => ⟨hW.1.fCut.ext h rfl, hW.2.fCut.ext h rfl⟩) (fun hs1_40 => ?_) (fun hs1_40 => ?_)
 ·
  first | have hs1_4 := of_decide_eq_true hs1_40 | have hs1_4 := of_decide_eq_false hs1_40 | have hs1_4 := A2 hs1_40 | have hs1_4 := A3 hs1_40 | have hs1_4 := hs1_40
  refine Tr.m rfl rfl rfl ?_
  refine Tr.fld rfl rfl rfl Y55 rfl Sz24 dE _ rfl ?_
  refine Tr.load1 rfl rfl rfl Y24 rfl mM (by first | exact Cert.get_fVotes (by first | exact oK  | exact hA | exact hB) | exact vL) ?_
  refine Tr.fld rfl rfl rfl Y55 rfl Sz24 dE _ rfl ?_
  refine Tr.load1 rfl rfl rfl Y24 rfl mM (by first | exact Cert.get_fVotes (by first | exact oK  | exact hA | exact hB) | exact vL) ?_
  refine Tr.cV rfl rfl rfl rfl Body21 (kit_votes A.fVotes B.fVotes a.dVotes b.dVotes) (fun w h => ⟨Votes_ext h rfl hW.1.fVotes, Votes_ext h rfl hW.2.fVotes⟩) ?_
  refine Tr.pick rfl rfl rfl rfl rfl rfl ?_
  refine Tr.a rfl rfl rfl ?_
  refine Tr.nil (Aa (Sat.ret (Am ?_)))
  refine ⟨_, [], Ae rfl rfl, sP, sP, ?_, rfl⟩
  simp_all [sameE]
 ·
  first | have hs1_4 := of_decide_eq_true hs1_40 | have hs1_4 := of_decide_eq_false hs1_40 | have hs1_4 := A2 hs1_40 | have hs1_4 := A3 hs1_40 | have hs1_4 := hs1_40
  refine Tr.m rfl rfl rfl ?_
  refine Tr.skp rfl rfl ?_
  refine Tr.skp rfl rfl ?_
  refine Tr.skp rfl rfl ?_
  refine Tr.skp rfl rfl ?_
  refine Tr.skp rfl rfl ?_
  refine Tr.pick rfl rfl rfl rfl rfl rfl ?_
  refine Tr.a rfl rfl rfl ?_
  refine Tr.nil (Aa (Sat.ret (Am ?_)))
  refine ⟨_, [], Ae rfl rfl, sP, sP, ?_, rfl⟩
  simp_all [sameE]

theorem kit_certs (s u : Sl) (xs ys : List DCert) (hsm : ∀ d ∈ xs, d.dCut.dHeads.length ≤ 1000000) : Meets Tryz.prog 20 [s.v, u.v] [] (fun W => CertsAt W s xs ∧ CertsAt W u ys) (fun v out => v = .bool (sameL sameE xs ys) ∧ out = []) := by
 intro W hW
 obtain ⟨⟨rs, hs⟩, ⟨ru, hu⟩⟩ := hW
 have hnd := hs.nd
 have hnu := hu.nd
 have hmax := hs.max
 have hmaxu := hu.max
 simp only [maxLen] at hmax hmaxu
 refine An Tryz.func20 rfl 27 Tryz.ntmps20 rfl ?_
 refine Sat.seq (Sat.region ?_)
 refine Tr.a rfl rfl rfl ?_
 refine Tr.nil (Aa (Sat.seq (Sat.seq (Sat.region ?_))))
 refine Tr.m rfl rfl rfl ?_
 refine Tr.lenSl rfl rfl rfl Y23 ?_
 refine Tr.m rfl rfl rfl ?_
 refine Tr.lenSl rfl rfl rfl Y23 ?_
 refine Tr.nei rfl rfl rfl rfl rfl ?_
 refine Tr.nil (Aa ?_)
 first
  | refine Sat.condP rfl (fun hc0 => ?_) (fun hc0 => ?_)
  | refine Sat.condNP rfl (fun hc0 => ?_) (fun hc0 => ?_)
  | refine Sat.cond rfl (fun hc0 => ?_) (fun hc0 => ?_)
 ·
  refine Sat.seq (Sat.region ?_)
  refine Tr.a rfl rfl rfl ?_
  refine Tr.nil (Aa (Sat.ret (Ao (Am ?_))))
  refine ⟨_, [], Ae rfl rfl, sP, sP, ?_, rfl⟩
  first
   | exact congrArg Value.bool (sameL_len (by rw [hnd, hnu]; omega)).symm
   | exact congrArg Value.bool (sameL_yes (by rw [hnd, hnu]; omega) (by rw [hnd]; exact hg)).symm
   | exact congrArg Value.bool (sameL_no hd hdu (by simp_all; done)).symm
 ·
  refine Sat.skip (Aa (Sat.seq (Sat.seq (Sat.region ?_))))
  refine Tr.a rfl rfl rfl ?_
  refine Tr.nil (Aa (Sat.block ?_))
  refine Sat.loop (ι := Nat) (fun k => ⟨[(0, s.v), (1, u.v), (5, i64 (k : Int))], []⟩) (fun k => k ≤ s.n ∧ s.n = u.n ∧ ∀ (j : Nat) (a b : DCert), j < k → xs[j]? = some a → ys[j]? = some b → sameE a b = true) (fun k => s.n - k) (0) ?_ ?_ ?_
  · exact ⟨by omega, by omega, fun j a b hj => by omega⟩
  · exact Ar (wk1 rfl (wk1 rfl (wk1 rfl wk0))) wh0 nD
  ·
   rintro k ⟨hk, hsu, hg⟩
   refine Sat.seq (Sat.seq (Sat.region ?_))
   refine Tr.m rfl rfl rfl ?_
   refine Tr.m rfl rfl rfl ?_
   refine Tr.lenSl rfl rfl rfl Y23 ?_
   refine Tr.lss rfl rfl rfl rfl rfl ?_
   refine Tr.nil (Aa ?_)
   first
    | refine Sat.condP rfl (fun hc1 => ?_) (fun hc1 => ?_)
    | refine Sat.condNP rfl (fun hc1 => ?_) (fun hc1 => ?_)
    | refine Sat.cond rfl (fun hc1 => ?_) (fun hc1 => ?_)
   ·
    have hk2 : k < s.n := by omega
    obtain ⟨b, o, r, d, hsp, hr, hd, his, hlen, hsee⟩ := hs.at dE hk2
    obtain ⟨b2, o2, r2, d2, hspu, hru, hdu, hiu, hlenu, hseeu⟩ := hu.at dE (show k < u.n by omega)
    refine Sat.skip (Aa (Sat.seq (Sat.block (Sat.seq ?_))))
    refine Sat.draw [(0, 0), (0, 1), (0, 2), (1, 3), (0, 4), (0, 5), (0, 6), (1, 7), (3, 8), (0, 9)] Bv zK ?_
    refine Tr.m rfl rfl rfl ?_
    refine Tr.m rfl rfl rfl ?_
    refine Tr.idxSlP 35 rfl rfl rfl hsp rfl Y23 Sz55 k rfl oM ?_
    refine Tr.loadEN r.cells rfl rfl rfl Y55 rfl Sz55 sP hlen hsee ?_
    refine Tr.m rfl rfl rfl ?_
    refine Tr.m rfl rfl rfl ?_
    refine Tr.idxSlP 35 rfl rfl rfl hspu rfl Y23 Sz55 k rfl oM ?_
    refine Tr.loadEN r2.cells rfl rfl rfl Y55 rfl Sz55 sP hlenu hseeu ?_
    refine Tr.cV rfl rfl rfl rfl Body32 (kit_cert r r2 d d2 (by rw [← his.fCut.fHeads.len]; exact hsm d (List.mem_of_getElem? hd))) (fun w h => ⟨his.ext h rfl, hiu.ext h rfl⟩) ?_
    refine Tr.not rfl rfl rfl ?_
    refine Tr.nil (Aa ?_)
    first
     | refine Sat.condP rfl (fun hc2 => ?_) (fun hc2 => ?_)
     | refine Sat.condNP rfl (fun hc2 => ?_) (fun hc2 => ?_)
     | refine Sat.cond rfl (fun hc2 => ?_) (fun hc2 => ?_)
    ·
     refine Sat.seq (Sat.region ?_)
     refine Tr.a rfl rfl rfl ?_
     refine Tr.nil (Aa (Sat.ret (B8 (Ao (Ao (B8 (Ao (Am ?_))))))))
     refine ⟨_, [], Ae rfl rfl, sP, sP, ?_, rfl⟩
     first
      | exact congrArg Value.bool (sameL_len (by rw [hnd, hnu]; omega)).symm
      | exact congrArg Value.bool (sameL_yes (by rw [hnd, hnu]; omega) (by rw [hnd]; exact hg)).symm
      | exact congrArg Value.bool (sameL_no hd hdu (by simp_all; done)).symm
    ·
     refine Sat.skip (B2 (Aa (Sat.region ?_)))
     refine Tr.m rfl rfl rfl ?_
     refine Tr.aI rfl rfl rfl rfl oM ?_
     refine Tr.a rfl rfl rfl ?_
     refine Tr.nil (Aa ?_)
     exact ⟨k + 1, ⟨by omega, hsu, fun j a b hj ha hb => by rcases Nat.lt_succ_iff_lt_or_eq.1 hj with h | rfl; exact hg j a b h ha hb; exact (by rw [hd] at ha; rw [hdu] at hb; cases ha; cases hb; simp_all)⟩, by omega, Ar (wk1 rfl (wk1 rfl (wk1 rfl wk0))) wh0 nD⟩
   ·
    obtain rfl : k = s.n := by omega
    refine Sat.exit (Bf (Bf (bl_h (Aa (Sat.seq (Sat.region ?_))))))
    refine Tr.a rfl rfl rfl ?_
    refine Tr.nil (Aa (Sat.ret (Am ?_)))
    refine ⟨_, [], Ae rfl rfl, sP, sP, ?_, rfl⟩
    first
     | exact congrArg Value.bool (sameL_len (by rw [hnd, hnu]; omega)).symm
     | exact congrArg Value.bool (sameL_yes (by rw [hnd, hnu]; omega) (by rw [hnd]; exact hg)).symm
     | exact congrArg Value.bool (sameL_no hd hdu (by simp_all; done)).symm

def sameBk (a b : DB) : Bool := decide (a.w = b.w) && (decide ((a.seq.toNat : Int) = (b.seq.toNat : Int)) && (decide (a.prev = b.prev) && (decide (a.ls = b.ls) && (decide (a.ds = b.ds) && decide (a.sg = b.sg)))))
theorem sameB_Bk {W : World} {A B : Block} {a b : DB} (h1 : BlockIs W A a) (h2 : BlockIs W B b) : sameB A B a.ls b.ls a.ds b.ds = sameBk a b := by
  simp only [sameB, sameBk, h1.w, h2.w, h1.seq, h2.seq, h1.prev, h2.prev, h1.sg, h2.sg]
theorem kit_blockD (A B : Block) (a b : DB) (hn : A.fLinks.n ≤ 1000000) : Meets Tryz.prog 89 [agg A.cells, agg B.cells] [] (fun W => BlockIs W A a ∧ BlockIs W B b) (fun v out => v = .bool (sameBk a b) ∧ out = []) := fun W hW => by
  rw [← sameB_Bk hW.1 hW.2]
  exact kit_block A B hW.1.ok hW.2.ok a.ls b.ls a.ds b.ds hn W ⟨⟨hW.1.ls, hW.1.ds⟩, ⟨hW.2.ls, hW.2.ds⟩⟩

theorem kit_blocks (s u : Sl) (xs ys : List DB) (hsm : ∀ d ∈ xs, d.ls.length ≤ 1000000) : Meets Tryz.prog 19 [s.v, u.v] [] (fun W => BlocksAt W s xs ∧ BlocksAt W u ys) (fun v out => v = .bool (sameL sameBk xs ys) ∧ out = []) := by
 intro W hW
 obtain ⟨⟨rs, hs⟩, ⟨ru, hu⟩⟩ := hW
 have hnd := hs.nd
 have hnu := hu.nd
 have hmax := hs.max
 have hmaxu := hu.max
 simp only [maxLen] at hmax hmaxu
 refine An Tryz.func19 rfl 27 Tryz.ntmps19 rfl ?_
 refine Sat.seq (Sat.region ?_)
 refine Tr.a rfl rfl rfl ?_
 refine Tr.nil (Aa (Sat.seq (Sat.seq (Sat.region ?_))))
 refine Tr.m rfl rfl rfl ?_
 refine Tr.lenSl rfl rfl rfl Y22 ?_
 refine Tr.m rfl rfl rfl ?_
 refine Tr.lenSl rfl rfl rfl Y22 ?_
 refine Tr.nei rfl rfl rfl rfl rfl ?_
 refine Tr.nil (Aa ?_)
 first
  | refine Sat.condP rfl (fun hc0 => ?_) (fun hc0 => ?_)
  | refine Sat.condNP rfl (fun hc0 => ?_) (fun hc0 => ?_)
  | refine Sat.cond rfl (fun hc0 => ?_) (fun hc0 => ?_)
 ·
  refine Sat.seq (Sat.region ?_)
  refine Tr.a rfl rfl rfl ?_
  refine Tr.nil (Aa (Sat.ret (Ao (Am ?_))))
  refine ⟨_, [], Ae rfl rfl, sP, sP, ?_, rfl⟩
  first
   | exact congrArg Value.bool (sameL_len (by rw [hnd, hnu]; omega)).symm
   | exact congrArg Value.bool (sameL_yes (by rw [hnd, hnu]; omega) (by rw [hnd]; exact hg)).symm
   | exact congrArg Value.bool (sameL_no hd hdu (by simp_all; done)).symm
 ·
  refine Sat.skip (Aa (Sat.seq (Sat.seq (Sat.region ?_))))
  refine Tr.a rfl rfl rfl ?_
  refine Tr.nil (Aa (Sat.block ?_))
  refine Sat.loop (ι := Nat) (fun k => ⟨[(0, s.v), (1, u.v), (5, i64 (k : Int))], []⟩) (fun k => k ≤ s.n ∧ s.n = u.n ∧ ∀ (j : Nat) (a b : DB), j < k → xs[j]? = some a → ys[j]? = some b → sameBk a b = true) (fun k => s.n - k) (0) ?_ ?_ ?_
  · exact ⟨by omega, by omega, fun j a b hj => by omega⟩
  · exact Ar (wk1 rfl (wk1 rfl (wk1 rfl wk0))) wh0 nD
  ·
   rintro k ⟨hk, hsu, hg⟩
   refine Sat.seq (Sat.seq (Sat.region ?_))
   refine Tr.m rfl rfl rfl ?_
   refine Tr.m rfl rfl rfl ?_
   refine Tr.lenSl rfl rfl rfl Y22 ?_
   refine Tr.lss rfl rfl rfl rfl rfl ?_
   refine Tr.nil (Aa ?_)
   first
    | refine Sat.condP rfl (fun hc1 => ?_) (fun hc1 => ?_)
    | refine Sat.condNP rfl (fun hc1 => ?_) (fun hc1 => ?_)
    | refine Sat.cond rfl (fun hc1 => ?_) (fun hc1 => ?_)
   ·
    have hk2 : k < s.n := by omega
    obtain ⟨b, o, r, d, hsp, hr, hd, his, hlen, hsee⟩ := hs.at dE hk2
    obtain ⟨b2, o2, r2, d2, hspu, hru, hdu, hiu, hlenu, hseeu⟩ := hu.at dE (show k < u.n by omega)
    refine Sat.skip (Aa (Sat.seq (Sat.block (Sat.seq ?_))))
    refine Sat.draw [(0, 0), (0, 1), (0, 2), (1, 3), (0, 4), (0, 5), (0, 6), (1, 7), (3, 8), (0, 9)] Bv zK ?_
    refine Tr.m rfl rfl rfl ?_
    refine Tr.m rfl rfl rfl ?_
    refine Tr.idxSlP 131 rfl rfl rfl hsp rfl Y22 Sz79 k rfl oM ?_
    refine Tr.loadEN r.cells rfl rfl rfl Y79 rfl Sz79 sP hlen hsee ?_
    refine Tr.m rfl rfl rfl ?_
    refine Tr.m rfl rfl rfl ?_
    refine Tr.idxSlP 131 rfl rfl rfl hspu rfl Y22 Sz79 k rfl oM ?_
    refine Tr.loadEN r2.cells rfl rfl rfl Y79 rfl Sz79 sP hlenu hseeu ?_
    refine Tr.cV rfl rfl rfl rfl Body89 (kit_blockD r r2 d d2 (by rw [← his.ls.len]; exact hsm d (List.mem_of_getElem? hd))) (fun w h => ⟨his.ext h rfl, hiu.ext h rfl⟩) ?_
    refine Tr.not rfl rfl rfl ?_
    refine Tr.nil (Aa ?_)
    first
     | refine Sat.condP rfl (fun hc2 => ?_) (fun hc2 => ?_)
     | refine Sat.condNP rfl (fun hc2 => ?_) (fun hc2 => ?_)
     | refine Sat.cond rfl (fun hc2 => ?_) (fun hc2 => ?_)
    ·
     refine Sat.seq (Sat.region ?_)
     refine Tr.a rfl rfl rfl ?_
     refine Tr.nil (Aa (Sat.ret (B8 (Ao (Ao (B8 (Ao (Am ?_))))))))
     refine ⟨_, [], Ae rfl rfl, sP, sP, ?_, rfl⟩
     first
      | exact congrArg Value.bool (sameL_len (by rw [hnd, hnu]; omega)).symm
      | exact congrArg Value.bool (sameL_yes (by rw [hnd, hnu]; omega) (by rw [hnd]; exact hg)).symm
      | exact congrArg Value.bool (sameL_no hd hdu (by simp_all; done)).symm
    ·
     refine Sat.skip (B2 (Aa (Sat.region ?_)))
     refine Tr.m rfl rfl rfl ?_
     refine Tr.aI rfl rfl rfl rfl oM ?_
     refine Tr.a rfl rfl rfl ?_
     refine Tr.nil (Aa ?_)
     exact ⟨k + 1, ⟨by omega, hsu, fun j a b hj ha hb => by rcases Nat.lt_succ_iff_lt_or_eq.1 hj with h | rfl; exact hg j a b h ha hb; exact (by rw [hd] at ha; rw [hdu] at hb; cases ha; cases hb; simp_all)⟩, by omega, Ar (wk1 rfl (wk1 rfl (wk1 rfl wk0))) wh0 nD⟩
   ·
    obtain rfl : k = s.n := by omega
    refine Sat.exit (Bf (Bf (bl_h (Aa (Sat.seq (Sat.region ?_))))))
    refine Tr.a rfl rfl rfl ?_
    refine Tr.nil (Aa (Sat.ret (Am ?_)))
    refine ⟨_, [], Ae rfl rfl, sP, sP, ?_, rfl⟩
    first
     | exact congrArg Value.bool (sameL_len (by rw [hnd, hnu]; omega)).symm
     | exact congrArg Value.bool (sameL_yes (by rw [hnd, hnu]; omega) (by rw [hnd]; exact hg)).symm
     | exact congrArg Value.bool (sameL_no hd hdu (by simp_all; done)).symm

def DKept.small (a : DKept) : Prop := (∀ d ∈ a.dBlocks, d.ls.length ≤ 1000000) ∧ (∀ d ∈ a.dCerts, d.dCut.dHeads.length ≤ 1000000) ∧ ∀ d ∈ a.dCuts, d.dHeads.length ≤ 1000000

end Go.Proofs.YtdifpjmfabhpiaaGreat
end

section
namespace Go.Proofs.YtdifpjmfabhpiaaGreat
open Go Hw

theorem seq_one {R D : Type} {cells : R → List Value} {k : Nat} {Is : World → R → D → Prop} {w : World} (q : Nat) (E : TypeId) (r : R) {m : Nat} {d : D} (hl : Lies [⟨q, cells r, E, m⟩] w) (hlen : (cells r).length = k) (hm : m = 1 * k) (hi : Is w r d) : SeqIs cells k Is w ⟨some ⟨q, 0, none⟩, 1, 1⟩ [r] [d] := by
  subst hm
  have ha : Hw.Acc ⟨some ⟨q, 0, none⟩, 1, 1⟩ [⟨q, cells r, E, 1 * k⟩] (cells r) E 1 k := Acc.some (Nat.le_refl _) (by rw [hlen, Nat.one_mul])
  have e : ([r].map cells).flatten = cells r := by simp
  refine acc_seq (by rw [e]; exact ha) hl rfl rfl (fun x hx => by rw [List.mem_singleton.1 hx]; exact hlen) sP fun i x y hx hy => ?_
  obtain ⟨hi1, rfl⟩ := List.getElem?_eq_some_iff.1 hx
  obtain ⟨hi2, rfl⟩ := List.getElem?_eq_some_iff.1 hy
  have e0 : i = 0 := by simp at hi1; exact hi1
  subst e0
  exact hi
theorem sameC_self (a : DCut) : sameC a a = true := by simp [sameC]
theorem sameV_self (a : Vote) : sameV a a = true := sameV_eq rfl
theorem sameL_self {D : Type} {f : D → D → Bool} (h : ∀ a, f a a = true) (l : List D) : sameL f l l = true := sameL_yes rfl fun j a b _ ha hb => by rw [ha] at hb; cases hb; exact h a
theorem sameE_self (a : DCert) : sameE a a = true := by simp only [sameE, sameC_self, sameL_self sameV_self, Bool.and_self]
theorem sameBk_self (a : DB) : sameBk a a = true := by simp [sameBk]
end Go.Proofs.YtdifpjmfabhpiaaGreat
end

section
namespace Go.Proofs.YtdifpjmfabhpiaaGreat
open Go Hw

noncomputable def DKept.good (D : DKept) : Bool := (D.dBlocks.all fun d => decide (d.check = 0)) && ((D.dCerts.all fun d => decide (d.check = 0)) && ((D.dVotes.all fun d => decide (Bw d = 0)) && ((D.dCuts.all fun d => decide (d.check = 0)) && inOrd D.dCerts)))
noncomputable def DKept.check (D : DKept) : Int := if D.good = true then 0 else 2

end Go.Proofs.YtdifpjmfabhpiaaGreat
end

section
namespace Go.Proofs.YtdifpjmfabhpiaaGreat
open Go Hw

def LenR (k : Nat) (v : Value) (out : List Blk) : Prop := ∃ s : Sl, v = s.v ∧ s.n = k
theorem LenR.loose (k : Nat) : Loose (LenR k) := fun l hl => ⟨(⟨none, k, 0⟩ : Sl).v, [], ⟨_, rfl, rfl⟩, hl⟩
end Go.Proofs.YtdifpjmfabhpiaaGreat
end

section
namespace Go.Proofs.YtdifpjmfabhpiaaGreat
open Go Hw

def putD {D : Type} (f : D → DRecord × Int) (ds : List D) : List DRecord := ds.map fun d => (f d).1
end Go.Proofs.YtdifpjmfabhpiaaGreat
end

section
namespace Go.Proofs.YtdifpjmfabhpiaaGreat
open Go Hw

structure QI (q : List DRecord × Int) (e : Int) (s : Sl) (b o : List Blk) (rs : List Record) (M : Nat) : Prop where
  err : e = q.2
  own : q.2 = 0 → OwnSeq Record.cells 2 RecordIs 91 s b o rs q.1 q.1.length
  bad : ¬ q.2 = 0 → q.1 = []
  le : q.1.length ≤ M
end Go.Proofs.YtdifpjmfabhpiaaGreat
end

section
namespace Go.Proofs.YtdifpjmfabhpiaaGreat
open Go Hw

def DKept.light (D : DKept) (n : Int) : Bool := lightOf lightBf D.dBlocks n && (lightOf lightEf D.dCerts n && (decide ((D.dVotes.length : Int) ≤ n) && lightOf lightCf D.dCuts n))
structure LightK (D : DKept) : Prop where
  nB : D.dBlocks.length ≤ 12
  nE : D.dCerts.length ≤ 12
  nV : D.dVotes.length ≤ 12
  nC : D.dCuts.length ≤ 12
  blocks : ∀ d ∈ D.dBlocks, d.ls.length ≤ 500000 ∧ d.ds.length ≤ 500000
  cuts : ∀ d ∈ D.dCuts, d.dHeads.length ≤ 500000
  certs : ∀ d ∈ D.dCerts, d.dCut.dHeads.length ≤ 500000 ∧ d.dVotes.length ≤ 500000
theorem no_lie0 {n : Nat} {v : Value} {T : TypeId} {W : World} (h : Lies [⟨n, [v], T, 0⟩] W) : False := by
  obtain ⟨full, fr, hb⟩ := h _ (List.mem_singleton.2 rfl)
  have h1 := hb.pre.length_le
  have h2 := hb.size
  simp at h1
  simp only at h2
  omega
theorem flat_len0 {R : Type} {cells : R → List Value} {k : Nat} : ∀ (rs : List R), (∀ r ∈ rs, (cells r).length = k) → (rs.map cells).flatten.length = rs.length * k
  | [], _ => by simp
  | r :: l, h => by
    rw [List.map_cons, List.flatten_cons, List.length_append, flat_len0 l (fun x hx => h x (List.mem_cons_of_mem _ hx)), h r List.mem_cons_self, List.length_cons, Nat.add_mul, Nat.one_mul, Nat.add_comm]
end Go.Proofs.YtdifpjmfabhpiaaGreat
end

section
namespace Go.Proofs.YtdifpjmfabhpiaaGreat
open Go Hw

def AccR (xs : List Value) (E : TypeId) (n size : Nat) (v : Value) (out : List Blk) : Prop := ∃ s : Sl, v = s.v ∧ Hw.Acc s out xs E n size
theorem AccR.loose {xs : List Value} {E : TypeId} {n size : Nat} (h : xs.length = n * size) : Loose (AccR xs E n size) := fun l hl => by
  obtain ⟨q, _, hq⟩ := fresh_is 0 l
  refine ⟨_, [⟨q, xs, E, n * size⟩], ⟨⟨some ⟨q, 0, none⟩, n, n⟩, rfl, Acc.some (Nat.le_refl _) h⟩, ?_⟩
  rw [List.map_append, List.nodup_append]
  refine ⟨by simp, hl, fun i hi j hj => ?_⟩
  obtain ⟨b, hb, rfl⟩ := List.mem_map.1 hj
  simp at hi
  subst hi
  exact fun e => hq b hb e.symm

def CutOwn (D : DCut) (v : Value) (out : List Blk) : Prop := ∃ C : Cut, C.ok ∧ v = agg C.cells ∧ ∀ W2, Lies out W2 → CutIs W2 C D
def BlockOwn (D : DB) (v : Value) (out : List Blk) : Prop := ∃ B : Block, B.ok ∧ v = agg B.cells ∧ ∀ W2, Lies out W2 → BlockIs W2 B D

end Go.Proofs.YtdifpjmfabhpiaaGreat
end

section
namespace Go.Proofs.YtdifpjmfabhpiaaGreat
open Go Hw

structure MidK (D : DKept) : Prop where
  blocks : ∀ d ∈ D.dBlocks, d.ls.length ≤ 90000 ∧ d.ds.length ≤ 90000
  certs : ∀ d ∈ D.dCerts, d.dCut.dHeads.length ≤ 90000 ∧ d.dVotes.length ≤ 90000
  cuts : ∀ d ∈ D.dCuts, d.dHeads.length ≤ 90000
theorem BlockOwn.loose (D : DB) : Loose (BlockOwn D) := fun l hl => by
  obtain ⟨n, _, hn⟩ := fresh_is 0 l
  exact ⟨agg Block.zero.cells, [⟨n, [undef], 0, 0⟩], ⟨Block.zero, Block.zero_ok, rfl, fun W2 h => (no_lie0 h).elim⟩, by
    rw [List.map_append, List.nodup_append]
    refine ⟨by simp, hl, fun i hi j hj => ?_⟩
    obtain ⟨b, hb, rfl⟩ := List.mem_map.1 hj
    simp at hi
    subst hi
    exact fun e => hn b hb e.symm⟩
theorem CutOwn.loose (D : DCut) : Loose (CutOwn D) := fun l hl => by
  obtain ⟨n, _, hn⟩ := fresh_is 0 l
  exact ⟨agg Cut.zero.cells, [⟨n, [undef], 0, 0⟩], ⟨Cut.zero, Cut.zero_ok, rfl, fun W2 h => (no_lie0 h).elim⟩, by
    rw [List.map_append, List.nodup_append]
    refine ⟨by simp, hl, fun i hi j hj => ?_⟩
    obtain ⟨b, hb, rfl⟩ := List.mem_map.1 hj
    simp at hi
    subst hi
    exact fun e => hn b hb e.symm⟩
end Go.Proofs.YtdifpjmfabhpiaaGreat
end

section
namespace Go.Proofs.YtdifpjmfabhpiaaGreat
open Go Hw

def SaidR (ds : List Vote) (v : Value) (out : List Blk) : Prop := ∃ (s : Sl) (rs : List Vote), v = s.v ∧ OwnSeq Vote.cells 132 VoteIs 81 s out [] rs ds ds.length
theorem SaidR.loose {ds : List Vote} (h : ∀ d ∈ ds, d.ok ∧ (Lit.int .i64 d.fPhase).wf = true) : Loose (SaidR ds) := fun l hl => by
  obtain ⟨q, _, hq⟩ := fresh_is 0 l
  refine ⟨_, [⟨q, (ds.map Vote.cells).flatten, 81, ds.length * 132⟩], ⟨⟨some ⟨q, 0, none⟩, ds.length, ds.length⟩, ds, rfl, Acc.some (Nat.le_refl _) (flat_len0 ds fun r hr => Vote.length (h r hr).1), rfl, rfl, fun r hr => Vote.length (h r hr).1, fun W2 _ i r d h1 h2 => ?_⟩, ?_⟩
  · rw [h1] at h2; cases h2
    have := h r (List.mem_of_getElem? h1)
    exact ⟨this.1, rfl, this.2⟩
  · rw [List.map_append, List.nodup_append]
    refine ⟨by simp, hl, fun i hi j hj => ?_⟩
    obtain ⟨b, hb, rfl⟩ := List.mem_map.1 hj
    simp at hi
    subst hi
    exact fun e => hq b hb e.symm
end Go.Proofs.YtdifpjmfabhpiaaGreat
end

section
namespace Go.Proofs.YtdifpjmfabhpiaaGreat
open Go Hw

structure DCert.ok (D : DCert) : Prop where
  prev : D.dCut.dPrev.length = 32
  heads : ∀ l ∈ D.dCut.dHeads, l.length = 32
  votes : ∀ d ∈ D.dVotes, d.ok
structure DCut.okL (D : DCut) : Prop where
  prev : D.dPrev.length = 32
  heads : ∀ l ∈ D.dHeads, l.length = 32
structure DKept.oks (D : DKept) : Prop where
  b : ∀ d ∈ D.dBlocks, d.ok
  e : ∀ d ∈ D.dCerts, d.ok
  v : ∀ d ∈ D.dVotes, d.ok
  c : ∀ d ∈ D.dCuts, d.okL
def fB : DB → DRecord × Int := (fun X : DB => recOf 1 (Bj X) (DB.check X))
noncomputable def fE : DCert → DRecord × Int := (fun X : DCert => recOf 2 (Bt X) (DCert.check X))
def fV : Vote → DRecord × Int := (fun X : Vote => recOf 3 (Be X) (Bw X))
def fC : DCut → DRecord × Int := (fun X : DCut => recOf 4 (cutR X) (DCut.check X))
theorem fold_put {D : Type} {f : D → DRecord × Int} {g : DKept → List D → DKept} (h0 : ∀ K, g K [] = K) (h1 : ∀ K d l, g (g K [d]) l = g K (d :: l)) : ∀ (ds : List D), (∀ d ∈ ds, ∀ K, keepStep K (f d).1 = some (g K [d])) → ∀ K, (putD f ds).foldl (fun o r => o.bind fun D => keepStep D r) (some K) = some (g K ds)
  | [], _, K => by rw [h0]; rfl
  | d :: l, h, K => by
    have ih := fold_put h0 h1 l (fun x hx => h x (List.mem_cons_of_mem _ hx)) (g K [d])
    rw [h1] at ih
    rw [← ih]
    show List.foldl _ (some K) ((f d).1 :: putD f l) = _
    rw [List.foldl_cons, Option.bind_some, h d List.mem_cons_self K]
structure PutAll (D : DKept) : Prop where
  chk : D.check = 0
  e : ∀ d ∈ D.dCerts, (fE d).2 = 0
  b : ∀ d ∈ D.dBlocks, (fB d).2 = 0
  c : ∀ d ∈ D.dCuts, (fC d).2 = 0
  v : ∀ d ∈ D.dVotes, (fV d).2 = 0
structure OfRecs (l : List DRecord) (D : DKept) : Prop where
  oks : D.oks
  b : putD fB D.dBlocks = l.filter (fun r => decide (r.dKind = 1))
  e : putD fE D.dCerts = l.filter (fun r => decide (r.dKind = 2))
  v : putD fV D.dVotes = l.filter (fun r => decide (r.dKind = 3))
  c : putD fC D.dCuts = l.filter (fun r => decide (r.dKind = 4))
  gb : ∀ d ∈ D.dBlocks, (fB d).2 = 0
  ge : ∀ d ∈ D.dCerts, (fE d).2 = 0
  gv : ∀ d ∈ D.dVotes, (fV d).2 = 0
  gc : ∀ d ∈ D.dCuts, (fC d).2 = 0
  kinds : ∀ r ∈ l, r.dKind = 1 ∨ r.dKind = 2 ∨ r.dKind = 3 ∨ r.dKind = 4
structure Pre4 (Q D : DKept) : Prop where
  b : Q.dBlocks <+: D.dBlocks
  e : Q.dCerts <+: D.dCerts
  v : Q.dVotes <+: D.dVotes
  c : Q.dCuts <+: D.dCuts
theorem Pre4.refl (D : DKept) : Pre4 D D := ⟨List.prefix_rfl, List.prefix_rfl, List.prefix_rfl, List.prefix_rfl⟩
theorem Pre4.trans {A B C : DKept} (h : Pre4 A B) (k : Pre4 B C) : Pre4 A C := ⟨h.b.trans k.b, h.e.trans k.e, h.v.trans k.v, h.c.trans k.c⟩
def DKept.num (D : DKept) : Nat := D.dBlocks.length + D.dCerts.length + D.dVotes.length + D.dCuts.length
end Go.Proofs.YtdifpjmfabhpiaaGreat
end

section
namespace Go.Proofs.YtdifpjmfabhpiaaGreat
open Go Hw

def allBs : Nat → List (List Bool)
  | 0 => [[]]
  | n + 1 => (allBs n).flatMap fun l => [true :: l, false :: l]
theorem mem_allBs : ∀ bs : List Bool, bs ∈ allBs bs.length
  | [] => List.mem_singleton.2 rfl
  | b :: bs => by
    rw [List.length_cons, allBs, List.mem_flatMap]
    exact ⟨bs, mem_allBs bs, by cases b <;> simp⟩
def okBits (k : Nat) (bs : List Bool) : Bool := (!bs.getD 0 false || (k == 1 || k == 6)) && ((!bs.getD 1 false || (k == 1 || k == 2)) && ((!bs.getD 2 false || k == 2) && ((!bs.getD 3 false || k == 3) && ((!bs.getD 4 false || k == 4) && ((!bs.getD 5 false || k == 4) && (!bs.getD 6 false || k == 5))))))
theorem fits_all : ((List.range 7).all fun k => k == 0 || (allBs 7).all fun bs => decide (andNotI ((usedN bs 7 : Nat) : Int) (As (k : Int)) = 0) == okBits k bs) = true := by kernel_rfl
theorem zero_all : ((allBs 7).all fun bs => decide (((usedN bs 7 : Nat) : Int) = 0) == !(bs.getD 0 false || (bs.getD 1 false || (bs.getD 2 false || (bs.getD 3 false || (bs.getD 4 false || (bs.getD 5 false || bs.getD 6 false))))))) = true := by kernel_rfl
theorem fits_iff {k : Nat} {bs : List Bool} (h0 : k ≠ 0) (h7 : k < 7) (hb : bs.length = 7) : andNotI ((usedN bs 7 : Nat) : Int) (As (k : Int)) = 0 ↔ okBits k bs = true := by
  have h := List.all_eq_true.1 fits_all k (List.mem_range.2 h7)
  rw [Bool.or_eq_true] at h
  rcases h with h | h
  · simp at h; exact absurd h h0
  · have h := List.all_eq_true.1 h bs (hb ▸ mem_allBs bs)
    rw [beq_iff_eq] at h
    rw [← h, decide_eq_true_iff]
theorem zero_iff {bs : List Bool} (hb : bs.length = 7) : ((usedN bs 7 : Nat) : Int) = 0 ↔ (!(bs.getD 0 false || (bs.getD 1 false || (bs.getD 2 false || (bs.getD 3 false || (bs.getD 4 false || (bs.getD 5 false || bs.getD 6 false))))))) = true := by
  have h := List.all_eq_true.1 zero_all bs (hb ▸ mem_allBs bs)
  rw [beq_iff_eq] at h
  rw [← h, decide_eq_true_iff]
theorem parts_zero (k : Int) : As k = 0 ↔ ¬ (1 ≤ k ∧ k ≤ 6) := by
  by_cases h : 0 ≤ k ∧ k < 7
  · obtain ⟨n, rfl⟩ : ∃ n : Nat, k = n := ⟨k.toNat, by omega⟩
    have hn : n < 7 := by omega
    match n, hn with
    | 0, _ => decide
    | 1, _ => decide
    | 2, _ => decide
    | 3, _ => decide
    | 4, _ => decide
    | 5, _ => decide
    | 6, _ => decide
  · rw [parts_out h]
    simp
    omega
def DMsg.hd (D : DMsg) : Prop := (1 ≤ D.dKind ∧ D.dKind ≤ 6) ∧ D.dHeight.toNat ≤ 4294967295 ∧ (D.dKind = 1 ∨ D.dKind = 6 ∨ D.dHeight.toNat = 0) ∧ (D.dKind = 1 ∨ D.dKind = 2 ∨ D.dHeads.length = 0) ∧ (D.dKind = 2 ∨ D.dWant.length = 0) ∧ (D.dKind = 3 ∨ D.dBlocks.length = 0) ∧ (D.dKind = 4 ∨ D.dVotes.length = 0) ∧ (D.dKind = 4 ∨ D.dCuts.length = 0) ∧ (D.dKind = 5 ∨ D.dCerts.length = 0) ∧
  D.dHeads.length ≤ 32 ∧ D.dWant.length ≤ 32 ∧ D.dBlocks.length ≤ 8 ∧ D.dVotes.length ≤ 20 ∧ D.dCuts.length ≤ 4 ∧ D.dCerts.length ≤ 2 ∧ (D.dKind = 1 ∨ D.dKind = 2 ∨ ¬ (D.dHeight.toNat = 0 ∧ D.dHeads.length = 0 ∧ D.dWant.length = 0 ∧ D.dBlocks.length = 0 ∧ D.dVotes.length = 0 ∧ D.dCuts.length = 0 ∧ D.dCerts.length = 0))
structure DMsg.els (D : DMsg) : Prop where
  b : (D.dBlocks.all fun d => decide (d.check = 0)) = true
  v : (D.dVotes.all fun d => decide (Bw d = 0)) = true
  c : (D.dCuts.all fun d => decide (d.check = 0)) = true
  e : (D.dCerts.all fun d => decide (d.check = 0)) = true
theorem bits_len (D : DMsg) : D.bits.length = 7 := rfl
theorem used_zero (D : DMsg) : D.used = 0 ↔ (D.dHeight.toNat = 0 ∧ D.dHeads.length = 0 ∧ D.dWant.length = 0 ∧ D.dBlocks.length = 0 ∧ D.dVotes.length = 0 ∧ D.dCuts.length = 0 ∧ D.dCerts.length = 0) := by
  rw [DMsg.used, zero_iff (bits_len D)]
  simp only [DMsg.bits, List.getD_cons_zero, List.getD_cons_succ, Bool.not_eq_true', Bool.or_eq_false_iff, Bool.not_eq_false', decide_eq_true_eq, decide_eq_false_iff_not]
  omega
theorem used_fits (D : DMsg) {k : Nat} (h0 : k ≠ 0) (h7 : k < 7) : andNotI D.used (As (k : Int)) = 0 ↔ ((k = 1 ∨ k = 6 ∨ D.dHeight.toNat = 0) ∧ (k = 1 ∨ k = 2 ∨ D.dHeads.length = 0) ∧ (k = 2 ∨ D.dWant.length = 0) ∧ (k = 3 ∨ D.dBlocks.length = 0) ∧ (k = 4 ∨ D.dVotes.length = 0) ∧ (k = 4 ∨ D.dCuts.length = 0) ∧ (k = 5 ∨ D.dCerts.length = 0)) := by
  rw [DMsg.used, fits_iff h0 h7 (bits_len D)]
  simp only [okBits, DMsg.bits, List.getD_cons_zero, List.getD_cons_succ, Bool.and_eq_true, Bool.or_eq_true, Bool.not_eq_true', Bool.not_eq_false', decide_eq_true_eq, decide_eq_false_iff_not, beq_iff_eq]
  omega
theorem valid_iff (D : DMsg) : D.check = 0 ↔ D.hd ∧ D.els := by
  have hb : D.check = 0 ↔ ¬ D.bad := ⟨fun h hb => (by rw [Bu hb] at h; cases h), Bm⟩
  rw [hb]
  by_cases hk : 1 ≤ D.dKind ∧ D.dKind ≤ 6
  · obtain ⟨n, hn⟩ : ∃ n : Nat, D.dKind = n := ⟨D.dKind.toNat, by omega⟩
    have hf := used_fits D (k := n) oM oM
    have hz := used_zero D
    have hp : ¬ As D.dKind = 0 := fun e => (parts_zero _).1 e hk
    rw [← hn] at hf
    constructor
    · intro h
      have g1 : andNotI D.used (As D.dKind) = 0 := Classical.byContradiction fun e => h (.inr (.inr (.inl e)))
      have g2 := hf.1 g1
      have g3 : ¬ (4294967295 : Int) < (D.dHeight.toNat : Int) := fun e => h (.inr (.inl e))
      have g4 : ¬ (32 : Int) < (D.dHeads.length : Int) := fun e => h (.inr (.inr (.inr (.inl e))))
      have g5 : ¬ (32 : Int) < (D.dWant.length : Int) := fun e => h (.inr (.inr (.inr (.inr (.inl e)))))
      have g6 : ¬ (8 : Int) < (D.dBlocks.length : Int) := fun e => h (.inr (.inr (.inr (.inr (.inr (.inl e))))))
      have g7 : ¬ (20 : Int) < (D.dVotes.length : Int) := fun e => h (.inr (.inr (.inr (.inr (.inr (.inr (.inl e)))))))
      have g8 : ¬ (4 : Int) < (D.dCuts.length : Int) := fun e => h (.inr (.inr (.inr (.inr (.inr (.inr (.inr (.inl e))))))))
      have g9 : ¬ (2 : Int) < (D.dCerts.length : Int) := fun e => h (.inr (.inr (.inr (.inr (.inr (.inr (.inr (.inr (.inl e)))))))))
      have g10 : ¬ (¬ D.dKind = 1 ∧ ¬ D.dKind = 2 ∧ D.used = 0) := fun e => h (.inr (.inr (.inr (.inr (.inr (.inr (.inr (.inr (.inr (.inl e))))))))))
      have el : D.els := ⟨Classical.byContradiction fun e => h (.inr (.inr (.inr (.inr (.inr (.inr (.inr (.inr (.inr (.inr (.inl e))))))))))), Classical.byContradiction fun e => h (.inr (.inr (.inr (.inr (.inr (.inr (.inr (.inr (.inr (.inr (.inr (.inl e)))))))))))), Classical.byContradiction fun e => h (.inr (.inr (.inr (.inr (.inr (.inr (.inr (.inr (.inr (.inr (.inr (.inr (.inl e))))))))))))), Classical.byContradiction fun e => h (.inr (.inr (.inr (.inr (.inr (.inr (.inr (.inr (.inr (.inr (.inr (.inr (.inr (e))))))))))))))⟩
      refine ⟨?_, el⟩
      rw [hz] at g10
      clear h el hb hf hz g1
      unfold DMsg.hd
      omega
    · rintro ⟨h, el⟩ hbad
      unfold DMsg.hd at h
      rcases hbad with e | e | e | e | e | e | e | e | e | ⟨e1, e2, e3⟩ | e | e | e | e
      · exact hp e
      · omega
      · exact e (hf.2 oM)
      · omega
      · omega
      · omega
      · omega
      · omega
      · omega
      · have := hz.1 e3
        omega
      · exact e el.b
      · exact e el.v
      · exact e el.c
      · exact e el.e
  · exact ⟨fun h => absurd (.inl ((parts_zero _).2 hk)) h, fun h => absurd h.1.1 hk⟩
section
variable {W : World} {m : Msg} {D E : DMsg}
end

end Go.Proofs.YtdifpjmfabhpiaaGreat
end
