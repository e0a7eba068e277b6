/- headwaterlaw26.KeepBack returns true at every input, and all that it reads reads behind the call as before. Conditions: none beyond the given statement's own. -/
import Derived.WalkKit
import Derived.Orders
import Derived.Deep.LoopGhost
import Derived.IntWalk
import Derived.Laws.StructEq
import Derived.ArgAppend
import Derived.Deep.AppendSrc
import Derived.Lib.Bytealg
import Derived.Lib.BytesEntry
import Derived.Laws.IdiomStrings
import Derived.WideKeyArr2
import Derived.ProofKit
import Derived.OpenShut
import Derived.Deep.Slices
import Derived.Laws.Pointers
import Derived.Laws.Cover3
import Derived.LaidEqlPtr
import Derived.LoopN
import Derived.RangeFuncLeaves
import Derived.RangeFuncSeq
import Derived.OrdersIn
import Derived.Test.YtdifpjmfabhpiaaGreatRows
import Derived.KernelRfl
import Derived.Laws.Externs
import Derived.Defers
import Derived.ChangeOld
import Derived.Below
import Derived.Test.YtdifpjmfabhpiaaGreatKBckC4
set_option maxRecDepth 100000
set_option maxHeartbeats 8000000
set_option linter.unusedVariables false
set_option linter.unusedSimpArgs false
section
namespace Go.Proofs.YtdifpjmfabhpiaaGreat
open Go Hw

theorem all_blockk_1 (x : Block) (d : DB) (q : Nat) : Meets Tryz.prog 177 [agg x.cells, ptr q 0] [] (fun W => BlockIs W x d ∧ W.cell? ⟨q, 0, none⟩ = some (.func (.func 82) #[] #[])) (fun v out => v = .bool (!decide (d.check = 0)) ∧ out = []) := by
 intro W hW
 refine Ak Tryz.func177 rfl 8 Tryz.ntmps177 rfl ?_
 refine Sat.seq (Sat.region ?_)
 refine Tr.boxA rfl rfl ?_
 intro n2 hn2 hf2
 refine Tr.a rfl rfl rfl ?_
 refine Tr.nil (Aa (Sat.seq (Sat.region ?_)))
 refine Tr.loadE rfl rfl rfl Tryz.underlying120 rfl (by first | (simp; done) | (simp; exact hW.2.2) | (simp [Cx.with]; done) | (simp [Cx.with]; omega)) (hW.2) ?_
 refine Tr.lA rfl rfl rfl Y79 rfl Sz79 mM (Block.length (by first | exact oK  | exact hW.1.ok)) ?_
 refine Tr.cV rfl rfl rfl rfl Body82 (db_check x d) (fun w h => hW.1.ext h rfl) ?_
 refine Tr.nei rfl rfl rfl rfl rfl ?_
 refine Tr.a rfl rfl rfl ?_
 refine Tr.nil (Aa (Sat.ret (Am ?_)))
 refine ⟨_, [], Ad rfl rfl, sP, sP, ?_, rfl⟩
 first
  | rfl
  | simp

theorem index_blockk (s : Sl) (ds : List DB) (q : Nat) : Meets Tryz.prog 228 [s.v, .func (.func 177) #[] #[ptr q 0]] [] (fun W => BlocksAt W s ds ∧ W.cell? ⟨q, 0, none⟩ = some (.func (.func 82) #[] #[])) (fun v out => v = i64 (fstBad (fun d : DB => !decide (d.check = 0)) ds) ∧ out = []) := by
 intro W hW
 obtain ⟨⟨rs, hs⟩, hq⟩ := hW
 have hmax := hs.max
 simp only [maxLen] at hmax
 have hcap := hs.cap
 refine Ak Tryz.func228 rfl 19 Tryz.ntmps228 rfl ?_
 refine Sat.seq (Sat.region ?_)
 refine Tr.a rfl rfl rfl ?_
 refine Tr.nil (Aa (Sat.seq (Sat.seq (Sat.region ?_))))
 refine Tr.m rfl rfl rfl ?_
 refine Tr.lenSl rfl rfl rfl Y22 ?_
 refine Tr.m rfl rfl rfl ?_
 refine Tr.nil (Aa (Sat.block ?_))
 refine Sat.loop (ι := Nat) (fun k => ⟨[(0, s.v), (1, .func (.func 177) #[] #[ptr q 0]), (7, i64 (s.n : Int)), (8, i64 (k : Int))], []⟩) (fun k => k ≤ s.n ∧ ∀ j, j < k → (ds.map (fun d : DB => !decide (d.check = 0)))[j]? = some false) (fun k => s.n - k) (0) ?_ ?_ ?_
 · exact ⟨by omega, fun j hj => by omega⟩
 · exact Ap (wk1 rfl (wk1 rfl (wk1 rfl (wk1 rfl wk0)))) wh0 nD
 ·
  rintro k ⟨hk, hg⟩
  refine Sat.seq (Sat.region ?_)
  refine Tr.lss rfl rfl rfl rfl rfl ?_
  refine Tr.nil (Aa (Sat.seq ?_))
  first
   | refine Sat.condP rfl (fun hc0 => ?_) (fun hc0 => ?_)
   | refine Sat.condNP rfl (fun hc0 => ?_) (fun hc0 => ?_)
   | refine Sat.cond rfl (fun hc0 => ?_) (fun hc0 => ?_)
  ·
   have hk2 : k < s.n := by omega
   obtain ⟨b, o, r, d, hsp, hr, hd, his, hlen, hsee⟩ := hs.at dE hk2
   refine Sat.skip (Aa (Sat.seq (Sat.block (Sat.seq (Sat.region ?_)))))
   refine Tr.m rfl rfl rfl ?_
   refine Tr.a rfl rfl rfl ?_
   refine Tr.nil (Aa (Sat.seq (Sat.region ?_)))
   refine Tr.m rfl rfl rfl ?_
   refine Tr.m rfl rfl rfl ?_
   refine Tr.m rfl rfl rfl ?_
   refine Tr.idxSlP 131 rfl rfl rfl hsp rfl Y22 Sz79 k oM oM ?_
   refine Tr.loadEN r.cells rfl rfl rfl Y79 rfl Sz79 sP hlen hsee ?_
   refine Tr.callCV rfl rfl rfl rfl rfl Body177 (all_blockk_1 r d q) (fun w h => ⟨his.ext h rfl, h.keeps.cell sP hq⟩) ?_
   refine Tr.nil (Aa ?_)
   first
    | refine Sat.condP rfl (fun hc1 => ?_) (fun hc1 => ?_)
    | refine Sat.condNP rfl (fun hc1 => ?_) (fun hc1 => ?_)
    | refine Sat.cond rfl (fun hc1 => ?_) (fun hc1 => ?_)
   ·
    refine Sat.seq (Sat.region ?_)
    refine Tr.m rfl rfl rfl ?_
    refine Tr.a rfl rfl rfl ?_
    refine Tr.nil (Aa (Sat.ret (Bw (Ao (Ao (Bw (Ao (Am ?_))))))))
    refine ⟨_, [], Ad rfl rfl, sP, sP, ?_, rfl⟩
    first
     | exact congrArg i64 (fstBad_none (by intro j hj; exact hg j (by rw [hs.nd] at hj; exact hj))).symm
     | exact congrArg i64 (fstBad_at hg (by rw [List.getElem?_map, hd]; simpa using hc1)).symm
   ·
    refine Sat.skip (Bx (Aa (Sat.region ?_)))
    refine Tr.aI rfl rfl rfl rfl oM ?_
    refine Tr.m rfl rfl rfl ?_
    refine Tr.nil (Aa ?_)
    exact ⟨k + 1, ⟨by omega, fun j hj => by rcases Nat.lt_succ_iff_lt_or_eq.1 hj with h | rfl; exact hg j h; rw [List.getElem?_map, hd]; simpa using hc1⟩, by omega, Ap (wk1 rfl (wk1 rfl (wk1 rfl (wk1 rfl wk0)))) wh0 nD⟩
  ·
   obtain rfl : k = s.n := by omega
   refine Sat.exit (Bc (Bc (bl_h (Aa (Sat.seq (Sat.region ?_))))))
   refine Tr.a rfl rfl rfl ?_
   refine Tr.nil (Aa (Sat.ret (Am ?_)))
   refine ⟨_, [], Ad rfl rfl, sP, sP, ?_, rfl⟩
   first
    | exact congrArg i64 (fstBad_none (by intro j hj; exact hg j (by rw [hs.nd] at hj; exact hj))).symm
    | exact congrArg i64 (fstBad_at hg (by rw [List.getElem?_map, hd]; simpa using hc1)).symm

theorem contains_blockk (s : Sl) (ds : List DB) (q : Nat) : Meets Tryz.prog 176 [s.v, .func (.func 177) #[] #[ptr q 0]] [] (fun W => BlocksAt W s ds ∧ W.cell? ⟨q, 0, none⟩ = some (.func (.func 82) #[] #[])) (fun v out => v = .bool (ds.any (fun d : DB => !decide (d.check = 0))) ∧ out = []) := by
 intro W hW
 refine Ak Tryz.func176 rfl 9 Tryz.ntmps176 rfl ?_
 refine Sat.seq (Sat.region ?_)
 refine Tr.a rfl rfl rfl ?_
 refine Tr.nil (Aa (Sat.seq (Sat.region ?_)))
 refine Tr.m rfl rfl rfl ?_
 refine Tr.m rfl rfl rfl ?_
 refine Tr.cV rfl rfl rfl rfl Body228 (index_blockk s ds q) (fun w h => ⟨Blocks_ext h rfl hW.1, h.keeps.cell sP hW.2⟩) ?_
 refine Tr.geq rfl rfl rfl rfl rfl ?_
 refine Tr.a rfl rfl rfl ?_
 refine Tr.nil (Aa (Sat.ret (Am ?_)))
 refine ⟨_, [], Ad rfl rfl, sP, sP, ?_, rfl⟩
 exact congrArg Value.bool (fstBad_ge _ _)

theorem all_blockk (s : Sl) (ds : List DB) : Meets Tryz.prog 81 [s.v, .func (.func 82) #[] #[]] [] (fun W => BlocksAt W s ds) (fun v out => v = .bool (ds.all fun d => decide (d.check = 0)) ∧ out = []) := by
 intro W hW
 refine Ak Tryz.func81 rfl 9 Tryz.ntmps81 rfl ?_
 refine Sat.seq (Sat.region ?_)
 refine Tr.box1 rfl rfl rfl ?_
 intro n3 hn3 hf3
 refine Tr.a rfl rfl rfl ?_
 refine Tr.nil (Aa (Sat.seq (Sat.region ?_)))
 refine Tr.m rfl rfl rfl ?_
 refine Tr.makeFunc rfl rfl rfl rfl ?_
 refine Tr.cV rfl rfl rfl rfl Body176 (contains_blockk s ds n3) (fun w h => ⟨Blocks_ext h rfl hW, (An h mM).cell (o := 0) rfl⟩) ?_
 refine Tr.not rfl rfl rfl ?_
 refine Tr.a rfl rfl rfl ?_
 refine Tr.nil (Aa (Sat.ret (Am ?_)))
 refine ⟨_, [], Ad rfl rfl, sP, sP, ?_, rfl⟩
 exact congrArg Value.bool (any_all _ _)

theorem all_certk_1 (x : Cert) (d : DCert) (q : Nat) : Meets Tryz.prog 180 [agg x.cells, ptr q 0] [] (fun W => CertIs W x d ∧ W.cell? ⟨q, 0, none⟩ = some (.func (.func 31) #[] #[])) (fun v out => v = .bool (!decide (d.check = 0)) ∧ out = []) := by
 intro W hW
 refine Ak Tryz.func180 rfl 8 Tryz.ntmps180 rfl ?_
 refine Sat.seq (Sat.region ?_)
 refine Tr.boxA rfl rfl ?_
 intro n2 hn2 hf2
 refine Tr.a rfl rfl rfl ?_
 refine Tr.nil (Aa (Sat.seq (Sat.region ?_)))
 refine Tr.loadE rfl rfl rfl Tryz.underlying69 rfl (by first | (simp; done) | (simp; exact hW.2.2) | (simp [Cx.with]; done) | (simp [Cx.with]; omega)) (hW.2) ?_
 refine Tr.lA rfl rfl rfl Y55 rfl Sz55 mM (Cert.length (by first | exact oK  | exact hW.1.ok)) ?_
 refine Tr.cV rfl rfl rfl rfl Body31 (cert_check x d) (fun w h => hW.1.ext h rfl) ?_
 refine Tr.nei rfl rfl rfl rfl rfl ?_
 refine Tr.a rfl rfl rfl ?_
 refine Tr.nil (Aa (Sat.ret (Am ?_)))
 refine ⟨_, [], Ad rfl rfl, sP, sP, ?_, rfl⟩
 first
  | rfl
  | simp

theorem index_certk (s : Sl) (ds : List DCert) (q : Nat) : Meets Tryz.prog 229 [s.v, .func (.func 180) #[] #[ptr q 0]] [] (fun W => CertsAt W s ds ∧ W.cell? ⟨q, 0, none⟩ = some (.func (.func 31) #[] #[])) (fun v out => v = i64 (fstBad (fun d : DCert => !decide (d.check = 0)) ds) ∧ out = []) := by
 intro W hW
 obtain ⟨⟨rs, hs⟩, hq⟩ := hW
 have hmax := hs.max
 simp only [maxLen] at hmax
 have hcap := hs.cap
 refine Ak Tryz.func229 rfl 19 Tryz.ntmps229 rfl ?_
 refine Sat.seq (Sat.region ?_)
 refine Tr.a rfl rfl rfl ?_
 refine Tr.nil (Aa (Sat.seq (Sat.seq (Sat.region ?_))))
 refine Tr.m rfl rfl rfl ?_
 refine Tr.lenSl rfl rfl rfl Y23 ?_
 refine Tr.m rfl rfl rfl ?_
 refine Tr.nil (Aa (Sat.block ?_))
 refine Sat.loop (ι := Nat) (fun k => ⟨[(0, s.v), (1, .func (.func 180) #[] #[ptr q 0]), (7, i64 (s.n : Int)), (8, i64 (k : Int))], []⟩) (fun k => k ≤ s.n ∧ ∀ j, j < k → (ds.map (fun d : DCert => !decide (d.check = 0)))[j]? = some false) (fun k => s.n - k) (0) ?_ ?_ ?_
 · exact ⟨by omega, fun j hj => by omega⟩
 · exact Ap (wk1 rfl (wk1 rfl (wk1 rfl (wk1 rfl wk0)))) wh0 nD
 ·
  rintro k ⟨hk, hg⟩
  refine Sat.seq (Sat.region ?_)
  refine Tr.lss rfl rfl rfl rfl rfl ?_
  refine Tr.nil (Aa (Sat.seq ?_))
  first
   | refine Sat.condP rfl (fun hc0 => ?_) (fun hc0 => ?_)
   | refine Sat.condNP rfl (fun hc0 => ?_) (fun hc0 => ?_)
   | refine Sat.cond rfl (fun hc0 => ?_) (fun hc0 => ?_)
  ·
   have hk2 : k < s.n := by omega
   obtain ⟨b, o, r, d, hsp, hr, hd, his, hlen, hsee⟩ := hs.at dE hk2
   refine Sat.skip (Aa (Sat.seq (Sat.block (Sat.seq (Sat.region ?_)))))
   refine Tr.m rfl rfl rfl ?_
   refine Tr.a rfl rfl rfl ?_
   refine Tr.nil (Aa (Sat.seq (Sat.region ?_)))
   refine Tr.m rfl rfl rfl ?_
   refine Tr.m rfl rfl rfl ?_
   refine Tr.m rfl rfl rfl ?_
   refine Tr.idxSlP 35 rfl rfl rfl hsp rfl Y23 Sz55 k oM oM ?_
   refine Tr.loadEN r.cells rfl rfl rfl Y55 rfl Sz55 sP hlen hsee ?_
   refine Tr.callCV rfl rfl rfl rfl rfl Body180 (all_certk_1 r d q) (fun w h => ⟨his.ext h rfl, h.keeps.cell sP hq⟩) ?_
   refine Tr.nil (Aa ?_)
   first
    | refine Sat.condP rfl (fun hc1 => ?_) (fun hc1 => ?_)
    | refine Sat.condNP rfl (fun hc1 => ?_) (fun hc1 => ?_)
    | refine Sat.cond rfl (fun hc1 => ?_) (fun hc1 => ?_)
   ·
    refine Sat.seq (Sat.region ?_)
    refine Tr.m rfl rfl rfl ?_
    refine Tr.a rfl rfl rfl ?_
    refine Tr.nil (Aa (Sat.ret (Bw (Ao (Ao (Bw (Ao (Am ?_))))))))
    refine ⟨_, [], Ad rfl rfl, sP, sP, ?_, rfl⟩
    first
     | exact congrArg i64 (fstBad_none (by intro j hj; exact hg j (by rw [hs.nd] at hj; exact hj))).symm
     | exact congrArg i64 (fstBad_at hg (by rw [List.getElem?_map, hd]; simpa using hc1)).symm
   ·
    refine Sat.skip (Bx (Aa (Sat.region ?_)))
    refine Tr.aI rfl rfl rfl rfl oM ?_
    refine Tr.m rfl rfl rfl ?_
    refine Tr.nil (Aa ?_)
    exact ⟨k + 1, ⟨by omega, fun j hj => by rcases Nat.lt_succ_iff_lt_or_eq.1 hj with h | rfl; exact hg j h; rw [List.getElem?_map, hd]; simpa using hc1⟩, by omega, Ap (wk1 rfl (wk1 rfl (wk1 rfl (wk1 rfl wk0)))) wh0 nD⟩
  ·
   obtain rfl : k = s.n := by omega
   refine Sat.exit (Bc (Bc (bl_h (Aa (Sat.seq (Sat.region ?_))))))
   refine Tr.a rfl rfl rfl ?_
   refine Tr.nil (Aa (Sat.ret (Am ?_)))
   refine ⟨_, [], Ad rfl rfl, sP, sP, ?_, rfl⟩
   first
    | exact congrArg i64 (fstBad_none (by intro j hj; exact hg j (by rw [hs.nd] at hj; exact hj))).symm
    | exact congrArg i64 (fstBad_at hg (by rw [List.getElem?_map, hd]; simpa using hc1)).symm

theorem contains_certk (s : Sl) (ds : List DCert) (q : Nat) : Meets Tryz.prog 179 [s.v, .func (.func 180) #[] #[ptr q 0]] [] (fun W => CertsAt W s ds ∧ W.cell? ⟨q, 0, none⟩ = some (.func (.func 31) #[] #[])) (fun v out => v = .bool (ds.any (fun d : DCert => !decide (d.check = 0))) ∧ out = []) := by
 intro W hW
 refine Ak Tryz.func179 rfl 9 Tryz.ntmps179 rfl ?_
 refine Sat.seq (Sat.region ?_)
 refine Tr.a rfl rfl rfl ?_
 refine Tr.nil (Aa (Sat.seq (Sat.region ?_)))
 refine Tr.m rfl rfl rfl ?_
 refine Tr.m rfl rfl rfl ?_
 refine Tr.cV rfl rfl rfl rfl Body229 (index_certk s ds q) (fun w h => ⟨Certs_ext h rfl hW.1, h.keeps.cell sP hW.2⟩) ?_
 refine Tr.geq rfl rfl rfl rfl rfl ?_
 refine Tr.a rfl rfl rfl ?_
 refine Tr.nil (Aa (Sat.ret (Am ?_)))
 refine ⟨_, [], Ad rfl rfl, sP, sP, ?_, rfl⟩
 exact congrArg Value.bool (fstBad_ge _ _)

theorem all_certk (s : Sl) (ds : List DCert) : Meets Tryz.prog 83 [s.v, .func (.func 31) #[] #[]] [] (fun W => CertsAt W s ds) (fun v out => v = .bool (ds.all fun d => decide (d.check = 0)) ∧ out = []) := by
 intro W hW
 refine Ak Tryz.func83 rfl 9 Tryz.ntmps83 rfl ?_
 refine Sat.seq (Sat.region ?_)
 refine Tr.box1 rfl rfl rfl ?_
 intro n3 hn3 hf3
 refine Tr.a rfl rfl rfl ?_
 refine Tr.nil (Aa (Sat.seq (Sat.region ?_)))
 refine Tr.m rfl rfl rfl ?_
 refine Tr.makeFunc rfl rfl rfl rfl ?_
 refine Tr.cV rfl rfl rfl rfl Body179 (contains_certk s ds n3) (fun w h => ⟨Certs_ext h rfl hW, (An h mM).cell (o := 0) rfl⟩) ?_
 refine Tr.not rfl rfl rfl ?_
 refine Tr.a rfl rfl rfl ?_
 refine Tr.nil (Aa (Sat.ret (Am ?_)))
 refine ⟨_, [], Ad rfl rfl, sP, sP, ?_, rfl⟩
 exact congrArg Value.bool (any_all _ _)

theorem all_votek_1 (x : Vote) (d : Vote) (q : Nat) : Meets Tryz.prog 182 [agg x.cells, ptr q 0] [] (fun W => VoteIs W x d ∧ W.cell? ⟨q, 0, none⟩ = some (.func (.func 85) #[] #[])) (fun v out => v = .bool (!decide (A8 d = 0)) ∧ out = []) := by
 intro W hW
 refine Ak Tryz.func182 rfl 8 Tryz.ntmps182 rfl ?_
 refine Sat.seq (Sat.region ?_)
 refine Tr.boxA rfl rfl ?_
 intro n2 hn2 hf2
 refine Tr.a rfl rfl rfl ?_
 refine Tr.nil (Aa (Sat.seq (Sat.region ?_)))
 refine Tr.loadE rfl rfl rfl Tryz.underlying123 rfl (by first | (simp; done) | (simp; exact hW.2.2) | (simp [Cx.with]; done) | (simp [Cx.with]; omega)) (hW.2) ?_
 refine Tr.lA rfl rfl rfl Y81 rfl Sz81 mM (Vote.length (by first | exact oK  | exact hW.1.ok)) ?_
 refine Tr.cV rfl rfl rfl rfl Body85 ((vote_check x hW.1.ok).imp (fun w h => trivial) (fun v out h => by rwa [hW.1.eq] at h)) (fun w h => hW.1.ext h rfl) ?_
 refine Tr.nei rfl rfl rfl rfl rfl ?_
 refine Tr.a rfl rfl rfl ?_
 refine Tr.nil (Aa (Sat.ret (Am ?_)))
 refine ⟨_, [], Ad rfl rfl, sP, sP, ?_, rfl⟩
 first
  | rfl
  | simp

theorem index_votek (s : Sl) (ds : List Vote) (q : Nat) : Meets Tryz.prog 230 [s.v, .func (.func 182) #[] #[ptr q 0]] [] (fun W => VotesAt W s ds ∧ W.cell? ⟨q, 0, none⟩ = some (.func (.func 85) #[] #[])) (fun v out => v = i64 (fstBad (fun d : Vote => !decide (A8 d = 0)) ds) ∧ out = []) := by
 intro W hW
 obtain ⟨⟨rs, hs⟩, hq⟩ := hW
 have hmax := hs.max
 simp only [maxLen] at hmax
 have hcap := hs.cap
 refine Ak Tryz.func230 rfl 19 Tryz.ntmps230 rfl ?_
 refine Sat.seq (Sat.region ?_)
 refine Tr.a rfl rfl rfl ?_
 refine Tr.nil (Aa (Sat.seq (Sat.seq (Sat.region ?_))))
 refine Tr.m rfl rfl rfl ?_
 refine Tr.lenSl rfl rfl rfl Y24 ?_
 refine Tr.m rfl rfl rfl ?_
 refine Tr.nil (Aa (Sat.block ?_))
 refine Sat.loop (ι := Nat) (fun k => ⟨[(0, s.v), (1, .func (.func 182) #[] #[ptr q 0]), (7, i64 (s.n : Int)), (8, i64 (k : Int))], []⟩) (fun k => k ≤ s.n ∧ ∀ j, j < k → (ds.map (fun d : Vote => !decide (A8 d = 0)))[j]? = some false) (fun k => s.n - k) (0) ?_ ?_ ?_
 · exact ⟨by omega, fun j hj => by omega⟩
 · exact Ap (wk1 rfl (wk1 rfl (wk1 rfl (wk1 rfl wk0)))) wh0 nD
 ·
  rintro k ⟨hk, hg⟩
  refine Sat.seq (Sat.region ?_)
  refine Tr.lss rfl rfl rfl rfl rfl ?_
  refine Tr.nil (Aa (Sat.seq ?_))
  first
   | refine Sat.condP rfl (fun hc0 => ?_) (fun hc0 => ?_)
   | refine Sat.condNP rfl (fun hc0 => ?_) (fun hc0 => ?_)
   | refine Sat.cond rfl (fun hc0 => ?_) (fun hc0 => ?_)
  ·
   have hk2 : k < s.n := by omega
   obtain ⟨b, o, r, d, hsp, hr, hd, his, hlen, hsee⟩ := hs.at dE hk2
   refine Sat.skip (Aa (Sat.seq (Sat.block (Sat.seq (Sat.region ?_)))))
   refine Tr.m rfl rfl rfl ?_
   refine Tr.a rfl rfl rfl ?_
   refine Tr.nil (Aa (Sat.seq (Sat.region ?_)))
   refine Tr.m rfl rfl rfl ?_
   refine Tr.m rfl rfl rfl ?_
   refine Tr.m rfl rfl rfl ?_
   refine Tr.idxSlP 132 rfl rfl rfl hsp rfl Y24 Sz81 k oM oM ?_
   refine Tr.loadEN r.cells rfl rfl rfl Y81 rfl Sz81 sP hlen hsee ?_
   refine Tr.callCV rfl rfl rfl rfl rfl Body182 (all_votek_1 r d q) (fun w h => ⟨his.ext h rfl, h.keeps.cell sP hq⟩) ?_
   refine Tr.nil (Aa ?_)
   first
    | refine Sat.condP rfl (fun hc1 => ?_) (fun hc1 => ?_)
    | refine Sat.condNP rfl (fun hc1 => ?_) (fun hc1 => ?_)
    | refine Sat.cond rfl (fun hc1 => ?_) (fun hc1 => ?_)
   ·
    refine Sat.seq (Sat.region ?_)
    refine Tr.m rfl rfl rfl ?_
    refine Tr.a rfl rfl rfl ?_
    refine Tr.nil (Aa (Sat.ret (Bw (Ao (Ao (Bw (Ao (Am ?_))))))))
    refine ⟨_, [], Ad rfl rfl, sP, sP, ?_, rfl⟩
    first
     | exact congrArg i64 (fstBad_none (by intro j hj; exact hg j (by rw [hs.nd] at hj; exact hj))).symm
     | exact congrArg i64 (fstBad_at hg (by rw [List.getElem?_map, hd]; simpa using hc1)).symm
   ·
    refine Sat.skip (Bx (Aa (Sat.region ?_)))
    refine Tr.aI rfl rfl rfl rfl oM ?_
    refine Tr.m rfl rfl rfl ?_
    refine Tr.nil (Aa ?_)
    exact ⟨k + 1, ⟨by omega, fun j hj => by rcases Nat.lt_succ_iff_lt_or_eq.1 hj with h | rfl; exact hg j h; rw [List.getElem?_map, hd]; simpa using hc1⟩, by omega, Ap (wk1 rfl (wk1 rfl (wk1 rfl (wk1 rfl wk0)))) wh0 nD⟩
  ·
   obtain rfl : k = s.n := by omega
   refine Sat.exit (Bc (Bc (bl_h (Aa (Sat.seq (Sat.region ?_))))))
   refine Tr.a rfl rfl rfl ?_
   refine Tr.nil (Aa (Sat.ret (Am ?_)))
   refine ⟨_, [], Ad rfl rfl, sP, sP, ?_, rfl⟩
   first
    | exact congrArg i64 (fstBad_none (by intro j hj; exact hg j (by rw [hs.nd] at hj; exact hj))).symm
    | exact congrArg i64 (fstBad_at hg (by rw [List.getElem?_map, hd]; simpa using hc1)).symm

theorem contains_votek (s : Sl) (ds : List Vote) (q : Nat) : Meets Tryz.prog 181 [s.v, .func (.func 182) #[] #[ptr q 0]] [] (fun W => VotesAt W s ds ∧ W.cell? ⟨q, 0, none⟩ = some (.func (.func 85) #[] #[])) (fun v out => v = .bool (ds.any (fun d : Vote => !decide (A8 d = 0))) ∧ out = []) := by
 intro W hW
 refine Ak Tryz.func181 rfl 9 Tryz.ntmps181 rfl ?_
 refine Sat.seq (Sat.region ?_)
 refine Tr.a rfl rfl rfl ?_
 refine Tr.nil (Aa (Sat.seq (Sat.region ?_)))
 refine Tr.m rfl rfl rfl ?_
 refine Tr.m rfl rfl rfl ?_
 refine Tr.cV rfl rfl rfl rfl Body230 (index_votek s ds q) (fun w h => ⟨Votes_ext h rfl hW.1, h.keeps.cell sP hW.2⟩) ?_
 refine Tr.geq rfl rfl rfl rfl rfl ?_
 refine Tr.a rfl rfl rfl ?_
 refine Tr.nil (Aa (Sat.ret (Am ?_)))
 refine ⟨_, [], Ad rfl rfl, sP, sP, ?_, rfl⟩
 exact congrArg Value.bool (fstBad_ge _ _)

theorem all_votek (s : Sl) (ds : List Vote) : Meets Tryz.prog 84 [s.v, .func (.func 85) #[] #[]] [] (fun W => VotesAt W s ds) (fun v out => v = .bool (ds.all fun d => decide (A8 d = 0)) ∧ out = []) := by
 intro W hW
 refine Ak Tryz.func84 rfl 9 Tryz.ntmps84 rfl ?_
 refine Sat.seq (Sat.region ?_)
 refine Tr.box1 rfl rfl rfl ?_
 intro n3 hn3 hf3
 refine Tr.a rfl rfl rfl ?_
 refine Tr.nil (Aa (Sat.seq (Sat.region ?_)))
 refine Tr.m rfl rfl rfl ?_
 refine Tr.makeFunc rfl rfl rfl rfl ?_
 refine Tr.cV rfl rfl rfl rfl Body181 (contains_votek s ds n3) (fun w h => ⟨Votes_ext h rfl hW, (An h mM).cell (o := 0) rfl⟩) ?_
 refine Tr.not rfl rfl rfl ?_
 refine Tr.a rfl rfl rfl ?_
 refine Tr.nil (Aa (Sat.ret (Am ?_)))
 refine ⟨_, [], Ad rfl rfl, sP, sP, ?_, rfl⟩
 exact congrArg Value.bool (any_all _ _)

theorem all_cutk_1 (x : Cut) (d : DCut) (q : Nat) : Meets Tryz.prog 184 [agg x.cells, ptr q 0] [] (fun W => CutIs W x d ∧ W.cell? ⟨q, 0, none⟩ = some (.func (.func 87) #[] #[])) (fun v out => v = .bool (!decide (d.check = 0)) ∧ out = []) := by
 intro W hW
 refine Ak Tryz.func184 rfl 8 Tryz.ntmps184 rfl ?_
 refine Sat.seq (Sat.region ?_)
 refine Tr.boxA rfl rfl ?_
 intro n2 hn2 hf2
 refine Tr.a rfl rfl rfl ?_
 refine Tr.nil (Aa (Sat.seq (Sat.region ?_)))
 refine Tr.loadE rfl rfl rfl Tryz.underlying125 rfl (by first | (simp; done) | (simp; exact hW.2.2) | (simp [Cx.with]; done) | (simp [Cx.with]; omega)) (hW.2) ?_
 refine Tr.lA rfl rfl rfl Y53 rfl Sz53 mM (Cut.length (by first | exact oK  | exact hW.1.ok)) ?_
 refine Tr.cV rfl rfl rfl rfl Body87 (cut_check x d) (fun w h => hW.1.ext h rfl) ?_
 refine Tr.nei rfl rfl rfl rfl rfl ?_
 refine Tr.a rfl rfl rfl ?_
 refine Tr.nil (Aa (Sat.ret (Am ?_)))
 refine ⟨_, [], Ad rfl rfl, sP, sP, ?_, rfl⟩
 first
  | rfl
  | simp

theorem index_cutk (s : Sl) (ds : List DCut) (q : Nat) : Meets Tryz.prog 231 [s.v, .func (.func 184) #[] #[ptr q 0]] [] (fun W => CutsAt W s ds ∧ W.cell? ⟨q, 0, none⟩ = some (.func (.func 87) #[] #[])) (fun v out => v = i64 (fstBad (fun d : DCut => !decide (d.check = 0)) ds) ∧ out = []) := by
 intro W hW
 obtain ⟨⟨rs, hs⟩, hq⟩ := hW
 have hmax := hs.max
 simp only [maxLen] at hmax
 have hcap := hs.cap
 refine Ak Tryz.func231 rfl 19 Tryz.ntmps231 rfl ?_
 refine Sat.seq (Sat.region ?_)
 refine Tr.a rfl rfl rfl ?_
 refine Tr.nil (Aa (Sat.seq (Sat.seq (Sat.region ?_))))
 refine Tr.m rfl rfl rfl ?_
 refine Tr.lenSl rfl rfl rfl Y25 ?_
 refine Tr.m rfl rfl rfl ?_
 refine Tr.nil (Aa (Sat.block ?_))
 refine Sat.loop (ι := Nat) (fun k => ⟨[(0, s.v), (1, .func (.func 184) #[] #[ptr q 0]), (7, i64 (s.n : Int)), (8, i64 (k : Int))], []⟩) (fun k => k ≤ s.n ∧ ∀ j, j < k → (ds.map (fun d : DCut => !decide (d.check = 0)))[j]? = some false) (fun k => s.n - k) (0) ?_ ?_ ?_
 · exact ⟨by omega, fun j hj => by omega⟩
 · exact Ap (wk1 rfl (wk1 rfl (wk1 rfl (wk1 rfl wk0)))) wh0 nD
 ·
  rintro k ⟨hk, hg⟩
  refine Sat.seq (Sat.region ?_)
  refine Tr.lss rfl rfl rfl rfl rfl ?_
  refine Tr.nil (Aa (Sat.seq ?_))
  first
   | refine Sat.condP rfl (fun hc0 => ?_) (fun hc0 => ?_)
   | refine Sat.condNP rfl (fun hc0 => ?_) (fun hc0 => ?_)
   | refine Sat.cond rfl (fun hc0 => ?_) (fun hc0 => ?_)
  ·
   have hk2 : k < s.n := by omega
   obtain ⟨b, o, r, d, hsp, hr, hd, his, hlen, hsee⟩ := hs.at dE hk2
   refine Sat.skip (Aa (Sat.seq (Sat.block (Sat.seq (Sat.region ?_)))))
   refine Tr.m rfl rfl rfl ?_
   refine Tr.a rfl rfl rfl ?_
   refine Tr.nil (Aa (Sat.seq (Sat.region ?_)))
   refine Tr.m rfl rfl rfl ?_
   refine Tr.m rfl rfl rfl ?_
   refine Tr.m rfl rfl rfl ?_
   refine Tr.idxSlP 34 rfl rfl rfl hsp rfl Y25 Sz53 k oM oM ?_
   refine Tr.loadEN r.cells rfl rfl rfl Y53 rfl Sz53 sP hlen hsee ?_
   refine Tr.callCV rfl rfl rfl rfl rfl Body184 (all_cutk_1 r d q) (fun w h => ⟨his.ext h rfl, h.keeps.cell sP hq⟩) ?_
   refine Tr.nil (Aa ?_)
   first
    | refine Sat.condP rfl (fun hc1 => ?_) (fun hc1 => ?_)
    | refine Sat.condNP rfl (fun hc1 => ?_) (fun hc1 => ?_)
    | refine Sat.cond rfl (fun hc1 => ?_) (fun hc1 => ?_)
   ·
    refine Sat.seq (Sat.region ?_)
    refine Tr.m rfl rfl rfl ?_
    refine Tr.a rfl rfl rfl ?_
    refine Tr.nil (Aa (Sat.ret (Bw (Ao (Ao (Bw (Ao (Am ?_))))))))
    refine ⟨_, [], Ad rfl rfl, sP, sP, ?_, rfl⟩
    first
     | exact congrArg i64 (fstBad_none (by intro j hj; exact hg j (by rw [hs.nd] at hj; exact hj))).symm
     | exact congrArg i64 (fstBad_at hg (by rw [List.getElem?_map, hd]; simpa using hc1)).symm
   ·
    refine Sat.skip (Bx (Aa (Sat.region ?_)))
    refine Tr.aI rfl rfl rfl rfl oM ?_
    refine Tr.m rfl rfl rfl ?_
    refine Tr.nil (Aa ?_)
    exact ⟨k + 1, ⟨by omega, fun j hj => by rcases Nat.lt_succ_iff_lt_or_eq.1 hj with h | rfl; exact hg j h; rw [List.getElem?_map, hd]; simpa using hc1⟩, by omega, Ap (wk1 rfl (wk1 rfl (wk1 rfl (wk1 rfl wk0)))) wh0 nD⟩
  ·
   obtain rfl : k = s.n := by omega
   refine Sat.exit (Bc (Bc (bl_h (Aa (Sat.seq (Sat.region ?_))))))
   refine Tr.a rfl rfl rfl ?_
   refine Tr.nil (Aa (Sat.ret (Am ?_)))
   refine ⟨_, [], Ad rfl rfl, sP, sP, ?_, rfl⟩
   first
    | exact congrArg i64 (fstBad_none (by intro j hj; exact hg j (by rw [hs.nd] at hj; exact hj))).symm
    | exact congrArg i64 (fstBad_at hg (by rw [List.getElem?_map, hd]; simpa using hc1)).symm

theorem contains_cutk (s : Sl) (ds : List DCut) (q : Nat) : Meets Tryz.prog 183 [s.v, .func (.func 184) #[] #[ptr q 0]] [] (fun W => CutsAt W s ds ∧ W.cell? ⟨q, 0, none⟩ = some (.func (.func 87) #[] #[])) (fun v out => v = .bool (ds.any (fun d : DCut => !decide (d.check = 0))) ∧ out = []) := by
 intro W hW
 refine Ak Tryz.func183 rfl 9 Tryz.ntmps183 rfl ?_
 refine Sat.seq (Sat.region ?_)
 refine Tr.a rfl rfl rfl ?_
 refine Tr.nil (Aa (Sat.seq (Sat.region ?_)))
 refine Tr.m rfl rfl rfl ?_
 refine Tr.m rfl rfl rfl ?_
 refine Tr.cV rfl rfl rfl rfl Body231 (index_cutk s ds q) (fun w h => ⟨Cuts_ext h rfl hW.1, h.keeps.cell sP hW.2⟩) ?_
 refine Tr.geq rfl rfl rfl rfl rfl ?_
 refine Tr.a rfl rfl rfl ?_
 refine Tr.nil (Aa (Sat.ret (Am ?_)))
 refine ⟨_, [], Ad rfl rfl, sP, sP, ?_, rfl⟩
 exact congrArg Value.bool (fstBad_ge _ _)

theorem all_cutk (s : Sl) (ds : List DCut) : Meets Tryz.prog 86 [s.v, .func (.func 87) #[] #[]] [] (fun W => CutsAt W s ds) (fun v out => v = .bool (ds.all fun d => decide (d.check = 0)) ∧ out = []) := by
 intro W hW
 refine Ak Tryz.func86 rfl 9 Tryz.ntmps86 rfl ?_
 refine Sat.seq (Sat.region ?_)
 refine Tr.box1 rfl rfl rfl ?_
 intro n3 hn3 hf3
 refine Tr.a rfl rfl rfl ?_
 refine Tr.nil (Aa (Sat.seq (Sat.region ?_)))
 refine Tr.m rfl rfl rfl ?_
 refine Tr.makeFunc rfl rfl rfl rfl ?_
 refine Tr.cV rfl rfl rfl rfl Body183 (contains_cutk s ds n3) (fun w h => ⟨Cuts_ext h rfl hW, (An h mM).cell (o := 0) rfl⟩) ?_
 refine Tr.not rfl rfl rfl ?_
 refine Tr.a rfl rfl rfl ?_
 refine Tr.nil (Aa (Sat.ret (Am ?_)))
 refine ⟨_, [], Ad rfl rfl, sP, sP, ?_, rfl⟩
 exact congrArg Value.bool (any_all _ _)

noncomputable def DKept.good (D : DKept) : Bool := (D.dBlocks.all fun d => decide (d.check = 0)) && ((D.dCerts.all fun d => decide (d.check = 0)) && ((D.dVotes.all fun d => decide (A8 d = 0)) && ((D.dCuts.all fun d => decide (d.check = 0)) && inOrd D.dCerts)))
noncomputable def DKept.check (D : DKept) : Int := if D.good = true then 0 else 2

theorem keep_check (X : Kept) (D : DKept) : Meets Tryz.prog 16 [agg X.cells] [] (fun W => KeptIs W X D) (fun v out => v = i64 D.check ∧ out = []) := by
 intro W hW
 have hok := hW.ok
 refine Ak Tryz.func16 rfl 31 Tryz.ntmps16 rfl ?_
 refine Sat.seq (Sat.region ?_)
 refine Tr.boxA rfl rfl ?_
 intro n1 hn1 hf1
 refine Tr.a rfl rfl rfl ?_
 refine Tr.nil (Aa (Sat.seq (Sat.seq (Sat.region ?_))))
 refine Tr.fld rfl rfl rfl Y27 rfl Sz22 dE _ rfl ?_
 refine Tr.load1 rfl rfl rfl Y22 rfl mM (by first | exact Kept.get_fBlocks (by first | exact oK  | exact hok) | exact vL) ?_
 refine Tr.callB rfl rfl rfl rfl Body81 (all_blockk X.fBlocks D.dBlocks) (fun w h => Blocks_ext h rfl hW.fBlocks) (fun hs1_20 => ?_) (fun hs1_20 => ?_)
 ·
  first | have hs1_2 := of_decide_eq_true hs1_20 | have hs1_2 := of_decide_eq_false hs1_20 | have hs1_2 := Bs hs1_20 | have hs1_2 := Bt hs1_20 | have hs1_2 := hs1_20
  refine Tr.not rfl rfl rfl ?_
  refine Tr.m rfl rfl rfl ?_
  refine Tr.fld rfl rfl rfl Y27 rfl Sz23 dE _ rfl ?_
  refine Tr.load1 rfl rfl rfl Y23 rfl mM (by first | exact Kept.get_fCerts (by first | exact oK  | exact hok) | exact vL) ?_
  refine Tr.callB rfl rfl rfl rfl Body83 (all_certk X.fCerts D.dCerts) (fun w h => Certs_ext h rfl hW.fCerts) (fun hs1_70 => ?_) (fun hs1_70 => ?_)
  ·
   first | have hs1_7 := of_decide_eq_true hs1_70 | have hs1_7 := of_decide_eq_false hs1_70 | have hs1_7 := Bs hs1_70 | have hs1_7 := Bt hs1_70 | have hs1_7 := hs1_70
   refine Tr.not rfl rfl rfl ?_
   refine Tr.pick rfl rfl rfl rfl rfl rfl ?_
   refine Tr.m rfl rfl rfl ?_
   refine Tr.fld rfl rfl rfl Y27 rfl Sz24 dE _ rfl ?_
   refine Tr.load1 rfl rfl rfl Y24 rfl mM (by first | exact Kept.get_fVotes (by first | exact oK  | exact hok) | exact vL) ?_
   refine Tr.callB rfl rfl rfl rfl Body84 (all_votek X.fVotes D.dVotes) (fun w h => Votes_ext h rfl hW.fVotes) (fun hs1_130 => ?_) (fun hs1_130 => ?_)
   ·
    first | have hs1_13 := of_decide_eq_true hs1_130 | have hs1_13 := of_decide_eq_false hs1_130 | have hs1_13 := Bs hs1_130 | have hs1_13 := Bt hs1_130 | have hs1_13 := hs1_130
    refine Tr.not rfl rfl rfl ?_
    refine Tr.pick rfl rfl rfl rfl rfl rfl ?_
    refine Tr.m rfl rfl rfl ?_
    refine Tr.fld rfl rfl rfl Y27 rfl Sz25 dE _ rfl ?_
    refine Tr.load1 rfl rfl rfl Y25 rfl mM (by first | exact Kept.get_fCuts (by first | exact oK  | exact hok) | exact vL) ?_
    refine Tr.callB rfl rfl rfl rfl Body86 (all_cutk X.fCuts D.dCuts) (fun w h => Cuts_ext h rfl hW.fCuts) (fun hs1_190 => ?_) (fun hs1_190 => ?_)
    ·
     first | have hs1_19 := of_decide_eq_true hs1_190 | have hs1_19 := of_decide_eq_false hs1_190 | have hs1_19 := Bs hs1_190 | have hs1_19 := Bt hs1_190 | have hs1_19 := hs1_190
     refine Tr.not rfl rfl rfl ?_
     refine Tr.pick rfl rfl rfl rfl rfl rfl ?_
     refine Tr.m rfl rfl rfl ?_
     refine Tr.fld rfl rfl rfl Y27 rfl Sz23 dE _ rfl ?_
     refine Tr.load1 rfl rfl rfl Y23 rfl mM (by first | exact Kept.get_fCerts (by first | exact oK  | exact hok) | exact vL) ?_
     refine Tr.cV rfl rfl rfl rfl Body80 (in_order X.fCerts D.dCerts) (fun w h => Certs_ext h rfl hW.fCerts) ?_
     refine Tr.not rfl rfl rfl ?_
     refine Tr.pick rfl rfl rfl rfl rfl rfl ?_
     refine Tr.nil (Aa ?_)
     first
      | refine Sat.condP rfl (fun hc0 => ?_) (fun hc0 => ?_)
      | refine Sat.condNP rfl (fun hc0 => ?_) (fun hc0 => ?_)
      | refine Sat.cond rfl (fun hc0 => ?_) (fun hc0 => ?_)
     ·
      refine Sat.seq (Sat.region ?_)
      refine Tr.a rfl rfl rfl ?_
      refine Tr.nil (Aa (Sat.ret (Ao (Am ?_))))
      refine ⟨_, [], Ad rfl rfl, sP, sP, ?_, rfl⟩
      first
       | (simp only [DKept.check, DKept.good, hs1_2, hs1_7, hs1_13, hs1_19, Bool.and_true, Bool.and_false, Bool.true_and, Bool.false_and, Bool.false_eq_true, if_true, if_false]; done)
       | (simp only [DKept.check, DKept.good, hs1_2, hs1_7, hs1_13, Bool.and_true, Bool.and_false, Bool.true_and, Bool.false_and, Bool.false_eq_true, if_true, if_false]; done)
       | (simp only [DKept.check, DKept.good, hs1_2, hs1_7, Bool.and_true, Bool.and_false, Bool.true_and, Bool.false_and, Bool.false_eq_true, if_true, if_false]; done)
       | (simp only [DKept.check, DKept.good, hs1_2, Bool.and_true, Bool.and_false, Bool.true_and, Bool.false_and, Bool.false_eq_true, if_true, if_false]; done)
       | simp_all [DKept.check, DKept.good]
     ·
      refine Sat.skip (Aa (Sat.seq (Sat.region ?_)))
      refine Tr.a rfl rfl rfl ?_
      refine Tr.nil (Aa (Sat.ret (Am ?_)))
      refine ⟨_, [], Ad rfl rfl, sP, sP, ?_, rfl⟩
      first
       | (simp only [DKept.check, DKept.good, hs1_2, hs1_7, hs1_13, hs1_19, Bool.and_true, Bool.and_false, Bool.true_and, Bool.false_and, Bool.false_eq_true, if_true, if_false]; done)
       | (simp only [DKept.check, DKept.good, hs1_2, hs1_7, hs1_13, Bool.and_true, Bool.and_false, Bool.true_and, Bool.false_and, Bool.false_eq_true, if_true, if_false]; done)
       | (simp only [DKept.check, DKept.good, hs1_2, hs1_7, Bool.and_true, Bool.and_false, Bool.true_and, Bool.false_and, Bool.false_eq_true, if_true, if_false]; done)
       | (simp only [DKept.check, DKept.good, hs1_2, Bool.and_true, Bool.and_false, Bool.true_and, Bool.false_and, Bool.false_eq_true, if_true, if_false]; done)
       | simp_all [DKept.check, DKept.good]
    ·
     first | have hs1_19 := of_decide_eq_true hs1_190 | have hs1_19 := of_decide_eq_false hs1_190 | have hs1_19 := Bs hs1_190 | have hs1_19 := Bt hs1_190 | have hs1_19 := hs1_190
     refine Tr.not rfl rfl rfl ?_
     refine Tr.pick rfl rfl rfl rfl rfl rfl ?_
     refine Tr.m rfl rfl rfl ?_
     refine Tr.skp rfl rfl ?_
     refine Tr.skp rfl rfl ?_
     refine Tr.skp rfl rfl ?_
     refine Tr.skp rfl rfl ?_
     refine Tr.pick rfl rfl rfl rfl rfl rfl ?_
     refine Tr.nil (Aa ?_)
     refine Sat.cond_t rfl rfl ?_
     refine Sat.seq (Sat.region ?_)
     refine Tr.a rfl rfl rfl ?_
     refine Tr.nil (Aa (Sat.ret (Ao (Am ?_))))
     refine ⟨_, [], Ad rfl rfl, sP, sP, ?_, rfl⟩
     first
      | (simp only [DKept.check, DKept.good, hs1_2, hs1_7, hs1_13, hs1_19, Bool.and_true, Bool.and_false, Bool.true_and, Bool.false_and, Bool.false_eq_true, if_true, if_false]; done)
      | (simp only [DKept.check, DKept.good, hs1_2, hs1_7, hs1_13, Bool.and_true, Bool.and_false, Bool.true_and, Bool.false_and, Bool.false_eq_true, if_true, if_false]; done)
      | (simp only [DKept.check, DKept.good, hs1_2, hs1_7, Bool.and_true, Bool.and_false, Bool.true_and, Bool.false_and, Bool.false_eq_true, if_true, if_false]; done)
      | (simp only [DKept.check, DKept.good, hs1_2, Bool.and_true, Bool.and_false, Bool.true_and, Bool.false_and, Bool.false_eq_true, if_true, if_false]; done)
      | simp_all [DKept.check, DKept.good]
   ·
    first | have hs1_13 := of_decide_eq_true hs1_130 | have hs1_13 := of_decide_eq_false hs1_130 | have hs1_13 := Bs hs1_130 | have hs1_13 := Bt hs1_130 | have hs1_13 := hs1_130
    refine Tr.not rfl rfl rfl ?_
    refine Tr.pick rfl rfl rfl rfl rfl rfl ?_
    refine Tr.m rfl rfl rfl ?_
    refine Tr.skp rfl rfl ?_
    refine Tr.skp rfl rfl ?_
    refine Tr.skp rfl rfl ?_
    refine Tr.skp rfl rfl ?_
    refine Tr.pick rfl rfl rfl rfl rfl rfl ?_
    refine Tr.m rfl rfl rfl ?_
    refine Tr.skp rfl rfl ?_
    refine Tr.skp rfl rfl ?_
    refine Tr.skp rfl rfl ?_
    refine Tr.skp rfl rfl ?_
    refine Tr.pick rfl rfl rfl rfl rfl rfl ?_
    refine Tr.nil (Aa ?_)
    refine Sat.cond_t rfl rfl ?_
    refine Sat.seq (Sat.region ?_)
    refine Tr.a rfl rfl rfl ?_
    refine Tr.nil (Aa (Sat.ret (Ao (Am ?_))))
    refine ⟨_, [], Ad rfl rfl, sP, sP, ?_, rfl⟩
    first
     | (simp only [DKept.check, DKept.good, hs1_2, hs1_7, hs1_13, hs1_19, Bool.and_true, Bool.and_false, Bool.true_and, Bool.false_and, Bool.false_eq_true, if_true, if_false]; done)
     | (simp only [DKept.check, DKept.good, hs1_2, hs1_7, hs1_13, Bool.and_true, Bool.and_false, Bool.true_and, Bool.false_and, Bool.false_eq_true, if_true, if_false]; done)
     | (simp only [DKept.check, DKept.good, hs1_2, hs1_7, Bool.and_true, Bool.and_false, Bool.true_and, Bool.false_and, Bool.false_eq_true, if_true, if_false]; done)
     | (simp only [DKept.check, DKept.good, hs1_2, Bool.and_true, Bool.and_false, Bool.true_and, Bool.false_and, Bool.false_eq_true, if_true, if_false]; done)
     | simp_all [DKept.check, DKept.good]
  ·
   first | have hs1_7 := of_decide_eq_true hs1_70 | have hs1_7 := of_decide_eq_false hs1_70 | have hs1_7 := Bs hs1_70 | have hs1_7 := Bt hs1_70 | have hs1_7 := hs1_70
   refine Tr.not rfl rfl rfl ?_
   refine Tr.pick rfl rfl rfl rfl rfl rfl ?_
   refine Tr.m rfl rfl rfl ?_
   refine Tr.skp rfl rfl ?_
   refine Tr.skp rfl rfl ?_
   refine Tr.skp rfl rfl ?_
   refine Tr.skp rfl rfl ?_
   refine Tr.pick rfl rfl rfl rfl rfl rfl ?_
   refine Tr.m rfl rfl rfl ?_
   refine Tr.skp rfl rfl ?_
   refine Tr.skp rfl rfl ?_
   refine Tr.skp rfl rfl ?_
   refine Tr.skp rfl rfl ?_
   refine Tr.pick rfl rfl rfl rfl rfl rfl ?_
   refine Tr.m rfl rfl rfl ?_
   refine Tr.skp rfl rfl ?_
   refine Tr.skp rfl rfl ?_
   refine Tr.skp rfl rfl ?_
   refine Tr.skp rfl rfl ?_
   refine Tr.pick rfl rfl rfl rfl rfl rfl ?_
   refine Tr.nil (Aa ?_)
   refine Sat.cond_t rfl rfl ?_
   refine Sat.seq (Sat.region ?_)
   refine Tr.a rfl rfl rfl ?_
   refine Tr.nil (Aa (Sat.ret (Ao (Am ?_))))
   refine ⟨_, [], Ad rfl rfl, sP, sP, ?_, rfl⟩
   first
    | (simp only [DKept.check, DKept.good, hs1_2, hs1_7, hs1_13, hs1_19, Bool.and_true, Bool.and_false, Bool.true_and, Bool.false_and, Bool.false_eq_true, if_true, if_false]; done)
    | (simp only [DKept.check, DKept.good, hs1_2, hs1_7, hs1_13, Bool.and_true, Bool.and_false, Bool.true_and, Bool.false_and, Bool.false_eq_true, if_true, if_false]; done)
    | (simp only [DKept.check, DKept.good, hs1_2, hs1_7, Bool.and_true, Bool.and_false, Bool.true_and, Bool.false_and, Bool.false_eq_true, if_true, if_false]; done)
    | (simp only [DKept.check, DKept.good, hs1_2, Bool.and_true, Bool.and_false, Bool.true_and, Bool.false_and, Bool.false_eq_true, if_true, if_false]; done)
    | simp_all [DKept.check, DKept.good]
 ·
  first | have hs1_2 := of_decide_eq_true hs1_20 | have hs1_2 := of_decide_eq_false hs1_20 | have hs1_2 := Bs hs1_20 | have hs1_2 := Bt hs1_20 | have hs1_2 := hs1_20
  refine Tr.not rfl rfl rfl ?_
  refine Tr.m rfl rfl rfl ?_
  refine Tr.skp rfl rfl ?_
  refine Tr.skp rfl rfl ?_
  refine Tr.skp rfl rfl ?_
  refine Tr.skp rfl rfl ?_
  refine Tr.pick rfl rfl rfl rfl rfl rfl ?_
  refine Tr.m rfl rfl rfl ?_
  refine Tr.skp rfl rfl ?_
  refine Tr.skp rfl rfl ?_
  refine Tr.skp rfl rfl ?_
  refine Tr.skp rfl rfl ?_
  refine Tr.pick rfl rfl rfl rfl rfl rfl ?_
  refine Tr.m rfl rfl rfl ?_
  refine Tr.skp rfl rfl ?_
  refine Tr.skp rfl rfl ?_
  refine Tr.skp rfl rfl ?_
  refine Tr.skp rfl rfl ?_
  refine Tr.pick rfl rfl rfl rfl rfl rfl ?_
  refine Tr.m rfl rfl rfl ?_
  refine Tr.skp rfl rfl ?_
  refine Tr.skp rfl rfl ?_
  refine Tr.skp rfl rfl ?_
  refine Tr.skp rfl rfl ?_
  refine Tr.pick rfl rfl rfl rfl rfl rfl ?_
  refine Tr.nil (Aa ?_)
  refine Sat.cond_t rfl rfl ?_
  refine Sat.seq (Sat.region ?_)
  refine Tr.a rfl rfl rfl ?_
  refine Tr.nil (Aa (Sat.ret (Ao (Am ?_))))
  refine ⟨_, [], Ad rfl rfl, sP, sP, ?_, rfl⟩
  first
   | (simp only [DKept.check, DKept.good, hs1_2, hs1_7, hs1_13, hs1_19, Bool.and_true, Bool.and_false, Bool.true_and, Bool.false_and, Bool.false_eq_true, if_true, if_false]; done)
   | (simp only [DKept.check, DKept.good, hs1_2, hs1_7, hs1_13, Bool.and_true, Bool.and_false, Bool.true_and, Bool.false_and, Bool.false_eq_true, if_true, if_false]; done)
   | (simp only [DKept.check, DKept.good, hs1_2, hs1_7, Bool.and_true, Bool.and_false, Bool.true_and, Bool.false_and, Bool.false_eq_true, if_true, if_false]; done)
   | (simp only [DKept.check, DKept.good, hs1_2, Bool.and_true, Bool.and_false, Bool.true_and, Bool.false_and, Bool.false_eq_true, if_true, if_false]; done)
   | simp_all [DKept.check, DKept.good]

end Go.Proofs.YtdifpjmfabhpiaaGreat
end

section
namespace Go.Proofs.YtdifpjmfabhpiaaGreat
open Go Hw

def LenR (k : Nat) (v : Value) (out : List Blk) : Prop := ∃ s : Sl, v = s.v ∧ s.n = k
theorem LenR.loose (k : Nat) : Loose (LenR k) := fun l hl => ⟨(⟨none, k, 0⟩ : Sl).v, [], ⟨_, rfl, rfl⟩, hl⟩
end Go.Proofs.YtdifpjmfabhpiaaGreat
end

section
namespace Go.Proofs.YtdifpjmfabhpiaaGreat
open Go Hw

def putE {D : Type} (f : D → DRecord × Int) : List D → Int
  | [] => 0
  | d :: l => if (f d).2 = 0 then putE f l else (f d).2
def putD {D : Type} (f : D → DRecord × Int) (ds : List D) : List DRecord := ds.map fun d => (f d).1
theorem putE_step {D : Type} (f : D → DRecord × Int) : ∀ (ds : List D) (k : Nat) (d : D), ds[k]? = some d → putE f (ds.take k) = 0 → (f d).2 = 0 → putE f (ds.take (k + 1)) = 0
  | [], k, d, h, _, _ => by simp at h
  | x :: l, 0, d, h, _, h2 => by
    obtain rfl : x = d := by simpa using h
    simp [putE, h2]
  | x :: l, k + 1, d, h, h1, h2 => by
    rw [List.take_succ_cons, putE] at h1
    rw [List.take_succ_cons, putE]
    by_cases hx : (f x).2 = 0
    · rw [if_pos hx] at h1 ⊢
      exact putE_step f l k d (by simpa using h) h1 h2
    · rw [if_neg hx] at h1; exact absurd h1 hx
theorem putE_fail {D : Type} (f : D → DRecord × Int) : ∀ (ds : List D) (k : Nat) (d : D), ds[k]? = some d → putE f (ds.take k) = 0 → ¬ (f d).2 = 0 → putE f ds = (f d).2
  | [], k, d, h, _, _ => by simp at h
  | x :: l, 0, d, h, _, h2 => by
    obtain rfl : x = d := by simpa using h
    rw [putE, if_neg h2]
  | x :: l, k + 1, d, h, h1, h2 => by
    rw [List.take_succ_cons, putE] at h1
    rw [putE]
    by_cases hx : (f x).2 = 0
    · rw [if_pos hx] at h1 ⊢
      exact putE_fail f l k d (by simpa using h) h1 h2
    · rw [if_neg hx] at h1; exact absurd h1 hx
theorem putD_step {D : Type} (f : D → DRecord × Int) {ds : List D} {k : Nat} {d : D} (h : ds[k]? = some d) : putD f (ds.take (k + 1)) = putD f (ds.take k) ++ [(f d).1] := by
  rw [putD, take_snoc h, List.map_append]; rfl
def Stay (L : List Nat) (W : World) (F : World → Prop) : Prop := ∀ W2, Keeps L W W2 → F W2
theorem seq_sees {R D : Type} {cells : R → List Value} {k : Nat} {Is : World → R → D → Prop} {w : World} {s : Sl} {rs : List R} {ds : List D} (h : SeqIs cells k Is w s rs ds) (hk : 0 < k) {i b o : Nat} {r : R} {d : D} (hp : s.p = some ⟨b, o, none⟩) (hr : rs[i]? = some r) (hd : ds[i]? = some d) : Sees w b (o + i * k) (cells r) ∧ Is w r d := by
  have hi : i < s.n := by rw [← h.nr]; exact (List.getElem?_eq_some_iff.1 hr).1
  obtain ⟨b', o', r', d', hp', hr', hd', hi', hl', hs'⟩ := h.at hk hi
  rw [hp] at hp'; cases hp'
  rw [hr] at hr'; cases hr'
  rw [hd] at hd'; cases hd'
  exact ⟨hs', hi'⟩
theorem put_hrep {P : Program} {W : World} {N m size : Nat} {s : Sl} {bl : List Blk} {cells : List Value} {E : TypeId} (h : Hw.Acc s bl cells E m size) (hl : Lies bl W) : HRep ⟨P, W, N, bl.map (·.n), [], []⟩ (bl ++ []) W := by
  rw [List.append_nil]
  exact Acc.hrep (P := P) (N := N) h hl
def PutR {D : Type} (f : D → DRecord × Int) (ds : List D) (m n : Nat) (o0 : List Blk) (dr : List DRecord) (v : Value) (out : List Blk) : Prop := ∃ (s2 : Sl) (b2 o2 : List Blk) (rs2 : List Record), v = .tuple #[s2.v, i64 (putE f ds)] ∧ out = b2 ++ (o2 ++ []) ∧ (putE f ds = 0 → OwnSeq Record.cells 2 RecordIs 91 s2 b2 (o2 ++ o0) rs2 (dr ++ putD f ds) (m + n)) ∧ (¬ putE f ds = 0 → s2 = Sl.nil ∧ b2 = [] ∧ o2 = [])

theorem put_snoc {D : Type} {f : D → DRecord × Int} {ds : List D} {k m : Nat} {d : D} {s s2 : Sl} {b b2 o o0 out : List Blk} {rs : List Record} {dr : List DRecord} {X : Record} (h : OwnSeq Record.cells 2 RecordIs 91 s b (o ++ o0) rs (dr ++ putD f (ds.take k)) (m + k)) (hd : ds[k]? = some d) (ha : Hw.Acc s2 b2 ((rs.map Record.cells).flatten ++ X.cells) 91 (m + k + 1) 2) (ok : X.ok) (hX : ∀ W2, Lies out W2 → RecordIs W2 X (f d).1) :
    OwnSeq Record.cells 2 RecordIs 91 s2 b2 ((out ++ o) ++ o0) (rs ++ [X]) (dr ++ putD f (ds.take (k + 1))) (m + (k + 1)) := by
  rw [putD_step f hd, ← List.append_assoc, List.append_assoc out]
  exact h.snoc ha (Record.length ok) hX

theorem kput_vote (s : Sl) (bl o0 : List Blk) (rs : List Record) (dr : List DRecord) (m : Nat) (hq : OwnSeq Record.cells 2 RecordIs 91 s bl o0 rs dr m) (hm : m ≤ 100000) (t : Sl) (rt : List Vote) (ds : List Vote) (hsn : t.n ≤ 1000) (hsz : ∀ d ∈ ds, (Av d).length ≤ 40000) : Meets Tryz.prog 71 [s.v, t.v, .func (.func 54) #[] #[]] (bl.map (·.n)) (fun W => Lies bl W ∧ Stay (bl.map (·.n)) W (fun W2 => SeqIs Vote.cells 132 VoteIs W2 t rt ds)) (PutR (fun X : Vote => A6 3 (Av X) (A8 X)) ds m t.n o0 dr) := by
 intro W hW
 have hs := hW.2 W (Keeps.refl _ _)
 have hnd := hs.nd
 refine A3 (hp0 := (bl ++ [])) Tryz.func71 rfl 33 Tryz.ntmps71 rfl (put_hrep hq.acc hW.1) ?_
 refine Sat.seq (Sat.region ?_)
 refine Tr.a rfl rfl rfl ?_
 refine Tr.a rfl rfl rfl ?_
 refine Tr.nil (Aa (Sat.seq (Sat.seq (Sat.region ?_))))
 refine Tr.m rfl rfl rfl ?_
 refine Tr.lenSl rfl rfl rfl Y24 ?_
 refine Tr.m rfl rfl rfl ?_
 refine Tr.nil (Aa (Sat.block ?_))
 refine Sat.loop (ι := Nat × Sl × List Blk × List Blk × List Record) (fun p => ⟨[(0, p.2.1.v), (2, .func (.func 54) #[] #[]), (12, t.v), (13, i64 (t.n : Int)), (14, i64 (p.1 : Int))], (p.2.2.1 ++ (p.2.2.2.1 ++ []))⟩) (fun p => p.1 ≤ t.n ∧ putE (fun X : Vote => A6 3 (Av X) (A8 X)) (ds.take p.1) = 0 ∧ OwnSeq Record.cells 2 RecordIs 91 p.2.1 p.2.2.1 (p.2.2.2.1 ++ o0) p.2.2.2.2 (dr ++ putD (fun X : Vote => A6 3 (Av X) (A8 X)) (ds.take p.1)) (m + p.1)) (fun p => t.n - p.1) ((0, s, bl, [], rs)) ?_ ?_ ?_
 · exact ⟨Nat.zero_le _, rfl, by simpa [putD] using hq⟩
 · exact Ah (wk1 rfl (wk1 rfl (wk1 rfl (wk1 rfl (wk1 rfl wk0))))) (Ac sG (pm_none Ag))
 ·
  rintro p ⟨hp1, hp2, hp3⟩
  refine Sat.seq (Sat.region ?_)
  refine Tr.lss rfl rfl rfl rfl rfl ?_
  refine Tr.nil (Aa (Sat.seq ?_))
  first
   | refine Sat.condP rfl (fun hc0 => ?_) (fun hc0 => ?_)
   | refine Sat.condNP rfl (fun hc0 => ?_) (fun hc0 => ?_)
   | refine Sat.cond rfl (fun hc0 => ?_) (fun hc0 => ?_)
  ·
   have hk2 : p.1 < t.n := by omega
   obtain ⟨b, o, r, d, hsp, hr, hd, his, hlen, hsee⟩ := hs.at dE hk2
   have okr : r.ok := his.ok
   refine Sat.skip (Aa (Sat.seq (Sat.block (Sat.seq (Sat.region ?_)))))
   refine Tr.idxSlP 132 rfl rfl rfl hsp rfl Y24 Sz81 p.1 rfl oM ?_
   refine Tr.loadAny rfl rfl rfl (v := agg r.cells) (fun w h => by
    have := run_row (P := Tryz.prog) (w := w) hlen ((seq_sees (hW.2 w h.keeps) dE hsp hr hd).1)
    simp [loadVar, run_isAgg_arr Y81 rfl, B5 Sz81, this]) ?_
   refine Tr.alloc (cs := Vote.zero.cells) rfl Vote.zr rfl ?_
   intro n9 hn9 hf9
   refine Tr.sA rfl rfl rfl rfl (Vote.isCell (by first | exact oK  | exact hro | exact ok21 | exact okr)) Sz81 (Vote.length (by first | exact oK  | exact hro | exact ok21 | exact okr)) mM (Vote.length (by first | exact oK  | exact hro | exact ok21 | exact okr)) uU ?_
   refine Tr.nil (Aa (Sat.seq (Sat.region ?_)))
   refine Tr.m rfl rfl rfl ?_
   refine Tr.lA rfl rfl rfl Y81 rfl Sz81 mM (Vote.length (by first | exact oK  | exact hro | exact ok21 | exact okr)) ?_
   refine Tr.call4 rfl rfl rfl rfl rfl Body54 (keep_vote r d (hsz d (List.mem_of_getElem? hd))) (fun w h => (seq_sees (hW.2 w h.keeps) dE hsp hr hd).2) ?_
   rintro v21 out21 ⟨X21, ok21, rfl, k21, h21⟩
   refine Tr.m rfl rfl rfl ?_
   refine Tr.eX rfl rfl rfl rfl ?_
   refine Tr.eX rfl rfl rfl rfl ?_
   refine Tr.alloc (cs := Record.zero.cells) rfl Record.zr rfl ?_
   intro n10 hn10 hf10
   refine Tr.sA rfl rfl rfl rfl (Record.isCell (by first | exact oK  | exact hro | exact ok21 | exact okr)) Bo (Record.length (by first | exact oK  | exact hro | exact ok21 | exact okr)) mM (Record.length (by first | exact oK  | exact hro | exact ok21 | exact okr)) uU ?_
   refine Tr.a rfl rfl rfl ?_
   refine Tr.nil (Aa (Sat.seq (Sat.seq (Sat.region ?_))))
   refine Tr.m rfl rfl rfl ?_
   refine Tr.nei rfl rfl rfl rfl rfl ?_
   refine Tr.nil (Aa ?_)
   first
    | refine Sat.condP rfl (fun hc1 => ?_) (fun hc1 => ?_)
    | refine Sat.condNP rfl (fun hc1 => ?_) (fun hc1 => ?_)
    | refine Sat.cond rfl (fun hc1 => ?_) (fun hc1 => ?_)
   ·
    have he1 : ¬ ((fun X : Vote => A6 3 (Av X) (A8 X)) d).2 = 0 := by omega
    refine Sat.seq (Sat.region ?_)
    refine Tr.m rfl rfl rfl ?_
    refine Tr.a rfl rfl rfl ?_
    refine Tr.a rfl rfl rfl ?_
    refine Tr.nil (Aa (Sat.ret (Ao (Bw (Ao (Ao (Bw (Ao (Am ?_)))))))))
    refine Al (out := []) (Bh rfl rfl rfl) Ag ?_
    exact ⟨Sl.nil, [], [], [], by rw [putE_fail _ _ _ _ hd hp2 he1]; rfl, rfl, fun e => absurd (by rw [putE_fail _ _ _ _ hd hp2 he1] at e; exact e) he1, fun _ => ⟨rfl, rfl, rfl⟩⟩
   ·
    have he0 : ((fun X : Vote => A6 3 (Av X) (A8 X)) d).2 = 0 := by omega
    refine Sat.skip (Aa (Sat.region ?_))
    refine Tr.m rfl rfl rfl ?_
    refine Tr.lA rfl rfl rfl Y91 rfl Bo mM (Record.length (by first | exact oK  | exact hro | exact ok21 | exact okr)) ?_
    refine Tr.mkRow2 (z := agg Record.zero.cells) [agg X21.cells] X21.cells rfl rfl Y28 Bo Record.zr rfl rfl (by intro v hv; rw [List.mem_singleton.1 hv]; exact Record.length ok21) dE (by simp [Value.cells]) ?_
    intro q29
    refine Tr.appendAcc (z := agg Record.zero.cells) (by' := 32) (X21.cells) rfl rfl rfl rfl rfl Y28 Y28 Bo Record.zr (by unfold By; kernel_rfl) rfl hp3.acc sG (fun w h => SeesP.of (As h mM)) (fun e => by cases e) (Record.isCell ok21) oM oM (by rw [Record.length ok21]) ?_
    intro s30 bl30 hac30
    refine Tr.a rfl rfl rfl ?_
    refine Tr.nil (Bx (Aa (Sat.region ?_)))
    refine Tr.aI rfl rfl rfl rfl oM ?_
    refine Tr.m rfl rfl rfl ?_
    refine Tr.nil (Aa ?_)
    exact ⟨(p.1 + 1, s30, bl30, out21 ++ p.2.2.2.1, p.2.2.2.2 ++ [X21]), ⟨by simp only []; omega, putE_step _ _ _ _ hd hp2 he0, put_snoc hp3 hd hac30 ok21 h21⟩, by simp only []; omega, Ah (wk1 rfl (wk1 rfl (wk1 rfl (wk1 rfl (wk1 (by rw [Int.natCast_add]; rfl) wk0))))) (Ac sG (pm_two (Ac sG (Ac sG Ag))))⟩
  ·
   have hpe : p.1 = t.n := by omega
   refine Sat.exit (Bc (Bc (bl_h (Aa (Sat.seq (Sat.region ?_))))))
   refine Tr.m rfl rfl rfl ?_
   refine Tr.a rfl rfl rfl ?_
   refine Tr.a rfl rfl rfl ?_
   refine Tr.nil (Aa (Sat.ret (Am ?_)))
   refine Al (out := (p.2.2.1 ++ (p.2.2.2.1 ++ []))) (Bh rfl rfl rfl) (Ac sG (Ac sG Ag)) ?_
   rw [List.take_of_length_le oM] at hp2
   rw [List.take_of_length_le oM, hpe] at hp3
   exact ⟨p.2.1, p.2.2.1, p.2.2.2.1, p.2.2.2.2, by rw [hp2], rfl, fun _ => hp3, fun e => absurd hp2 e⟩

theorem kput_cut (s : Sl) (bl o0 : List Blk) (rs : List Record) (dr : List DRecord) (m : Nat) (hq : OwnSeq Record.cells 2 RecordIs 91 s bl o0 rs dr m) (hm : m ≤ 100000) (t : Sl) (rt : List Cut) (ds : List DCut) (hsn : t.n ≤ 1000) (hsz : ∀ d ∈ ds, (cutR d).length ≤ 40000) : Meets Tryz.prog 70 [s.v, t.v, .func (.func 56) #[] #[]] (bl.map (·.n)) (fun W => Lies bl W ∧ Stay (bl.map (·.n)) W (fun W2 => SeqIs Cut.cells 34 CutIs W2 t rt ds)) (PutR (fun X : DCut => A6 4 (cutR X) (DCut.check X)) ds m t.n o0 dr) := by
 intro W hW
 have hs := hW.2 W (Keeps.refl _ _)
 have hnd := hs.nd
 refine A3 (hp0 := (bl ++ [])) Tryz.func70 rfl 33 Tryz.ntmps70 rfl (put_hrep hq.acc hW.1) ?_
 refine Sat.seq (Sat.region ?_)
 refine Tr.a rfl rfl rfl ?_
 refine Tr.a rfl rfl rfl ?_
 refine Tr.nil (Aa (Sat.seq (Sat.seq (Sat.region ?_))))
 refine Tr.m rfl rfl rfl ?_
 refine Tr.lenSl rfl rfl rfl Y25 ?_
 refine Tr.m rfl rfl rfl ?_
 refine Tr.nil (Aa (Sat.block ?_))
 refine Sat.loop (ι := Nat × Sl × List Blk × List Blk × List Record) (fun p => ⟨[(0, p.2.1.v), (2, .func (.func 56) #[] #[]), (12, t.v), (13, i64 (t.n : Int)), (14, i64 (p.1 : Int))], (p.2.2.1 ++ (p.2.2.2.1 ++ []))⟩) (fun p => p.1 ≤ t.n ∧ putE (fun X : DCut => A6 4 (cutR X) (DCut.check X)) (ds.take p.1) = 0 ∧ OwnSeq Record.cells 2 RecordIs 91 p.2.1 p.2.2.1 (p.2.2.2.1 ++ o0) p.2.2.2.2 (dr ++ putD (fun X : DCut => A6 4 (cutR X) (DCut.check X)) (ds.take p.1)) (m + p.1)) (fun p => t.n - p.1) ((0, s, bl, [], rs)) ?_ ?_ ?_
 · exact ⟨Nat.zero_le _, rfl, by simpa [putD] using hq⟩
 · exact Ah (wk1 rfl (wk1 rfl (wk1 rfl (wk1 rfl (wk1 rfl wk0))))) (Ac sG (pm_none Ag))
 ·
  rintro p ⟨hp1, hp2, hp3⟩
  refine Sat.seq (Sat.region ?_)
  refine Tr.lss rfl rfl rfl rfl rfl ?_
  refine Tr.nil (Aa (Sat.seq ?_))
  first
   | refine Sat.condP rfl (fun hc0 => ?_) (fun hc0 => ?_)
   | refine Sat.condNP rfl (fun hc0 => ?_) (fun hc0 => ?_)
   | refine Sat.cond rfl (fun hc0 => ?_) (fun hc0 => ?_)
  ·
   have hk2 : p.1 < t.n := by omega
   obtain ⟨b, o, r, d, hsp, hr, hd, his, hlen, hsee⟩ := hs.at dE hk2
   have okr : r.ok := his.ok
   refine Sat.skip (Aa (Sat.seq (Sat.block (Sat.seq (Sat.region ?_)))))
   refine Tr.idxSlP 34 rfl rfl rfl hsp rfl Y25 Sz53 p.1 rfl oM ?_
   refine Tr.loadAny rfl rfl rfl (v := agg r.cells) (fun w h => by
    have := run_row (P := Tryz.prog) (w := w) hlen ((seq_sees (hW.2 w h.keeps) dE hsp hr hd).1)
    simp [loadVar, run_isAgg_arr Y53 rfl, B5 Sz53, this]) ?_
   refine Tr.alloc (cs := Cut.zero.cells) rfl Cut.zr rfl ?_
   intro n9 hn9 hf9
   refine Tr.sA rfl rfl rfl rfl (Cut.isCell (by first | exact oK  | exact hro | exact ok21 | exact okr)) Sz53 (Cut.length (by first | exact oK  | exact hro | exact ok21 | exact okr)) mM (Cut.length (by first | exact oK  | exact hro | exact ok21 | exact okr)) uU ?_
   refine Tr.nil (Aa (Sat.seq (Sat.region ?_)))
   refine Tr.m rfl rfl rfl ?_
   refine Tr.lA rfl rfl rfl Y53 rfl Sz53 mM (Cut.length (by first | exact oK  | exact hro | exact ok21 | exact okr)) ?_
   refine Tr.call4 rfl rfl rfl rfl rfl Body56 (keep_cut r d (hsz d (List.mem_of_getElem? hd))) (fun w h => (seq_sees (hW.2 w h.keeps) dE hsp hr hd).2) ?_
   rintro v21 out21 ⟨X21, ok21, rfl, k21, h21⟩
   refine Tr.m rfl rfl rfl ?_
   refine Tr.eX rfl rfl rfl rfl ?_
   refine Tr.eX rfl rfl rfl rfl ?_
   refine Tr.alloc (cs := Record.zero.cells) rfl Record.zr rfl ?_
   intro n10 hn10 hf10
   refine Tr.sA rfl rfl rfl rfl (Record.isCell (by first | exact oK  | exact hro | exact ok21 | exact okr)) Bo (Record.length (by first | exact oK  | exact hro | exact ok21 | exact okr)) mM (Record.length (by first | exact oK  | exact hro | exact ok21 | exact okr)) uU ?_
   refine Tr.a rfl rfl rfl ?_
   refine Tr.nil (Aa (Sat.seq (Sat.seq (Sat.region ?_))))
   refine Tr.m rfl rfl rfl ?_
   refine Tr.nei rfl rfl rfl rfl rfl ?_
   refine Tr.nil (Aa ?_)
   first
    | refine Sat.condP rfl (fun hc1 => ?_) (fun hc1 => ?_)
    | refine Sat.condNP rfl (fun hc1 => ?_) (fun hc1 => ?_)
    | refine Sat.cond rfl (fun hc1 => ?_) (fun hc1 => ?_)
   ·
    have he1 : ¬ ((fun X : DCut => A6 4 (cutR X) (DCut.check X)) d).2 = 0 := by omega
    refine Sat.seq (Sat.region ?_)
    refine Tr.m rfl rfl rfl ?_
    refine Tr.a rfl rfl rfl ?_
    refine Tr.a rfl rfl rfl ?_
    refine Tr.nil (Aa (Sat.ret (Ao (Bw (Ao (Ao (Bw (Ao (Am ?_)))))))))
    refine Al (out := []) (Bh rfl rfl rfl) Ag ?_
    exact ⟨Sl.nil, [], [], [], by rw [putE_fail _ _ _ _ hd hp2 he1]; rfl, rfl, fun e => absurd (by rw [putE_fail _ _ _ _ hd hp2 he1] at e; exact e) he1, fun _ => ⟨rfl, rfl, rfl⟩⟩
   ·
    have he0 : ((fun X : DCut => A6 4 (cutR X) (DCut.check X)) d).2 = 0 := by omega
    refine Sat.skip (Aa (Sat.region ?_))
    refine Tr.m rfl rfl rfl ?_
    refine Tr.lA rfl rfl rfl Y91 rfl Bo mM (Record.length (by first | exact oK  | exact hro | exact ok21 | exact okr)) ?_
    refine Tr.mkRow2 (z := agg Record.zero.cells) [agg X21.cells] X21.cells rfl rfl Y28 Bo Record.zr rfl rfl (by intro v hv; rw [List.mem_singleton.1 hv]; exact Record.length ok21) dE (by simp [Value.cells]) ?_
    intro q29
    refine Tr.appendAcc (z := agg Record.zero.cells) (by' := 32) (X21.cells) rfl rfl rfl rfl rfl Y28 Y28 Bo Record.zr (by unfold By; kernel_rfl) rfl hp3.acc sG (fun w h => SeesP.of (As h mM)) (fun e => by cases e) (Record.isCell ok21) oM oM (by rw [Record.length ok21]) ?_
    intro s30 bl30 hac30
    refine Tr.a rfl rfl rfl ?_
    refine Tr.nil (Bx (Aa (Sat.region ?_)))
    refine Tr.aI rfl rfl rfl rfl oM ?_
    refine Tr.m rfl rfl rfl ?_
    refine Tr.nil (Aa ?_)
    exact ⟨(p.1 + 1, s30, bl30, out21 ++ p.2.2.2.1, p.2.2.2.2 ++ [X21]), ⟨by simp only []; omega, putE_step _ _ _ _ hd hp2 he0, put_snoc hp3 hd hac30 ok21 h21⟩, by simp only []; omega, Ah (wk1 rfl (wk1 rfl (wk1 rfl (wk1 rfl (wk1 (by rw [Int.natCast_add]; rfl) wk0))))) (Ac sG (pm_two (Ac sG (Ac sG Ag))))⟩
  ·
   have hpe : p.1 = t.n := by omega
   refine Sat.exit (Bc (Bc (bl_h (Aa (Sat.seq (Sat.region ?_))))))
   refine Tr.m rfl rfl rfl ?_
   refine Tr.a rfl rfl rfl ?_
   refine Tr.a rfl rfl rfl ?_
   refine Tr.nil (Aa (Sat.ret (Am ?_)))
   refine Al (out := (p.2.2.1 ++ (p.2.2.2.1 ++ []))) (Bh rfl rfl rfl) (Ac sG (Ac sG Ag)) ?_
   rw [List.take_of_length_le oM] at hp2
   rw [List.take_of_length_le oM, hpe] at hp3
   exact ⟨p.2.1, p.2.2.1, p.2.2.2.1, p.2.2.2.2, by rw [hp2], rfl, fun _ => hp3, fun e => absurd hp2 e⟩

theorem kput_cert (s : Sl) (bl o0 : List Blk) (rs : List Record) (dr : List DRecord) (m : Nat) (hq : OwnSeq Record.cells 2 RecordIs 91 s bl o0 rs dr m) (hm : m ≤ 100000) (t : Sl) (rt : List Cert) (ds : List DCert) (hsn : t.n ≤ 1000) (hsz : ∀ d ∈ ds, (B6 d).length ≤ 40000) : Meets Tryz.prog 68 [s.v, t.v, .func (.func 52) #[] #[]] (bl.map (·.n)) (fun W => Lies bl W ∧ Stay (bl.map (·.n)) W (fun W2 => SeqIs Cert.cells 35 CertIs W2 t rt ds)) (PutR (fun X : DCert => A6 2 (B6 X) (DCert.check X)) ds m t.n o0 dr) := by
 intro W hW
 have hs := hW.2 W (Keeps.refl _ _)
 have hnd := hs.nd
 refine A3 (hp0 := (bl ++ [])) Tryz.func68 rfl 33 Tryz.ntmps68 rfl (put_hrep hq.acc hW.1) ?_
 refine Sat.seq (Sat.region ?_)
 refine Tr.a rfl rfl rfl ?_
 refine Tr.a rfl rfl rfl ?_
 refine Tr.nil (Aa (Sat.seq (Sat.seq (Sat.region ?_))))
 refine Tr.m rfl rfl rfl ?_
 refine Tr.lenSl rfl rfl rfl Y23 ?_
 refine Tr.m rfl rfl rfl ?_
 refine Tr.nil (Aa (Sat.block ?_))
 refine Sat.loop (ι := Nat × Sl × List Blk × List Blk × List Record) (fun p => ⟨[(0, p.2.1.v), (2, .func (.func 52) #[] #[]), (12, t.v), (13, i64 (t.n : Int)), (14, i64 (p.1 : Int))], (p.2.2.1 ++ (p.2.2.2.1 ++ []))⟩) (fun p => p.1 ≤ t.n ∧ putE (fun X : DCert => A6 2 (B6 X) (DCert.check X)) (ds.take p.1) = 0 ∧ OwnSeq Record.cells 2 RecordIs 91 p.2.1 p.2.2.1 (p.2.2.2.1 ++ o0) p.2.2.2.2 (dr ++ putD (fun X : DCert => A6 2 (B6 X) (DCert.check X)) (ds.take p.1)) (m + p.1)) (fun p => t.n - p.1) ((0, s, bl, [], rs)) ?_ ?_ ?_
 · exact ⟨Nat.zero_le _, rfl, by simpa [putD] using hq⟩
 · exact Ah (wk1 rfl (wk1 rfl (wk1 rfl (wk1 rfl (wk1 rfl wk0))))) (Ac sG (pm_none Ag))
 ·
  rintro p ⟨hp1, hp2, hp3⟩
  refine Sat.seq (Sat.region ?_)
  refine Tr.lss rfl rfl rfl rfl rfl ?_
  refine Tr.nil (Aa (Sat.seq ?_))
  first
   | refine Sat.condP rfl (fun hc0 => ?_) (fun hc0 => ?_)
   | refine Sat.condNP rfl (fun hc0 => ?_) (fun hc0 => ?_)
   | refine Sat.cond rfl (fun hc0 => ?_) (fun hc0 => ?_)
  ·
   have hk2 : p.1 < t.n := by omega
   obtain ⟨b, o, r, d, hsp, hr, hd, his, hlen, hsee⟩ := hs.at dE hk2
   have okr : r.ok := his.ok
   refine Sat.skip (Aa (Sat.seq (Sat.block (Sat.seq (Sat.region ?_)))))
   refine Tr.idxSlP 35 rfl rfl rfl hsp rfl Y23 Sz55 p.1 rfl oM ?_
   refine Tr.loadAny rfl rfl rfl (v := agg r.cells) (fun w h => by
    have := run_row (P := Tryz.prog) (w := w) hlen ((seq_sees (hW.2 w h.keeps) dE hsp hr hd).1)
    simp [loadVar, run_isAgg_arr Y55 rfl, B5 Sz55, this]) ?_
   refine Tr.alloc (cs := Cert.zero.cells) rfl Cert.zr rfl ?_
   intro n9 hn9 hf9
   refine Tr.sA rfl rfl rfl rfl (Cert.isCell (by first | exact oK  | exact hro | exact ok21 | exact okr)) Sz55 (Cert.length (by first | exact oK  | exact hro | exact ok21 | exact okr)) mM (Cert.length (by first | exact oK  | exact hro | exact ok21 | exact okr)) uU ?_
   refine Tr.nil (Aa (Sat.seq (Sat.region ?_)))
   refine Tr.m rfl rfl rfl ?_
   refine Tr.lA rfl rfl rfl Y55 rfl Sz55 mM (Cert.length (by first | exact oK  | exact hro | exact ok21 | exact okr)) ?_
   refine Tr.call4 rfl rfl rfl rfl rfl Body52 (keep_cert r d (hsz d (List.mem_of_getElem? hd))) (fun w h => (seq_sees (hW.2 w h.keeps) dE hsp hr hd).2) ?_
   rintro v21 out21 ⟨X21, ok21, rfl, k21, h21⟩
   refine Tr.m rfl rfl rfl ?_
   refine Tr.eX rfl rfl rfl rfl ?_
   refine Tr.eX rfl rfl rfl rfl ?_
   refine Tr.alloc (cs := Record.zero.cells) rfl Record.zr rfl ?_
   intro n10 hn10 hf10
   refine Tr.sA rfl rfl rfl rfl (Record.isCell (by first | exact oK  | exact hro | exact ok21 | exact okr)) Bo (Record.length (by first | exact oK  | exact hro | exact ok21 | exact okr)) mM (Record.length (by first | exact oK  | exact hro | exact ok21 | exact okr)) uU ?_
   refine Tr.a rfl rfl rfl ?_
   refine Tr.nil (Aa (Sat.seq (Sat.seq (Sat.region ?_))))
   refine Tr.m rfl rfl rfl ?_
   refine Tr.nei rfl rfl rfl rfl rfl ?_
   refine Tr.nil (Aa ?_)
   first
    | refine Sat.condP rfl (fun hc1 => ?_) (fun hc1 => ?_)
    | refine Sat.condNP rfl (fun hc1 => ?_) (fun hc1 => ?_)
    | refine Sat.cond rfl (fun hc1 => ?_) (fun hc1 => ?_)
   ·
    have he1 : ¬ ((fun X : DCert => A6 2 (B6 X) (DCert.check X)) d).2 = 0 := by omega
    refine Sat.seq (Sat.region ?_)
    refine Tr.m rfl rfl rfl ?_
    refine Tr.a rfl rfl rfl ?_
    refine Tr.a rfl rfl rfl ?_
    refine Tr.nil (Aa (Sat.ret (Ao (Bw (Ao (Ao (Bw (Ao (Am ?_)))))))))
    refine Al (out := []) (Bh rfl rfl rfl) Ag ?_
    exact ⟨Sl.nil, [], [], [], by rw [putE_fail _ _ _ _ hd hp2 he1]; rfl, rfl, fun e => absurd (by rw [putE_fail _ _ _ _ hd hp2 he1] at e; exact e) he1, fun _ => ⟨rfl, rfl, rfl⟩⟩
   ·
    have he0 : ((fun X : DCert => A6 2 (B6 X) (DCert.check X)) d).2 = 0 := by omega
    refine Sat.skip (Aa (Sat.region ?_))
    refine Tr.m rfl rfl rfl ?_
    refine Tr.lA rfl rfl rfl Y91 rfl Bo mM (Record.length (by first | exact oK  | exact hro | exact ok21 | exact okr)) ?_
    refine Tr.mkRow2 (z := agg Record.zero.cells) [agg X21.cells] X21.cells rfl rfl Y28 Bo Record.zr rfl rfl (by intro v hv; rw [List.mem_singleton.1 hv]; exact Record.length ok21) dE (by simp [Value.cells]) ?_
    intro q29
    refine Tr.appendAcc (z := agg Record.zero.cells) (by' := 32) (X21.cells) rfl rfl rfl rfl rfl Y28 Y28 Bo Record.zr (by unfold By; kernel_rfl) rfl hp3.acc sG (fun w h => SeesP.of (As h mM)) (fun e => by cases e) (Record.isCell ok21) oM oM (by rw [Record.length ok21]) ?_
    intro s30 bl30 hac30
    refine Tr.a rfl rfl rfl ?_
    refine Tr.nil (Bx (Aa (Sat.region ?_)))
    refine Tr.aI rfl rfl rfl rfl oM ?_
    refine Tr.m rfl rfl rfl ?_
    refine Tr.nil (Aa ?_)
    exact ⟨(p.1 + 1, s30, bl30, out21 ++ p.2.2.2.1, p.2.2.2.2 ++ [X21]), ⟨by simp only []; omega, putE_step _ _ _ _ hd hp2 he0, put_snoc hp3 hd hac30 ok21 h21⟩, by simp only []; omega, Ah (wk1 rfl (wk1 rfl (wk1 rfl (wk1 rfl (wk1 (by rw [Int.natCast_add]; rfl) wk0))))) (Ac sG (pm_two (Ac sG (Ac sG Ag))))⟩
  ·
   have hpe : p.1 = t.n := by omega
   refine Sat.exit (Bc (Bc (bl_h (Aa (Sat.seq (Sat.region ?_))))))
   refine Tr.m rfl rfl rfl ?_
   refine Tr.a rfl rfl rfl ?_
   refine Tr.a rfl rfl rfl ?_
   refine Tr.nil (Aa (Sat.ret (Am ?_)))
   refine Al (out := (p.2.2.1 ++ (p.2.2.2.1 ++ []))) (Bh rfl rfl rfl) (Ac sG (Ac sG Ag)) ?_
   rw [List.take_of_length_le oM] at hp2
   rw [List.take_of_length_le oM, hpe] at hp3
   exact ⟨p.2.1, p.2.2.1, p.2.2.2.1, p.2.2.2.2, by rw [hp2], rfl, fun _ => hp3, fun e => absurd hp2 e⟩

theorem kput_block (s : Sl) (bl o0 : List Blk) (rs : List Record) (dr : List DRecord) (m : Nat) (hq : OwnSeq Record.cells 2 RecordIs 91 s bl o0 rs dr m) (hm : m ≤ 100000) (t : Sl) (rt : List Block) (ds : List DB) (hsn : t.n ≤ 1000) (hsz : ∀ d ∈ ds, (Bm d).length ≤ 40000) : Meets Tryz.prog 69 [s.v, t.v, .func (.func 49) #[] #[]] (bl.map (·.n)) (fun W => Lies bl W ∧ Stay (bl.map (·.n)) W (fun W2 => SeqIs Block.cells 131 BlockIs W2 t rt ds)) (PutR (fun X : DB => A6 1 (Bm X) (DB.check X)) ds m t.n o0 dr) := by
 intro W hW
 have hs := hW.2 W (Keeps.refl _ _)
 have hnd := hs.nd
 refine A3 (hp0 := (bl ++ [])) Tryz.func69 rfl 33 Tryz.ntmps69 rfl (put_hrep hq.acc hW.1) ?_
 refine Sat.seq (Sat.region ?_)
 refine Tr.a rfl rfl rfl ?_
 refine Tr.a rfl rfl rfl ?_
 refine Tr.nil (Aa (Sat.seq (Sat.seq (Sat.region ?_))))
 refine Tr.m rfl rfl rfl ?_
 refine Tr.lenSl rfl rfl rfl Y22 ?_
 refine Tr.m rfl rfl rfl ?_
 refine Tr.nil (Aa (Sat.block ?_))
 refine Sat.loop (ι := Nat × Sl × List Blk × List Blk × List Record) (fun p => ⟨[(0, p.2.1.v), (2, .func (.func 49) #[] #[]), (12, t.v), (13, i64 (t.n : Int)), (14, i64 (p.1 : Int))], (p.2.2.1 ++ (p.2.2.2.1 ++ []))⟩) (fun p => p.1 ≤ t.n ∧ putE (fun X : DB => A6 1 (Bm X) (DB.check X)) (ds.take p.1) = 0 ∧ OwnSeq Record.cells 2 RecordIs 91 p.2.1 p.2.2.1 (p.2.2.2.1 ++ o0) p.2.2.2.2 (dr ++ putD (fun X : DB => A6 1 (Bm X) (DB.check X)) (ds.take p.1)) (m + p.1)) (fun p => t.n - p.1) ((0, s, bl, [], rs)) ?_ ?_ ?_
 · exact ⟨Nat.zero_le _, rfl, by simpa [putD] using hq⟩
 · exact Ah (wk1 rfl (wk1 rfl (wk1 rfl (wk1 rfl (wk1 rfl wk0))))) (Ac sG (pm_none Ag))
 ·
  rintro p ⟨hp1, hp2, hp3⟩
  refine Sat.seq (Sat.region ?_)
  refine Tr.lss rfl rfl rfl rfl rfl ?_
  refine Tr.nil (Aa (Sat.seq ?_))
  first
   | refine Sat.condP rfl (fun hc0 => ?_) (fun hc0 => ?_)
   | refine Sat.condNP rfl (fun hc0 => ?_) (fun hc0 => ?_)
   | refine Sat.cond rfl (fun hc0 => ?_) (fun hc0 => ?_)
  ·
   have hk2 : p.1 < t.n := by omega
   obtain ⟨b, o, r, d, hsp, hr, hd, his, hlen, hsee⟩ := hs.at dE hk2
   have okr : r.ok := his.ok
   refine Sat.skip (Aa (Sat.seq (Sat.block (Sat.seq (Sat.region ?_)))))
   refine Tr.idxSlP 131 rfl rfl rfl hsp rfl Y22 Sz79 p.1 rfl oM ?_
   refine Tr.loadAny rfl rfl rfl (v := agg r.cells) (fun w h => by
    have := run_row (P := Tryz.prog) (w := w) hlen ((seq_sees (hW.2 w h.keeps) dE hsp hr hd).1)
    simp [loadVar, run_isAgg_arr Y79 rfl, B5 Sz79, this]) ?_
   refine Tr.alloc (cs := Block.zero.cells) rfl Block.zr rfl ?_
   intro n9 hn9 hf9
   refine Tr.sA rfl rfl rfl rfl (Block.isCell (by first | exact oK  | exact hro | exact ok21 | exact okr)) Sz79 (Block.length (by first | exact oK  | exact hro | exact ok21 | exact okr)) mM (Block.length (by first | exact oK  | exact hro | exact ok21 | exact okr)) uU ?_
   refine Tr.nil (Aa (Sat.seq (Sat.region ?_)))
   refine Tr.m rfl rfl rfl ?_
   refine Tr.lA rfl rfl rfl Y79 rfl Sz79 mM (Block.length (by first | exact oK  | exact hro | exact ok21 | exact okr)) ?_
   refine Tr.call4 rfl rfl rfl rfl rfl Body49 (keep_block r d (hsz d (List.mem_of_getElem? hd))) (fun w h => (seq_sees (hW.2 w h.keeps) dE hsp hr hd).2) ?_
   rintro v21 out21 ⟨X21, ok21, rfl, k21, h21⟩
   refine Tr.m rfl rfl rfl ?_
   refine Tr.eX rfl rfl rfl rfl ?_
   refine Tr.eX rfl rfl rfl rfl ?_
   refine Tr.alloc (cs := Record.zero.cells) rfl Record.zr rfl ?_
   intro n10 hn10 hf10
   refine Tr.sA rfl rfl rfl rfl (Record.isCell (by first | exact oK  | exact hro | exact ok21 | exact okr)) Bo (Record.length (by first | exact oK  | exact hro | exact ok21 | exact okr)) mM (Record.length (by first | exact oK  | exact hro | exact ok21 | exact okr)) uU ?_
   refine Tr.a rfl rfl rfl ?_
   refine Tr.nil (Aa (Sat.seq (Sat.seq (Sat.region ?_))))
   refine Tr.m rfl rfl rfl ?_
   refine Tr.nei rfl rfl rfl rfl rfl ?_
   refine Tr.nil (Aa ?_)
   first
    | refine Sat.condP rfl (fun hc1 => ?_) (fun hc1 => ?_)
    | refine Sat.condNP rfl (fun hc1 => ?_) (fun hc1 => ?_)
    | refine Sat.cond rfl (fun hc1 => ?_) (fun hc1 => ?_)
   ·
    have he1 : ¬ ((fun X : DB => A6 1 (Bm X) (DB.check X)) d).2 = 0 := by omega
    refine Sat.seq (Sat.region ?_)
    refine Tr.m rfl rfl rfl ?_
    refine Tr.a rfl rfl rfl ?_
    refine Tr.a rfl rfl rfl ?_
    refine Tr.nil (Aa (Sat.ret (Ao (Bw (Ao (Ao (Bw (Ao (Am ?_)))))))))
    refine Al (out := []) (Bh rfl rfl rfl) Ag ?_
    exact ⟨Sl.nil, [], [], [], by rw [putE_fail _ _ _ _ hd hp2 he1]; rfl, rfl, fun e => absurd (by rw [putE_fail _ _ _ _ hd hp2 he1] at e; exact e) he1, fun _ => ⟨rfl, rfl, rfl⟩⟩
   ·
    have he0 : ((fun X : DB => A6 1 (Bm X) (DB.check X)) d).2 = 0 := by omega
    refine Sat.skip (Aa (Sat.region ?_))
    refine Tr.m rfl rfl rfl ?_
    refine Tr.lA rfl rfl rfl Y91 rfl Bo mM (Record.length (by first | exact oK  | exact hro | exact ok21 | exact okr)) ?_
    refine Tr.mkRow2 (z := agg Record.zero.cells) [agg X21.cells] X21.cells rfl rfl Y28 Bo Record.zr rfl rfl (by intro v hv; rw [List.mem_singleton.1 hv]; exact Record.length ok21) dE (by simp [Value.cells]) ?_
    intro q29
    refine Tr.appendAcc (z := agg Record.zero.cells) (by' := 32) (X21.cells) rfl rfl rfl rfl rfl Y28 Y28 Bo Record.zr (by unfold By; kernel_rfl) rfl hp3.acc sG (fun w h => SeesP.of (As h mM)) (fun e => by cases e) (Record.isCell ok21) oM oM (by rw [Record.length ok21]) ?_
    intro s30 bl30 hac30
    refine Tr.a rfl rfl rfl ?_
    refine Tr.nil (Bx (Aa (Sat.region ?_)))
    refine Tr.aI rfl rfl rfl rfl oM ?_
    refine Tr.m rfl rfl rfl ?_
    refine Tr.nil (Aa ?_)
    exact ⟨(p.1 + 1, s30, bl30, out21 ++ p.2.2.2.1, p.2.2.2.2 ++ [X21]), ⟨by simp only []; omega, putE_step _ _ _ _ hd hp2 he0, put_snoc hp3 hd hac30 ok21 h21⟩, by simp only []; omega, Ah (wk1 rfl (wk1 rfl (wk1 rfl (wk1 rfl (wk1 (by rw [Int.natCast_add]; rfl) wk0))))) (Ac sG (pm_two (Ac sG (Ac sG Ag))))⟩
  ·
   have hpe : p.1 = t.n := by omega
   refine Sat.exit (Bc (Bc (bl_h (Aa (Sat.seq (Sat.region ?_))))))
   refine Tr.m rfl rfl rfl ?_
   refine Tr.a rfl rfl rfl ?_
   refine Tr.a rfl rfl rfl ?_
   refine Tr.nil (Aa (Sat.ret (Am ?_)))
   refine Al (out := (p.2.2.1 ++ (p.2.2.2.1 ++ []))) (Bh rfl rfl rfl) (Ac sG (Ac sG Ag)) ?_
   rw [List.take_of_length_le oM] at hp2
   rw [List.take_of_length_le oM, hpe] at hp3
   exact ⟨p.2.1, p.2.2.1, p.2.2.2.1, p.2.2.2.2, by rw [hp2], rfl, fun _ => hp3, fun e => absurd hp2 e⟩

end Go.Proofs.YtdifpjmfabhpiaaGreat
end

section
namespace Go.Proofs.YtdifpjmfabhpiaaGreat
open Go Hw

theorem certBy_le {C : Cert} {D : DCert} {W : World} (h : CertIs W C D) : (B6 D).length ≤ 40000 := by
  unfold B6
  split
  · rename_i hc
    obtain ⟨h1, h2, h3⟩ := DCert.facts hc
    have hcl := cutR_le h.fCut
    obtain ⟨rs, hvs⟩ := h.fVotes
    have h4 := listB_le Av 164 dE D.dVotes (fun d hd => voteBy_le (seqv_ok hvs d hd))
    have h5 : D.dVotes.length * (164 + 9) ≤ 16 * (164 + 9) := Nat.mul_le_mul_right _ h3
    have hz := Ba (cutR D.dCut).length
    have hz2 := Ba (UInt64.ofNat D.dVotes.length).toNat
    rw [DCert.bytes, List.length_append, List.length_append, blkB_length oM, A2]
    omega
  · simp
theorem blockBy_le {D : DB} (ok : D.ok) : (Bm D).length ≤ 40000 := by
  unfold Bm
  split
  · rename_i hc
    have := D.bytes_small hc ok
    omega
  · simp
theorem stay_of {C : Cx} {hp bl : List Blk} {w : World} {F : World → Prop} (h : HRep C hp w) (hl : C.lent = []) (hk : C.kb = []) (hb : ∀ b ∈ bl, b ∈ hp) (hF : ∀ w2, HRep C [] w2 → F w2) : Stay (bl.map (·.n)) w F := fun W2 k => by
  refine hF W2 ⟨fun b h => (by cases h), List.nodup_nil, fun b h => (by cases h), ⟨k.os.trans h.keeps.os, k.tape.trans h.keeps.tape, k.output.trans h.keeps.output, Nat.le_trans h.keeps.size k.size, fun i hi hn => ?_⟩, fun b hb => (by rw [hk] at hb; cases hb), fun b h => (by cases h)⟩
  rw [k.block i (Nat.lt_of_lt_of_le hi h.keeps.size) (fun hm => ?_), h.keeps.block i hi hn]
  obtain ⟨b, hb', e⟩ := List.mem_map.1 hm
  rcases h.own b (hb b hb') with h1 | h1
  · omega
  · rw [hl] at h1; cases h1
noncomputable def stg {D : Type} (f : D → DRecord × Int) (ds : List D) (q : List DRecord × Int) : List DRecord × Int := if q.2 = 0 then (if putE f ds = 0 then (q.1 ++ putD f ds, 0) else ([], putE f ds)) else q
structure QI (q : List DRecord × Int) (e : Int) (s : Sl) (b o : List Blk) (rs : List Record) (M : Nat) : Prop where
  err : e = q.2
  own : q.2 = 0 → OwnSeq Record.cells 2 RecordIs 91 s b o rs q.1 q.1.length
  bad : ¬ q.2 = 0 → q.1 = []
  le : q.1.length ≤ M
theorem QI.then' {D : Type} {f : D → DRecord × Int} {ds : List D} {q : List DRecord × Int} {e : Int} {s s2 : Sl} {b o b2 o2 : List Blk} {rs rs2 : List Record} {M n : Nat} (h : QI q e s b o rs M) (h0 : e = 0) (hd : ds.length = n) (hn : n ≤ 1000) (hy : putE f ds = 0 → OwnSeq Record.cells 2 RecordIs 91 s2 b2 (o2 ++ o) rs2 (q.1 ++ putD f ds) (q.1.length + n)) : QI (stg f ds q) (putE f ds) s2 b2 (o2 ++ o) rs2 (M + 1000) := by
  have hz : q.2 = 0 := by rw [← h.err, h0]
  have hle := h.le
  have hl : (q.1 ++ putD f ds).length = q.1.length + n := by rw [List.length_append, putD, List.length_map, hd]
  by_cases hp : putE f ds = 0
  · have e1 : stg f ds q = (q.1 ++ putD f ds, 0) := by rw [stg, if_pos hz, if_pos hp]
    rw [e1]
    refine ⟨hp, fun _ => ?_, fun c => absurd rfl c, ?_⟩
    · dsimp only; rw [hl]; exact hy hp
    · dsimp only; rw [hl]; omega
  · have e1 : stg f ds q = ([], putE f ds) := by rw [stg, if_pos hz, if_neg hp]
    rw [e1]
    exact ⟨rfl, fun c => absurd c hp, fun _ => rfl, Nat.zero_le _⟩
theorem QI.skip' {D : Type} {f : D → DRecord × Int} {ds : List D} {q : List DRecord × Int} {e : Int} {s : Sl} {b o : List Blk} {rs : List Record} {M : Nat} (h : QI q e s b o rs M) (h0 : ¬ e = 0) : QI (stg f ds q) e s b o rs (M + 1000) := by
  have hz : ¬ q.2 = 0 := by rw [← h.err]; exact h0
  have hle := h.le
  have e1 : stg f ds q = q := by rw [stg, if_neg hz]
  rw [e1]
  exact ⟨h.err, h.own, h.bad, by omega⟩
theorem QI.first' (e : Int) : QI ([], e) e Sl.nil [] [] [] 0 := ⟨rfl, fun _ => OwnSeq.none, fun _ => rfl, Nat.le_refl _⟩
noncomputable def rsE (D : DKept) : List DRecord × Int := stg (fun X : DCert => A6 2 (B6 X) (DCert.check X)) D.dCerts ([], D.check)
noncomputable def rsB (D : DKept) : List DRecord × Int := stg (fun X : DB => A6 1 (Bm X) (DB.check X)) D.dBlocks (rsE D)
noncomputable def rsC (D : DKept) : List DRecord × Int := stg (fun X : DCut => A6 4 (cutR X) (DCut.check X)) D.dCuts (rsB D)
noncomputable def recsRd (D : DKept) : List DRecord × Int := stg (fun X : Vote => A6 3 (Av X) (A8 X)) D.dVotes (rsC D)
def RecsR (D : DKept) (v : Value) (out : List Blk) : Prop := ∃ (s : Sl) (rs : List Record), v = .tuple #[s.v, i64 (recsRd D).2] ∧ s.n = (recsRd D).1.length ∧ ∀ W2, Lies out W2 → SeqIs Record.cells 2 RecordIs W2 s rs (recsRd D).1
theorem recs_bad {D : DKept} {e : Int} {s : Sl} {b o : List Blk} {rs : List Record} {M : Nat} (h : QI (recsRd D) e s b o rs M) (h0 : ¬ e = 0) : RecsR D (.tuple #[Sl.nil.v, i64 e]) [] := by
  have hz : ¬ (recsRd D).2 = 0 := by rw [← h.err]; exact h0
  refine ⟨Sl.nil, [], by rw [h.err], by rw [h.bad hz]; rfl, fun W2 _ => ?_⟩
  rw [h.bad hz]
  exact SeqIs.none
theorem recs_ok {D : DKept} {e : Int} {s : Sl} {b o : List Blk} {rs : List Record} {M : Nat} (h : QI (recsRd D) e s b o rs M) (h0 : e = 0) (hM : M ≤ 100000) : RecsR D (.tuple #[s.v, i64 0]) (b ++ (o ++ [])) := by
  have hz : (recsRd D).2 = 0 := by rw [← h.err]; exact h0
  have ho := h.own hz
  have := h.le
  refine ⟨s, rs, by rw [hz], ho.acc.num, fun W2 hl => ho.seq (hl.sub fun b h => by simp [h]) (hl.sub fun b h => by simp [h]) oM⟩

theorem keep_records (X : Kept) (D : DKept) (h1 : X.fBlocks.n ≤ 1000) (h2 : X.fCerts.n ≤ 1000) (h3 : X.fVotes.n ≤ 1000) (h4 : X.fCuts.n ≤ 1000) : Meets Tryz.prog 11 [agg X.cells] [] (fun W => KeptIs W X D) (RecsR D) := by
 intro W hW
 obtain ⟨rsE_, hE⟩ := hW.fCerts
 obtain ⟨rsB_, hB⟩ := hW.fBlocks
 obtain ⟨rsC_, hC⟩ := hW.fCuts
 obtain ⟨rsV_, hV⟩ := hW.fVotes
 refine Ak Tryz.func11 rfl 48 Tryz.ntmps11 rfl ?_
 refine Sat.seq (Sat.region ?_)
 refine Tr.boxA rfl rfl ?_
 intro n1 hn1 hf1
 refine Tr.a rfl rfl rfl ?_
 refine Tr.a rfl rfl rfl ?_
 refine Tr.nil (Aa (Sat.seq (Sat.region ?_)))
 refine Tr.lA rfl rfl rfl Y27 rfl Sz27 mM (Kept.length (by first | exact oK  | exact hW.ok)) ?_
 refine Tr.cV rfl rfl rfl rfl Body16 (keep_check X D) (fun w h => hW.ext h rfl) ?_
 refine Tr.a rfl rfl rfl ?_
 refine Tr.nil (Aa (Sat.seq (Sat.region ?_)))
 refine Tr.a rfl rfl rfl ?_
 refine Tr.nil (Aa ?_)
 refine Sat.join (ι := Int × Sl × List Blk × List Blk × List Record) (fun p1 => ⟨[(1, ptr n1 0), (4, i64 p1.1), (5, p1.2.1.v)], (⟨n1, X.cells, 27, X.cells.length⟩ :: (p1.2.2.1 ++ (p1.2.2.2.1 ++ [])))⟩) (fun p1 => QI (rsE D) p1.1 p1.2.1 p1.2.2.1 p1.2.2.2.1 p1.2.2.2.2 1000) ?_ ?_
 ·
  refine Sat.seq (Sat.region ?_)
  refine Tr.m rfl rfl rfl ?_
  refine Tr.eqi rfl rfl rfl rfl rfl ?_
  refine Tr.nil (Aa ?_)
  first
   | refine Sat.condP rfl (fun hc0 => ?_) (fun hc0 => ?_)
   | refine Sat.condNP rfl (fun hc0 => ?_) (fun hc0 => ?_)
   | refine Sat.cond rfl (fun hc0 => ?_) (fun hc0 => ?_)
  ·
   refine Sat.region ?_
   refine Tr.m rfl rfl rfl ?_
   refine Tr.fld rfl rfl rfl Y27 rfl Sz23 dE _ rfl ?_
   refine Tr.load1 rfl rfl rfl Y23 rfl mM (by first | exact Kept.get_fCerts (by first | exact oK  | exact hW.ok) | exact vL) ?_
   refine Tr.call4 rfl rfl rfl rfl rfl Body68 (kput_cert Sl.nil [] [] [] [] 0 OwnSeq.none dE X.fCerts rsE_ D.dCerts oM (fun d hd => by obtain ⟨i, hi⟩ := List.getElem?_of_mem hd; obtain ⟨b, o, r, d', hp, hr, hd', hI, _⟩ := hE.at dE (show i < X.fCerts.n by rw [← hE.nd]; exact (List.getElem?_eq_some_iff.1 hi).1); rw [hi] at hd'; cases hd'; exact certBy_le hI)) (fun w h => ⟨fun b hb => (by cases hb), stay_of h rfl rfl (bl := []) (fun b hb => (by cases hb)) (fun w2 h2 => hE.ext h2 rfl (fun r d h3 => h3.ext h2 rfl))⟩) ?_
   rintro v14 out14 ⟨s14, b14, o14, rs14, rfl, rfl, hy14, hn14⟩
   clear hn14
   simp only [List.append_assoc, List.nil_append]
   refine Tr.m rfl rfl rfl ?_
   refine Tr.eX rfl rfl rfl rfl ?_
   refine Tr.eX rfl rfl rfl rfl ?_
   refine Tr.a rfl rfl rfl ?_
   refine Tr.a rfl rfl rfl ?_
   refine Tr.nil (Aa ?_)
   first
    | exact ⟨(putE (fun X : DCert => A6 2 (B6 X) (DCert.check X)) D.dCerts, s14, b14, o14 ++ [], rs14), (QI.first' D.check).then' hc0 hE.nd oM hy14, Ah (wk1 rfl (wk1 rfl (wk1 rfl wk0))) (Ae rM (Ac sG (pm_two (Ac sG (Ac sG Ag)))))⟩
    | exact ⟨(D.check, Sl.nil, [], [], []), (QI.first' D.check).skip' hc0, Ah (wk1 rfl (wk1 rfl (wk1 rfl wk0))) (Ae rM (Ac sG (Ac sG Ag)))⟩
  ·
   refine Sat.skip (Aa ?_)
   first
    | exact ⟨(putE (fun X : DCert => A6 2 (B6 X) (DCert.check X)) D.dCerts, s14, b14, o14 ++ [], rs14), (QI.first' D.check).then' hc0 hE.nd oM hy14, Ah (wk1 rfl (wk1 rfl (wk1 rfl wk0))) (Ae rM (Ac sG (pm_two (Ac sG (Ac sG Ag)))))⟩
    | exact ⟨(D.check, Sl.nil, [], [], []), (QI.first' D.check).skip' hc0, Ah (wk1 rfl (wk1 rfl (wk1 rfl wk0))) (Ae rM (Ac sG (Ac sG Ag)))⟩
 ·
  intro p1 hj
  have hp1 := hj
  refine Sat.join (ι := Int × Sl × List Blk × List Blk × List Record) (fun p2 => ⟨[(1, ptr n1 0), (4, i64 p2.1), (5, p2.2.1.v)], (⟨n1, X.cells, 27, X.cells.length⟩ :: (p2.2.2.1 ++ (p2.2.2.2.1 ++ [])))⟩) (fun p2 => QI (rsB D) p2.1 p2.2.1 p2.2.2.1 p2.2.2.2.1 p2.2.2.2.2 2000) ?_ ?_
  ·
   refine Sat.seq (Sat.region ?_)
   refine Tr.m rfl rfl rfl ?_
   refine Tr.eqi rfl rfl rfl rfl rfl ?_
   refine Tr.nil (Aa ?_)
   first
    | refine Sat.condP rfl (fun hc1 => ?_) (fun hc1 => ?_)
    | refine Sat.condNP rfl (fun hc1 => ?_) (fun hc1 => ?_)
    | refine Sat.cond rfl (fun hc1 => ?_) (fun hc1 => ?_)
   ·
    refine Sat.region ?_
    refine Tr.m rfl rfl rfl ?_
    refine Tr.fld rfl rfl rfl Y27 rfl Sz22 dE _ rfl ?_
    refine Tr.load1 rfl rfl rfl Y22 rfl mM (by first | exact Kept.get_fBlocks (by first | exact oK  | exact hW.ok) | exact vL) ?_
    refine Tr.callL (L := p1.2.2.1) rfl rfl rfl rfl rfl Body69 (kput_block p1.2.1 p1.2.2.1 p1.2.2.2.1 p1.2.2.2.2 (rsE D).1 (rsE D).1.length (hp1.own (by rw [← hp1.err]; exact hc1)) (by have := hp1.le; omega) X.fBlocks rsB_ D.dBlocks oM (fun d hd => by obtain ⟨i, hi⟩ := List.getElem?_of_mem hd; obtain ⟨b, o, r, d', hp, hr, hd', hI, _⟩ := hB.at dE (show i < X.fBlocks.n by rw [← hB.nd]; exact (List.getElem?_eq_some_iff.1 hi).1); rw [hi] at hd'; cases hd'; exact blockBy_le hI.dok)) sG (A4 rfl) (fun w h => ⟨Lies.of h iN, stay_of h rfl rfl iN (fun w2 h2 => hB.ext h2 rfl (fun r d h3 => h3.ext h2 rfl))⟩) ?_
    rintro v23 out23 ⟨s23, b23, o23, rs23, rfl, rfl, hy23, hn23⟩
    clear hn23
    simp only [List.append_assoc, List.nil_append]
    refine Tr.m rfl rfl rfl ?_
    refine Tr.eX rfl rfl rfl rfl ?_
    refine Tr.eX rfl rfl rfl rfl ?_
    refine Tr.a rfl rfl rfl ?_
    refine Tr.a rfl rfl rfl ?_
    refine Tr.nil (Aa ?_)
    first
     | exact ⟨(putE (fun X : DB => A6 1 (Bm X) (DB.check X)) D.dBlocks, s23, b23, o23 ++ p1.2.2.2.1, rs23), hp1.then' hc1 hB.nd oM hy23, Ah (wk1 rfl (wk1 rfl (wk1 rfl wk0))) (Ae rM (Ac sG (pm_two (Ac sG (Ac sG Ag)))))⟩
     | exact ⟨p1, hp1.skip' hc1, Ah (wk1 rfl (wk1 rfl (wk1 rfl wk0))) (Ae rM (Ac sG (Ac sG Ag)))⟩
   ·
    refine Sat.skip (Aa ?_)
    first
     | exact ⟨(putE (fun X : DB => A6 1 (Bm X) (DB.check X)) D.dBlocks, s23, b23, o23 ++ p1.2.2.2.1, rs23), hp1.then' hc1 hB.nd oM hy23, Ah (wk1 rfl (wk1 rfl (wk1 rfl wk0))) (Ae rM (Ac sG (pm_two (Ac sG (Ac sG Ag)))))⟩
     | exact ⟨p1, hp1.skip' hc1, Ah (wk1 rfl (wk1 rfl (wk1 rfl wk0))) (Ae rM (Ac sG (Ac sG Ag)))⟩
  ·
   intro p2 hj
   have hp2 := hj
   refine Sat.join (ι := Int × Sl × List Blk × List Blk × List Record) (fun p3 => ⟨[(1, ptr n1 0), (4, i64 p3.1), (5, p3.2.1.v)], (⟨n1, X.cells, 27, X.cells.length⟩ :: (p3.2.2.1 ++ (p3.2.2.2.1 ++ [])))⟩) (fun p3 => QI (rsC D) p3.1 p3.2.1 p3.2.2.1 p3.2.2.2.1 p3.2.2.2.2 3000) ?_ ?_
   ·
    refine Sat.seq (Sat.region ?_)
    refine Tr.m rfl rfl rfl ?_
    refine Tr.eqi rfl rfl rfl rfl rfl ?_
    refine Tr.nil (Aa ?_)
    first
     | refine Sat.condP rfl (fun hc2 => ?_) (fun hc2 => ?_)
     | refine Sat.condNP rfl (fun hc2 => ?_) (fun hc2 => ?_)
     | refine Sat.cond rfl (fun hc2 => ?_) (fun hc2 => ?_)
    ·
     refine Sat.region ?_
     refine Tr.m rfl rfl rfl ?_
     refine Tr.fld rfl rfl rfl Y27 rfl Sz25 dE _ rfl ?_
     refine Tr.load1 rfl rfl rfl Y25 rfl mM (by first | exact Kept.get_fCuts (by first | exact oK  | exact hW.ok) | exact vL) ?_
     refine Tr.callL (L := p2.2.2.1) rfl rfl rfl rfl rfl Body70 (kput_cut p2.2.1 p2.2.2.1 p2.2.2.2.1 p2.2.2.2.2 (rsB D).1 (rsB D).1.length (hp2.own (by rw [← hp2.err]; exact hc2)) (by have := hp2.le; omega) X.fCuts rsC_ D.dCuts oM (fun d hd => by obtain ⟨i, hi⟩ := List.getElem?_of_mem hd; obtain ⟨b, o, r, d', hp, hr, hd', hI, _⟩ := hC.at dE (show i < X.fCuts.n by rw [← hC.nd]; exact (List.getElem?_eq_some_iff.1 hi).1); rw [hi] at hd'; cases hd'; exact Nat.le_trans (cutR_le hI) dE)) sG (A4 rfl) (fun w h => ⟨Lies.of h iN, stay_of h rfl rfl iN (fun w2 h2 => hC.ext h2 rfl (fun r d h3 => h3.ext h2 rfl))⟩) ?_
     rintro v32 out32 ⟨s32, b32, o32, rs32, rfl, rfl, hy32, hn32⟩
     clear hn32
     simp only [List.append_assoc, List.nil_append]
     refine Tr.m rfl rfl rfl ?_
     refine Tr.eX rfl rfl rfl rfl ?_
     refine Tr.eX rfl rfl rfl rfl ?_
     refine Tr.a rfl rfl rfl ?_
     refine Tr.a rfl rfl rfl ?_
     refine Tr.nil (Aa ?_)
     first
      | exact ⟨(putE (fun X : DCut => A6 4 (cutR X) (DCut.check X)) D.dCuts, s32, b32, o32 ++ p2.2.2.2.1, rs32), hp2.then' hc2 hC.nd oM hy32, Ah (wk1 rfl (wk1 rfl (wk1 rfl wk0))) (Ae rM (Ac sG (pm_two (Ac sG (Ac sG Ag)))))⟩
      | exact ⟨p2, hp2.skip' hc2, Ah (wk1 rfl (wk1 rfl (wk1 rfl wk0))) (Ae rM (Ac sG (Ac sG Ag)))⟩
    ·
     refine Sat.skip (Aa ?_)
     first
      | exact ⟨(putE (fun X : DCut => A6 4 (cutR X) (DCut.check X)) D.dCuts, s32, b32, o32 ++ p2.2.2.2.1, rs32), hp2.then' hc2 hC.nd oM hy32, Ah (wk1 rfl (wk1 rfl (wk1 rfl wk0))) (Ae rM (Ac sG (pm_two (Ac sG (Ac sG Ag)))))⟩
      | exact ⟨p2, hp2.skip' hc2, Ah (wk1 rfl (wk1 rfl (wk1 rfl wk0))) (Ae rM (Ac sG (Ac sG Ag)))⟩
   ·
    intro p3 hj
    have hp3 := hj
    refine Sat.join (ι := Int × Sl × List Blk × List Blk × List Record) (fun p4 => ⟨[(1, ptr n1 0), (4, i64 p4.1), (5, p4.2.1.v)], (⟨n1, X.cells, 27, X.cells.length⟩ :: (p4.2.2.1 ++ (p4.2.2.2.1 ++ [])))⟩) (fun p4 => QI (recsRd D) p4.1 p4.2.1 p4.2.2.1 p4.2.2.2.1 p4.2.2.2.2 4000) ?_ ?_
    ·
     refine Sat.seq (Sat.region ?_)
     refine Tr.m rfl rfl rfl ?_
     refine Tr.eqi rfl rfl rfl rfl rfl ?_
     refine Tr.nil (Aa ?_)
     first
      | refine Sat.condP rfl (fun hc3 => ?_) (fun hc3 => ?_)
      | refine Sat.condNP rfl (fun hc3 => ?_) (fun hc3 => ?_)
      | refine Sat.cond rfl (fun hc3 => ?_) (fun hc3 => ?_)
     ·
      refine Sat.region ?_
      refine Tr.m rfl rfl rfl ?_
      refine Tr.fld rfl rfl rfl Y27 rfl Sz24 dE _ rfl ?_
      refine Tr.load1 rfl rfl rfl Y24 rfl mM (by first | exact Kept.get_fVotes (by first | exact oK  | exact hW.ok) | exact vL) ?_
      refine Tr.callL (L := p3.2.2.1) rfl rfl rfl rfl rfl Body71 (kput_vote p3.2.1 p3.2.2.1 p3.2.2.2.1 p3.2.2.2.2 (rsC D).1 (rsC D).1.length (hp3.own (by rw [← hp3.err]; exact hc3)) (by have := hp3.le; omega) X.fVotes rsV_ D.dVotes oM (fun d hd => Nat.le_trans (voteBy_le (seqv_ok hV d hd)) dE)) sG (A4 rfl) (fun w h => ⟨Lies.of h iN, stay_of h rfl rfl iN (fun w2 h2 => hV.ext h2 rfl (fun r d h3 => h3.ext h2 rfl))⟩) ?_
      rintro v41 out41 ⟨s41, b41, o41, rs41, rfl, rfl, hy41, hn41⟩
      clear hn41
      simp only [List.append_assoc, List.nil_append]
      refine Tr.m rfl rfl rfl ?_
      refine Tr.eX rfl rfl rfl rfl ?_
      refine Tr.eX rfl rfl rfl rfl ?_
      refine Tr.a rfl rfl rfl ?_
      refine Tr.a rfl rfl rfl ?_
      refine Tr.nil (Aa ?_)
      first
       | exact ⟨(putE (fun X : Vote => A6 3 (Av X) (A8 X)) D.dVotes, s41, b41, o41 ++ p3.2.2.2.1, rs41), hp3.then' hc3 hV.nd oM hy41, Ah (wk1 rfl (wk1 rfl (wk1 rfl wk0))) (Ae rM (Ac sG (pm_two (Ac sG (Ac sG Ag)))))⟩
       | exact ⟨p3, hp3.skip' hc3, Ah (wk1 rfl (wk1 rfl (wk1 rfl wk0))) (Ae rM (Ac sG (Ac sG Ag)))⟩
     ·
      refine Sat.skip (Aa ?_)
      first
       | exact ⟨(putE (fun X : Vote => A6 3 (Av X) (A8 X)) D.dVotes, s41, b41, o41 ++ p3.2.2.2.1, rs41), hp3.then' hc3 hV.nd oM hy41, Ah (wk1 rfl (wk1 rfl (wk1 rfl wk0))) (Ae rM (Ac sG (pm_two (Ac sG (Ac sG Ag)))))⟩
       | exact ⟨p3, hp3.skip' hc3, Ah (wk1 rfl (wk1 rfl (wk1 rfl wk0))) (Ae rM (Ac sG (Ac sG Ag)))⟩
    ·
     intro p4 hj
     have hp4 := hj
     refine Sat.seq (Sat.seq (Sat.region ?_))
     refine Tr.m rfl rfl rfl ?_
     refine Tr.nei rfl rfl rfl rfl rfl ?_
     refine Tr.nil (Aa ?_)
     first
      | refine Sat.condP rfl (fun hc4 => ?_) (fun hc4 => ?_)
      | refine Sat.condNP rfl (fun hc4 => ?_) (fun hc4 => ?_)
      | refine Sat.cond rfl (fun hc4 => ?_) (fun hc4 => ?_)
     ·
      refine Sat.seq (Sat.region ?_)
      refine Tr.m rfl rfl rfl ?_
      refine Tr.a rfl rfl rfl ?_
      refine Tr.a rfl rfl rfl ?_
      refine Tr.nil (Aa (Sat.ret (Ao (Am ?_))))
      refine Al (out := []) (Bh rfl rfl rfl) Ag ?_
      exact recs_bad hp4 hc4
     ·
      refine Sat.skip (Aa (Sat.seq (Sat.region ?_)))
      refine Tr.m rfl rfl rfl ?_
      refine Tr.a rfl rfl rfl ?_
      refine Tr.a rfl rfl rfl ?_
      refine Tr.nil (Aa (Sat.ret (Am ?_)))
      refine Al (out := (p4.2.2.1 ++ (p4.2.2.2.1 ++ []))) (Bh rfl rfl rfl) (Ac sG (Ac sG Ag)) ?_
      exact recs_ok hp4 oM dE

end Go.Proofs.YtdifpjmfabhpiaaGreat
end

section
namespace Go.Proofs.YtdifpjmfabhpiaaGreat
open Go Hw

def DKept.light (D : DKept) (n : Int) : Bool := lightOf lightBf D.dBlocks n && (lightOf lightEf D.dCerts n && (decide ((D.dVotes.length : Int) ≤ n) && lightOf lightCf D.dCuts n))
structure LightK (D : DKept) : Prop where
  nB : D.dBlocks.length ≤ 12
  nE : D.dCerts.length ≤ 12
  nV : D.dVotes.length ≤ 12
  nC : D.dCuts.length ≤ 12
  blocks : ∀ d ∈ D.dBlocks, d.ls.length ≤ 500000 ∧ d.ds.length ≤ 500000
  cuts : ∀ d ∈ D.dCuts, d.dHeads.length ≤ 500000
  certs : ∀ d ∈ D.dCerts, d.dCut.dHeads.length ≤ 500000 ∧ d.dVotes.length ≤ 500000
theorem lightk_small {D : DKept} (h : D.light 12 = true) : LightK D := by
  simp only [DKept.light, lightOf, lightBf, lightCf, lightEf, Bool.and_eq_true, decide_eq_true_eq, Bool.not_eq_true', decide_eq_false_iff_not, List.all_eq_true] at h
  obtain ⟨⟨h3, h4⟩, ⟨h8, h9⟩, h5, ⟨h6, h7⟩⟩ := h
  exact ⟨by omega, by omega, by omega, by omega, fun d hd => by have := h4 d hd; omega, fun d hd => by have := h7 d hd; omega, fun d hd => by have := h9 d hd; omega⟩
theorem no_lie0 {n : Nat} {v : Value} {T : TypeId} {W : World} (h : Lies [⟨n, [v], T, 0⟩] W) : False := by
  obtain ⟨full, fr, hb⟩ := h _ (List.mem_singleton.2 rfl)
  have h1 := hb.pre.length_le
  have h2 := hb.size
  simp at h1
  simp only at h2
  omega
theorem flat_len0 {R : Type} {cells : R → List Value} {k : Nat} : ∀ (rs : List R), (∀ r ∈ rs, (cells r).length = k) → (rs.map cells).flatten.length = rs.length * k
  | [], _ => by simp
  | r :: l, h => by
    rw [List.map_cons, List.flatten_cons, List.length_append, flat_len0 l (fun x hx => h x (List.mem_cons_of_mem _ hx)), h r List.mem_cons_self, List.length_cons, Nat.add_mul, Nat.one_mul, Nat.add_comm]
theorem ownseq_loose {R D : Type} {cells : R → List Value} {k : Nat} {Is : World → R → D → Prop} {E : TypeId} (r0 : R) (hr : (cells r0).length = k) {ds : List D} {n : Nat} (hd : ds.length = n) : Loose (fun v out => ∃ (sl : Sl) (bl bl2 : List Blk) (rs : List R), v = sl.v ∧ out = bl ++ bl2 ∧ OwnSeq cells k Is E sl bl bl2 rs ds n) := fun l hl => by
  obtain ⟨q, _, hq⟩ := fresh_is 0 l
  obtain ⟨q2, h2, hq2⟩ := fresh_is (q + 1) l
  refine ⟨_, _, ⟨⟨some ⟨q, 0, none⟩, n, n⟩, [⟨q, ((List.replicate n r0).map cells).flatten, E, n * k⟩], [⟨q2, [undef], 0, 0⟩], List.replicate n r0, rfl, rfl, Acc.some (Nat.le_refl _) ?_, by simp, hd, fun r h => by rw [(List.mem_replicate.1 h).2]; exact hr, fun W2 h => (no_lie0 h).elim⟩, ?_⟩
  · rw [flat_len0 (k := k) _ (fun r h => by rw [(List.mem_replicate.1 h).2]; exact hr), List.length_replicate]
  · rw [List.map_append, List.nodup_append]
    refine ⟨by simp; omega, hl, fun i hi j hj => ?_⟩
    obtain ⟨b, hb, rfl⟩ := List.mem_map.1 hj
    simp at hi
    rcases hi with rfl | rfl
    · exact fun e => hq b hb e.symm
    · exact fun e => hq2 b hb e.symm
def OwnedKept (D : DKept) (v : Value) (out : List Blk) : Prop := ∃ X : Kept, X.ok ∧ v = agg X.cells ∧ ∀ W2, Lies out W2 → KeptIs W2 X D
theorem kept_lens {W : World} {X : Kept} {D : DKept} (h : KeptIs W X D) : D.dBlocks.length = X.fBlocks.n ∧ D.dCerts.length = X.fCerts.n ∧ D.dVotes.length = X.fVotes.n ∧ D.dCuts.length = X.fCuts.n := by
  obtain ⟨_, h1⟩ := h.fBlocks
  obtain ⟨_, h2⟩ := h.fCerts
  obtain ⟨_, h3⟩ := h.fVotes
  obtain ⟨_, h4⟩ := h.fCuts
  exact ⟨h1.nd, h2.nd, h3.nd, h4.nd⟩

theorem light_kept (X : Kept) (D : DKept) (n : Int) : Meets Tryz.prog 9 [agg X.cells, i64 n] [] (fun W => KeptIs W X D) (fun v out => v = .bool (D.light n) ∧ out = []) := by
 intro W hW
 have hok := hW.ok
 obtain ⟨l1, l2, l3, l4⟩ := kept_lens hW
 refine Ak Tryz.func9 rfl 28 Tryz.ntmps9 rfl ?_
 refine Sat.seq (Sat.region ?_)
 refine Tr.boxA rfl rfl ?_
 intro n2 hn2 hf2
 refine Tr.a rfl rfl rfl ?_
 refine Tr.nil (Aa (Sat.seq (Sat.region ?_)))
 refine Tr.fld rfl rfl rfl Y27 rfl Sz22 dE _ rfl ?_
 refine Tr.load1 rfl rfl rfl Y22 rfl mM (by first | exact Kept.get_fBlocks (by first | exact oK  | exact hok) | exact vL) ?_
 refine Tr.m rfl rfl rfl ?_
 refine Tr.callB rfl rfl rfl rfl Body36 (lightd_blocks X.fBlocks D.dBlocks n) (fun w h => Blocks_ext h rfl hW.fBlocks) (fun hs1_30 => ?_) (fun hs1_30 => ?_)
 ·
  first | have hs1_3 := of_decide_eq_true hs1_30 | have hs1_3 := of_decide_eq_false hs1_30 | have hs1_3 := Bs hs1_30 | have hs1_3 := Bt hs1_30 | have hs1_3 := hs1_30
  refine Tr.m rfl rfl rfl ?_
  refine Tr.fld rfl rfl rfl Y27 rfl Sz23 dE _ rfl ?_
  refine Tr.load1 rfl rfl rfl Y23 rfl mM (by first | exact Kept.get_fCerts (by first | exact oK  | exact hok) | exact vL) ?_
  refine Tr.m rfl rfl rfl ?_
  refine Tr.callB rfl rfl rfl rfl Body24 (lightd_certs X.fCerts D.dCerts n) (fun w h => Certs_ext h rfl hW.fCerts) (fun hs1_80 => ?_) (fun hs1_80 => ?_)
  ·
   first | have hs1_8 := of_decide_eq_true hs1_80 | have hs1_8 := of_decide_eq_false hs1_80 | have hs1_8 := Bs hs1_80 | have hs1_8 := Bt hs1_80 | have hs1_8 := hs1_80
   refine Tr.pick rfl rfl rfl rfl rfl rfl ?_
   refine Tr.m rfl rfl rfl ?_
   refine Tr.fld rfl rfl rfl Y27 rfl Sz24 dE _ rfl ?_
   refine Tr.load1 rfl rfl rfl Y24 rfl mM (by first | exact Kept.get_fVotes (by first | exact oK  | exact hok) | exact vL) ?_
   refine Tr.lenSl rfl rfl rfl Y24 ?_
   refine Tr.m rfl rfl rfl ?_
   refine two (fun r hr k => Tr.leq rfl rfl rfl rfl hr k) (fun hs1_150 => ?_) (fun hs1_150 => ?_)
   ·
    first | have hs1_15 := of_decide_eq_true hs1_150 | have hs1_15 := of_decide_eq_false hs1_150 | have hs1_15 := Bs hs1_150 | have hs1_15 := Bt hs1_150 | have hs1_15 := hs1_150
    refine Tr.pick rfl rfl rfl rfl rfl rfl ?_
    refine Tr.m rfl rfl rfl ?_
    refine Tr.fld rfl rfl rfl Y27 rfl Sz25 dE _ rfl ?_
    refine Tr.load1 rfl rfl rfl Y25 rfl mM (by first | exact Kept.get_fCuts (by first | exact oK  | exact hok) | exact vL) ?_
    refine Tr.m rfl rfl rfl ?_
    refine Tr.cV rfl rfl rfl rfl Body48 (lightd_cuts X.fCuts D.dCuts n) (fun w h => Cuts_ext h rfl hW.fCuts) ?_
    refine Tr.pick rfl rfl rfl rfl rfl rfl ?_
    refine Tr.a rfl rfl rfl ?_
    refine Tr.nil (Aa (Sat.ret (Am ?_)))
    refine ⟨_, [], Ad rfl rfl, sP, sP, ?_, rfl⟩
    refine congrArg Value.bool ?_
    simp only [DKept.light, ← l3]
    first
     | (simp [*]; done)
     | (simp_all; done)
   ·
    first | have hs1_15 := of_decide_eq_true hs1_150 | have hs1_15 := of_decide_eq_false hs1_150 | have hs1_15 := Bs hs1_150 | have hs1_15 := Bt hs1_150 | have hs1_15 := hs1_150
    refine Tr.pick rfl rfl rfl rfl rfl rfl ?_
    refine Tr.m rfl rfl rfl ?_
    refine Tr.skp rfl rfl ?_
    refine Tr.skp rfl rfl ?_
    refine Tr.skp rfl rfl ?_
    refine Tr.skp rfl rfl ?_
    refine Tr.pick rfl rfl rfl rfl rfl rfl ?_
    refine Tr.a rfl rfl rfl ?_
    refine Tr.nil (Aa (Sat.ret (Am ?_)))
    refine ⟨_, [], Ad rfl rfl, sP, sP, ?_, rfl⟩
    refine congrArg Value.bool ?_
    simp only [DKept.light, ← l3]
    first
     | (simp [*]; done)
     | (simp_all; done)
  ·
   first | have hs1_8 := of_decide_eq_true hs1_80 | have hs1_8 := of_decide_eq_false hs1_80 | have hs1_8 := Bs hs1_80 | have hs1_8 := Bt hs1_80 | have hs1_8 := hs1_80
   refine Tr.pick rfl rfl rfl rfl rfl rfl ?_
   refine Tr.m rfl rfl rfl ?_
   refine Tr.skp rfl rfl ?_
   refine Tr.skp rfl rfl ?_
   refine Tr.skp rfl rfl ?_
   refine Tr.skp rfl rfl ?_
   refine Tr.skp rfl rfl ?_
   refine Tr.pick rfl rfl rfl rfl rfl rfl ?_
   refine Tr.m rfl rfl rfl ?_
   refine Tr.skp rfl rfl ?_
   refine Tr.skp rfl rfl ?_
   refine Tr.skp rfl rfl ?_
   refine Tr.skp rfl rfl ?_
   refine Tr.pick rfl rfl rfl rfl rfl rfl ?_
   refine Tr.a rfl rfl rfl ?_
   refine Tr.nil (Aa (Sat.ret (Am ?_)))
   refine ⟨_, [], Ad rfl rfl, sP, sP, ?_, rfl⟩
   refine congrArg Value.bool ?_
   simp only [DKept.light, ← l3]
   first
    | (simp [*]; done)
    | (simp_all; done)
 ·
  first | have hs1_3 := of_decide_eq_true hs1_30 | have hs1_3 := of_decide_eq_false hs1_30 | have hs1_3 := Bs hs1_30 | have hs1_3 := Bt hs1_30 | have hs1_3 := hs1_30
  refine Tr.m rfl rfl rfl ?_
  refine Tr.skp rfl rfl ?_
  refine Tr.skp rfl rfl ?_
  refine Tr.skp rfl rfl ?_
  refine Tr.skp rfl rfl ?_
  refine Tr.pick rfl rfl rfl rfl rfl rfl ?_
  refine Tr.m rfl rfl rfl ?_
  refine Tr.skp rfl rfl ?_
  refine Tr.skp rfl rfl ?_
  refine Tr.skp rfl rfl ?_
  refine Tr.skp rfl rfl ?_
  refine Tr.skp rfl rfl ?_
  refine Tr.pick rfl rfl rfl rfl rfl rfl ?_
  refine Tr.m rfl rfl rfl ?_
  refine Tr.skp rfl rfl ?_
  refine Tr.skp rfl rfl ?_
  refine Tr.skp rfl rfl ?_
  refine Tr.skp rfl rfl ?_
  refine Tr.pick rfl rfl rfl rfl rfl rfl ?_
  refine Tr.a rfl rfl rfl ?_
  refine Tr.nil (Aa (Sat.ret (Am ?_)))
  refine ⟨_, [], Ad rfl rfl, sP, sP, ?_, rfl⟩
  refine congrArg Value.bool ?_
  simp only [DKept.light, ← l3]
  first
   | (simp [*]; done)
   | (simp_all; done)

theorem kit_own_kept (X : Kept) (D : DKept) (hl : D.light 12 = true) : Meets Tryz.prog 12 [agg X.cells] [] (fun W => KeptIs W X D) (OwnedKept D) := by
 intro W hW
 obtain ⟨vs, hvs⟩ := hW.fVotes
 have hok := hW.ok
 obtain ⟨l1, l2, l3, l4⟩ := kept_lens hW
 have hsm := lightk_small hl
 have f1 := hsm.nB
 have f2 := hsm.nE
 have f3 := hsm.nV
 have f4 := hsm.nC
 clear hl
 refine Ak Tryz.func12 rfl 17 Tryz.ntmps12 rfl ?_
 refine Sat.seq (Sat.region ?_)
 refine Tr.boxA rfl rfl ?_
 intro n1 hn1 hf1
 refine Tr.alloc (cs := Kept.zero.cells) rfl Kept.zr rfl ?_
 intro n2 hn2 hf2
 refine Tr.nil (Aa (Sat.seq ?_))
 refine Sat.withK (sp_v (sp_k sp_n)) rfl ?_
 refine Sat.draw [(0, 0), (0, 1), (0, 3), (0, 4), (0, 7), (0, 8), (0, 10), (0, 11), (3, 2), (3, 5), (2, 6), (4, 9), (4, 12), (0, 13), (4, 14)] Bv zK ?_
 refine Tr.fld rfl rfl rfl Y27 rfl Sz22 dE _ rfl ?_
 refine Tr.kload1 rfl rfl rfl Y22 rfl mM (by first | exact Kept.get_fBlocks (by first | exact oK  | exact hW.ok | exact ⟨trivial⟩) | exact vL) ?_
 refine Tr.fld rfl rfl rfl Y27 rfl Sz23 dE _ rfl ?_
 refine Tr.kload1 rfl rfl rfl Y23 rfl mM (by first | exact Kept.get_fCerts (by first | exact oK  | exact hW.ok | exact ⟨trivial⟩) | exact vL) ?_
 refine Tr.fld rfl rfl rfl Y27 rfl Sz24 dE _ rfl ?_
 refine Tr.kload1 rfl rfl rfl Y24 rfl mM (by first | exact Kept.get_fVotes (by first | exact oK  | exact hW.ok | exact ⟨trivial⟩) | exact vL) ?_
 refine Tr.fld rfl rfl rfl Y27 rfl Sz25 dE _ rfl ?_
 refine Tr.kload1 rfl rfl rfl Y25 rfl mM (by first | exact Kept.get_fCuts (by first | exact oK  | exact hW.ok | exact ⟨trivial⟩) | exact vL) ?_
 refine Tr.call rfl rfl rfl rfl Body72 (kit_own_blocks X.fBlocks D.dBlocks oM hsm.blocks) (ownseq_loose Block.zero rfl l1) (fun w h => Blocks_ext h rfl hW.fBlocks) ?_
 rintro v5 out5 ⟨sB, bB, bB2, rB, rfl, rfl, hoB⟩
 simp only [List.append_assoc, List.cons_append, List.nil_append]
 refine Tr.call rfl rfl rfl rfl Body39 (kit_own_certs X.fCerts D.dCerts oM hsm.certs) (ownseq_loose Cert.zero rfl l2) (fun w h => Certs_ext h rfl hW.fCerts) ?_
 rintro v8 out8 ⟨sE, bE, bE2, rE, rfl, rfl, hoE⟩
 simp only [List.append_assoc, List.cons_append, List.nil_append]
 refine Tr.mkRow2 (z := agg Vote.zero.cells) [] [] rfl rfl Y24 Sz81 Vote.zr rfl rfl (by intro v hv; cases hv) dE rfl ?_
 intro q9
 refine Tr.appendSl (z := agg Vote.zero.cells) (by' := 160) ((vs.map Vote.cells).flatten) rfl rfl rfl rfl rfl Y24 Y24 Sz81 Zr81 (by unfold By; kernel_rfl) rfl (fun w h => Az h rfl hvs.see) (fun e => by have := hvs.nil e; have := hvs.cap; omega) (votes_cell (seq_votes hvs)) rM rfl rfl oM oM oM hvs.flat ?_
 intro q12 c12 hq12
 rw [Nat.zero_add X.fVotes.n]
 refine Tr.call4 rfl rfl rfl rfl rfl Body38 (kit_own_cuts X.fCuts D.dCuts oM hsm.cuts) (fun w h => Cuts_ext h rfl hW.fCuts) ?_
 rintro v15 out15 ⟨sC, bC, bC2, rC, rfl, rfl, hoC⟩
 simp only [List.append_assoc, List.cons_append, List.nil_append]
 refine Tr.build (cs := (⟨sB, sE, ⟨some ⟨q12, 0, none⟩, X.fVotes.n, c12⟩, sC⟩ : Kept).cells) rfl rfl rfl (fun w => by kernel_rfl) ?_
 refine Tr.sA rfl rfl rfl rfl (Kept.isCell (by first | exact oK  | exact hW.ok | exact ⟨trivial⟩)) Sz27 (Kept.length (by first | exact oK  | exact hW.ok | exact ⟨trivial⟩)) mM (Kept.length (by first | exact oK  | exact hW.ok | exact ⟨trivial⟩)) uU ?_
 refine Tr.nil (Aa (Sat.ret (Am ?_)))
 simp only [List.cons_append, List.nil_append, List.append_nil, List.append_assoc]
 refine Al (out := (bB ++ (bB2 ++ (bE ++ (bE2 ++ (⟨q12, (vs.map Vote.cells).flatten, 81, c12 * 132⟩ :: (bC ++ (bC2 ++ [])))))))) (res_cell rfl rfl Y27 rfl Sz27 mM (by first | (simp; done) | exact Kept.length (by first | exact oK  | exact hW.ok | exact ⟨trivial⟩))) (Ac sG (Ac sG (Ac sG (Ac sG (Ae rM (Ac sG (Ac sG Ag))))))) ?_
 refine ⟨(⟨sB, sE, ⟨some ⟨q12, 0, none⟩, X.fVotes.n, c12⟩, sC⟩ : Kept), ⟨trivial⟩, rfl, fun W2 hl => ⟨⟨trivial⟩, ⟨_, hoB.seq (hl.sub iN) (hl.sub iN) oM⟩, ⟨_, hoE.seq (hl.sub iN) (hl.sub iN) oM⟩, ⟨vs, ?_⟩, ⟨_, hoC.seq (hl.sub iN) (hl.sub iN) oM⟩⟩⟩
 exact acc_seq (Acc.some (E := 81) (show X.fVotes.n ≤ c12 by omega) hvs.flat) (hl.sub (by intro b hb; rw [List.mem_singleton.1 hb]; repeat (first | exact List.mem_cons_self | refine List.mem_cons_of_mem _ ?_ | refine mem_seg ?_))) hvs.nr hvs.nd hvs.len oM fun i r d hr hd => (by
  have := hvs.is i r d hr hd
  exact ⟨this.ok, this.eq, this.wf⟩)

end Go.Proofs.YtdifpjmfabhpiaaGreat
end

section
namespace Go.Proofs.YtdifpjmfabhpiaaGreat
open Go Hw

def AccR (xs : List Value) (E : TypeId) (n size : Nat) (v : Value) (out : List Blk) : Prop := ∃ s : Sl, v = s.v ∧ Hw.Acc s out xs E n size
theorem AccR.loose {xs : List Value} {E : TypeId} {n size : Nat} (h : xs.length = n * size) : Loose (AccR xs E n size) := fun l hl => by
  obtain ⟨q, _, hq⟩ := fresh_is 0 l
  refine ⟨_, [⟨q, xs, E, n * size⟩], ⟨⟨some ⟨q, 0, none⟩, n, n⟩, rfl, Acc.some (Nat.le_refl _) h⟩, ?_⟩
  rw [List.map_append, List.nodup_append]
  refine ⟨by simp, hl, fun i hi j hj => ?_⟩
  obtain ⟨b, hb, rfl⟩ := List.mem_map.1 hj
  simp at hi
  subst hi
  exact fun e => hq b hb e.symm

def CutOwn (D : DCut) (v : Value) (out : List Blk) : Prop := ∃ C : Cut, C.ok ∧ v = agg C.cells ∧ ∀ W2, Lies out W2 → CutIs W2 C D
def BlockOwn (D : DB) (v : Value) (out : List Blk) : Prop := ∃ B : Block, B.ok ∧ v = agg B.cells ∧ ∀ W2, Lies out W2 → BlockIs W2 B D

end Go.Proofs.YtdifpjmfabhpiaaGreat
end

section
namespace Go.Proofs.YtdifpjmfabhpiaaGreat
open Go Hw

structure MidK (D : DKept) : Prop where
  blocks : ∀ d ∈ D.dBlocks, d.ls.length ≤ 90000 ∧ d.ds.length ≤ 90000
  certs : ∀ d ∈ D.dCerts, d.dCut.dHeads.length ≤ 90000 ∧ d.dVotes.length ≤ 90000
  cuts : ∀ d ∈ D.dCuts, d.dHeads.length ≤ 90000
theorem BlockOwn.loose (D : DB) : Loose (BlockOwn D) := fun l hl => by
  obtain ⟨n, _, hn⟩ := fresh_is 0 l
  exact ⟨agg Block.zero.cells, [⟨n, [undef], 0, 0⟩], ⟨Block.zero, Block.zero_ok, rfl, fun W2 h => (no_lie0 h).elim⟩, by
    rw [List.map_append, List.nodup_append]
    refine ⟨by simp, hl, fun i hi j hj => ?_⟩
    obtain ⟨b, hb, rfl⟩ := List.mem_map.1 hj
    simp at hi
    subst hi
    exact fun e => hn b hb e.symm⟩
theorem CutOwn.loose (D : DCut) : Loose (CutOwn D) := fun l hl => by
  obtain ⟨n, _, hn⟩ := fresh_is 0 l
  exact ⟨agg Cut.zero.cells, [⟨n, [undef], 0, 0⟩], ⟨Cut.zero, Cut.zero_ok, rfl, fun W2 h => (no_lie0 h).elim⟩, by
    rw [List.map_append, List.nodup_append]
    refine ⟨by simp, hl, fun i hi j hj => ?_⟩
    obtain ⟨b, hb, rfl⟩ := List.mem_map.1 hj
    simp at hi
    subst hi
    exact fun e => hn b hb e.symm⟩
end Go.Proofs.YtdifpjmfabhpiaaGreat
end

section
namespace Go.Proofs.YtdifpjmfabhpiaaGreat
open Go Hw

def SaidR (ds : List Vote) (v : Value) (out : List Blk) : Prop := ∃ (s : Sl) (rs : List Vote), v = s.v ∧ OwnSeq Vote.cells 132 VoteIs 81 s out [] rs ds ds.length
theorem SaidR.loose {ds : List Vote} (h : ∀ d ∈ ds, d.ok ∧ (Lit.int .i64 d.fPhase).wf = true) : Loose (SaidR ds) := fun l hl => by
  obtain ⟨q, _, hq⟩ := fresh_is 0 l
  refine ⟨_, [⟨q, (ds.map Vote.cells).flatten, 81, ds.length * 132⟩], ⟨⟨some ⟨q, 0, none⟩, ds.length, ds.length⟩, ds, rfl, Acc.some (Nat.le_refl _) (flat_len0 ds fun r hr => Vote.length (h r hr).1), rfl, rfl, fun r hr => Vote.length (h r hr).1, fun W2 _ i r d h1 h2 => ?_⟩, ?_⟩
  · rw [h1] at h2; cases h2
    have := h r (List.mem_of_getElem? h1)
    exact ⟨this.1, rfl, this.2⟩
  · rw [List.map_append, List.nodup_append]
    refine ⟨by simp, hl, fun i hi j hj => ?_⟩
    obtain ⟨b, hb, rfl⟩ := List.mem_map.1 hj
    simp at hi
    subst hi
    exact fun e => hq b hb e.symm
def recSz (d : DRecord) : Nat := if d.check = 0 then 9 + szN d.dData.length + d.dData.length else 0
def recsSz (ds : List DRecord) : Nat := (ds.map recSz).sum
theorem recSz_le {d : DRecord} (h : d.dData.length ≤ 100000) : recSz d ≤ 100020 := by
  unfold recSz
  have := Ba d.dData.length
  split <;> omega
theorem recsSz_step {ds : List DRecord} {k : Nat} {d : DRecord} (h : ds[k]? = some d) : recsSz (ds.take (k + 1)) = recsSz (ds.take k) + recSz d := by
  rw [recsSz, take_snoc h, List.map_append, List.sum_append]; simp [recsSz]
theorem recsSz_le : ∀ (ds : List DRecord), (∀ d ∈ ds, d.dData.length ≤ 100000) → recsSz ds ≤ ds.length * 100020
  | [], _ => by simp [recsSz]
  | d :: l, h => by
    have h1 := recsSz_le l (fun x hx => h x (List.mem_cons_of_mem _ hx))
    have h2 := recSz_le (h d List.mem_cons_self)
    have e : recsSz (d :: l) = recSz d + recsSz l := by simp [recsSz]
    rw [e, List.length_cons, Nat.add_mul]; omega

theorem record_size (X : Record) (d : DRecord) (hsm : d.dData.length ≤ 100000) : Meets Tryz.prog 88 [agg X.cells] [] (fun W => RecordIs W X d) (fun v out => v = i64 (recSz d : Int) ∧ out = []) := by
 intro W hW
 have hlen := hW.fData.len
 have hz10 := Ba (UInt64.ofNat X.fData.n).toNat
 have ho10 := Bi (n := X.fData.n) oM
 refine Ak Tryz.func88 rfl 18 Tryz.ntmps88 rfl ?_
 refine Sat.seq (Sat.region ?_)
 refine Tr.boxA rfl rfl ?_
 intro n1 hn1 hf1
 refine Tr.a rfl rfl rfl ?_
 refine Tr.nil (Aa (Sat.seq (Sat.seq (Sat.region ?_))))
 refine Tr.lA rfl rfl rfl Y91 rfl Bo mM (Record.length (by first | exact oK  | exact hW.ok)) ?_
 refine Tr.cV rfl rfl rfl rfl Body185 (record_check X d) (fun w h => hW.ext h rfl) ?_
 refine Tr.nei rfl rfl rfl rfl rfl ?_
 refine Tr.nil (Aa ?_)
 first
  | refine Sat.condP rfl (fun hc0 => ?_) (fun hc0 => ?_)
  | refine Sat.condNP rfl (fun hc0 => ?_) (fun hc0 => ?_)
  | refine Sat.cond rfl (fun hc0 => ?_) (fun hc0 => ?_)
 ·
  have hcz : ¬ d.check = 0 := by omega
  refine Sat.seq (Sat.region ?_)
  refine Tr.a rfl rfl rfl ?_
  refine Tr.nil (Aa (Sat.ret (Ao (Am ?_))))
  refine ⟨_, [], Ad rfl rfl, sP, sP, ?_, rfl⟩
  first
   | (rw [recSz, if_neg hcz]; rfl)
   | (rw [recSz, if_pos hcz]; simp only [Bi (n := X.fData.n) oM, hlen]; congr 1; omega)
 ·
  have hcz : d.check = 0 := by omega
  refine Sat.skip (Aa (Sat.seq ?_))
  refine Sat.draw [(0, 0), (1, 1), (0, 2), (0, 3), (0, 7), (1, 8), (0, 9), (3, 4), (0, 5), (0, 6), (0, 10), (0, 11), (0, 12)] Bv zK ?_
  refine Tr.fld rfl rfl rfl Y91 rfl Sz58 dE _ rfl ?_
  refine Tr.load1 rfl rfl rfl Y58 rfl mM (by first | exact Record.get_fData (by first | exact oK  | exact hW.ok) | exact vL) ?_
  refine Tr.lenSl rfl rfl rfl Y58 ?_
  refine Tr.conv rfl rfl rfl Y3 Y48 (Bq _) ?_
  refine Tr.fld rfl rfl rfl Y91 rfl Sz58 dE _ rfl ?_
  refine Tr.load1 rfl rfl rfl Y58 rfl mM (by first | exact Record.get_fData (by first | exact oK  | exact hW.ok) | exact vL) ?_
  refine Tr.lenSl rfl rfl rfl Y58 ?_
  rw [word_nat (n := X.fData.n) oM]
  refine Tr.call rfl rfl rfl rfl Body106 (oct_Number none 0 0 [] (UInt64.ofNat X.fData.n) rfl (fun _ => rfl) oM) (FreshRow.loose _ _ _ _) (fun w h => SeesP.nil) ?_
  rintro v10 out10 ⟨q10, c10, rfl, hc10, rfl⟩
  refine Tr.lenSl rfl rfl rfl Y58 ?_
  refine Tr.aI rfl rfl rfl rfl oM ?_
  refine Tr.aI rfl rfl rfl rfl oM ?_
  refine Tr.aI rfl rfl rfl rfl oM ?_
  refine Tr.a rfl rfl rfl ?_
  refine Tr.nil (Aa (Sat.ret (Am ?_)))
  refine ⟨_, [], Ad rfl rfl, sP, sP, ?_, rfl⟩
  first
   | (rw [recSz, if_neg hcz]; rfl)
   | (rw [recSz, if_pos hcz]; simp only [Bi (n := X.fData.n) oM, hlen]; congr 1; omega)

theorem keep_size (s : Sl) (ds : List DRecord) (hsn : s.n ≤ 1000) (hsm : ∀ d ∈ ds, d.dData.length ≤ 100000) : Meets Tryz.prog 18 [s.v] [] (fun W => RecordsAt W s ds) (fun v out => v = i64 (recsSz ds : Int) ∧ out = []) := by
 intro W hW
 obtain ⟨rs, hs⟩ := hW
 have hnd := hs.nd
 have hle := fun k => recsSz_le (ds.take k) (fun d hd => hsm d (List.mem_of_mem_take hd))
 have hlt : ∀ k, (ds.take k).length ≤ 1000 := fun k => by rw [List.length_take]; omega
 refine Ak Tryz.func18 rfl 18 Tryz.ntmps18 rfl ?_
 refine Sat.seq (Sat.region ?_)
 refine Tr.a rfl rfl rfl ?_
 refine Tr.nil (Aa (Sat.seq (Sat.region ?_)))
 refine Tr.a rfl rfl rfl ?_
 refine Tr.nil (Aa (Sat.seq (Sat.seq (Sat.region ?_))))
 refine Tr.m rfl rfl rfl ?_
 refine Tr.lenSl rfl rfl rfl Y28 ?_
 refine Tr.m rfl rfl rfl ?_
 refine Tr.nil (Aa (Sat.block ?_))
 refine Sat.loop (ι := Nat) (fun k => ⟨[(3, i64 (recsSz (ds.take k) : Int)), (6, s.v), (7, i64 (s.n : Int)), (8, i64 (k : Int))], []⟩) (fun k => k ≤ s.n) (fun k => s.n - k) (0) ?_ ?_ ?_
 · exact Nat.zero_le _
 · exact Ap (wk1 rfl (wk1 rfl (wk1 rfl (wk1 rfl wk0)))) wh0 nD
 ·
  rintro k hi
  refine Sat.seq (Sat.region ?_)
  refine Tr.lss rfl rfl rfl rfl rfl ?_
  refine Tr.nil (Aa (Sat.seq ?_))
  first
   | refine Sat.condP rfl (fun hc0 => ?_) (fun hc0 => ?_)
   | refine Sat.condNP rfl (fun hc0 => ?_) (fun hc0 => ?_)
   | refine Sat.cond rfl (fun hc0 => ?_) (fun hc0 => ?_)
  ·
   have hk2 : k < s.n := by omega
   obtain ⟨b, o, r, d, hsp, hr, hd, his, hlen, hsee⟩ := hs.at dE hk2
   refine Sat.skip (Aa (Sat.seq (Sat.block (Sat.seq (Sat.region ?_)))))
   refine Tr.idxSlP 2 rfl rfl rfl hsp rfl Y28 Bo k rfl oM ?_
   refine Tr.loadEN r.cells rfl rfl rfl Y91 rfl Bo sP hlen hsee ?_
   refine Tr.alloc (cs := Record.zero.cells) rfl Record.zr rfl ?_
   intro n5 hn5 hf5
   refine Tr.sA rfl rfl rfl rfl (Record.isCell (by first | exact oK  | exact his.ok)) Bo (Record.length (by first | exact oK  | exact his.ok)) mM (Record.length (by first | exact oK  | exact his.ok)) uU ?_
   refine Tr.nil (Aa (Sat.region ?_))
   refine Tr.m rfl rfl rfl ?_
   refine Tr.lA rfl rfl rfl Y91 rfl Bo mM (Record.length (by first | exact oK  | exact his.ok)) ?_
   refine Tr.cV rfl rfl rfl rfl Body88 (record_size r d (hsm d (List.mem_of_getElem? hd))) (fun w h => his.ext h rfl) ?_
   have hb1 := hle k
   have hb2 := hlt k
   have hb3 := recSz_le (hsm d (List.mem_of_getElem? hd))
   refine Tr.aI rfl rfl rfl rfl oM ?_
   refine Tr.a rfl rfl rfl ?_
   refine Tr.nil (Bx (Aa (Sat.region ?_)))
   refine Tr.aI rfl rfl rfl rfl oM ?_
   refine Tr.m rfl rfl rfl ?_
   refine Tr.nil (Aa ?_)
   exact ⟨k + 1, by omega, by omega, Ap (wk1 (by rw [recsSz_step hd, Int.natCast_add]; rfl) (wk1 rfl (wk1 rfl (wk1 (by rw [Int.natCast_add]; rfl) wk0)))) wh0 nD⟩
  ·
   have hke : k = s.n := by omega
   refine Sat.exit (Bc (Bc (bl_h (Aa (Sat.seq (Sat.region ?_))))))
   refine Tr.m rfl rfl rfl ?_
   refine Tr.a rfl rfl rfl ?_
   refine Tr.nil (Aa (Sat.ret (Am ?_)))
   refine ⟨_, [], Ad rfl rfl, sP, sP, ?_, rfl⟩
   rw [hke, List.take_of_length_le oM]

end Go.Proofs.YtdifpjmfabhpiaaGreat
end

section
namespace Go.Proofs.YtdifpjmfabhpiaaGreat
open Go Hw

theorem good_of {D : DKept} (h : D.check = 0) : D.good = true := by
  by_cases hg : D.good = true
  · exact hg
  · rw [DKept.check, if_neg hg] at h; cases h
theorem stg_ok {D : Type} {f : D → DRecord × Int} {ds : List D} {q : List DRecord × Int} (h : (stg f ds q).2 = 0) : q.2 = 0 ∧ (stg f ds q).1 = q.1 ++ putD f ds := by
  unfold stg at h ⊢
  by_cases h1 : q.2 = 0
  · rw [if_pos h1] at h ⊢
    by_cases h2 : putE f ds = 0
    · rw [if_pos h2]; exact ⟨h1, rfl⟩
    · rw [if_neg h2] at h; exact absurd h h2
  · rw [if_neg h1] at h; exact absurd h h1
theorem recs_list {D : DKept} (h : (recsRd D).2 = 0) : (recsRd D).1 = ((([] ++ putD (fun X : DCert => A6 2 (B6 X) (DCert.check X)) D.dCerts) ++ putD (fun X : DB => A6 1 (Bm X) (DB.check X)) D.dBlocks) ++ putD (fun X : DCut => A6 4 (cutR X) (DCut.check X)) D.dCuts) ++ putD (fun X : Vote => A6 3 (Av X) (A8 X)) D.dVotes := by
  obtain ⟨h1, e1⟩ := stg_ok h
  obtain ⟨h2, e2⟩ := stg_ok h1
  obtain ⟨h3, e3⟩ := stg_ok h2
  obtain ⟨h4, e4⟩ := stg_ok h3
  rw [show (recsRd D).1 = _ from e1, show (rsC D).1 = _ from e2, show (rsB D).1 = _ from e3, show (rsE D).1 = _ from e4]
def Lens (X : Kept) (D : DKept) : Prop := D.dBlocks.length = X.fBlocks.n ∧ D.dCerts.length = X.fCerts.n ∧ D.dVotes.length = X.fVotes.n ∧ D.dCuts.length = X.fCuts.n
theorem meets_know {P : Program} {f : FuncId} {args : List Value} {Pre : World → Prop} {R R' : Value → List Blk → Prop} (h : Meets P f args [] Pre R) (hr : ∀ v out w, R v out → Lies out w → R' v out) : Meets P f args [] Pre R' :=
  fun W hW => (h W hW).mono fun e W' ⟨v, out, h1, h2, h3⟩ => ⟨v, out, h1, hr v out W' h2 h3.cells, h3⟩
theorem own_know {D : DKept} (v : Value) (out : List Blk) (w : World) (h : OwnedKept D v out) (hl : Lies out w) : ∃ X : Kept, X.ok ∧ v = agg X.cells ∧ Lens X D ∧ ∀ W2, Lies out W2 → KeptIs W2 X D := by
  obtain ⟨X, ok, e, hx⟩ := h
  exact ⟨X, ok, e, kept_lens (hx w hl), hx⟩
end Go.Proofs.YtdifpjmfabhpiaaGreat
end

section
namespace Go.Proofs.YtdifpjmfabhpiaaGreat
open Go Hw

def lightR (ds : List DRecord) (n m : Int) : Bool := decide (¬ n < (ds.length : Int)) && ds.all fun d => decide (¬ m < (d.dData.length : Int))
theorem lightR_no {ds : List DRecord} {n m : Int} {k : Nat} {d : DRecord} (h : ds[k]? = some d) (hm : m < (d.dData.length : Int)) : lightR ds n m = false := by
  rw [lightR, Bool.and_eq_false_iff]
  refine .inr (Bool.eq_false_iff.2 fun h2 => ?_)
  have := of_decide_eq_true (List.all_eq_true.1 h2 d (List.mem_of_getElem? h))
  exact this hm
theorem lightR_step {ds : List DRecord} {m : Int} {k : Nat} {d : DRecord} (h : ds[k]? = some d) (ha : (ds.take k).all (fun d => decide (¬ m < (d.dData.length : Int))) = true) (hm : ¬ m < (d.dData.length : Int)) : (ds.take (k + 1)).all (fun d => decide (¬ m < (d.dData.length : Int))) = true := by
  rw [take_snoc h, List.all_append, ha]
  simp only [List.all_cons, List.all_nil, Bool.and_true, Bool.true_and]
  exact decide_eq_true hm

theorem light_records (s : Sl) (ds : List DRecord) (n m : Int) : Meets Tryz.prog 10 [s.v, i64 n, i64 m] [] (fun W => RecordsAt W s ds) (fun v out => v = .bool (lightR ds n m) ∧ out = []) := by
 intro W hW
 obtain ⟨rs, hs⟩ := hW
 have hnd := hs.nd
 have hmax := hs.max
 simp only [maxLen] at hmax
 refine Ak Tryz.func10 rfl 26 Tryz.ntmps10 rfl ?_
 refine Sat.seq (Sat.region ?_)
 refine Tr.a rfl rfl rfl ?_
 refine Tr.nil (Aa (Sat.seq (Sat.seq (Sat.region ?_))))
 refine Tr.m rfl rfl rfl ?_
 refine Tr.lenSl rfl rfl rfl Y28 ?_
 refine Tr.m rfl rfl rfl ?_
 refine Tr.gtr rfl rfl rfl rfl rfl ?_
 refine Tr.nil (Aa ?_)
 first
  | refine Sat.condP rfl (fun hc0 => ?_) (fun hc0 => ?_)
  | refine Sat.condNP rfl (fun hc0 => ?_) (fun hc0 => ?_)
  | refine Sat.cond rfl (fun hc0 => ?_) (fun hc0 => ?_)
 ·
  refine Sat.seq (Sat.region ?_)
  refine Tr.a rfl rfl rfl ?_
  refine Tr.nil (Aa (Sat.ret (Ao (Am ?_))))
  refine ⟨_, [], Ad rfl rfl, sP, sP, ?_, rfl⟩
  first
   | (rw [lightR, decide_eq_false oM]; rfl)
   | (rw [lightR_no hd oM])
   | (rw [List.take_of_length_le oM] at hka; rw [lightR, hka, decide_eq_true oM]; rfl)
 ·
  refine Sat.skip (Aa (Sat.seq (Sat.seq (Sat.region ?_))))
  refine Tr.a rfl rfl rfl ?_
  refine Tr.nil (Aa (Sat.block ?_))
  refine Sat.loop (ι := Nat) (fun k => ⟨[(0, s.v), (2, i64 m), (7, i64 (k : Int))], []⟩) (fun k => k ≤ s.n ∧ (ds.take k).all (fun d => decide (¬ m < (d.dData.length : Int))) = true) (fun k => s.n - k) (0) ?_ ?_ ?_
  · exact ⟨Nat.zero_le _, rfl⟩
  · exact Ap (wk1 rfl (wk1 rfl (wk1 rfl wk0))) wh0 nD
  ·
   rintro k ⟨hk1, hka⟩
   refine Sat.seq (Sat.seq (Sat.region ?_))
   refine Tr.m rfl rfl rfl ?_
   refine Tr.m rfl rfl rfl ?_
   refine Tr.lenSl rfl rfl rfl Y28 ?_
   refine Tr.lss rfl rfl rfl rfl rfl ?_
   refine Tr.nil (Aa ?_)
   first
    | refine Sat.condP rfl (fun hc1 => ?_) (fun hc1 => ?_)
    | refine Sat.condNP rfl (fun hc1 => ?_) (fun hc1 => ?_)
    | refine Sat.cond rfl (fun hc1 => ?_) (fun hc1 => ?_)
   ·
    have hk2 : k < s.n := by omega
    obtain ⟨b, o, r, d, hsp, hr, hd, his, hlen, hsee⟩ := hs.at dE hk2
    have okr := his.ok
    have hlr := his.fData.len
    refine Sat.skip (Aa (Sat.seq (Sat.block (Sat.seq (Sat.region ?_)))))
    refine Tr.m rfl rfl rfl ?_
    refine Tr.m rfl rfl rfl ?_
    refine Tr.idxSlP 2 rfl rfl rfl hsp rfl Y28 Bo k rfl oM ?_
    refine Tr.fld rfl rfl rfl Y91 rfl Sz58 dE _ rfl ?_
    refine Tr.loadE rfl rfl rfl Y58 rfl (by first | (simp; done) | (simp; exact hW.2.2) | (simp [Cx.with]; done) | (simp [Cx.with]; omega)) (hsee 1 _ (Record.get_fData okr)) ?_
    refine Tr.lenSl rfl rfl rfl Y58 ?_
    refine Tr.m rfl rfl rfl ?_
    refine Tr.gtr rfl rfl rfl rfl rfl ?_
    refine Tr.nil (Aa ?_)
    first
     | refine Sat.condP rfl (fun hc2 => ?_) (fun hc2 => ?_)
     | refine Sat.condNP rfl (fun hc2 => ?_) (fun hc2 => ?_)
     | refine Sat.cond rfl (fun hc2 => ?_) (fun hc2 => ?_)
    ·
     refine Sat.seq (Sat.region ?_)
     refine Tr.a rfl rfl rfl ?_
     refine Tr.nil (Aa (Sat.ret (Bw (Ao (Ao (Bw (Ao (Am ?_))))))))
     refine ⟨_, [], Ad rfl rfl, sP, sP, ?_, rfl⟩
     first
      | (rw [lightR, decide_eq_false oM]; rfl)
      | (rw [lightR_no hd oM])
      | (rw [List.take_of_length_le oM] at hka; rw [lightR, hka, decide_eq_true oM]; rfl)
    ·
     refine Sat.skip (Bx (Aa (Sat.region ?_)))
     refine Tr.m rfl rfl rfl ?_
     refine Tr.aI rfl rfl rfl rfl oM ?_
     refine Tr.a rfl rfl rfl ?_
     refine Tr.nil (Aa ?_)
     exact ⟨k + 1, ⟨by omega, lightR_step hd hka (by rw [hlr]; exact hc2)⟩, by omega, Ap (wk1 rfl (wk1 rfl (wk1 (by rw [Int.natCast_add]; rfl) wk0))) wh0 nD⟩
   ·
    have hke : k = s.n := by omega
    refine Sat.exit (Bc (Bc (bl_h (Aa (Sat.seq (Sat.region ?_))))))
    refine Tr.a rfl rfl rfl ?_
    refine Tr.nil (Aa (Sat.ret (Am ?_)))
    refine ⟨_, [], Ad rfl rfl, sP, sP, ?_, rfl⟩
    first
     | (rw [lightR, decide_eq_false oM]; rfl)
     | (rw [lightR_no hd oM])
     | (rw [List.take_of_length_le oM] at hka; rw [lightR, hka, decide_eq_true oM]; rfl)

theorem kit_own_records (s : Sl) (ds : List DRecord) (hn : s.n ≤ 1000) (hsm : ∀ d ∈ ds, d.dData.length ≤ 500000) : Meets Tryz.prog 15 [s.v] [] (fun W => RecordsAt W s ds) (fun v out => ∃ sl bl bl2 rs, v = sl.v ∧ out = bl ++ bl2 ∧ OwnSeq Record.cells 2 RecordIs 91 sl bl bl2 rs ds s.n) := by
 intro W hW
 obtain ⟨rs, hs⟩ := hW
 have hnd := hs.nd
 refine Ak Tryz.func15 rfl 27 Tryz.ntmps15 rfl ?_
 refine Sat.seq (Sat.region ?_)
 refine Tr.a rfl rfl rfl ?_
 refine Tr.nil (Aa (Sat.seq (Sat.region ?_)))
 refine Tr.a rfl rfl rfl ?_
 refine Tr.nil (Aa (Sat.seq (Sat.seq (Sat.region ?_))))
 refine Tr.a rfl rfl rfl ?_
 refine Tr.nil (Aa (Sat.block ?_))
 refine Sat.loop (ι := Nat × Sl × List Blk × List Blk × List Record) (fun p => ⟨[(0, s.v), (3, p.2.1.v), (4, i64 (p.1 : Int))], (p.2.2.1 ++ (p.2.2.2.1 ++ []))⟩) (fun p => p.1 ≤ s.n ∧ OwnSeq Record.cells 2 RecordIs 91 p.2.1 p.2.2.1 p.2.2.2.1 p.2.2.2.2 (ds.take p.1) p.1) (fun p => s.n - p.1) ((0, Sl.nil, [], [], [])) ?_ ?_ ?_
 · exact ⟨Nat.zero_le _, OwnSeq.none⟩
 · exact Ah (wk1 rfl (wk1 rfl (wk1 rfl wk0))) (pm_none (pm_none Ag))
 ·
  rintro p ⟨hk, hos⟩
  refine Sat.seq (Sat.seq (Sat.region ?_))
  refine Tr.m rfl rfl rfl ?_
  refine Tr.m rfl rfl rfl ?_
  refine Tr.lenSl rfl rfl rfl Y28 ?_
  refine Tr.lss rfl rfl rfl rfl rfl ?_
  refine Tr.nil (Aa ?_)
  first
   | refine Sat.condP rfl (fun hc0 => ?_) (fun hc0 => ?_)
   | refine Sat.condNP rfl (fun hc0 => ?_) (fun hc0 => ?_)
   | refine Sat.cond rfl (fun hc0 => ?_) (fun hc0 => ?_)
  ·
   have hk2 : p.1 < s.n := by omega
   obtain ⟨b, o, r, d, hsp, hr, hd, his, hlen, hsee⟩ := hs.at dE hk2
   have okr := his.ok
   have hlr := his.fData.len
   have hs5 := hsm d (List.mem_of_getElem? hd)
   refine Sat.skip (Aa (Sat.seq (Sat.block ?_)))
   refine Sat.draw [(0, 0), (0, 1), (0, 2), (0, 3), (0, 4), (1, 5), (0, 6), (0, 7), (0, 8), (0, 9), (1, 10), (3, 11), (0, 12), (2, 13), (4, 14), (0, 15)] Bv zK ?_
   refine Tr.m rfl rfl rfl ?_
   refine Tr.m rfl rfl rfl ?_
   refine Tr.m rfl rfl rfl ?_
   refine Tr.idxSlP 2 rfl rfl rfl hsp rfl Y28 Bo p.1 rfl oM ?_
   refine Tr.fld rfl rfl rfl Y91 rfl Sz5 dE _ rfl ?_
   refine Tr.loadE rfl rfl rfl Y5 rfl (by first | (simp; done) | (simp; exact hW.2.2) | (simp [Cx.with]; done) | (simp [Cx.with]; omega)) (hsee 0 _ (Record.get_fKind okr)) ?_
   refine Tr.m rfl rfl rfl ?_
   refine Tr.m rfl rfl rfl ?_
   refine Tr.idxSlP 2 rfl rfl rfl hsp rfl Y28 Bo p.1 rfl oM ?_
   refine Tr.fld rfl rfl rfl Y91 rfl Sz58 dE _ rfl ?_
   refine Tr.loadE rfl rfl rfl Y58 rfl (by first | (simp; done) | (simp; exact hW.2.2) | (simp [Cx.with]; done) | (simp [Cx.with]; omega)) (hsee 1 _ (Record.get_fData okr)) ?_
   refine Tr.call rfl rfl rfl rfl Body27 (kit_own r.fData d.dData oM) (FreshRow.loose _ _ _ _) (fun w h => bytes_ext h rfl his.fData) ?_
   rintro v22 out22 ⟨q22, c22, rfl, hc22, rfl⟩
   refine Tr.build (cs := (⟨r.fKind, ⟨some ⟨q22, 0, none⟩, r.fData.n, c22⟩⟩ : Record).cells) rfl rfl rfl (fun w => by kernel_rfl) ?_
   refine Tr.mkRow2 (z := agg Record.zero.cells) [agg (⟨r.fKind, ⟨some ⟨q22, 0, none⟩, r.fData.n, c22⟩⟩ : Record).cells] (⟨r.fKind, ⟨some ⟨q22, 0, none⟩, r.fData.n, c22⟩⟩ : Record).cells rfl rfl Y28 Bo Record.zr rfl rfl (by intro v hv; rw [List.mem_singleton.1 hv]; exact Record.length ⟨trivial⟩) dE (by simp [Value.cells]) ?_
   intro q24
   refine Tr.appendAcc (z := agg Record.zero.cells) (by' := 32) ((⟨r.fKind, ⟨some ⟨q22, 0, none⟩, r.fData.n, c22⟩⟩ : Record).cells) rfl rfl rfl rfl rfl Y28 Y28 Bo Record.zr (by unfold By; kernel_rfl) rfl hos.acc sG (fun w h => SeesP.of (As h mM)) (fun e => by cases e) (Record.isCell ⟨trivial⟩) oM oM (by rw [Record.length ⟨trivial⟩]) ?_
   intro s25 bl25 hac25
   refine Tr.a rfl rfl rfl ?_
   refine Tr.nil (Bx (Aa (Sat.region ?_)))
   refine Tr.m rfl rfl rfl ?_
   refine Tr.aI rfl rfl rfl rfl oM ?_
   refine Tr.a rfl rfl rfl ?_
   refine Tr.nil (Aa ?_)
   exact ⟨(p.1 + 1, s25, bl25, [⟨q22, Ab d.dData, 5, c22 * 1⟩] ++ p.2.2.2.1, p.2.2.2.2 ++ [(⟨r.fKind, ⟨some ⟨q22, 0, none⟩, r.fData.n, c22⟩⟩ : Record)]), ⟨by simp only []; omega, by simp only [take_snoc hd]; exact hos.snoc hac25 (Record.length ⟨trivial⟩) (fun W2 hl => ⟨⟨trivial⟩, his.fKind, acc_bytes (Acc.some (E := 5) hc22 (by rw [Ab, List.length_map, his.fData.len, Nat.mul_one])) hl his.fData.len oM⟩)⟩, by simp only []; omega, Ah (wk1 rfl (wk1 rfl (wk1 (by rw [Int.natCast_add]; rfl) wk0))) (Ac sG (pm_in1 (Ae rM (Ac sG Ag))))⟩
  ·
   have hpe : p.1 = s.n := by omega
   refine Sat.exit (Bc (Bc (bl_h (Aa (Sat.seq (Sat.region ?_))))))
   refine Tr.m rfl rfl rfl ?_
   refine Tr.a rfl rfl rfl ?_
   refine Tr.nil (Aa (Sat.ret (Am ?_)))
   refine Al (out := (p.2.2.1 ++ (p.2.2.2.1 ++ []))) (Ad rfl rfl) (Ac sG (Ac sG Ag)) ?_
   refine ⟨p.2.1, p.2.2.1, p.2.2.2.1, p.2.2.2.2, rfl, by simp, ?_⟩
   rw [hpe, List.take_of_length_le oM] at hos
   exact hos

end Go.Proofs.YtdifpjmfabhpiaaGreat
end

section
namespace Go.Proofs.YtdifpjmfabhpiaaGreat
open Go Hw

theorem voteRd_only {xs : List UInt8} (h : (Ay xs).2 = 0) : A8 (Ay xs).1 = 0 ∧ Av (Ay xs).1 = xs ∧ (Ay xs).1.ok := by
  by_cases hg : endR xs.length (voteP xs).2.1 (voteP xs).2.2 = 0 ∧ A8 (voteP xs).1 = 0
  case neg => rw [voteRd_bad hg] at h; cases h
  rw [voteRd_ok hg]
  refine ⟨hg.2, ?_⟩
  obtain ⟨he, hc⟩ := hg
  have e0 : (voteP xs).2.2 = 0 ∧ ¬ (0 : Int) < (xs.length : Int) - ((voteP xs).2.1 : Int) := by
    unfold endR at he
    split at he
    · rename_i h1
      exact ⟨h1, fun h2 => by rw [if_pos h2] at he; cases he⟩
    · rename_i h1; exact absurd he h1
  obtain ⟨e1, e2⟩ := e0
  rw [show Av (voteP xs).1 = voteT (voteP xs).1 ++ (voteP xs).1.fSig from if_pos hc]
  simp only [voteP] at e1 e2 hc ⊢
  obtain ⟨x1, p1, h1⟩ : ∃ l r, A1 xs 0 0 = (l, r) := ⟨_, _, rfl⟩
  obtain ⟨a1, d1⟩ := p1
  rw [h1] at e1 e2 hc ⊢
  simp only at e1 e2 hc ⊢
  obtain ⟨x2, p2, h2⟩ : ∃ l r, A1 xs a1 d1 = (l, r) := ⟨_, _, rfl⟩
  obtain ⟨a2, d2⟩ := p2
  rw [h2] at e1 e2 hc ⊢
  simp only at e1 e2 hc ⊢
  obtain ⟨x3, p3, h3⟩ : ∃ l r, A1 xs a2 d2 = (l, r) := ⟨_, _, rfl⟩
  obtain ⟨a3, d3⟩ := p3
  rw [h3] at e1 e2 hc ⊢
  simp only at e1 e2 hc ⊢
  obtain ⟨l4, p4, h4⟩ : ∃ l r, digR xs a3 d3 = (l, r) := ⟨_, _, rfl⟩
  obtain ⟨a4, d4⟩ := p4
  rw [h4] at e1 e2 hc ⊢
  simp only at e1 e2 hc ⊢
  obtain ⟨x5, p5, h5⟩ : ∃ l r, A1 xs a4 d4 = (l, r) := ⟨_, _, rfl⟩
  obtain ⟨a5, d5⟩ := p5
  rw [h5] at e1 e2 hc ⊢
  simp only at e1 e2 hc ⊢
  obtain ⟨l6, p6, h6⟩ : ∃ l r, digR xs a5 d5 = (l, r) := ⟨_, _, rfl⟩
  obtain ⟨a6, d6⟩ := p6
  rw [h6] at e1 e2 hc ⊢
  simp only at e1 e2 hc ⊢
  obtain ⟨l7, p7, h7⟩ : ∃ l r, takR xs 64 a6 d6 = (l, r) := ⟨_, _, rfl⟩
  obtain ⟨a7, d7⟩ := p7
  rw [h7] at e1 e2 hc ⊢
  simp only at e1 e2 hc ⊢
  subst e1
  obtain ⟨z6, ea7, ha7, hl7, hx7⟩ := tak_bwd h7
  subst z6
  obtain ⟨z5, ea6, ha6, hx6⟩ := dig_bwd h6
  subst z5
  obtain ⟨z4, ea5, ha5, hx5⟩ := num_bwd h5
  subst z4
  obtain ⟨z3, ea4, ha4, hx4⟩ := dig_bwd h4
  subst z3
  obtain ⟨z2, ea3, ha3, hx3⟩ := num_bwd h3
  subst z2
  obtain ⟨z1, ea2, ha2, hx2⟩ := num_bwd h2
  subst z1
  obtain ⟨_, ea1, ha1, hx1⟩ := num_bwd h1
  have d4 := (digR_at xs a3 0 oM).2
  have d6 := (digR_at xs a5 0 oM).2
  rw [h4] at d4
  rw [h6] at d6
  have e7 : l7 ++ (List.replicate 64 (0 : UInt8)).drop l7.length = l7 := by rw [hl7]; simp
  have hend : xs.drop a7 = [] := List.drop_of_length_le oM
  rw [e7] at hc ⊢
  have hph := vcheck_phase hc
  simp only at hph
  have hx : (Hw.byteOf ((min x3.toNat 4 : Nat) : Int)).toUInt64 = x3 := by
    apply UInt64.toNat_inj.1
    rw [byteOf_small oM oM]
    omega
  refine ⟨?_, ⟨d4, d6, hl7⟩⟩
  simp only [voteT]
  rw [hx]
  rw [List.drop_zero] at hx1
  rw [hx1, hx2, hx3, hx4, hx5, hx6, hx7, hend]
  simp [List.append_assoc]
end Go.Proofs.YtdifpjmfabhpiaaGreat
end

section
namespace Go.Proofs.YtdifpjmfabhpiaaGreat
open Go Hw

theorem cutRd_only {xs : List UInt8} (h : (Bp xs).2 = 0) : (Bp xs).1.check = 0 ∧ (Bp xs).1.bytes = xs ∧ (Bp xs).1.dPrev.length = 32 ∧ ∀ l ∈ (Bp xs).1.dHeads, l.length = 32 := by
  by_cases hg : endR xs.length (cutP xs).2.1 (cutP xs).2.2 = 0 ∧ (cutP xs).1.check = 0
  case neg => rw [show Bp xs = (DCut.zero, 4) from if_neg hg] at h; cases h
  rw [show Bp xs = ((cutP xs).1, 0) from if_pos hg]
  refine ⟨hg.2, ?_⟩
  obtain ⟨he, hc⟩ := hg
  have hs := (cutP xs).1.small hc
  have e0 : (cutP xs).2.2 = 0 ∧ ¬ (0 : Int) < (xs.length : Int) - ((cutP xs).2.1 : Int) := by
    unfold endR at he
    split at he
    · rename_i h1
      exact ⟨h1, fun h2 => by rw [if_pos h2] at he; cases he⟩
    · rename_i h1; exact absurd he h1
  obtain ⟨e1, e2⟩ := e0
  clear he hc
  simp only [cutP] at e1 e2 hs ⊢
  obtain ⟨x1, p1, h1⟩ : ∃ l r, A1 xs 0 0 = (l, r) := ⟨_, _, rfl⟩
  obtain ⟨a1, d1⟩ := p1
  rw [h1] at e1 e2 hs ⊢
  simp only at e1 e2 hs ⊢
  obtain ⟨l2, p2, h2⟩ : ∃ l r, digR xs a1 d1 = (l, r) := ⟨_, _, rfl⟩
  obtain ⟨a2, d2⟩ := p2
  rw [h2] at e1 e2 hs ⊢
  simp only at e1 e2 hs ⊢
  obtain ⟨x3, p3, h3⟩ : ∃ l r, A1 xs a2 d2 = (l, r) := ⟨_, _, rfl⟩
  obtain ⟨a3, d3⟩ := p3
  rw [h3] at e1 e2 hs ⊢
  simp only at e1 e2 hs ⊢
  obtain ⟨ls, p4, h4⟩ : ∃ l r, Bb xs (min x3.toNat 33) a3 d3 = (l, r) := ⟨_, _, rfl⟩
  obtain ⟨a4, d4⟩ := p4
  rw [h4] at e1 e2 hs ⊢
  simp only at e1 e2 hs ⊢
  subst e1
  obtain ⟨z3, i4, g4⟩ := digs_bwd _ _ _ h4
  subst z3
  obtain ⟨z2, ea3, i3, g3⟩ := num_bwd h3
  subst z2
  obtain ⟨z1, ea2, i2, g2⟩ := dig_bwd h2
  subst z1
  obtain ⟨_, ea1, i1, g1⟩ := num_bwd h1
  have d2 := (digR_at xs a1 0 oM).2
  rw [h2] at d2
  have d4 := (digsR_at (xs := xs) (a := a3) (N := xs.length) (e := 0) rfl oM (min x3.toNat 33)).2.1
  rw [h4] at d4
  have hx3 : x3 = UInt64.ofNat ls.length := by
    apply UInt64.toNat_inj.1
    rw [Bi oM]; omega
  have hnil : xs.drop a4 = [] := List.drop_eq_nil_of_le oM
  refine ⟨?_, d2, d4⟩
  simp only [DCut.bytes, DCut.body, List.take_length]
  rw [← hx3]
  rw [hnil, List.append_nil] at g4
  rw [List.drop_zero] at g1
  rw [g1, g2, g3, g4]
  simp only [List.append_assoc]
theorem votesR_bwd {xs : List UInt8} {a : Nat} {e : Int} : ∀ (k : Nat) (vs : List Vote) (a2 : Nat), votesR xs k a e = some (vs, a2, 0) → e = 0 ∧ vs.length = k ∧ xs.drop a = B0 Av vs ++ xs.drop a2 ∧ ∀ v ∈ vs, v.ok ∧ A8 v = 0
  | 0, vs, a2, h => by
    obtain ⟨rfl, rfl, rfl⟩ : [] = vs ∧ a = a2 ∧ e = 0 := by simpa [votesR] using h
    exact ⟨rfl, rfl, rfl, fun v hv => (by cases hv)⟩
  | k + 1, vs, a2, h => by
    rw [votesR] at h
    obtain ⟨r, hr, h2⟩ := Option.bind_eq_some_iff.1 h
    obtain ⟨us, b, eb⟩ := r
    simp only at h2
    split at h2
    · rename_i h3
      obtain ⟨h3, h4⟩ := h3
      obtain ⟨o, q, hb⟩ : ∃ o q, blkR xs b eb = (o, q) := ⟨_, _, rfl⟩
      obtain ⟨c, ec⟩ := q
      rw [hb] at h2 h3 h4
      simp only at h2 h3 h4
      subst h4
      obtain ⟨z, ic, ds, rfl, hd⟩ := blk_bwd hb
      subst z
      simp only [Option.getD_some] at h2 h3
      obtain ⟨rfl, rfl⟩ : us ++ [(Ay ds).1] = vs ∧ c = a2 := by simpa using h2
      obtain ⟨g1, g2, g3, g4⟩ := votesR_bwd k us b hr
      obtain ⟨v1, v2, v3⟩ := voteRd_only h3
      refine ⟨g1, by rw [List.length_append, g2]; rfl, ?_, fun v hv => ?_⟩
      · rw [g3, hd]
        have : B0 Av (us ++ [(Ay ds).1]) = B0 Av us ++ blkB ds := by simp [B0, v2]
        rw [this, blkB]
        simp only [List.append_assoc]
      · rcases List.mem_append.1 hv with hv | hv
        · exact g4 v hv
        · rw [List.mem_singleton.1 hv]; exact ⟨v3, v1⟩
    · cases h2
structure DCert.ok (D : DCert) : Prop where
  prev : D.dCut.dPrev.length = 32
  heads : ∀ l ∈ D.dCut.dHeads, l.length = 32
  votes : ∀ d ∈ D.dVotes, d.ok
structure DCut.okL (D : DCut) : Prop where
  prev : D.dPrev.length = 32
  heads : ∀ l ∈ D.dHeads, l.length = 32
theorem certRd_only {xs : List UInt8} (h : (Bl xs).2 = 0) : (Bl xs).1.check = 0 ∧ (Bl xs).1.bytes = xs ∧ (Bl xs).1.ok := by
  obtain ⟨o, p, hb⟩ : ∃ o p, blkR xs 0 0 = (o, p) := ⟨_, _, rfl⟩
  obtain ⟨a1, e1⟩ := p
  unfold Bl at h ⊢
  rw [hb] at h ⊢
  simp only at h ⊢
  by_cases hc : (Bp (o.getD [])).2 = 0
  case neg => rw [if_neg hc] at h; cases h
  rw [if_pos hc] at h ⊢
  cases hv : readVL xs 16 a1 e1 with
  | none => simp only [hv] at h; cases h
  | some r =>
    obtain ⟨vs, a, e⟩ := r
    simp only [hv] at h ⊢
    by_cases hg : endR xs.length a e = 0 ∧ (⟨(Bp (o.getD [])).1, vs⟩ : DCert).check = 0
    case neg => rw [if_neg hg] at h; cases h
    rw [if_pos hg]
    refine ⟨hg.2, ?_⟩
    obtain ⟨he, hck⟩ := hg
    have e0 : e = 0 ∧ ¬ (0 : Int) < (xs.length : Int) - (a : Int) := by
      unfold endR at he
      split at he
      · rename_i h1
        exact ⟨h1, fun h2 => by rw [if_pos h2] at he; cases he⟩
      · rename_i h1; exact absurd he h1
    obtain ⟨z, e2⟩ := e0
    subst z
    unfold readVL at hv
    obtain ⟨x2, p2, h2⟩ : ∃ x p, A1 xs a1 e1 = (x, p) := ⟨_, _, rfl⟩
    obtain ⟨a2, e2'⟩ := p2
    rw [h2] at hv
    simp only at hv
    split at hv
    case isFalse => cases hv
    rename_i hk
    obtain ⟨hk1, hk2⟩ := hk
    subst hk1
    obtain ⟨_, g2, g3, g4⟩ := votesR_bwd _ _ _ hv
    obtain ⟨z, ea2, i2, k2⟩ := num_bwd h2
    subst z
    obtain ⟨_, i1, ds, rfl, k1⟩ := blk_bwd hb
    simp only [Option.getD_some] at hc hck ⊢
    obtain ⟨c1, c2, c3, c4⟩ := cutRd_only hc
    have hx2 : x2 = UInt64.ofNat vs.length := by rw [g2, UInt64.ofNat_toNat]
    have hnil : xs.drop a = [] := List.drop_eq_nil_of_le oM
    refine ⟨?_, ⟨c3, c4, fun d hd => (g4 d hd).1⟩⟩
    simp only [DCert.bytes]
    rw [show cutR (Bp ds).1 = ds from (if_pos c1).trans c2, blkB, ← hx2]
    rw [hnil, List.append_nil] at g3
    rw [List.drop_zero] at k1
    rw [k1, k2, g3]
    simp only [List.append_assoc]

structure DKept.oks (D : DKept) : Prop where
  b : ∀ d ∈ D.dBlocks, d.ok
  e : ∀ d ∈ D.dCerts, d.ok
  v : ∀ d ∈ D.dVotes, d.ok
  c : ∀ d ∈ D.dCuts, d.okL
theorem recOf_is {K : UInt8} {bs : List UInt8} (hK : ¬ K = 0) (h : bs.length ≤ 8192) : A6 K bs 0 = (⟨K, bs⟩, 0) := by
  rw [A6, if_pos rfl, if_pos]
  unfold DRecord.check
  exact if_neg (by simp only [not_or]; exact ⟨hK, by omega⟩)
theorem recOf_fit {K : UInt8} {bs : List UInt8} {chk : Int} (h : (A6 K bs chk).2 = 0) : chk = 0 ∧ A6 K bs chk = (⟨K, bs⟩, 0) ∧ bs.length ≤ 8192 := by
  unfold A6 at h ⊢
  by_cases h1 : chk = 0
  · rw [if_pos h1] at h ⊢
    by_cases h2 : (⟨K, bs⟩ : DRecord).check = 0
    · rw [if_pos h2] at h ⊢
      refine ⟨h1, rfl, ?_⟩
      unfold DRecord.check at h2
      split at h2
      · cases h2
      · rename_i h3; simp only [not_or] at h3; omega
    · rw [if_neg h2] at h; cases h
  · rw [if_neg h1] at h; exact absurd h h1
def fB : DB → DRecord × Int := (fun X : DB => A6 1 (Bm X) (DB.check X))
noncomputable def fE : DCert → DRecord × Int := (fun X : DCert => A6 2 (B6 X) (DCert.check X))
def fV : Vote → DRecord × Int := (fun X : Vote => A6 3 (Av X) (A8 X))
def fC : DCut → DRecord × Int := (fun X : DCut => A6 4 (cutR X) (DCut.check X))
theorem stepB {D : DKept} {d : DB} (ok : d.ok) (h : (fB d).2 = 0) : Be D (fB d).1 = some { D with dBlocks := D.dBlocks ++ [d] } := by
  obtain ⟨h1, h2, _⟩ := recOf_fit h
  have hb : Bm d = d.bytes := if_pos h1
  have hr := readD_bytes ok h1
  have e : (fB d).1 = ⟨1, d.bytes⟩ := by show (A6 1 (Bm d) d.check).1 = _; rw [h2, hb]
  rw [e, Be, if_pos rfl, if_pos (by rw [hr])]
  simp only [hr]
theorem stepE {D : DKept} {d : DCert} (ok : d.ok) (h : (fE d).2 = 0) : Be D (fE d).1 = some { D with dCerts := D.dCerts ++ [d] } := by
  obtain ⟨h1, h2, _⟩ := recOf_fit h
  have hb : B6 d = d.bytes := if_pos h1
  have hr := certRd_bytes ok.prev ok.heads ok.votes h1
  have e : (fE d).1 = ⟨2, d.bytes⟩ := by show (A6 2 (B6 d) d.check).1 = _; rw [h2, hb]
  rw [e, Be, if_neg (by show ¬ (2 : UInt8) = 1; decide), if_pos rfl, if_pos (by rw [hr])]
  simp only [hr]
theorem stepV {D : DKept} {d : Vote} (ok : d.ok) (h : (fV d).2 = 0) : Be D (fV d).1 = some { D with dVotes := D.dVotes ++ [d] } := by
  obtain ⟨h1, h2, _⟩ := recOf_fit h
  have hr := voteRd_bytes ok h1
  have e : (fV d).1 = ⟨3, Av d⟩ := by show (A6 3 (Av d) (A8 d)).1 = _; rw [h2]
  rw [e, Be, if_neg (by show ¬ (3 : UInt8) = 1; decide), if_neg (by show ¬ (3 : UInt8) = 2; decide), if_pos rfl, if_pos (by rw [hr])]
  simp only [hr]
theorem stepC {D : DKept} {d : DCut} (ok : d.okL) (h : (fC d).2 = 0) : Be D (fC d).1 = some { D with dCuts := D.dCuts ++ [d] } := by
  obtain ⟨h1, h2, _⟩ := recOf_fit h
  have hb : cutR d = d.bytes := if_pos h1
  have hr := cutRd_bytes ok.prev ok.heads h1
  have e : (fC d).1 = ⟨4, d.bytes⟩ := by show (A6 4 (cutR d) d.check).1 = _; rw [h2, hb]
  rw [e, Be, if_neg (by show ¬ (4 : UInt8) = 1; decide), if_neg (by show ¬ (4 : UInt8) = 2; decide), if_neg (by show ¬ (4 : UInt8) = 3; decide), if_pos rfl, if_pos (by rw [hr])]
  simp only [hr]
theorem fold_put {D : Type} {f : D → DRecord × Int} {g : DKept → List D → DKept} (h0 : ∀ K, g K [] = K) (h1 : ∀ K d l, g (g K [d]) l = g K (d :: l)) : ∀ (ds : List D), (∀ d ∈ ds, ∀ K, Be K (f d).1 = some (g K [d])) → ∀ K, (putD f ds).foldl (fun o r => o.bind fun D => Be D r) (some K) = some (g K ds)
  | [], _, K => by rw [h0]; rfl
  | d :: l, h, K => by
    have ih := fold_put h0 h1 l (fun x hx => h x (List.mem_cons_of_mem _ hx)) (g K [d])
    rw [h1] at ih
    rw [← ih]
    show List.foldl _ (some K) ((f d).1 :: putD f l) = _
    rw [List.foldl_cons, Option.bind_some, h d List.mem_cons_self K]
theorem putE_all {D : Type} {f : D → DRecord × Int} : ∀ {ds : List D}, putE f ds = 0 → ∀ d ∈ ds, (f d).2 = 0
  | [], _, d, hd => by cases hd
  | x :: l, h, d, hd => by
    simp only [putE] at h
    by_cases hx : (f x).2 = 0
    · rw [if_pos hx] at h
      rcases List.mem_cons.1 hd with rfl | hd
      · exact hx
      · exact putE_all h d hd
    · rw [if_neg hx] at h; exact absurd h hx
theorem all_putE {D : Type} {f : D → DRecord × Int} : ∀ {ds : List D}, (∀ d ∈ ds, (f d).2 = 0) → putE f ds = 0
  | [], _ => rfl
  | x :: l, h => by
    simp only [putE]
    rw [if_pos (h x List.mem_cons_self)]
    exact all_putE fun d hd => h d (List.mem_cons_of_mem _ hd)
theorem stg_err {D : Type} {f : D → DRecord × Int} {ds : List D} {q : List DRecord × Int} (h : (stg f ds q).2 = 0) : q.2 = 0 ∧ putE f ds = 0 := by
  unfold stg at h
  by_cases h1 : q.2 = 0
  · rw [if_pos h1] at h
    by_cases h2 : putE f ds = 0
    · exact ⟨h1, h2⟩
    · rw [if_neg h2] at h; exact absurd h h2
  · rw [if_neg h1] at h; exact absurd h h1
theorem stg_zero {D : Type} {f : D → DRecord × Int} {ds : List D} {q : List DRecord × Int} (h1 : q.2 = 0) (h2 : putE f ds = 0) : (stg f ds q).2 = 0 := by
  unfold stg; rw [if_pos h1, if_pos h2]
structure PutAll (D : DKept) : Prop where
  chk : D.check = 0
  e : ∀ d ∈ D.dCerts, (fE d).2 = 0
  b : ∀ d ∈ D.dBlocks, (fB d).2 = 0
  c : ∀ d ∈ D.dCuts, (fC d).2 = 0
  v : ∀ d ∈ D.dVotes, (fV d).2 = 0
theorem recs_put {D : DKept} (h : (recsRd D).2 = 0) : PutAll D := by
  obtain ⟨h1, e1⟩ := stg_err h
  obtain ⟨h2, e2⟩ := stg_err h1
  obtain ⟨h3, e3⟩ := stg_err h2
  obtain ⟨h4, e4⟩ := stg_err h3
  exact ⟨h4, putE_all e4, putE_all e3, putE_all e2, putE_all e1⟩
theorem put_recs {D : DKept} (h : PutAll D) : (recsRd D).2 = 0 :=
  stg_zero (stg_zero (stg_zero (stg_zero h.chk (all_putE h.e)) (all_putE h.b)) (all_putE h.c)) (all_putE h.v)
theorem foldK (a b : List DRecord) : keepR (a ++ b) = b.foldl (fun o r => o.bind fun D => Be D r) (keepR a) := List.foldl_append
theorem keep_back {D : DKept} (h : (recsRd D).2 = 0) (o : D.oks) : B2 (recsRd D).1 = (D, 0) := by
  have p := recs_put h
  have l := recs_list h
  have hord : inOrd D.dCerts = true := by
    have hg := good_of p.chk
    simp only [DKept.good, Bool.and_eq_true] at hg
    exact hg.2.2.2.2
  refine keepRd_ok ?_ hord
  rw [l, foldK, foldK, foldK, List.nil_append]
  rw [show keepR (putD (fun X : DCert => A6 2 (B6 X) (DCert.check X)) D.dCerts) = some ⟨[], D.dCerts, [], []⟩ from fold_put (f := fE) (g := fun K l => { K with dCerts := K.dCerts ++ l }) (fun K => by simp) (fun K d l => by simp) D.dCerts (fun d hd K => stepE (o.e d hd) (p.e d hd)) dkz]
  have hb := fold_put (f := fB) (g := fun K l => { K with dBlocks := K.dBlocks ++ l }) (fun K => by simp) (fun K d l => by simp) D.dBlocks (fun d hd K => stepB (o.b d hd) (p.b d hd)) ⟨[], D.dCerts, [], []⟩
  rw [show List.foldl _ (some (⟨[], D.dCerts, [], []⟩ : DKept)) (putD (fun X : DB => A6 1 (Bm X) (DB.check X)) D.dBlocks) = _ from hb]
  have hc := fold_put (f := fC) (g := fun K l => { K with dCuts := K.dCuts ++ l }) (fun K => by simp) (fun K d l => by simp) D.dCuts (fun d hd K => stepC (o.c d hd) (p.c d hd)) ⟨D.dBlocks, D.dCerts, [], []⟩
  rw [show List.foldl _ (some (⟨[] ++ D.dBlocks, D.dCerts, [], []⟩ : DKept)) (putD (fun X : DCut => A6 4 (cutR X) (DCut.check X)) D.dCuts) = _ from hc]
  exact fold_put (f := fV) (g := fun K l => { K with dVotes := K.dVotes ++ l }) (fun K => by simp) (fun K d l => by simp) D.dVotes (fun d hd K => stepV (o.v d hd) (p.v d hd)) ⟨D.dBlocks, D.dCerts, [], D.dCuts⟩

structure OfRecs (l : List DRecord) (D : DKept) : Prop where
  oks : D.oks
  b : putD fB D.dBlocks = l.filter (fun r => decide (r.dKind = 1))
  e : putD fE D.dCerts = l.filter (fun r => decide (r.dKind = 2))
  v : putD fV D.dVotes = l.filter (fun r => decide (r.dKind = 3))
  c : putD fC D.dCuts = l.filter (fun r => decide (r.dKind = 4))
  gb : ∀ d ∈ D.dBlocks, (fB d).2 = 0
  ge : ∀ d ∈ D.dCerts, (fE d).2 = 0
  gv : ∀ d ∈ D.dVotes, (fV d).2 = 0
  gc : ∀ d ∈ D.dCuts, (fC d).2 = 0
  kinds : ∀ r ∈ l, r.dKind = 1 ∨ r.dKind = 2 ∨ r.dKind = 3 ∨ r.dKind = 4
theorem filt1 {l : List DRecord} {r : DRecord} {k : UInt8} (h : r.dKind = k) : (l ++ [r]).filter (fun r => decide (r.dKind = k)) = l.filter (fun r => decide (r.dKind = k)) ++ [r] := by
  simp [List.filter_append, h]
theorem filt0 {l : List DRecord} {r : DRecord} {k j : UInt8} (h : r.dKind = j) (hj : ¬ j = k) : (l ++ [r]).filter (fun r => decide (r.dKind = k)) = l.filter (fun r => decide (r.dKind = k)) := by
  simp [List.filter_append, h, hj]
theorem putD_snoc {D : Type} (f : D → DRecord × Int) (ds : List D) (d : D) : putD f (ds ++ [d]) = putD f ds ++ [(f d).1] := by simp [putD]
theorem mem_snoc {α : Type} {P : α → Prop} {l : List α} {x : α} (h : ∀ d ∈ l, P d) (hx : P x) : ∀ d ∈ l ++ [x], P d := fun d hd => by
  rcases List.mem_append.1 hd with hd | hd
  · exact h d hd
  · rw [List.mem_singleton.1 hd]; exact hx
theorem rec_eq {r : DRecord} {k : UInt8} (h : r.dKind = k) : r = ⟨k, r.dData⟩ := by cases r; cases h; rfl
theorem readP_dok (xs : List UInt8) : (readP xs).1.ok := by
  obtain ⟨l1, r1, h1⟩ : ∃ l r, digR xs 0 0 = (l, r) := ⟨_, _, rfl⟩
  obtain ⟨a1, e1⟩ := r1
  obtain ⟨x2, r2, h2⟩ : ∃ l r, A1 xs a1 e1 = (l, r) := ⟨_, _, rfl⟩
  obtain ⟨a2, e2⟩ := r2
  obtain ⟨l3, r3, h3⟩ : ∃ l r, digR xs a2 e2 = (l, r) := ⟨_, _, rfl⟩
  obtain ⟨a3, e3⟩ := r3
  obtain ⟨x4, r4, h4⟩ : ∃ l r, A1 xs a3 e3 = (l, r) := ⟨_, _, rfl⟩
  obtain ⟨a4, e4⟩ := r4
  obtain ⟨ls, r5, h5⟩ : ∃ l r, Bb xs (min x4.toNat 17) a4 e4 = (l, r) := ⟨_, _, rfl⟩
  obtain ⟨a5, e5⟩ := r5
  obtain ⟨o, r6, h6⟩ : ∃ l r, blkR xs a5 e5 = (l, r) := ⟨_, _, rfl⟩
  obtain ⟨a6, e6⟩ := r6
  obtain ⟨l7, r7, h7⟩ : ∃ l r, takR xs 64 a6 e6 = (l, r) := ⟨_, _, rfl⟩
  obtain ⟨a7, e7⟩ := r7
  have d1 := digE_le h1 rfl (Nat.zero_le _)
  have d2 := numE_le h2 rfl d1.1
  have d3 := digE_le h3 rfl d2
  have d4 := numE_le h4 rfl d3.1
  have d5 := digsR_at (e := e4) rfl d4 (min x4.toNat 17)
  rw [h5] at d5
  have d6 := blkE_le h6 rfl d5.1
  have d7 := takE_le h7 rfl d6.1
  simp only [readP, h1, h2, h3, h4, h5, h6, h7]
  refine ⟨d1.2, d3.2, ?_, d5.2.1⟩
  rcases d7.2 with h | h
  · rw [h]; rfl
  · simp only [List.length_append, List.length_drop, List.length_replicate, h]
theorem readD_okB {xs : List UInt8} (h : (readD xs).2 = 0) : (readD xs).1.ok := by
  by_cases hg : endR xs.length (readP xs).2.1 (readP xs).2.2 = 0 ∧ (readP xs).1.check = 0
  · rw [readD_ok hg]; exact readP_dok xs
  · rw [readD_bad hg] at h; cases h
theorem ofRecs_step {l : List DRecord} {D D2 : DKept} {r : DRecord} (h : OfRecs l D) (hr : r.dData.length ≤ 8192) (hs : Be D r = some D2) : OfRecs (l ++ [r]) D2 := by
  unfold Be at hs
  by_cases k1 : r.dKind = 1
  · rw [if_pos k1] at hs
    split at hs
    case isFalse => cases hs
    rename_i hz
    cases hs
    obtain ⟨c1, c2⟩ := readD_only hz
    have hf : fB (readD r.dData).1 = (r, 0) := by
      show A6 1 (Bm _) (DB.check _) = _
      rw [c1, show Bm (readD r.dData).1 = r.dData from (if_pos c1).trans c2, recOf_is dE hr, ← rec_eq k1]
    exact ⟨⟨mem_snoc h.oks.b (readD_okB hz), h.oks.e, h.oks.v, h.oks.c⟩, by rw [putD_snoc, hf, h.b, filt1 k1], by rw [h.e, filt0 k1 dE], by rw [h.v, filt0 k1 dE], by rw [h.c, filt0 k1 dE], mem_snoc h.gb (by rw [hf]), h.ge, h.gv, h.gc, mem_snoc h.kinds (.inl k1)⟩
  rw [if_neg k1] at hs
  by_cases k2 : r.dKind = 2
  · rw [if_pos k2] at hs
    split at hs
    case isFalse => cases hs
    rename_i hz
    cases hs
    obtain ⟨c1, c2, c3⟩ := certRd_only hz
    have hf : fE (Bl r.dData).1 = (r, 0) := by
      show A6 2 (B6 _) (DCert.check _) = _
      rw [c1, show B6 (Bl r.dData).1 = r.dData from (if_pos c1).trans c2, recOf_is dE hr, ← rec_eq k2]
    exact ⟨⟨h.oks.b, mem_snoc h.oks.e c3, h.oks.v, h.oks.c⟩, by rw [h.b, filt0 k2 dE], by rw [putD_snoc, hf, h.e, filt1 k2], by rw [h.v, filt0 k2 dE], by rw [h.c, filt0 k2 dE], h.gb, mem_snoc h.ge (by rw [hf]), h.gv, h.gc, mem_snoc h.kinds (.inr (.inl k2))⟩
  rw [if_neg k2] at hs
  by_cases k3 : r.dKind = 3
  · rw [if_pos k3] at hs
    split at hs
    case isFalse => cases hs
    rename_i hz
    cases hs
    obtain ⟨c1, c2, c3⟩ := voteRd_only hz
    have hf : fV (Ay r.dData).1 = (r, 0) := by
      show A6 3 (Av _) (A8 _) = _
      rw [c1, c2, recOf_is dE hr, ← rec_eq k3]
    exact ⟨⟨h.oks.b, h.oks.e, mem_snoc h.oks.v c3, h.oks.c⟩, by rw [h.b, filt0 k3 dE], by rw [h.e, filt0 k3 dE], by rw [putD_snoc, hf, h.v, filt1 k3], by rw [h.c, filt0 k3 dE], h.gb, h.ge, mem_snoc h.gv (by rw [hf]), h.gc, mem_snoc h.kinds (.inr (.inr (.inl k3)))⟩
  rw [if_neg k3] at hs
  by_cases k4 : r.dKind = 4
  · rw [if_pos k4] at hs
    split at hs
    case isFalse => cases hs
    rename_i hz
    cases hs
    obtain ⟨c1, c2, c3, c4⟩ := cutRd_only hz
    have hf : fC (Bp r.dData).1 = (r, 0) := by
      show A6 4 (cutR _) (DCut.check _) = _
      rw [c1, show cutR (Bp r.dData).1 = r.dData from (if_pos c1).trans c2, recOf_is dE hr, ← rec_eq k4]
    exact ⟨⟨h.oks.b, h.oks.e, h.oks.v, mem_snoc h.oks.c ⟨c3, c4⟩⟩, by rw [h.b, filt0 k4 dE], by rw [h.e, filt0 k4 dE], by rw [h.v, filt0 k4 dE], by rw [putD_snoc, hf, h.c, filt1 k4], h.gb, h.ge, h.gv, mem_snoc h.gc (by rw [hf]), mem_snoc h.kinds (.inr (.inr (.inr k4)))⟩
  rw [if_neg k4] at hs; cases hs
structure Pre4 (Q D : DKept) : Prop where
  b : Q.dBlocks <+: D.dBlocks
  e : Q.dCerts <+: D.dCerts
  v : Q.dVotes <+: D.dVotes
  c : Q.dCuts <+: D.dCuts
theorem Pre4.refl (D : DKept) : Pre4 D D := ⟨List.prefix_rfl, List.prefix_rfl, List.prefix_rfl, List.prefix_rfl⟩
theorem Pre4.trans {A B C : DKept} (h : Pre4 A B) (k : Pre4 B C) : Pre4 A C := ⟨h.b.trans k.b, h.e.trans k.e, h.v.trans k.v, h.c.trans k.c⟩
def DKept.num (D : DKept) : Nat := D.dBlocks.length + D.dCerts.length + D.dVotes.length + D.dCuts.length
theorem keepStep_pre {D D2 : DKept} {r : DRecord} (h : Be D r = some D2) : Pre4 D D2 ∧ D2.num = D.num + 1 := by
  unfold Be at h
  split at h
  · split at h
    · cases h; exact ⟨⟨List.prefix_append _ _, List.prefix_rfl, List.prefix_rfl, List.prefix_rfl⟩, by simp only [DKept.num, List.length_append, List.length_singleton]; omega⟩
    · cases h
  · split at h
    · split at h
      · cases h; exact ⟨⟨List.prefix_rfl, List.prefix_append _ _, List.prefix_rfl, List.prefix_rfl⟩, by simp only [DKept.num, List.length_append, List.length_singleton]; omega⟩
      · cases h
    · split at h
      · split at h
        · cases h; exact ⟨⟨List.prefix_rfl, List.prefix_rfl, List.prefix_append _ _, List.prefix_rfl⟩, by simp only [DKept.num, List.length_append, List.length_singleton]; omega⟩
        · cases h
      · split at h
        · split at h
          · cases h; exact ⟨⟨List.prefix_rfl, List.prefix_rfl, List.prefix_rfl, List.prefix_append _ _⟩, by simp only [DKept.num, List.length_append, List.length_singleton]; omega⟩
          · cases h
        · cases h
theorem fold_pre : ∀ (b : List DRecord) (Q D : DKept), b.foldl (fun o r => o.bind fun D => Be D r) (some Q) = some D → Pre4 Q D ∧ D.num = Q.num + b.length
  | [], Q, D, h => by cases h; exact ⟨Pre4.refl _, rfl⟩
  | r :: l, Q, D, h => by
    rw [List.foldl_cons, Option.bind_some] at h
    cases hs : Be Q r with
    | none => rw [hs, fold_none] at h; cases h
    | some R =>
      rw [hs] at h
      obtain ⟨h1, h2⟩ := fold_pre l R D h
      obtain ⟨h3, h4⟩ := keepStep_pre hs
      exact ⟨h3.trans h1, by rw [h2, h4, List.length_cons]; omega⟩
theorem keepR_pre {a b : List DRecord} {D : DKept} (h : keepR (a ++ b) = some D) : ∃ Q, keepR a = some Q ∧ Pre4 Q D ∧ Q.num = a.length := by
  rw [foldK] at h
  cases hq : keepR a with
  | none => rw [hq, fold_none] at h; cases h
  | some Q =>
    rw [hq] at h
    exact ⟨Q, rfl, (fold_pre b Q D h).1, by have := (fold_pre a dkz Q hq).2; rw [this]; simp [DKept.num, dkz]⟩
theorem ofRecs_fold : ∀ (b pre : List DRecord) (Q D : DKept), (∀ r ∈ b, r.dData.length ≤ 8192) → OfRecs pre Q → b.foldl (fun o r => o.bind fun D => Be D r) (some Q) = some D → OfRecs (pre ++ b) D
  | [], pre, Q, D, _, o, h => by cases h; rw [List.append_nil]; exact o
  | r :: l, pre, Q, D, hr, o, h => by
    rw [List.foldl_cons, Option.bind_some] at h
    cases hs : Be Q r with
    | none => rw [hs, fold_none] at h; cases h
    | some R =>
      rw [hs] at h
      have := ofRecs_fold l (pre ++ [r]) R D (fun x hx => hr x (List.mem_cons_of_mem _ hx)) (ofRecs_step o (hr r List.mem_cons_self) hs) h
      rwa [List.append_assoc] at this
theorem ofRecs (l : List DRecord) (D : DKept) (hr : ∀ r ∈ l, r.dData.length ≤ 8192) (h : keepR l = some D) : OfRecs l D :=
  ofRecs_fold l [] dkz D hr ⟨⟨fun d h => (by cases h), fun d h => (by cases h), fun d h => (by cases h), fun d h => (by cases h)⟩, rfl, rfl, rfl, rfl, fun d h => (by cases h), fun d h => (by cases h), fun d h => (by cases h), fun d h => (by cases h), fun d h => (by cases h)⟩ h
theorem keepRd_some {l : List DRecord} {D : DKept} (h : B2 l = (D, 0)) : keepR l = some D ∧ inOrd D.dCerts = true := by
  unfold B2 at h
  cases hq : keepR l with
  | none => rw [hq] at h; cases h
  | some Q =>
    rw [hq] at h
    simp only at h
    split at h
    · rename_i ho; cases h; exact ⟨rfl, ho⟩
    · cases h
theorem inOrd_pre {a b : List DCert} (h : a <+: b) (ho : inOrd b = true) : inOrd a = true := by
  obtain ⟨t, rfl⟩ := h
  unfold inOrd at ho ⊢
  rw [List.all_eq_true] at ho ⊢
  intro k hk
  rw [List.mem_range] at hk
  have := ho k (List.mem_range.2 (by rw [List.length_append]; omega))
  rw [List.getD_eq_getElem?_getD, List.getElem?_append_left hk, ← List.getD_eq_getElem?_getD] at this
  exact this
theorem keep_prefix {l : List DRecord} {D : DKept} (h : B2 l = (D, 0)) (n : Nat) (hn : n ≤ l.length) : ∃ Q, B2 (l.take n) = (Q, 0) ∧ Pre4 Q D ∧ Q.num = n := by
  obtain ⟨h1, h2⟩ := keepRd_some h
  obtain ⟨Q, q1, q2, q3⟩ := keepR_pre (a := l.take n) (b := l.drop n) (D := D) (by rw [List.take_append_drop]; exact h1)
  exact ⟨Q, keepRd_ok q1 (inOrd_pre q2.e h2), q2, by rw [q3, List.length_take]; omega⟩
theorem fit_check {K : UInt8} {bs : List UInt8} {chk : Int} (h : (A6 K bs chk).2 = 0) : chk = 0 := (recOf_fit h).1
theorem kept_put {l : List DRecord} {D : DKept} (hr : ∀ r ∈ l, r.dData.length ≤ 8192) (h : B2 l = (D, 0)) : PutAll D ∧ D.oks := by
  obtain ⟨h1, h2⟩ := keepRd_some h
  have o := ofRecs l D hr h1
  refine ⟨⟨?_, o.ge, o.gb, o.gc, o.gv⟩, o.oks⟩
  rw [DKept.check, if_pos]
  simp only [DKept.good, Bool.and_eq_true, List.all_eq_true, decide_eq_true_eq]
  exact ⟨fun d hd => fit_check (o.gb d hd), fun d hd => fit_check (o.ge d hd), fun d hd => fit_check (o.gv d hd), fun d hd => fit_check (o.gc d hd), h2⟩
theorem kinds_perm : ∀ (l : List DRecord), (∀ r ∈ l, r.dKind = 1 ∨ r.dKind = 2 ∨ r.dKind = 3 ∨ r.dKind = 4) → (((l.filter (fun r => decide (r.dKind = 2)) ++ l.filter (fun r => decide (r.dKind = 1))) ++ l.filter (fun r => decide (r.dKind = 4))) ++ l.filter (fun r => decide (r.dKind = 3))).Perm l
  | [], _ => List.Perm.refl _
  | r :: l, h => by
    have ih := kinds_perm l fun x hx => h x (List.mem_cons_of_mem _ hx)
    rcases h r List.mem_cons_self with k | k | k | k
    · rw [List.filter_cons_of_neg (by simp [k]), List.filter_cons_of_pos (by simp [k]), List.filter_cons_of_neg (by simp [k]), List.filter_cons_of_neg (by simp [k])]
      exact (((List.perm_middle.append_right _).append_right _).trans (List.Perm.refl _)).trans (List.Perm.cons r ih)
    · rw [List.filter_cons_of_pos (by simp [k]), List.filter_cons_of_neg (by simp [k]), List.filter_cons_of_neg (by simp [k]), List.filter_cons_of_neg (by simp [k])]
      exact List.Perm.cons r ih
    · rw [List.filter_cons_of_neg (by simp [k]), List.filter_cons_of_neg (by simp [k]), List.filter_cons_of_neg (by simp [k]), List.filter_cons_of_pos (by simp [k])]
      exact List.perm_middle.trans (List.Perm.cons r ih)
    · rw [List.filter_cons_of_neg (by simp [k]), List.filter_cons_of_neg (by simp [k]), List.filter_cons_of_pos (by simp [k]), List.filter_cons_of_neg (by simp [k])]
      exact (List.perm_middle.append_right _).trans (List.Perm.cons r ih)
theorem kept_perm {l : List DRecord} {D : DKept} (hr : ∀ r ∈ l, r.dData.length ≤ 8192) (h : B2 l = (D, 0)) : (recsRd D).2 = 0 ∧ (recsRd D).1.Perm l := by
  obtain ⟨h1, h2⟩ := keepRd_some h
  have o := ofRecs l D hr h1
  have hz := put_recs (kept_put hr h).1
  refine ⟨hz, ?_⟩
  rw [recs_list hz, List.nil_append]
  rw [show putD (fun X : DCert => A6 2 (B6 X) (DCert.check X)) D.dCerts = _ from o.e, show putD (fun X : DB => A6 1 (Bm X) (DB.check X)) D.dBlocks = _ from o.b, show putD (fun X : DCut => A6 4 (cutR X) (DCut.check X)) D.dCuts = _ from o.c, show putD (fun X : Vote => A6 3 (Av X) (A8 X)) D.dVotes = _ from o.v]
  exact kinds_perm l o.kinds
theorem recsSz_perm {a b : List DRecord} (h : a.Perm b) : recsSz a = recsSz b := by
  induction h with
  | nil => rfl
  | cons x _ ih => simp only [recsSz, List.map_cons, List.sum_cons] at ih ⊢; omega
  | swap x y l => simp only [recsSz, List.map_cons, List.sum_cons]; omega
  | trans _ _ h1 h2 => exact h1.trans h2

end Go.Proofs.YtdifpjmfabhpiaaGreat
end

section
namespace Go.Proofs.YtdifpjmfabhpiaaGreat
open Go Hw

theorem tmod_lo (a : Int) {n : Nat} (h : 0 < n) : -(n : Int) < a.tmod n ∧ a.tmod n < n := ⟨Int.lt_tmod_of_pos a oM, Int.tmod_lt_of_pos a oM⟩
def pickN (a : Int) (n : Nat) : Nat := if a.tmod n < 0 then (a.tmod n + n).toNat else (a.tmod n).toNat
theorem pickN_lt (a : Int) {n : Nat} (h : 0 < n) : pickN a n < n := by
  have := tmod_lo a h
  unfold pickN
  split <;> omega
theorem pickN_neg {a : Int} {n : Nat} (h : 0 < n) (hc : a.tmod n < 0) : a.tmod n + (n : Int) = ((pickN a n : Nat) : Int) := by
  have := tmod_lo a h
  rw [pickN, if_pos hc]; omega
theorem pickN_pos {a : Int} {n : Nat} (h : 0 < n) (hc : ¬ a.tmod n < 0) : a.tmod n = ((pickN a n : Nat) : Int) := by
  rw [pickN, if_neg hc]; omega
section
variable {C : Cx} {ops : Array Oper} {rest : List (Nat × Oper)} {sl : List (Nat × Value)} {hp : List Blk} {Q : St → Prop} {c d : Nat} {ty : TypeId} {pos : String} {af : Array Edge} {g : Option (Nat × Bool)}
variable {xT yT : TypeId} {x y : Operand} {a b : Int}
theorem Tr.rem_i64t (hg : Ai ops sl g = true) (hk : okD c d C.N = true) (hx : Aj sl x = some (i64 a)) (hy : Aj sl y = some (i64 b)) (hr : 1 ≤ b)
    (k : Tr C ops rest ⟨(d, i64 (a.tmod b)) :: sl, hp⟩ Q) : Tr C ops ((c, ⟨some d, .binOp .rem xT x y yT, ty, pos, af, g⟩) :: rest) ⟨sl, hp⟩ Q :=
  .bin hg hk hx hy (fun w => by simp [binOp, Op.intDiv, show b ≠ 0 by omega]) k
end
theorem seq_take {R D : Type} {cells : R → List Value} {k : Nat} {Is : World → R → D → Prop} {W : World} {s : Sl} {rs : List R} {ds : List D} (h : SeqIs cells k Is W s rs ds) (j : Nat) (hj : j ≤ s.n) : SeqIs cells k Is W ⟨s.p, j, s.c⟩ (rs.take j) (ds.take j) := by
  refine ⟨by rw [List.length_take, h.nr]; exact Nat.min_eq_left hj, by rw [List.length_take, h.nd]; exact Nat.min_eq_left hj, fun i r d h1 h2 => ?_, fun r hr => h.len r (List.mem_of_mem_take hr), Nat.le_trans hj h.cap, ?_, Nat.le_trans hj h.max, h.nil⟩
  · rw [List.getElem?_take] at h1 h2
    split at h1
    · rename_i hi
      rw [if_pos hi] at h2
      exact h.is i r d h1 h2
    · cases h1
  · intro i v hv
    refine h.see i v ?_
    have e : (rs.map cells).flatten = ((rs.take j).map cells).flatten ++ ((rs.drop j).map cells).flatten := by rw [← List.flatten_append, ← List.map_append, List.take_append_drop]
    rw [e, List.getElem?_append_left (List.getElem?_eq_some_iff.1 hv).1]
    exact hv
section
variable {C : Cx} {ops : Array Oper} {rest : List (Nat × Oper)} {sl : List (Nat × Value)} {hp : List Blk} {Q : St → Prop} {c d : Nat} {ty : TypeId} {pos : String} {af : Array Edge} {g : Option (Nat × Bool)}
variable {x hi : Operand} {T E : TypeId} {kl : IntKind} {l : Int}
theorem Tr.sliceHiG {sz : Nat} (s : Sl) (j : Nat) (hg : Ai ops sl g = true) (hk : okD c d C.N = true) (hx : Aj sl x = some s.v) (hl : Aj sl hi = some (.int kl l)) (hj : l = j) (hjn : j ≤ s.c)
    (hu : C.P.underlying T = some (.slice E)) (hs : Sz C.P E sz)
    (k : Tr C ops rest ⟨(d, Sl.v ⟨s.p, j, s.c⟩) :: sl, hp⟩ Q) : Tr C ops ((c, ⟨some d, .slice T x none (some hi) none, ty, pos, af, g⟩) :: rest) ⟨sl, hp⟩ Q :=
  .pv hg hk ⟨by simpa [Known, Op.operands] using known2 hx hl, fun ρ hfi w => by
    have h1 := hfi x (by simp [Op.operands]); rw [hx] at h1
    have h2 := hfi hi (by simp [Op.operands]); rw [hl] at h2
    simp only [Option.some.injEq] at h1 h2
    subst hj
    obtain ⟨p, n, cap⟩ := s
    simp only [Sl.v] at h1 hjn ⊢
    by_cases e : cap = 0
    · subst e
      obtain rfl : j = 0 := by omega
      simp [execOp, Instr.sliceAt, Instr.slice, ← h1, ← h2, run_underlying hu, Instr.sliceBounds, Instr.sliceBound, asIntOf, B5 hs, Addr.add]
    · have e2 : (p.map fun a => a.add 0) = p := by cases p <;> simp [Addr.add]
      simp [execOp, Instr.sliceAt, Instr.slice, ← h1, ← h2, run_underlying hu, Instr.sliceBounds, Instr.sliceBound, asIntOf, B5 hs, e, hjn, e2]⟩ k
end

theorem kit_pickN (g : Int) (n : Nat) (hn : 0 < n) (hn2 : n ≤ 1000000) : Meets Tryz.prog 17 [i64 g, i64 (n : Int)] [] (fun _ => True) (fun v out => v = i64 ((pickN g n : Nat) : Int) ∧ out = []) := by
 intro W hW
 have htm := tmod_lo g hn
 refine Ak Tryz.func17 rfl 16 Tryz.ntmps17 rfl ?_
 refine Sat.seq (Sat.region ?_)
 refine Tr.a rfl rfl rfl ?_
 refine Tr.nil (Aa (Sat.seq (Sat.seq (Sat.region ?_))))
 refine Tr.m rfl rfl rfl ?_
 refine Tr.lss rfl rfl rfl rfl (decide_eq_false oM) ?_
 refine Tr.nil (Aa ?_)
 refine Sat.cond_f rfl (rfl) ?_
 refine Sat.skip (Aa (Sat.seq (Sat.region ?_)))
 refine Tr.m rfl rfl rfl ?_
 refine Tr.m rfl rfl rfl ?_
 refine Tr.rem_i64t rfl rfl rfl rfl oM ?_
 refine Tr.a rfl rfl rfl ?_
 refine Tr.nil (Aa (Sat.seq (Sat.seq (Sat.region ?_))))
 refine Tr.m rfl rfl rfl ?_
 refine Tr.lss rfl rfl rfl rfl rfl ?_
 refine Tr.nil (Aa ?_)
 refine Sat.condP rfl (fun hc1 => ?_) (fun hc1 => ?_)
 ·
  refine Sat.region ?_
  refine Tr.m rfl rfl rfl ?_
  refine Tr.m rfl rfl rfl ?_
  refine Tr.aI rfl rfl rfl rfl oM ?_
  refine Tr.a rfl rfl rfl ?_
  refine Tr.nil (Aa (Sat.seq (Sat.region ?_)))
  refine Tr.m rfl rfl rfl ?_
  refine Tr.a rfl rfl rfl ?_
  refine Tr.nil (Aa (Sat.ret (Am ?_)))
  refine ⟨_, [], Ad rfl rfl, sP, sP, ?_, rfl⟩
  rw [pickN_neg hn hc1]
 ·
  refine Sat.skip (Aa (Sat.seq (Sat.region ?_)))
  refine Tr.m rfl rfl rfl ?_
  refine Tr.a rfl rfl rfl ?_
  refine Tr.nil (Aa (Sat.ret (Am ?_)))
  refine ⟨_, [], Ad rfl rfl, sP, sP, ?_, rfl⟩
  rw [pickN_pos hn hc1]

end Go.Proofs.YtdifpjmfabhpiaaGreat
end

section
namespace Go.Proofs.YtdifpjmfabhpiaaGreat
open Go Hw

theorem light_small2 {D : DKept} (h : D.light 12 = true) : D.small := ⟨fun d hd => by have := (lightk_small h).blocks d hd; omega, fun d hd => by have := (lightk_small h).certs d hd; omega, fun d hd => by have := (lightk_small h).cuts d hd; omega⟩
def Caps (s : Sl) : Prop := s.n ≤ s.c
structure KCaps (X : Kept) : Prop where
  b : Caps X.fBlocks
  e : Caps X.fCerts
  v : Caps X.fVotes
  c : Caps X.fCuts
theorem kept_caps {W : World} {X : Kept} {D : DKept} (h : KeptIs W X D) : KCaps X := by
  obtain ⟨_, hB⟩ := h.fBlocks
  obtain ⟨_, hE⟩ := h.fCerts
  obtain ⟨_, hV⟩ := h.fVotes
  obtain ⟨_, hC⟩ := h.fCuts
  exact ⟨hB.cap, hE.cap, hV.cap, hC.cap⟩
theorem seq_all {R D : Type} {cells : R → List Value} {k : Nat} {Is : World → R → D → Prop} {W : World} {s : Sl} {rs : List R} {ds : List D} {P : D → Prop} (h : SeqIs cells k Is W s rs ds) (hp : ∀ r d, Is W r d → P d) : ∀ d ∈ ds, P d := fun d hd => by
  obtain ⟨i, hi⟩ := List.getElem?_of_mem hd
  have h1 : i < rs.length := by rw [h.nr, ← h.nd]; exact (List.getElem?_eq_some_iff.1 hi).1
  exact hp _ d (h.is i _ d (List.getElem?_eq_getElem h1) hi)
theorem cut_okL {W : World} {C : Cut} {D : DCut} (h : CutIs W C D) : D.okL := ⟨h.fPrev ▸ h.ok.l_fPrev, h.fHeads.row⟩
theorem cert_ok' {W : World} {C : Cert} {D : DCert} (h : CertIs W C D) : D.ok := by
  obtain ⟨_, hv⟩ := h.fVotes
  exact ⟨h.fCut.fPrev ▸ h.fCut.ok.l_fPrev, h.fCut.fHeads.row, seqv_ok hv⟩
theorem kept_oks {W : World} {X : Kept} {D : DKept} (h : KeptIs W X D) : D.oks := by
  obtain ⟨_, hB⟩ := h.fBlocks
  obtain ⟨_, hE⟩ := h.fCerts
  obtain ⟨_, hV⟩ := h.fVotes
  obtain ⟨_, hC⟩ := h.fCuts
  exact ⟨seq_all hB fun r d h => h.dok, seq_all hE fun r d h => cert_ok' h, seqv_ok hV, seq_all hC fun r d h => cut_okL h⟩
theorem readk_know {ds : List DRecord} (v : Value) (out : List Blk) (w : World) (h : KeepRead ds v out) (hl : Lies out w) : ∃ Y : Kept, Y.ok ∧ v = .tuple #[agg Y.cells, i64 (B2 ds).2] ∧ Lens Y (B2 ds).1 ∧ KCaps Y ∧ ∀ W2, Lies out W2 → KeptIs W2 Y (B2 ds).1 := by
  obtain ⟨X, ok, e, hx⟩ := h
  exact ⟨X, ok, e, kept_lens (hx w hl), kept_caps (hx w hl), hx⟩
theorem keepRd_two (ds : List DRecord) : B2 ds = (dkz, 4) ∨ ∃ E, B2 ds = (E, 0) := by
  unfold B2
  split
  · split
    · exact .inr ⟨_, rfl⟩
    · exact .inl rfl
  · exact .inl rfl
theorem keepRd_bad2 {ds : List DRecord} (h : ¬ (B2 ds).2 = 0) : B2 ds = (dkz, 4) := by
  rcases keepRd_two ds with h1 | ⟨E, h1⟩
  · exact h1
  · rw [h1] at h; exact absurd rfl h
theorem keepRd_good2 {ds : List DRecord} (h : (B2 ds).2 = 0) : ∃ E, B2 ds = (E, 0) := by
  rcases keepRd_two ds with h1 | h1
  · rw [h1] at h; cases h
  · exact h1
theorem lightR_of {ds : List DRecord} {n m : Int} (h : lightR ds n m = true) : (ds.length : Int) ≤ n ∧ ∀ d ∈ ds, (d.dData.length : Int) ≤ m := by
  rw [lightR, Bool.and_eq_true] at h
  refine ⟨by have := of_decide_eq_true h.1; omega, fun d hd => ?_⟩
  have := of_decide_eq_true (List.all_eq_true.1 h.2 d hd)
  omega
theorem num_le {E : DKept} {n : Nat} (h : E.num = n) : E.dBlocks.length ≤ n ∧ E.dCerts.length ≤ n ∧ E.dVotes.length ≤ n ∧ E.dCuts.length ≤ n := by
  unfold DKept.num at h; omega
theorem keep_num {ds : List DRecord} {E : DKept} (h : B2 ds = (E, 0)) : E.num = ds.length := by
  obtain ⟨h1, _⟩ := keepRd_some h
  have := (fold_pre ds dkz E h1).2
  rw [this]; simp [DKept.num, dkz]
theorem pre_take {α : Type} {a b : List α} (h : a <+: b) : b.take a.length = a := (List.prefix_iff_eq_take.1 h).symm
theorem rec_of_small {D : DKept} (h : (recsRd D).2 = 0) : ∀ r ∈ (recsRd D).1, r.dData.length ≤ 90000 := fun r hr => by
  rw [recs_list h] at hr
  simp only [List.nil_append, List.mem_append] at hr
  have hs : ∀ (K : UInt8) (bs : List UInt8) (chk : Int), (A6 K bs chk).1.dData.length ≤ 90000 := fun K bs chk => by
    unfold A6
    split
    · split
      · rename_i h
        unfold DRecord.check at h
        split at h
        · cases h
        · rename_i h3; simp only [not_or] at h3; dsimp only at h3 ⊢; omega
      · exact Nat.zero_le _
    · exact Nat.zero_le _
  rcases hr with ((hr | hr) | hr) | hr <;> (obtain ⟨d, _, rfl⟩ := List.mem_map.1 hr; exact hs _ _ _)
theorem recs_len2 {D : DKept} (h : (recsRd D).2 = 0) : (recsRd D).1.length = D.dCerts.length + D.dBlocks.length + D.dCuts.length + D.dVotes.length := by
  rw [recs_list h]; simp [putD]; omega
structure SmallK (E : DKept) : Prop where
  b : ∀ d ∈ E.dBlocks, d.ls.length ≤ 1000000
  e : ∀ d ∈ E.dCerts, d.dCut.dHeads.length ≤ 1000000
  c : ∀ d ∈ E.dCuts, d.dHeads.length ≤ 1000000
theorem SmallK.small {E : DKept} (h : SmallK E) : E.small := ⟨h.b, h.e, h.c⟩
theorem SmallK.pre {Q E : DKept} (h : SmallK E) (p : Pre4 Q E) : SmallK Q := ⟨fun d hd => h.b d (p.b.subset hd), fun d hd => h.e d (p.e.subset hd), fun d hd => h.c d (p.c.subset hd)⟩
theorem kept_smallK {ds : List DRecord} {E : DKept} (hr : ∀ r ∈ ds, r.dData.length ≤ 8192) (h : B2 ds = (E, 0)) : SmallK E := by
  have p := (kept_put hr h).1
  refine ⟨fun d hd => ?_, fun d hd => ?_, fun d hd => ?_⟩
  · have := d.head_small (recOf_fit (p.b d hd)).1; omega
  · have := d.dCut.small (DCert.facts (recOf_fit (p.e d hd)).1).1; omega
  · have := d.small (recOf_fit (p.c d hd)).1; omega
theorem at_take {R D : Type} {cells : R → List Value} {k : Nat} {Is : World → R → D → Prop} {W : World} {s : Sl} {ds q : List D} {n : Nat} (h : ∃ rs, SeqIs cells k Is W s rs ds) (hp : q <+: ds) (hn : q.length = n) : ∃ rs, SeqIs cells k Is W ⟨s.p, n, s.c⟩ rs q := by
  obtain ⟨rs, hs⟩ := h
  have hle := hp.length_le
  have := seq_take hs n (by rw [← hs.nd]; omega)
  rw [← hn, pre_take hp] at this
  subst hn
  exact ⟨_, this⟩

theorem law_keepback (X : Kept) (D : DKept) (sl : Sl) (ds : List DRecord) (g : Int) : Meets Tryz.prog 3 [agg X.cells, sl.v, i64 g] [] (fun W => KeptIs W X D ∧ RecordsAt W sl ds) (fun v out => v = .bool true ∧ out = []) := by
 intro W hW
 have hX := hW.1.ok
 obtain ⟨l1, l2, l3, l4⟩ := kept_lens hW.1
 have hoks := kept_oks hW.1
 obtain ⟨rsl, hsl⟩ := hW.2
 have hsn := hsl.nd
 have hsc := hsl.cap
 refine Ak Tryz.func3 rfl 213 Tryz.ntmps3 rfl ?_
 refine Sat.seq (Sat.region ?_)
 refine Tr.boxA rfl rfl ?_
 intro n3 hn3 hf3
 refine Tr.a rfl rfl rfl ?_
 refine Tr.nil (Aa (Sat.seq (Sat.seq (Sat.region ?_))))
 refine Tr.cV rfl rfl rfl rfl Body8 (law26_lives) tV ?_
 refine Tr.not rfl rfl rfl ?_
 refine Tr.nil (Aa ?_)
 refine Sat.cond_f rfl (rfl) ?_
 refine Sat.skip (Aa (Sat.seq (Sat.seq (Sat.region ?_))))
 refine Tr.lA rfl rfl rfl Y27 rfl Sz27 mM (Kept.length (by first | exact oK  | exact hX | exact ok30 | exact ok38 | exact ok52 | exact ok83 | exact ok96 | exact Kept.zero_ok)) ?_
 refine Tr.callB rfl rfl rfl rfl Body9 (light_kept X D 12) (fun w h => hW.1.ext h rfl) (fun hs3_10 => ?_) (fun hs3_10 => ?_)
 ·
  first | have hs3_1 := of_decide_eq_true hs3_10 | have hs3_1 := of_decide_eq_false hs3_10 | have hs3_1 := Bs hs3_10 | have hs3_1 := Bt hs3_10 | have hs3_1 := hs3_10
  refine Tr.not rfl rfl rfl ?_
  refine Tr.m rfl rfl rfl ?_
  refine Tr.m rfl rfl rfl ?_
  refine Tr.cV rfl rfl rfl rfl Body10 (light_records sl ds 12 4000) (fun w h => Records_ext h rfl hW.2) ?_
  refine Tr.not rfl rfl rfl ?_
  refine Tr.pick rfl rfl rfl rfl rfl rfl ?_
  refine Tr.nil (Aa ?_)
  refine Sat.cond rfl (fun hc1 => ?_) (fun hc1 => ?_)
  ·
   skip
   refine Sat.seq (Sat.region ?_)
   refine Tr.a rfl rfl rfl ?_
   refine Tr.nil (Aa (Sat.ret (Ao (Am ?_))))
   refine ⟨_, [], Ad rfl rfl, sP, sP, ?_, rfl⟩
   rfl
  ·
   have hs3_5 : lightR ds 12 4000 = true := by simpa using hc1
   refine Sat.skip (Aa (Sat.seq (Sat.region ?_)))
   refine Tr.lA rfl rfl rfl Y27 rfl Sz27 mM (Kept.length (by first | exact oK  | exact hX | exact ok30 | exact ok38 | exact ok52 | exact ok83 | exact ok96 | exact Kept.zero_ok)) ?_
   refine Tr.call4 rfl rfl rfl rfl rfl Body12 (meets_know (kit_own_kept X D hs3_1) own_know) (fun w h => hW.1.ext h rfl) ?_
   rintro v30 out30 ⟨X30, ok30, rfl, l30, h30⟩
   have hsm := lightk_small hs3_1
   have g1 := hsm.nB
   have g2 := hsm.nE
   have g3 := hsm.nV
   have g4 := hsm.nC
   obtain ⟨r1, r2⟩ := lightR_of hs3_5
   refine Tr.call4 rfl rfl rfl rfl rfl Body11 (keep_records X30 D (by rw [← l30.1]; omega) (by rw [← l30.2.1]; omega) (by rw [← l30.2.2.1]; omega) (by rw [← l30.2.2.2]; omega)) (fun w h => h30 w (Lies.of h iN)) ?_
   rintro v31 out31 ⟨s31, rs31, rfl, n31, h31⟩
   refine Tr.m rfl rfl rfl ?_
   refine Tr.eX rfl rfl rfl rfl ?_
   refine Tr.eX rfl rfl rfl rfl ?_
   refine Tr.a rfl rfl rfl ?_
   refine Tr.a rfl rfl rfl ?_
   refine Tr.nil (Aa ?_)
   refine Sat.join (ι := Unit) (fun u0 => ⟨[(1, sl.v), (2, i64 g), (6, .bool false)], []⟩) (fun u0 => True) ?_ ?_
   ·
    refine Sat.seq (Sat.region ?_)
    refine Tr.m rfl rfl rfl ?_
    refine Tr.eqi rfl rfl rfl rfl rfl ?_
    refine Tr.nil (Aa ?_)
    first
     | refine Sat.condP rfl (fun hc2 => ?_) (fun hc2 => ?_)
     | refine Sat.condNP rfl (fun hc2 => ?_) (fun hc2 => ?_)
     | refine Sat.cond rfl (fun hc2 => ?_) (fun hc2 => ?_)
    ·
     have hz31 : (recsRd D).2 = 0 := hc2
     refine Sat.seq (Sat.region ?_)
     refine Tr.m rfl rfl rfl ?_
     refine Tr.call4 rfl rfl rfl rfl rfl Body13 (meets_know (keep_read s31 (recsRd D).1 (by rw [n31, recs_len2 hz31]; omega) (rec_of_small hz31)) readk_know) (fun w h => ⟨_, h31 w (Lies.of h iN)⟩) ?_
     rintro v38 out38 ⟨X38, ok38, rfl, l38, c38, h38⟩
     rw [keep_back hz31 hoks] at l38 h38 ⊢
     dsimp only at l38 h38
     refine Tr.m rfl rfl rfl ?_
     refine Tr.eX rfl rfl rfl rfl ?_
     refine Tr.eX rfl rfl rfl rfl ?_
     refine Tr.alloc (cs := Kept.zero.cells) rfl Kept.zr rfl ?_
     intro n9 hn9 hf9
     refine Tr.sA rfl rfl rfl rfl (Kept.isCell (by first | exact oK  | exact hX | exact ok30 | exact ok38 | exact ok52 | exact ok83 | exact ok96 | exact Kept.zero_ok)) Sz27 (Kept.length (by first | exact oK  | exact hX | exact ok30 | exact ok38 | exact ok52 | exact ok83 | exact ok96 | exact Kept.zero_ok)) mM (Kept.length (by first | exact oK  | exact hX | exact ok30 | exact ok38 | exact ok52 | exact ok83 | exact ok96 | exact Kept.zero_ok)) uU ?_
     refine Tr.a rfl rfl rfl ?_
     refine Tr.nil (Aa (Sat.seq (Sat.region ?_)))
     refine Tr.m rfl rfl rfl ?_
     refine Tr.nei rfl rfl rfl rfl (show (!decide _) = false from congrArg not (decide_eq_true (by rfl))) ?_
     refine Tr.m rfl rfl rfl ?_
     refine Tr.lA rfl rfl rfl Y27 rfl Sz27 mM (Kept.length (by first | exact oK  | exact hX | exact ok30 | exact ok38 | exact ok52 | exact ok83 | exact ok96 | exact Kept.zero_ok)) ?_
     refine Tr.lA rfl rfl rfl Y27 rfl Sz27 mM (Kept.length (by first | exact oK  | exact hX | exact ok30 | exact ok38 | exact ok52 | exact ok83 | exact ok96 | exact Kept.zero_ok)) ?_
     refine Tr.cV rfl rfl rfl rfl Body14 (kit_kept_same X38 X D (light_small2 hs3_1)) (fun w h => ⟨h38 w (Lies.of h iN), hW.1.ext h rfl⟩) ?_
     refine Tr.not rfl rfl rfl ?_
     refine Tr.pick rfl rfl rfl rfl rfl rfl ?_
     refine Tr.nil (Aa ?_)
     refine Sat.cond_f rfl (rfl) ?_
     refine Sat.skip (Aa ?_)
     exact ⟨(), trivial, Ah (wk1 rfl (wk1 rfl (wk1 rfl wk0))) Ag⟩
    ·
     refine Sat.skip (Aa ?_)
     exact ⟨(), trivial, Ah (wk1 rfl (wk1 rfl (wk1 rfl wk0))) Ag⟩
   ·
    intro u0 hj
    skip
    refine Sat.seq (Sat.region ?_)
    refine Tr.m rfl rfl rfl ?_
    refine Tr.call4 rfl rfl rfl rfl rfl Body15 (kit_own_records sl ds oM (fun d hd => by have := r2 d hd; omega)) (fun w h => Records_ext h rfl hW.2) ?_
    rintro v51 out51 ⟨s51, b51, o51, rs51, rfl, rfl, q51⟩
    have n51 := q51.acc.num
    simp only [List.append_assoc]
    refine Tr.call4 rfl rfl rfl rfl rfl Body13 (meets_know (keep_read s51 ds oM (fun d hd => by have := r2 d hd; omega)) readk_know) (fun w h => ⟨_, q51.seq (Lies.of h iN) (Lies.of h iN) oM⟩) ?_
    rintro v52 out52 ⟨X52, ok52, rfl, l52, c52, h52⟩
    refine Tr.m rfl rfl rfl ?_
    refine Tr.eX rfl rfl rfl rfl ?_
    refine Tr.eX rfl rfl rfl rfl ?_
    refine Tr.alloc (cs := Kept.zero.cells) rfl Kept.zr rfl ?_
    intro n11 hn11 hf11
    refine Tr.sA rfl rfl rfl rfl (Kept.isCell (by first | exact oK  | exact hX | exact ok30 | exact ok38 | exact ok52 | exact ok83 | exact ok96 | exact Kept.zero_ok)) Sz27 (Kept.length (by first | exact oK  | exact hX | exact ok30 | exact ok38 | exact ok52 | exact ok83 | exact ok96 | exact Kept.zero_ok)) mM (Kept.length (by first | exact oK  | exact hX | exact ok30 | exact ok38 | exact ok52 | exact ok83 | exact ok96 | exact Kept.zero_ok)) uU ?_
    refine Tr.a rfl rfl rfl ?_
    refine Tr.nil (Aa (Sat.seq (Sat.seq (Sat.region ?_))))
    refine Tr.m rfl rfl rfl ?_
    refine Tr.nei rfl rfl rfl rfl rfl ?_
    refine Tr.nil (Aa ?_)
    first
     | refine Sat.condP rfl (fun hc4 => ?_) (fun hc4 => ?_)
     | refine Sat.condNP rfl (fun hc4 => ?_) (fun hc4 => ?_)
     | refine Sat.cond rfl (fun hc4 => ?_) (fun hc4 => ?_)
    ·
     have hbad := keepRd_bad2 hc4
     refine Sat.seq (Sat.region ?_)
     refine Tr.m rfl rfl rfl ?_
     refine Tr.eqi rfl rfl rfl rfl (decide_eq_true (by rw [hbad])) ?_
     refine Tr.m rfl rfl rfl ?_
     refine Tr.lA rfl rfl rfl Y27 rfl Sz27 mM (Kept.length (by first | exact oK  | exact hX | exact ok30 | exact ok38 | exact ok52 | exact ok83 | exact ok96 | exact Kept.zero_ok)) ?_
     refine Tr.build (cs := Kept.zero.cells) rfl rfl rfl (fun w => by kernel_rfl) ?_
     refine Tr.cV rfl rfl rfl rfl Body14 (kit_kept_same X52 Kept.zero dkz dkz_small) (fun w h => ⟨by have := h52 w (Lies.of h iN); rwa [hbad] at this, keptz_is w⟩) ?_
     refine Tr.pick rfl rfl rfl rfl rfl rfl ?_
     refine Tr.a rfl rfl rfl ?_
     refine Tr.nil (Aa (Sat.ret (Ao (Am ?_))))
     refine ⟨_, [], Ad rfl rfl, sP, sP, ?_, rfl⟩
     rfl
    ·
     obtain ⟨E, hE⟩ := keepRd_good2 hc4
     rw [hE] at l52 h52
     dsimp only at l52 h52
     have hd8 : ∀ d ∈ ds, d.dData.length ≤ 8192 := fun d hd => by have := r2 d hd; omega
     have hpo := kept_put hd8 hE
     obtain ⟨hze, hperm⟩ := kept_perm hd8 hE
     have hsk := kept_smallK hd8 hE
     have hnum := keep_num hE
     obtain ⟨e1, e2, e3, e4⟩ := num_le hnum
     refine Sat.skip (Aa (Sat.seq (Sat.seq (Sat.region ?_))))
     refine Tr.lA rfl rfl rfl Y27 rfl Sz27 mM (Kept.length (by first | exact oK  | exact hX | exact ok30 | exact ok38 | exact ok52 | exact ok83 | exact ok96 | exact Kept.zero_ok)) ?_
     refine Tr.cV rfl rfl rfl rfl Body16 (keep_check X52 E) (fun w h => h52 w (Lies.of h iN)) ?_
     refine Tr.nei rfl rfl rfl rfl (show (!decide _) = false from congrArg not (decide_eq_true (by rw [hpo.1.chk]))) ?_
     refine Tr.nil (Aa ?_)
     refine Sat.cond_f rfl (rfl) ?_
     refine Sat.skip (Aa (Sat.seq (Sat.region ?_)))
     refine Tr.lA rfl rfl rfl Y27 rfl Sz27 mM (Kept.length (by first | exact oK  | exact hX | exact ok30 | exact ok38 | exact ok52 | exact ok83 | exact ok96 | exact Kept.zero_ok)) ?_
     refine Tr.call4 rfl rfl rfl rfl rfl Body11 (keep_records X52 E (by rw [← l52.1]; omega) (by rw [← l52.2.1]; omega) (by rw [← l52.2.2.1]; omega) (by rw [← l52.2.2.2]; omega)) (fun w h => h52 w (Lies.of h iN)) ?_
     rintro v69 out69 ⟨s69, rs69, rfl, n69, h69⟩
     rw [hze] at ⊢
     refine Tr.m rfl rfl rfl ?_
     refine Tr.eX rfl rfl rfl rfl ?_
     refine Tr.eX rfl rfl rfl rfl ?_
     refine Tr.a rfl rfl rfl ?_
     refine Tr.a rfl rfl rfl ?_
     refine Tr.nil (Aa (Sat.seq (Sat.seq (Sat.region ?_))))
     refine Tr.m rfl rfl rfl ?_
     refine Tr.nei rfl rfl rfl rfl (show (!decide _) = false from congrArg not (decide_eq_true (by rfl))) ?_
     refine Tr.m rfl rfl rfl ?_
     refine Tr.m rfl rfl rfl ?_
     refine Tr.lenSl rfl rfl rfl Y28 ?_
     refine Tr.m rfl rfl rfl ?_
     refine Tr.lenSl rfl rfl rfl Y28 ?_
     refine Tr.nei rfl rfl rfl rfl (show (!decide _) = false from congrArg not (decide_eq_true (by have := hperm.length_eq; omega))) ?_
     refine Tr.pick rfl rfl rfl rfl rfl rfl ?_
     refine Tr.nil (Aa ?_)
     refine Sat.cond_f rfl (rfl) ?_
     refine Sat.skip (Aa (Sat.seq (Sat.region ?_)))
     refine Tr.m rfl rfl rfl ?_
     refine Tr.call4 rfl rfl rfl rfl rfl Body13 (meets_know (keep_read s69 (recsRd E).1 (by rw [n69, recs_len2 hze]; omega) (rec_of_small hze)) readk_know) (fun w h => ⟨_, h69 w (Lies.of h iN)⟩) ?_
     rintro v83 out83 ⟨X83, ok83, rfl, l83, c83, h83⟩
     rw [keep_back hze hpo.2] at l83 h83 ⊢
     dsimp only at l83 h83
     refine Tr.m rfl rfl rfl ?_
     refine Tr.eX rfl rfl rfl rfl ?_
     refine Tr.eX rfl rfl rfl rfl ?_
     refine Tr.alloc (cs := Kept.zero.cells) rfl Kept.zr rfl ?_
     intro n14 hn14 hf14
     refine Tr.sA rfl rfl rfl rfl (Kept.isCell (by first | exact oK  | exact hX | exact ok30 | exact ok38 | exact ok52 | exact ok83 | exact ok96 | exact Kept.zero_ok)) Sz27 (Kept.length (by first | exact oK  | exact hX | exact ok30 | exact ok38 | exact ok52 | exact ok83 | exact ok96 | exact Kept.zero_ok)) mM (Kept.length (by first | exact oK  | exact hX | exact ok30 | exact ok38 | exact ok52 | exact ok83 | exact ok96 | exact Kept.zero_ok)) uU ?_
     refine Tr.a rfl rfl rfl ?_
     refine Tr.nil (Aa (Sat.seq (Sat.region ?_)))
     refine Tr.m rfl rfl rfl ?_
     refine Tr.m rfl rfl rfl ?_
     refine Tr.lenSl rfl rfl rfl Y28 ?_
     refine Tr.aI rfl rfl rfl rfl oM ?_
     have hpk : pickN g (sl.n + 1) < sl.n + 1 := pickN_lt g oM
     refine Tr.cV rfl rfl rfl rfl Body17 (kit_pickN g (sl.n + 1) oM oM) tV ?_
     refine Tr.a rfl rfl rfl ?_
     refine Tr.nil (Aa (Sat.seq (Sat.region ?_)))
     refine Tr.m rfl rfl rfl ?_
     refine Tr.m rfl rfl rfl ?_
     refine Tr.sliceHiG sl (pickN g (sl.n + 1)) rfl rfl rfl rfl rfl oM Y28 Bo ?_
     refine Tr.call4 rfl rfl rfl rfl rfl Body15 (kit_own_records ⟨sl.p, pickN g (sl.n + 1), sl.c⟩ (ds.take (pickN g (sl.n + 1))) (by dsimp only; omega) (fun d hd => by have := r2 d (List.mem_of_mem_take hd); omega)) (fun w h => Records_ext h rfl ⟨_, seq_take hsl _ oM⟩) ?_
     rintro v95 out95 ⟨s95, b95, o95, rs95, rfl, rfl, q95⟩
     have n95 := q95.acc.num
     dsimp only at q95 n95
     simp only [List.append_assoc]
     refine Tr.call4 rfl rfl rfl rfl rfl Body13 (meets_know (keep_read s95 (ds.take (pickN g (sl.n + 1))) oM (fun d hd => by have := r2 d (List.mem_of_mem_take hd); omega)) readk_know) (fun w h => ⟨_, q95.seq (Lies.of h iN) (Lies.of h iN) oM⟩) ?_
     rintro v96 out96 ⟨X96, ok96, rfl, l96, c96, h96⟩
     obtain ⟨Q, hQ, hpre, hqn⟩ := keep_prefix hE (pickN g (sl.n + 1)) oM
     rw [hQ] at l96 h96 ⊢
     dsimp only at l96 h96
     have hskQ := hsk.pre hpre
     have u1 := hpre.b.length_le
     have u2 := hpre.e.length_le
     have u3 := hpre.v.length_le
     have u4 := hpre.c.length_le
     obtain ⟨x1, x2, x3, x4⟩ := l96
     have l96 : Lens X96 Q := ⟨x1, x2, x3, x4⟩
     obtain ⟨y1, y2, y3, y4⟩ := l52
     unfold DKept.num at hqn
     refine Tr.m rfl rfl rfl ?_
     refine Tr.eX rfl rfl rfl rfl ?_
     refine Tr.eX rfl rfl rfl rfl ?_
     refine Tr.alloc (cs := Kept.zero.cells) rfl Kept.zr rfl ?_
     intro n16 hn16 hf16
     refine Tr.sA rfl rfl rfl rfl (Kept.isCell (by first | exact oK  | exact hX | exact ok30 | exact ok38 | exact ok52 | exact ok83 | exact ok96 | exact Kept.zero_ok)) Sz27 (Kept.length (by first | exact oK  | exact hX | exact ok30 | exact ok38 | exact ok52 | exact ok83 | exact ok96 | exact Kept.zero_ok)) mM (Kept.length (by first | exact oK  | exact hX | exact ok30 | exact ok38 | exact ok52 | exact ok83 | exact ok96 | exact Kept.zero_ok)) uU ?_
     refine Tr.a rfl rfl rfl ?_
     refine Tr.nil (Aa (Sat.seq (Sat.seq (Sat.region ?_))))
     refine Tr.m rfl rfl rfl ?_
     refine Tr.nei rfl rfl rfl rfl (show (!decide _) = false from congrArg not (decide_eq_true (by rfl))) ?_
     refine Tr.m rfl rfl rfl ?_
     refine Tr.m rfl rfl rfl ?_
     refine Tr.nei rfl rfl rfl rfl (show (!decide _) = false from congrArg not (decide_eq_true (by rfl))) ?_
     refine Tr.pick rfl rfl rfl rfl rfl rfl ?_
     refine Tr.m rfl rfl rfl ?_
     refine Tr.lA rfl rfl rfl Y27 rfl Sz27 mM (Kept.length (by first | exact oK  | exact hX | exact ok30 | exact ok38 | exact ok52 | exact ok83 | exact ok96 | exact Kept.zero_ok)) ?_
     refine Tr.lA rfl rfl rfl Y27 rfl Sz27 mM (Kept.length (by first | exact oK  | exact hX | exact ok30 | exact ok38 | exact ok52 | exact ok83 | exact ok96 | exact Kept.zero_ok)) ?_
     refine Tr.cV rfl rfl rfl rfl Body14 (kit_kept_same X83 X52 E hsk.small) (fun w h => ⟨h83 w (Lies.of h iN), h52 w (Lies.of h iN)⟩) ?_
     refine Tr.not rfl rfl rfl ?_
     refine Tr.pick rfl rfl rfl rfl rfl rfl ?_
     refine Tr.m rfl rfl rfl ?_
     refine Tr.m rfl rfl rfl ?_
     refine Tr.cV rfl rfl rfl rfl Body18 (keep_size s69 (recsRd E).1 (by rw [n69, recs_len2 hze]; omega) (fun r hr => by have := rec_of_small hze r hr; omega)) (fun w h => ⟨rs69, h69 w (Lies.of h iN)⟩) ?_
     refine Tr.m rfl rfl rfl ?_
     refine Tr.cV rfl rfl rfl rfl Body18 (keep_size sl ds oM (fun d hd => by have := r2 d hd; omega)) (fun w h => Records_ext h rfl hW.2) ?_
     refine Tr.nei rfl rfl rfl rfl (show (!decide _) = false from congrArg not (decide_eq_true (by rw [recsSz_perm hperm]))) ?_
     refine Tr.pick rfl rfl rfl rfl rfl rfl ?_
     refine Tr.nil (Aa ?_)
     refine Sat.cond_f rfl (rfl) ?_
     refine Sat.skip (Aa (Sat.seq (Sat.seq (Sat.region ?_))))
     refine Tr.fld rfl rfl rfl Y27 rfl Sz22 dE _ rfl ?_
     refine Tr.load1 rfl rfl rfl Y22 rfl mM (by first | exact Kept.get_fBlocks (by first | exact oK  | exact hX | exact ok30 | exact ok38 | exact ok52 | exact ok83 | exact ok96 | exact Kept.zero_ok) | exact vL) ?_
     refine Tr.lenSl rfl rfl rfl Y22 ?_
     refine Tr.fld rfl rfl rfl Y27 rfl Sz22 dE _ rfl ?_
     refine Tr.load1 rfl rfl rfl Y22 rfl mM (by first | exact Kept.get_fBlocks (by first | exact oK  | exact hX | exact ok30 | exact ok38 | exact ok52 | exact ok83 | exact ok96 | exact Kept.zero_ok) | exact vL) ?_
     refine Tr.lenSl rfl rfl rfl Y22 ?_
     refine Tr.gtr rfl rfl rfl rfl (decide_eq_false oM) ?_
     refine Tr.m rfl rfl rfl ?_
     refine Tr.fld rfl rfl rfl Y27 rfl Sz23 dE _ rfl ?_
     refine Tr.load1 rfl rfl rfl Y23 rfl mM (by first | exact Kept.get_fCerts (by first | exact oK  | exact hX | exact ok30 | exact ok38 | exact ok52 | exact ok83 | exact ok96 | exact Kept.zero_ok) | exact vL) ?_
     refine Tr.lenSl rfl rfl rfl Y23 ?_
     refine Tr.fld rfl rfl rfl Y27 rfl Sz23 dE _ rfl ?_
     refine Tr.load1 rfl rfl rfl Y23 rfl mM (by first | exact Kept.get_fCerts (by first | exact oK  | exact hX | exact ok30 | exact ok38 | exact ok52 | exact ok83 | exact ok96 | exact Kept.zero_ok) | exact vL) ?_
     refine Tr.lenSl rfl rfl rfl Y23 ?_
     refine Tr.gtr rfl rfl rfl rfl (decide_eq_false oM) ?_
     refine Tr.pick rfl rfl rfl rfl rfl rfl ?_
     refine Tr.m rfl rfl rfl ?_
     refine Tr.fld rfl rfl rfl Y27 rfl Sz24 dE _ rfl ?_
     refine Tr.load1 rfl rfl rfl Y24 rfl mM (by first | exact Kept.get_fVotes (by first | exact oK  | exact hX | exact ok30 | exact ok38 | exact ok52 | exact ok83 | exact ok96 | exact Kept.zero_ok) | exact vL) ?_
     refine Tr.lenSl rfl rfl rfl Y24 ?_
     refine Tr.fld rfl rfl rfl Y27 rfl Sz24 dE _ rfl ?_
     refine Tr.load1 rfl rfl rfl Y24 rfl mM (by first | exact Kept.get_fVotes (by first | exact oK  | exact hX | exact ok30 | exact ok38 | exact ok52 | exact ok83 | exact ok96 | exact Kept.zero_ok) | exact vL) ?_
     refine Tr.lenSl rfl rfl rfl Y24 ?_
     refine Tr.gtr rfl rfl rfl rfl (decide_eq_false oM) ?_
     refine Tr.pick rfl rfl rfl rfl rfl rfl ?_
     refine Tr.m rfl rfl rfl ?_
     refine Tr.fld rfl rfl rfl Y27 rfl Sz25 dE _ rfl ?_
     refine Tr.load1 rfl rfl rfl Y25 rfl mM (by first | exact Kept.get_fCuts (by first | exact oK  | exact hX | exact ok30 | exact ok38 | exact ok52 | exact ok83 | exact ok96 | exact Kept.zero_ok) | exact vL) ?_
     refine Tr.lenSl rfl rfl rfl Y25 ?_
     refine Tr.fld rfl rfl rfl Y27 rfl Sz25 dE _ rfl ?_
     refine Tr.load1 rfl rfl rfl Y25 rfl mM (by first | exact Kept.get_fCuts (by first | exact oK  | exact hX | exact ok30 | exact ok38 | exact ok52 | exact ok83 | exact ok96 | exact Kept.zero_ok) | exact vL) ?_
     refine Tr.lenSl rfl rfl rfl Y25 ?_
     refine Tr.gtr rfl rfl rfl rfl (decide_eq_false oM) ?_
     refine Tr.pick rfl rfl rfl rfl rfl rfl ?_
     refine Tr.nil (Aa ?_)
     refine Sat.cond_f rfl (rfl) ?_
     refine Sat.skip (Aa (Sat.seq ?_))
     refine Sat.draw [(0, 0), (1, 1), (0, 2), (0, 3), (1, 4), (0, 5), (0, 6), (0, 7), (1, 8), (0, 9), (0, 10), (0, 11), (1, 12), (0, 13), (0, 14), (0, 15), (0, 16), (0, 17), (0, 18), (1, 19), (0, 20), (1, 21), (0, 22), (1, 23), (0, 24), (0, 25), (3, 26), (0, 27), (0, 28), (0, 29), (1, 30), (0, 31), (1, 32), (0, 33), (1, 34), (0, 35), (0, 36), (3, 37), (0, 38), (0, 39), (0, 40), (1, 41), (0, 42), (1, 43), (0, 44), (1, 45), (0, 46), (0, 47), (3, 48), (0, 49), (0, 50), (0, 51), (1, 52), (0, 53), (1, 54), (0, 55), (1, 56), (0, 57), (0, 58), (3, 59), (0, 60), (0, 61)] Bv zK ?_
     refine Tr.fld rfl rfl rfl Y27 rfl Sz22 dE _ rfl ?_
     refine Tr.load1 rfl rfl rfl Y22 rfl mM (by first | exact Kept.get_fBlocks (by first | exact oK  | exact hX | exact ok30 | exact ok38 | exact ok52 | exact ok83 | exact ok96 | exact Kept.zero_ok) | exact vL) ?_
     refine Tr.lenSl rfl rfl rfl Y22 ?_
     refine Tr.fld rfl rfl rfl Y27 rfl Sz23 dE _ rfl ?_
     refine Tr.load1 rfl rfl rfl Y23 rfl mM (by first | exact Kept.get_fCerts (by first | exact oK  | exact hX | exact ok30 | exact ok38 | exact ok52 | exact ok83 | exact ok96 | exact Kept.zero_ok) | exact vL) ?_
     refine Tr.lenSl rfl rfl rfl Y23 ?_
     refine Tr.aI rfl rfl rfl rfl oM ?_
     refine Tr.fld rfl rfl rfl Y27 rfl Sz24 dE _ rfl ?_
     refine Tr.load1 rfl rfl rfl Y24 rfl mM (by first | exact Kept.get_fVotes (by first | exact oK  | exact hX | exact ok30 | exact ok38 | exact ok52 | exact ok83 | exact ok96 | exact Kept.zero_ok) | exact vL) ?_
     refine Tr.lenSl rfl rfl rfl Y24 ?_
     refine Tr.aI rfl rfl rfl rfl oM ?_
     refine Tr.fld rfl rfl rfl Y27 rfl Sz25 dE _ rfl ?_
     refine Tr.load1 rfl rfl rfl Y25 rfl mM (by first | exact Kept.get_fCuts (by first | exact oK  | exact hX | exact ok30 | exact ok38 | exact ok52 | exact ok83 | exact ok96 | exact Kept.zero_ok) | exact vL) ?_
     refine Tr.lenSl rfl rfl rfl Y25 ?_
     refine Tr.aI rfl rfl rfl rfl oM ?_
     refine Tr.m rfl rfl rfl ?_
     refine Tr.eqi rfl rfl rfl rfl (decide_eq_true oM) ?_
     refine Tr.m rfl rfl rfl ?_
     refine Tr.fld rfl rfl rfl Y27 rfl Sz22 dE _ rfl ?_
     refine Tr.load1 rfl rfl rfl Y22 rfl mM (by first | exact Kept.get_fBlocks (by first | exact oK  | exact hX | exact ok30 | exact ok38 | exact ok52 | exact ok83 | exact ok96 | exact Kept.zero_ok) | exact vL) ?_
     refine Tr.fld rfl rfl rfl Y27 rfl Sz22 dE _ rfl ?_
     refine Tr.load1 rfl rfl rfl Y22 rfl mM (by first | exact Kept.get_fBlocks (by first | exact oK  | exact hX | exact ok30 | exact ok38 | exact ok52 | exact ok83 | exact ok96 | exact Kept.zero_ok) | exact vL) ?_
     refine Tr.fld rfl rfl rfl Y27 rfl Sz22 dE _ rfl ?_
     refine Tr.load1 rfl rfl rfl Y22 rfl mM (by first | exact Kept.get_fBlocks (by first | exact oK  | exact hX | exact ok30 | exact ok38 | exact ok52 | exact ok83 | exact ok96 | exact Kept.zero_ok) | exact vL) ?_
     refine Tr.lenSl rfl rfl rfl Y22 ?_
     refine Tr.sliceHiG X52.fBlocks X96.fBlocks.n rfl rfl rfl rfl rfl (by have := c52.b; unfold Caps at this; omega) Y22 Sz79 ?_
     refine Tr.cV rfl rfl rfl rfl Body19 ((kit_blocks X96.fBlocks ⟨X52.fBlocks.p, X96.fBlocks.n, X52.fBlocks.c⟩ Q.dBlocks Q.dBlocks hskQ.b).imp (fun w h => h) (fun v out h => by rwa [sameL_self sameBk_self] at h)) (fun w h => ⟨(h96 w (Lies.of h iN)).fBlocks, at_take (h52 w (Lies.of h iN)).fBlocks hpre.b l96.1⟩) ?_
     refine Tr.pick rfl rfl rfl rfl rfl rfl ?_
     refine Tr.m rfl rfl rfl ?_
     refine Tr.fld rfl rfl rfl Y27 rfl Sz23 dE _ rfl ?_
     refine Tr.load1 rfl rfl rfl Y23 rfl mM (by first | exact Kept.get_fCerts (by first | exact oK  | exact hX | exact ok30 | exact ok38 | exact ok52 | exact ok83 | exact ok96 | exact Kept.zero_ok) | exact vL) ?_
     refine Tr.fld rfl rfl rfl Y27 rfl Sz23 dE _ rfl ?_
     refine Tr.load1 rfl rfl rfl Y23 rfl mM (by first | exact Kept.get_fCerts (by first | exact oK  | exact hX | exact ok30 | exact ok38 | exact ok52 | exact ok83 | exact ok96 | exact Kept.zero_ok) | exact vL) ?_
     refine Tr.fld rfl rfl rfl Y27 rfl Sz23 dE _ rfl ?_
     refine Tr.load1 rfl rfl rfl Y23 rfl mM (by first | exact Kept.get_fCerts (by first | exact oK  | exact hX | exact ok30 | exact ok38 | exact ok52 | exact ok83 | exact ok96 | exact Kept.zero_ok) | exact vL) ?_
     refine Tr.lenSl rfl rfl rfl Y23 ?_
     refine Tr.sliceHiG X52.fCerts X96.fCerts.n rfl rfl rfl rfl rfl (by have := c52.e; unfold Caps at this; omega) Y23 Sz55 ?_
     refine Tr.cV rfl rfl rfl rfl Body20 ((kit_certs X96.fCerts ⟨X52.fCerts.p, X96.fCerts.n, X52.fCerts.c⟩ Q.dCerts Q.dCerts hskQ.e).imp (fun w h => h) (fun v out h => by rwa [sameL_self sameE_self] at h)) (fun w h => ⟨(h96 w (Lies.of h iN)).fCerts, at_take (h52 w (Lies.of h iN)).fCerts hpre.e l96.2.1⟩) ?_
     refine Tr.pick rfl rfl rfl rfl rfl rfl ?_
     refine Tr.m rfl rfl rfl ?_
     refine Tr.fld rfl rfl rfl Y27 rfl Sz24 dE _ rfl ?_
     refine Tr.load1 rfl rfl rfl Y24 rfl mM (by first | exact Kept.get_fVotes (by first | exact oK  | exact hX | exact ok30 | exact ok38 | exact ok52 | exact ok83 | exact ok96 | exact Kept.zero_ok) | exact vL) ?_
     refine Tr.fld rfl rfl rfl Y27 rfl Sz24 dE _ rfl ?_
     refine Tr.load1 rfl rfl rfl Y24 rfl mM (by first | exact Kept.get_fVotes (by first | exact oK  | exact hX | exact ok30 | exact ok38 | exact ok52 | exact ok83 | exact ok96 | exact Kept.zero_ok) | exact vL) ?_
     refine Tr.fld rfl rfl rfl Y27 rfl Sz24 dE _ rfl ?_
     refine Tr.load1 rfl rfl rfl Y24 rfl mM (by first | exact Kept.get_fVotes (by first | exact oK  | exact hX | exact ok30 | exact ok38 | exact ok52 | exact ok83 | exact ok96 | exact Kept.zero_ok) | exact vL) ?_
     refine Tr.lenSl rfl rfl rfl Y24 ?_
     refine Tr.sliceHiG X52.fVotes X96.fVotes.n rfl rfl rfl rfl rfl (by have := c52.v; unfold Caps at this; omega) Y24 Sz81 ?_
     refine Tr.cV rfl rfl rfl rfl Body21 ((kit_votes X96.fVotes ⟨X52.fVotes.p, X96.fVotes.n, X52.fVotes.c⟩ Q.dVotes Q.dVotes).imp (fun w h => h) (fun v out h => by rwa [sameL_self sameV_self] at h)) (fun w h => ⟨(h96 w (Lies.of h iN)).fVotes, at_take (h52 w (Lies.of h iN)).fVotes hpre.v l96.2.2.1⟩) ?_
     refine Tr.pick rfl rfl rfl rfl rfl rfl ?_
     refine Tr.m rfl rfl rfl ?_
     refine Tr.fld rfl rfl rfl Y27 rfl Sz25 dE _ rfl ?_
     refine Tr.load1 rfl rfl rfl Y25 rfl mM (by first | exact Kept.get_fCuts (by first | exact oK  | exact hX | exact ok30 | exact ok38 | exact ok52 | exact ok83 | exact ok96 | exact Kept.zero_ok) | exact vL) ?_
     refine Tr.fld rfl rfl rfl Y27 rfl Sz25 dE _ rfl ?_
     refine Tr.load1 rfl rfl rfl Y25 rfl mM (by first | exact Kept.get_fCuts (by first | exact oK  | exact hX | exact ok30 | exact ok38 | exact ok52 | exact ok83 | exact ok96 | exact Kept.zero_ok) | exact vL) ?_
     refine Tr.fld rfl rfl rfl Y27 rfl Sz25 dE _ rfl ?_
     refine Tr.load1 rfl rfl rfl Y25 rfl mM (by first | exact Kept.get_fCuts (by first | exact oK  | exact hX | exact ok30 | exact ok38 | exact ok52 | exact ok83 | exact ok96 | exact Kept.zero_ok) | exact vL) ?_
     refine Tr.lenSl rfl rfl rfl Y25 ?_
     refine Tr.sliceHiG X52.fCuts X96.fCuts.n rfl rfl rfl rfl rfl (by have := c52.c; unfold Caps at this; omega) Y25 Sz53 ?_
     refine Tr.cV rfl rfl rfl rfl Body22 ((kit_cuts X96.fCuts ⟨X52.fCuts.p, X96.fCuts.n, X52.fCuts.c⟩ Q.dCuts Q.dCuts hskQ.c).imp (fun w h => h) (fun v out h => by rwa [sameL_self sameC_self] at h)) (fun w h => ⟨(h96 w (Lies.of h iN)).fCuts, at_take (h52 w (Lies.of h iN)).fCuts hpre.c l96.2.2.2⟩) ?_
     refine Tr.pick rfl rfl rfl rfl rfl rfl ?_
     refine Tr.a rfl rfl rfl ?_
     refine Tr.nil (Aa (Sat.ret (Am ?_)))
     refine ⟨_, [], Ad rfl rfl, sP, sP, ?_, rfl⟩
     rfl
 ·
  first | have hs3_1 := of_decide_eq_true hs3_10 | have hs3_1 := of_decide_eq_false hs3_10 | have hs3_1 := Bs hs3_10 | have hs3_1 := Bt hs3_10 | have hs3_1 := hs3_10
  refine Tr.not rfl rfl rfl ?_
  refine Tr.m rfl rfl rfl ?_
  refine Tr.skp rfl rfl ?_
  refine Tr.skp rfl rfl ?_
  refine Tr.skp rfl rfl ?_
  refine Tr.pick rfl rfl rfl rfl rfl rfl ?_
  refine Tr.nil (Aa ?_)
  refine Sat.cond_t rfl rfl ?_
  refine Sat.seq (Sat.region ?_)
  refine Tr.a rfl rfl rfl ?_
  refine Tr.nil (Aa (Sat.ret (Ao (Am ?_))))
  refine ⟨_, [], Ad rfl rfl, sP, sP, ?_, rfl⟩
  rfl

end Go.Proofs.YtdifpjmfabhpiaaGreat
end

section
namespace Go.Proofs.YtdifpjmfabhpiaaGreat
open Go Go.ChangeShapes Go.WideShapes Go.ChangeAt Go.RowKit

theorem ownKBck : ownKnob Tryz.prog.godebug = none := by kernel_rfl
theorem laidOutKBck : laidOutB Tryz.prog = true := by kernel_rfl

theorem openSqKBckRecord {H : Type} {enc : TypeId × Value → H} {W : World} {base : Nat} {sp : Nat → Bool} {held : Bool} {k : TypeId} (hu : Tryz.prog.underlying k = some (.slice 91)) (hc : Tryz.prog.cellsOf 91 = 2) {r : Reach} {b0 : Nat} {v : Value} {d : DataW H} {ps : List MemPlace}
    (hval : Value.okWide Tryz.prog W r b0 k v) (hd : DataW.Trod enc Tryz.prog W base sp held k v d ps) : ∃ s l, v = Hw.Sl.v s ∧ RecordsAt W s l := by
  simp only [Value.okWide, hu, Cell.okWide] at hval
  obtain ⟨a1, len, cap, rfl⟩ : ∃ a1 len cap, v = .slice a1 len cap := by
    unfold Cell.ok at hval
    rw [hu] at hval
    split at hval <;> first | exact hval.elim | exact ⟨_, _, _, rfl⟩ | simp_all
  obtain ⟨fuel, hf⟩ := hd
  obtain ⟨s, l, h1, h2⟩ := Record.openS hu hc hf
  refine ⟨s, l, ?_, h2⟩
  simp [Value.cells] at h1
  exact h1

theorem walkKBck (w : World) (x0 : Kept) (D0 : DKept) (is0 : KeptIs w x0 D0) (s1 : Hw.Sl) (l1 : List DRecord) (hs1 : RecordsAt w s1 l1) (a2 : Int) (w2 : (Lit.int .i64 a2).wf = true) : Calls Tryz.prog 3 #[Hw.agg x0.cells, Hw.Sl.v s1, Hw.i64 a2] w fun e w' => e = .returned (.bool true) ∧ Below w.heap.size w w' :=
  by
  have fin : ∀ {us : Array Value}, Calls Tryz.prog 3 us w (fun e W' => ∃ v out, e = .returned v ∧ (v = .bool true ∧ out = []) ∧ Hw.Ret [] out w W') → Calls Tryz.prog 3 us w (fun e w' => e = .returned (.bool true) ∧ Below w.heap.size w w') :=
    fun h => h.mono fun e w' ⟨v, out, he, ⟨hv, ho⟩, hr⟩ => ⟨by rw [he, hv], Hw.Keeps.below hr.keeps⟩
  exact fin (law_keepback x0 D0 s1 l1 a2 w ⟨is0, hs1⟩)

theorem liftedKBck (os : Os) (started : os.Started) (H : Type) (enc : TypeId × Value → H) :
    ReturnsInHanded {} Tryz.checked os 3 .any (Rows.keepBackSpec.pre6 enc Tryz.prog Tryz.f3 Rows.keepBackRow.domain false) (Rows.keepBackSpec.post enc Tryz.prog Tryz.f3 false true false false) := by
  refine returnsInHanded_of_change (C := Tryz.checked) ownKBck started (by kernel_rfl) Tryz.func3
    (ChangeSpec.witness6 (enc := enc) (C := Tryz.checked) false ⟨#[], #[.agg #[.slice none 0 0, .slice none 0 0, .slice none 0 0, .slice none 0 0], .slice none 0 0, .int .i64 0], []⟩ 8 (by kernel_rfl) (by kernel_rfl) (by kernel_rfl) (by kernel_rfl)) ?_
  intro W base args ds gs before hval0 hW hcnd _
  have hval : ∀ (j : Nat) t v, Tryz.f3.params[j]? = some t → args[j]? = some v → Value.okWide Tryz.prog W .any base t v := hval0
  have hW' := hW
  obtain ⟨p, q, hA0, hV, rfl, hfz, hnd⟩ := hW
  have hA : DataW.TrodAll enc Tryz.prog W 0 (fun _ => true) true Tryz.f3.params.toList args.toList ds p := hA0
  rw [Tryz.params3] at hA hval
  obtain ⟨v0, vs0, d0, ds0, p0, q0, hargs, rfl, rfl, h0, r0⟩ := trodAll_cons hA
  obtain ⟨v1, vs1, d1, ds1, p1, q1, rfl, rfl, rfl, h1, r1⟩ := trodAll_cons r0
  obtain ⟨v2, vs2, d2, ds2, p2, q2, rfl, rfl, rfl, h2, r2⟩ := trodAll_cons r1
  obtain ⟨rfl, rfl, rfl⟩ := trodAll_nil r2
  obtain rfl : args = #[v0, v1, v2] := by cases args; simp_all
  obtain ⟨rfl, rfl⟩ := trodVars_none hV
  have k0 := h0
  have lt0 : ∀ x ∈ p0, x.block < W.heap.size := by obtain ⟨m, hm⟩ := k0; exact DataW.trod_lt m _ _ _ hm
  have k1 := h1
  have lt1 : ∀ x ∈ p1, x.block < W.heap.size := by obtain ⟨m, hm⟩ := k1; exact DataW.trod_lt m _ _ _ hm
  have k2 := h2
  have lt2 : ∀ x ∈ p2, x.block < W.heap.size := by obtain ⟨m, hm⟩ := k2; exact DataW.trod_lt m _ _ _ hm
  obtain ⟨x0, D0, rfl, is0⟩ := Kept.openW (hval 0 27 v0 rfl rfl) h0
  obtain ⟨s1, l1, rfl, hs1⟩ := openSqKBckRecord Tryz.underlying28 (by kernel_rfl) (hval 1 28 v1 rfl rfl) h1
  obtain ⟨a2, rfl, rfl, rfl, w2⟩ := open_int Tryz.underlying3 (hval 2 3 v2 rfl rfl) h2
  clear hA0 hval0
  refine (walkKBck W x0 D0 is0 s1 l1 hs1 a2 w2).mono fun e W' ⟨he, bel⟩ => ?_
  subst he
  exact ⟨_, rfl, _, _, _, [], _, [], hW', trodAll_mk1 (shut_bool Tryz.underlying4 _), (trodAll_cons_mk (Below.trod laidOutKBck (by kernel_rfl) (of_decide_eq_true (by kernel_rfl)) k0 bel lt0) (trodAll_cons_mk (Below.trod laidOutKBck (by kernel_rfl) (of_decide_eq_true (by kernel_rfl)) k1 bel lt1) (trodAll_cons_mk (Below.trod laidOutKBck (by kernel_rfl) (of_decide_eq_true (by kernel_rfl)) k2 bel lt2) trodAll_mk0))), rfl, bel.frame _, fun h => by cases h⟩

theorem keepBack_holds : Rows.KeepBackSaid :=
  OpenClaim.holds_of_wide 3 Tryz.f3 rfl rfl rfl rfl rfl rfl rfl ⟨rfl, rfl, rfl, rfl, rfl⟩ rfl rfl rfl rfl rfl (by kernel_rfl) Tryz.func3 (by kernel_rfl)
    (of_decide_eq_true (by kernel_rfl)) (by unfold Func.isWrapper; first | (rw [if_pos (by decide +kernel)]; kernel_rfl) | (rw [if_neg (by decide +kernel)]; exact ⟨rfl, rfl⟩))
    (fun os started H enc _ => liftedKBck os started H enc)

end Go.Proofs.YtdifpjmfabhpiaaGreat
end
