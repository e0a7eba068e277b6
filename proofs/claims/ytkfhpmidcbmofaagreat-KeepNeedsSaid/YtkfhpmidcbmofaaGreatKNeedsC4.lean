/- Contracts of functions of the loaded program, and the lemmas that they need (part 4). It proves no statement by itself; it has no conditions. -/
import Derived.WalkKit
import Derived.Orders
import Derived.Deep.LoopGhost
import Derived.IntWalk
import Derived.Laws.StructEq
import Derived.ArgAppend
import Derived.Deep.AppendSrc
import Derived.Lib.Bytealg
import Derived.Lib.BytesEntry
import Derived.Laws.IdiomStrings
import Derived.WideKeyArr2
import Derived.ProofKit
import Derived.OpenShut
import Derived.Deep.Slices
import Derived.Laws.Pointers
import Derived.Laws.Cover3
import Derived.LaidEqlPtr
import Derived.LoopN
import Derived.RangeFuncLeaves
import Derived.RangeFuncSeq
import Derived.OrdersIn
import Derived.Test.YtkfhpmidcbmofaaGreatRows
import Derived.KernelRfl
import Derived.Laws.Externs
import Derived.Defers
import Derived.ChangeOld
import Derived.Below
import Derived.Test.YtkfhpmidcbmofaaGreatKNeedsC3
set_option maxRecDepth 100000
set_option maxHeartbeats 8000000
set_option linter.unusedVariables false
set_option linter.unusedSimpArgs false
section
namespace Go.Proofs.YtkfhpmidcbmofaaGreat
open Go Hw

def blkB (ys : List UInt8) : List UInt8 := Bm (UInt64.ofNat ys.length) ++ ys
def listB {D : Type} (f : D → List UInt8) (ds : List D) : List UInt8 := (ds.map fun d => blkB (f d)).flatten
theorem blkB_length {ys : List UInt8} (h : ys.length ≤ 1000000) : (blkB ys).length = szN ys.length + ys.length := by rw [blkB, List.length_append, A5, Br h]
theorem listB_step {D : Type} (f : D → List UInt8) {ds : List D} {k : Nat} {d : D} (h : ds[k]? = some d) : listB f (ds.take (k + 1)) = listB f (ds.take k) ++ blkB (f d) := by
  rw [take_snoc h, listB, List.map_append, List.flatten_append]; simp [listB]
theorem listB_le {D : Type} (f : D → List UInt8) (M : Nat) (hM : M ≤ 100000) : ∀ ds : List D, (∀ d ∈ ds, (f d).length ≤ M) → (listB f ds).length ≤ ds.length * (M + 9)
  | [], _ => by simp [listB]
  | d :: ds, h => by
    have ih := listB_le f M hM ds (fun x hx => h x (List.mem_cons_of_mem _ hx))
    have h1 := h d List.mem_cons_self
    have h2 := Bb (f d).length
    have e : listB f (d :: ds) = blkB (f d) ++ listB f ds := rfl
    rw [e, List.length_append, blkB_length oM, List.length_cons, Nat.add_mul]
    omega
theorem listB_take_le {D : Type} (f : D → List UInt8) (M : Nat) (hM : M ≤ 100000) (ds : List D) (h : ∀ d ∈ ds, (f d).length ≤ M) (k : Nat) : (listB f (ds.take k)).length ≤ ds.length * (M + 9) := by
  have h1 := listB_le f M hM (ds.take k) (fun d hd => h d (List.mem_of_mem_take hd))
  have h2 : (ds.take k).length ≤ ds.length := by rw [List.length_take]; omega
  exact Nat.le_trans h1 (Nat.mul_le_mul_right _ h2)

theorem blk_vote_1 (a : Option Addr) (n c : Nat) (l : List UInt8) (hl : l.length = n) (hp : a = none → n = 0) (hn : n ≤ 40000) (X : Vote) (D : Vote) (q : Nat) (hsz : (Be D).length ≤ 40000) : Meets Tryz.prog 141 [.slice a n c, agg X.cells, ptr q 0] [] (fun W => SeesP W a (Ab l) ∧ VoteIs W X D ∧ W.cell? ⟨q, 0, none⟩ = some (.func (.func 28) #[] #[])) (fun v out => FreshRow v out (Ab (l ++ blkB (Be D))) 5 (l ++ blkB (Be D)).length 1) := by
 intro W hW
 obtain rfl : D = X := hW.2.1.eq.symm
 refine Ai Tryz.func141 rfl 17 Tryz.ntmps141 rfl ?_
 refine Sat.seq (Sat.region ?_)
 refine Tr.boxA rfl rfl ?_
 intro n4 hn4 hf4
 refine Tr.a rfl rfl rfl ?_
 refine Tr.nil (Aa (Sat.seq (Sat.region ?_)))
 refine Tr.loadE rfl rfl rfl Tryz.underlying72 rfl (by first | (simp; done) | (simp; exact hW.2.2) | (simp [Cx.with]; done) | (simp [Cx.with]; omega)) (hW.2.2) ?_
 refine Tr.lA rfl rfl rfl U29 rfl Bw mM (Vote.length (by first | exact oK  | exact hW.2.1.ok)) ?_
 refine Tr.call4 rfl rfl rfl rfl rfl Body28 (vote_bytes D hW.2.1.ok) (fun w h => trivial) ?_
 rintro v11 out11 ⟨s11, rfl, hac11⟩
 have hnm := hac11.num
 refine Tr.m rfl rfl rfl ?_
 refine Tr.eX rfl rfl rfl rfl ?_
 refine Tr.eX rfl rfl rfl rfl ?_
 refine Tr.a rfl rfl rfl ?_
 refine Tr.a rfl rfl rfl ?_
 refine Tr.nil (Aa (Sat.seq (Sat.region ?_)))
 refine Tr.m rfl rfl rfl ?_
 refine Tr.m rfl rfl rfl ?_
 refine Tr.call4 rfl rfl rfl rfl rfl Body130 (oct_Block a s11.p n c s11.n s11.c l (Be D) hl hnm.symm hp (fun e => hac11.nil e) hn oM) (fun w h => ⟨Ax h rfl hW.1, hac11.see (Lies.of h iN)⟩) ?_
 rintro v16 out16 ⟨q16, c16, rfl, hc16, rfl⟩
 have hq16 : n + szN s11.n + s11.n = (l ++ blkB (Be D)).length := by rw [List.length_append, blkB_length oM, hl, hnm]; omega
 refine Tr.a rfl rfl rfl ?_
 refine Tr.nil (Aa (Sat.ret (Ak ?_)))
 refine Aj (out := (⟨q16, Ab (l ++ blkB (Be D)), 5, c16 * 1⟩ :: [])) (Ae rfl rfl) (pm_consE rM (by rw [blkB, hnm, List.append_assoc]) rfl Af) ?_
 exact ⟨q16, c16, by rw [hq16], by rw [← hq16]; exact hc16, rfl⟩

theorem mk_blk_vote  : Meets Tryz.prog 132 [.func (.func 28) #[] #[]] [] (fun _ => True) (fun v out => ∃ c, v = .func (.func 141) #[] #[ptr c 0] ∧ out = [⟨c, [.func (.func 28) #[] #[]], 72, 1⟩]) := by
 intro W hW
 refine Ai Tryz.func132 rfl 4 Tryz.ntmps132 rfl ?_
 refine Sat.seq (Sat.region ?_)
 refine Tr.box1 rfl rfl rfl ?_
 intro n1 hn1 hf1
 refine Tr.a rfl rfl rfl ?_
 refine Tr.nil (Aa (Sat.seq (Sat.region ?_)))
 refine Tr.makeFunc rfl rfl rfl rfl ?_
 refine Tr.a rfl rfl rfl ?_
 refine Tr.nil (Aa (Sat.ret (Ak ?_)))
 refine Aj (out := (⟨n1, [.func (.func 28) #[] #[]], 72, 1⟩ :: [])) (Ae rfl rfl) (Ad rM Af) ?_
 exact ⟨n1, rfl, by simp⟩

theorem put_votes (a : Option Addr) (n c : Nat) (l : List UInt8) (s : Sl) (ds : List Vote) (q M : Nat) (hl : l.length = n) (hp : a = none → n = 0) (hM : M ≤ 40000) (hsz : ∀ d ∈ ds, (Be d).length ≤ M) (hs : s.n ≤ 1000) (hN : n + 9 + s.n * (M + 9) ≤ 40000) : Meets Tryz.prog 131 [.slice a n c, s.v, .func (.func 141) #[] #[ptr q 0]] [] (fun W => SeesP W a (Ab l) ∧ VotesAt W s ds ∧ W.cell? ⟨q, 0, none⟩ = some (.func (.func 28) #[] #[])) (fun v out => FreshRow v out (Ab (l ++ Bm (UInt64.ofNat s.n) ++ listB Be ds)) 5 (l ++ Bm (UInt64.ofNat s.n) ++ listB Be ds).length 1) := by
 intro W hW
 obtain ⟨rs, hs1⟩ := hW.2.1
 have hnd := hs1.nd
 have hz := Bb s.n
 have hon := Br (n := s.n) oM
 have hmul : ds.length * (M + 9) = s.n * (M + 9) := by rw [hnd]
 have hle : ∀ k, (l ++ Bm (UInt64.ofNat s.n) ++ listB Be (ds.take k)).length ≤ 40000 := fun k => by
  have := listB_take_le Be M oM ds hsz k
  simp only [List.length_append, A5, hon, hl]
  omega
 refine Ai Tryz.func131 rfl 26 Tryz.ntmps131 rfl ?_
 refine Sat.seq (Sat.region ?_)
 refine Tr.a rfl rfl rfl ?_
 refine Tr.nil (Aa (Sat.seq (Sat.region ?_)))
 refine Tr.m rfl rfl rfl ?_
 refine Tr.m rfl rfl rfl ?_
 refine Tr.lenSl rfl rfl rfl U42 ?_
 refine Tr.conv rfl rfl rfl U3 U22 (Bo _) ?_
 rw [word_nat (n := s.n) oM]
 refine Tr.call4 rfl rfl rfl rfl rfl Body80 (oct_Number a n c l (UInt64.ofNat s.n) hl hp oM) (fun w h => Ax h rfl hW.1) ?_
 rintro v13 out13 ⟨q1, c1, rfl, hc1, rfl⟩
 have e13 : n + szN (UInt64.ofNat s.n).toNat = (l ++ Bm (UInt64.ofNat s.n) ++ listB Be (ds.take 0)).length := by simp [listB, A5, hl]
 rw [e13] at hc1 ⊢
 refine Tr.a rfl rfl rfl ?_
 refine Tr.nil (Aa (Sat.seq (Sat.seq (Sat.region ?_))))
 refine Tr.m rfl rfl rfl ?_
 refine Tr.lenSl rfl rfl rfl U42 ?_
 refine Tr.m rfl rfl rfl ?_
 refine Tr.nil (Aa (Sat.block ?_))
 refine Sat.loop (ι := Nat × Nat × Nat) (fun p => ⟨[(0, .slice (some ⟨p.2.1, 0, none⟩) (l ++ Bm (UInt64.ofNat s.n) ++ listB Be (ds.take p.1)).length p.2.2), (2, .func (.func 141) #[] #[ptr q 0]), (14, s.v), (15, i64 (s.n : Int)), (16, i64 (p.1 : Int))], [⟨p.2.1, Ab (l ++ Bm (UInt64.ofNat s.n) ++ listB Be (ds.take p.1)), 5, p.2.2 * 1⟩]⟩) (fun p => p.1 ≤ s.n ∧ (l ++ Bm (UInt64.ofNat s.n) ++ listB Be (ds.take p.1)).length ≤ p.2.2) (fun p => s.n - p.1) ((0, q1, c1)) ?_ ?_ ?_
 · exact ⟨Nat.zero_le _, hc1⟩
 · exact Ap (wk1 rfl (wk1 rfl (wk1 rfl (wk1 rfl (wk1 rfl wk0))))) (wh1 (by simp only [List.take_zero, listB, List.map_nil, List.flatten_nil, List.append_nil]; exact mem0) wh0) nD
 ·
  rintro p ⟨hp1, hp2⟩
  refine Sat.seq (Sat.region ?_)
  refine Tr.lss rfl rfl rfl rfl rfl ?_
  refine Tr.nil (Aa (Sat.seq ?_))
  first
   | refine Sat.condP rfl (fun hc0 => ?_) (fun hc0 => ?_)
   | refine Sat.condNP rfl (fun hc0 => ?_) (fun hc0 => ?_)
   | refine Sat.cond rfl (fun hc0 => ?_) (fun hc0 => ?_)
  ·
   have hk2 : p.1 < s.n := by omega
   obtain ⟨b, o, r, d, hsp, hr, hd, his, hlen, hsee⟩ := hs1.at dE hk2
   refine Sat.skip (Aa (Sat.seq (Sat.block (Sat.seq (Sat.region ?_)))))
   refine Tr.idxSlP 132 rfl rfl rfl hsp rfl U42 Bw p.1 rfl oM ?_
   refine Tr.loadEN r.cells rfl rfl rfl U29 rfl Bw sP hlen hsee ?_
   refine Tr.alloc (cs := Vote.zero.cells) rfl Vote.zr rfl ?_
   intro n8 hn8 hf8
   refine Tr.sA rfl rfl rfl rfl (Vote.isCell (by first | exact oK  | exact his.ok)) Bw (Vote.length (by first | exact oK  | exact his.ok)) mM (Vote.length (by first | exact oK  | exact his.ok)) uU ?_
   refine Tr.nil (Aa (Sat.region ?_))
   refine Tr.m rfl rfl rfl ?_
   refine Tr.m rfl rfl rfl ?_
   refine Tr.lA rfl rfl rfl U29 rfl Bw mM (Vote.length (by first | exact oK  | exact his.ok)) ?_
   refine Tr.call4C rfl rfl rfl rfl rfl rfl Body141 (blk_vote_1 (some ⟨p.2.1, 0, none⟩) (l ++ Bm (UInt64.ofNat s.n) ++ listB Be (ds.take p.1)).length p.2.2 (l ++ Bm (UInt64.ofNat s.n) ++ listB Be (ds.take p.1)) rfl (fun e => by cases e) (hle _) r d q (Nat.le_trans (hsz d (List.mem_of_getElem? hd)) hM)) (fun w h => ⟨SeesP.of (As h mM), his.ext h rfl, h.keeps.cell sP hW.2.2⟩) ?_
   rintro v23 out23 ⟨q2, c2, rfl, hq2, rfl⟩
   rw [show l ++ Bm (UInt64.ofNat s.n) ++ listB Be (ds.take p.1) ++ blkB (Be d) = l ++ Bm (UInt64.ofNat s.n) ++ listB Be (ds.take (p.1 + 1)) by rw [listB_step Be hd, ← List.append_assoc]] at hq2 ⊢
   refine Tr.a rfl rfl rfl ?_
   refine Tr.nil (Bs (Aa (Sat.region ?_)))
   refine Tr.aI rfl rfl rfl rfl oM ?_
   refine Tr.m rfl rfl rfl ?_
   refine Tr.nil (Aa ?_)
   exact ⟨(p.1 + 1, q2, c2), ⟨by simp only []; omega, hq2⟩, by simp only []; omega, Ap (wk1 rfl (wk1 rfl (wk1 rfl (wk1 rfl (wk1 rfl wk0))))) (wh1 mM wh0) nD⟩
  ·
   have hpe : p.1 = s.n := by omega
   have hds : ds = ds.take p.1 := by rw [List.take_of_length_le oM]
   refine Sat.exit (A7 (A7 (bl_h (Aa (Sat.seq (Sat.region ?_))))))
   refine Tr.m rfl rfl rfl ?_
   refine Tr.a rfl rfl rfl ?_
   refine Tr.nil (Aa (Sat.ret (Ak ?_)))
   refine ⟨_, [⟨p.2.1, Ab (l ++ Bm (UInt64.ofNat s.n) ++ listB Be ds), 5, p.2.2 * 1⟩], Ae rfl rfl, (by intro b hb; rw [List.mem_singleton.1 hb, hds]; simp only [List.take_take, Nat.min_self]; exact mem0), nodup1, ⟨p.2.1, p.2.2, by rw [← hds], by rw [← hds] at hp2; exact hp2, rfl⟩⟩

end Go.Proofs.YtkfhpmidcbmofaaGreat
end

section
namespace Go.Proofs.YtkfhpmidcbmofaaGreat
open Go Hw

def DCert.bytes (D : DCert) : List UInt8 := blkB (cutR D.dCut) ++ Bm (UInt64.ofNat D.dVotes.length) ++ listB Be D.dVotes
noncomputable def certBy (D : DCert) : List UInt8 := if D.check = 0 then D.bytes else []
theorem seqv_ok {W : World} {s : Sl} {rs ds : List Vote} (h : SeqIs Vote.cells 132 VoteIs W s rs ds) : ∀ d ∈ ds, d.ok := by
  intro d hd
  obtain ⟨j, hj, rfl⟩ := List.getElem_of_mem hd
  have hj2 : j < rs.length := by rw [h.nr, ← h.nd]; exact hj
  have := h.is j _ _ (List.getElem?_eq_getElem hj2) (List.getElem?_eq_getElem hj)
  rw [← this.eq]; exact this.ok
theorem voteBy_le {V : Vote} (h : V.ok) : (Be V).length ≤ 164 := by
  unfold Be
  split
  · have := voteN_le V
    rw [List.length_append, voteT_length h, h.l_fSig]; omega
  · simp
theorem DCert.facts {D : DCert} (h : D.check = 0) : D.dCut.check = 0 ∧ 1 ≤ D.dVotes.length ∧ D.dVotes.length ≤ 16 := by
  have h1 : ¬ D.head = true := fun e => by rw [cert_bad1 e] at h; cases h
  simp only [DCert.head, Bool.or_eq_true, Bool.not_eq_true', decide_eq_true_eq, decide_eq_false_iff_not] at h1
  omega
theorem cutR_le {C : Cut} {D : DCut} {W : World} (h : CutIs W C D) : (cutR D).length ≤ 2000 := by
  unfold cutR
  split
  · rename_i h1
    exact D.bytes_small h1 (h.fPrev ▸ h.ok.l_fPrev) h.fHeads.row
  · simp

theorem cert_bytes (C : Cert) (D : DCert) : Meets Tryz.prog 98 [agg C.cells] [] (fun W => CertIs W C D) (fun v out => ∃ s, v = .tuple #[s.v, i64 D.check] ∧ Hw.Acc s out (Ab (certBy D)) 5 (certBy D).length 1) := by
 intro W hW
 obtain ⟨rs, hvs⟩ := hW.fVotes
 have hcl := cutR_le hW.fCut
 have hvok := seqv_ok hvs
 have hvn := hvs.nd
 have hz := Bb (cutR D.dCut).length
 refine Ai Tryz.func98 rfl 24 Tryz.ntmps98 rfl ?_
 refine Sat.seq (Sat.region ?_)
 refine Tr.boxA rfl rfl ?_
 intro n1 hn1 hf1
 refine Tr.a rfl rfl rfl ?_
 refine Tr.a rfl rfl rfl ?_
 refine Tr.nil (Aa (Sat.seq (Sat.seq (Sat.region ?_))))
 refine Tr.lA rfl rfl rfl U80 rfl Sz80 mM (Cert.length (by first | exact oK  | exact hW.ok | exact hW.ok.o_fCut)) ?_
 refine Tr.cV rfl rfl rfl rfl Body50 (cert_check C D) (fun w h => hW.ext h rfl) ?_
 refine Tr.a rfl rfl rfl ?_
 refine Tr.nil (Aa (Sat.seq (Sat.region ?_)))
 refine Tr.m rfl rfl rfl ?_
 refine Tr.nei rfl rfl rfl rfl rfl ?_
 refine Tr.nil (Aa ?_)
 first
  | refine Sat.condP rfl (fun hc0 => ?_) (fun hc0 => ?_)
  | refine Sat.condNP rfl (fun hc0 => ?_) (fun hc0 => ?_)
  | refine Sat.cond rfl (fun hc0 => ?_) (fun hc0 => ?_)
 ·
  refine Sat.seq (Sat.region ?_)
  refine Tr.m rfl rfl rfl ?_
  refine Tr.a rfl rfl rfl ?_
  refine Tr.a rfl rfl rfl ?_
  refine Tr.nil (Aa (Sat.ret (Ao (Ak ?_))))
  refine Aj (out := []) (Bj rfl rfl rfl) Af ?_
  exact ⟨Sl.nil, rfl, by rw [show certBy D = [] from if_neg hc0]; exact Acc.none⟩
 ·
  have hck : D.check = 0 := by omega
  obtain ⟨hk1, hk2, hk3⟩ := DCert.facts hck
  refine Sat.skip (Aa (Sat.seq (Sat.region ?_)))
  refine Tr.fld rfl rfl rfl U80 rfl B0 dE _ rfl ?_
  refine Tr.lN (Cut.cells _) rfl rfl rfl U39 rfl B0 mM (Cert.row_fCut (by first | exact oK  | exact hW.ok | exact hW.ok.o_fCut)) (Cert.rl_fCut (by first | exact oK  | exact hW.ok | exact hW.ok.o_fCut)) ?_
  refine Tr.call4 rfl rfl rfl rfl rfl Body30 (cut_bytes C.fCut D.dCut) (fun w h => hW.fCut.ext h rfl) ?_
  rintro v15 out15 ⟨s15, rfl, hac15⟩
  have hn15 := hac15.num
  refine Tr.m rfl rfl rfl ?_
  refine Tr.eX rfl rfl rfl rfl ?_
  refine Tr.eX rfl rfl rfl rfl ?_
  refine Tr.a rfl rfl rfl ?_
  refine Tr.a rfl rfl rfl ?_
  refine Tr.nil (Aa (Sat.seq ?_))
  refine Sat.withK (sp_x (sp_k sp_n)) rfl ?_
  refine Sat.draw [(0, 0), (0, 2), (0, 3), (4, 1), (4, 4), (4, 5), (0, 6), (0, 7)] Bz zK ?_
  refine Tr.m rfl rfl rfl ?_
  refine Tr.fld rfl rfl rfl U80 rfl Sz42 dE _ rfl ?_
  refine Tr.kload1 rfl rfl rfl U42 rfl mM (by first | exact Cert.get_fVotes (by first | exact oK  | exact hW.ok | exact hW.ok.o_fCut) | exact vL) ?_
  refine Tr.call4 rfl rfl rfl rfl rfl Body130 (oct_Block none s15.p 0 0 s15.n s15.c [] (cutR D.dCut) rfl hn15.symm (fun _ => rfl) (fun e => hac15.nil e) dE oM) (fun w h => ⟨SeesP.nil, hac15.see (Lies.of h iN)⟩) ?_
  rintro v19 out19 ⟨q19, c19, rfl, hc19, rfl⟩
  have hb19 : [] ++ Bm (UInt64.ofNat s15.n) ++ cutR D.dCut = blkB (cutR D.dCut) := by rw [blkB, hn15]; rfl
  rw [hb19]
  refine Tr.call4 rfl rfl rfl rfl rfl Body132 (mk_blk_vote) tV ?_
  rintro v22 out22 ⟨c22, rfl, rfl⟩
  refine Tr.call4 rfl rfl rfl rfl rfl Body131 (put_votes (some ⟨q19, 0, none⟩) (0 + szN s15.n + s15.n) c19 (blkB (cutR D.dCut)) C.fVotes D.dVotes c22 164 (by rw [blkB_length oM, hn15]; omega) (fun e => by cases e) dE (fun d hd => voteBy_le (hvok d hd)) oM (by rw [hn15]; have : C.fVotes.n * (164 + 9) ≤ 16 * 173 := Nat.mul_le_mul oM (Nat.le_refl _); omega)) (fun w h => ⟨SeesP.of (As (cs := Ab (blkB (cutR D.dCut))) h mM), Votes_ext h rfl ⟨rs, hvs⟩, (An (B := ⟨c22, _, _, _⟩) h mM).cell (o := 0) rfl⟩) ?_
  rintro v23 out23 ⟨q23, c23, rfl, hc23, rfl⟩
  refine Tr.a rfl rfl rfl ?_
  refine Tr.a rfl rfl rfl ?_
  refine Tr.nil (Aa (Sat.ret (Ak ?_)))
  simp only [List.cons_append, List.nil_append, List.append_nil]
  refine Aj (out := (⟨q23, Ab (blkB (cutR D.dCut) ++ Bm (UInt64.ofNat C.fVotes.n) ++ listB Be D.dVotes), 5, c23 * 1⟩ :: [])) (Bj rfl rfl rfl) (Ad rM Af) ?_
  refine ⟨⟨some ⟨q23, 0, none⟩, (blkB (cutR D.dCut) ++ Bm (UInt64.ofNat C.fVotes.n) ++ listB Be D.dVotes).length, c23⟩, (by rw [hck]; try rfl), ?_⟩
  rw [show certBy D = D.bytes from if_pos hck, DCert.bytes, hvn]
  exact Acc.some hc23 (by rw [Ab, List.length_map, Nat.mul_one])

end Go.Proofs.YtkfhpmidcbmofaaGreat
end

section
namespace Hw
open Go Go.RowKit
section
variable {C : Cx} {fn : Func} {s : St}
end

def AccO (s : Sl) (bl : List Blk) (cells : List Value) (E : TypeId) (n : Nat) : Prop :=
  (s = Sl.nil ∧ bl = [] ∧ cells = [] ∧ n = 0) ∨ ∃ q o c m pre post, s = ⟨some ⟨q, o, none⟩, n, c⟩ ∧ n ≤ c ∧ cells.length = n ∧ pre.length = o ∧ (post = [] ∨ n = c) ∧ o + c ≤ m ∧ bl = [⟨q, pre ++ cells ++ post, E, m⟩]
section
variable {s : Sl} {bl : List Blk} {cells : List Value} {E : TypeId} {n : Nat}
theorem AccO.none : AccO Sl.nil [] [] E 0 := .inl ⟨rfl, rfl, rfl, rfl⟩
theorem AccO.num (h : AccO s bl cells E n) : s.n = n := by rcases h with ⟨rfl, _, _, rfl⟩ | ⟨q, o, c, m, pre, post, rfl, _⟩ <;> rfl
theorem AccO.len (h : AccO s bl cells E n) : cells.length = n := by rcases h with ⟨_, _, rfl, rfl⟩ | ⟨q, o, c, m, pre, post, _, _, h, _⟩; rfl; exact h
theorem AccO.cap (h : AccO s bl cells E n) : s.n ≤ s.c := by rcases h with ⟨rfl, _⟩ | ⟨q, o, c, m, pre, post, rfl, h, _⟩; exact Nat.le_refl _; exact h
theorem AccO.nilc (h : AccO s bl cells E n) (hp : s.p = .none) : s.c = 0 := by rcases h with ⟨rfl, _⟩ | ⟨q, o, c, m, pre, post, rfl, _⟩; rfl; cases hp
theorem AccO.see (h : AccO s bl cells E n) {w : World} (hw : Lies bl w) : SeesP w s.p cells := by
  rcases h with ⟨_, _, rfl, _⟩ | ⟨q, o, c, m, pre, post, rfl, _, h3, h4, _, _, rfl⟩
  · exact SeesP.nil
  · refine SeesP.of fun j v hj => ?_
    refine (hw _ (List.mem_singleton.2 rfl)).cell (o := o + j) (v := v) ?_
    show (pre ++ cells ++ post)[o + j]? = some v
    have hlt := (List.getElem?_eq_some_iff.1 hj).1
    rw [List.append_assoc, List.getElem?_append_right oM, h4, Nat.add_sub_cancel_left, List.getElem?_append_left hlt]
    exact hj
theorem AccO.pos (h : AccO s bl cells E n) (hn : 0 < n) : ∃ q o c m pre post, s = ⟨some ⟨q, o, .none⟩, n, c⟩ ∧ n ≤ c ∧ cells.length = n ∧ pre.length = o ∧ (post = [] ∨ n = c) ∧ o + c ≤ m ∧ bl = [⟨q, pre ++ cells ++ post, E, m⟩] := by
  rcases h with ⟨_, _, _, rfl⟩ | h
  · exact absurd hn dE
  · exact h
theorem AccO.cut {q o c m : Nat} {pre post : List Value} {x : Value} {l : List Value} (hc : n + 1 ≤ c) (hl : l.length = n) (hp : pre.length = o) (hpo : post = [] ∨ n + 1 = c) (hm : o + c ≤ m) : AccO ⟨some ⟨q, if c = 1 then o else o + 1 * 1, .none⟩, n + 1 - 1, c - 1⟩ [⟨q, pre ++ (x :: l) ++ post, E, m⟩] l E n := by
  by_cases e : c = 1
  · obtain rfl : n = 0 := by omega
    obtain rfl : l = [] := List.eq_nil_of_length_eq_zero hl
    subst e
    rw [if_pos rfl]
    exact .inr ⟨q, o, 0, m, pre, x :: post, rfl, Nat.le_refl _, rfl, hp, .inr rfl, by omega, by simp⟩
  · rw [if_neg e]
    exact .inr ⟨q, o + 1, c - 1, m, pre ++ [x], post, by simp, by omega, hl, by simp [hp], hpo.imp_right (fun h => by omega), by omega, by simp⟩
theorem Acc.off {c : Nat} (h : Acc s bl cells E n 1) : AccO s bl cells E n := by
  rcases h with ⟨rfl, rfl, rfl, rfl⟩ | ⟨q, c, rfl, h1, h2, rfl⟩
  · exact .inl ⟨rfl, rfl, rfl, rfl⟩
  · exact .inr ⟨q, 0, c, c * 1, [], [], rfl, h1, by omega, rfl, .inl rfl, by omega, by simp⟩
end
section
variable {C : Cx} {ops : Array Oper} {rest : List (Nat × Oper)} {sl : List (Nat × Value)} {hp hp' : List Blk} {Q : St → Prop} {c d : Nat} {ty : TypeId} {pos : String} {af : Array Edge} {g : Option (Nat × Bool)}
theorem Tr.mkRoomN {T E : TypeId} {x y : Operand} {kx ky : IntKind} {z : Value} {by' size : Nat} {mi : Int} (m : Nat) (hg : Al ops sl g = true) (hk : okG c d C.N = true) (hx : Am sl x = some (.int kx 0)) (hy : Am sl y = some (.int ky mi)) (hmi : mi = m)
    (hu : C.P.underlying T = some (.slice E)) (hs : Sz C.P E size) (hz : Zr C.P E z) (hb : By C.P E by') (hn : m ≤ 1000000) (hfit : m * by' ≤ 140737488355328)
    (k : ∀ q, Tr C ops rest ⟨(d, .slice (some ⟨q, 0, none⟩) 0 m) :: sl, ⟨q, [], E, m * size⟩ :: hp⟩ Q) : Tr C ops ((c, ⟨some d, .makeSlice T x y, ty, pos, af, g⟩) :: rest) ⟨sl, hp⟩ Q := by
  subst hmi
  simp only [okG, Bool.and_eq_true, Bool.or_eq_true] at hk
  refine Tr.grow (ρ := Nat) (fun _ => True) (fun q => .slice (some ⟨q, 0, none⟩) 0 m) (fun q => [⟨q, [], E, m * size⟩]) (hk.1.imp nbeq' nbeq') (A0 hg) (B6 (nblt hk.2)) ⟨known2 hx hy, fun l hl => ?_, fun a w hf hh => ?_⟩ (fun q _ => k q)
  · obtain ⟨q, _, hq⟩ := fresh_is 0 l
    refine ⟨q, trivial, ?_⟩
    simp only [List.singleton_append, List.map_cons, List.nodup_cons]
    exact ⟨fun h => by obtain ⟨b, hb, e⟩ := List.mem_map.1 h; exact hq b hb e, hl⟩
  · have h1 := hf x (by simp [Op.operands]); rw [hx] at h1
    have h2 := hf y (by simp [Op.operands]); rw [hy] at h2
    simp only [Option.some.injEq] at h1 h2
    have rs := run_sz hs
    unfold Sz at hs; unfold Zr at hz; unfold By at hb
    cases hi : C.P.info? E with
    | none => rw [hi] at hs; simp at hs
    | some i =>
      rw [hi] at hs hz hb
      simp only [Option.map_some, Option.some.injEq, Option.bind_some] at hs hz hb
      have wn : IntKind.i64.wrap (m : Int) = m := i64_wrap oM
      have w0 : IntKind.i64.wrap 0 = 0 := by decide
      have hm2 : ((by' : Int) * m) = ((m * by' : Nat) : Int) := by rw [Int.mul_comm]; simp
      have n1 : ¬ ((m : Int) < 0) := by omega
      have n2 : ¬ (281474976710656 < (i.bytes : Int) * m) := by rw [hb, hm2]; omega
      have n5 : ¬ (140737488355328 < m * i.bytes) := by rw [hb]; omega
      have hrun : ∃ arr : Array Value, arr.size = m * size ∧ (execOp a.eval ⟨some d, .makeSlice T x y, ty, pos, af, g⟩).run C.P w = .ok (.value (.slice (some ⟨w.heap.size, 0, none⟩) 0 m)) { w with heap := w.heap.push (.cells arr E) } := by
        by_cases h0 : m * size = 0
        · refine ⟨(Array.range (m * size)).map fun x => (#[] : Array Value)[x % 0]!, by simp, ?_⟩
          simp [execOp, Instr.makeSlice, run_underlying hu, asInt, asIntOf, typeInfo, hi, rs, zeroValue, hz, ← h1, ← h2, wn, w0, n1, n2, n5, h0, newRow, newObj, askRoom, roomBytes]
          simp [Sem.run]
        · refine ⟨(Array.range (m * size)).map fun x => z.cells[x % z.cells.size]!, by simp, ?_⟩
          simp [execOp, Instr.makeSlice, run_underlying hu, asInt, asIntOf, typeInfo, hi, rs, zeroValue, hz, ← h1, ← h2, wn, w0, n1, n2, n5, h0, newRow, newObj, askRoom, roomBytes]
          simp [Sem.run]
      obtain ⟨arr, ha, hrun⟩ := hrun
      unfold Oper.wp
      rw [hrun]
      refine ⟨w.heap.size, trivial, rfl, ⟨⟨rfl, rfl, rfl, by simp, fun k hk _ => ?_⟩, fun b hb => ?_, by simp, fun b hb => ?_⟩⟩
      · simp only [Array.getElem?_push]
        rw [if_neg oM]
      · obtain rfl := List.mem_singleton.1 hb
        exact ⟨arr, (0, 0), by simp, ha, by simp, free0⟩
      · obtain rfl := List.mem_singleton.1 hb
        exact .inl (Nat.le_refl _)
theorem Tr.extractB {x : Operand} {vs : Array Value} {i : Nat} {b : Bool} (hg : Al ops sl g = true) (hk : okD c d C.N = true) (hx : Am sl x = some (.tuple vs)) (hv : vs[i]? = some (.bool b))
    (kt : b = true → Tr C ops rest ⟨(d, .bool true) :: sl, hp⟩ Q) (kf : b = false → Tr C ops rest ⟨(d, .bool false) :: sl, hp⟩ Q) : Tr C ops ((c, ⟨some d, .extract x i, ty, pos, af, g⟩) :: rest) ⟨sl, hp⟩ Q := by
  cases b
  · exact Tr.eX hg hk hx hv (kf rfl)
  · exact Tr.eX hg hk hx hv (kt rfl)
end
end Hw
end

section
namespace Go.Proofs.YtkfhpmidcbmofaaGreat
open Go Hw

theorem rdblk_loose (n q N cp a1 : Nat) (e1 : Int) (ys : List UInt8) : LooseL [n] (fun v out => ∃ s bl, v = Sl.v s ∧ Hw.Acc s bl (Ab ys) 5 ys.length 1 ∧ out = bl ++ [RB n q N cp a1 e1]) := fun l h1 h2 => by
  obtain ⟨n0, _, hn0⟩ := fresh_is (n + 1) l
  refine ⟨_, _, ⟨⟨some ⟨n0, 0, none⟩, ys.length, ys.length⟩, [⟨n0, Ab ys, 5, ys.length * 1⟩], rfl, Acc.some (Nat.le_refl _) (by simp [Ab]), rfl⟩, ?_⟩
  simp only [List.cons_append, List.nil_append, List.map_cons, List.nodup_cons, List.mem_cons, RB]
  refine ⟨?_, ?_, h1⟩
  · rintro (h | h)
    · omega
    · obtain ⟨b, hb, e⟩ := List.mem_map.1 h
      exact hn0 b hb e
  · intro h
    obtain ⟨b, hb, e⟩ := List.mem_map.1 h
    exact h2 b hb (by rw [e]; exact List.mem_cons_self)

theorem item_vote (n q N cp at' : Nat) (e : Int) (c : Nat) (xs : List UInt8) (hx : xs.length = N) (hat : at' ≤ N) (hN : N ≤ cp) (hbig : N ≤ 90000) (hcn : c ≠ n) (o : Option (List UInt8)) (a1 : Nat) (e1 : Int) (h1 : blkR xs at' e = (o, a1, e1)) (hvk : (A9 (o.getD [])).1.ok) : Meets Tryz.prog 128 [ptr n 0, ptr c 0] [n] (fun W => BlkOk W (RB n q N cp at' e) ∧ Sees W q 0 (Ab xs) ∧ q ≠ n ∧ W.cell? ⟨c, 0, none⟩ = some (.func (.func 36) #[] #[])) (fun v out => v = .tuple #[agg (A9 (o.getD [])).1.cells, .bool (decide ((A9 (o.getD [])).2 = 0))] ∧ out = [RB n q N cp a1 e1]) := by
 intro W hW
 have hb1 := blkE_le h1 hx hat
 refine A3 (hp0 := [RB n q N cp at' e]) Tryz.func128 rfl 17 Tryz.ntmps128 rfl (HRep.one hW.1) ?_
 refine Sat.seq (Sat.region ?_)
 refine Tr.alloc (cs := Vote.zero.cells) rfl Vote.zr rfl ?_
 intro n3 hn3 hf3
 refine Tr.a rfl rfl rfl ?_
 refine Tr.nil (Aa (Sat.seq ?_))
 refine Sat.withK (sp_v (sp_v sp_n)) rfl ?_
 refine Sat.draw [(0, 0), (0, 1), (5, 2), (3, 3), (0, 4), (0, 5), (0, 6), (2, 7), (4, 8), (0, 9)] Bz zK ?_
 refine Tr.kloadE rfl rfl rfl Tryz.underlying85 rfl (by first | (simp; done) | (simp; exact hW.2.2) | (simp [Cx.with]; done) | (simp [Cx.with]; omega)) (hW.2.2.2) ?_
 refine Tr.m rfl rfl rfl ?_
 refine Tr.callL5 (L := [RB n q N cp at' e]) rfl rfl rfl rfl rfl Body87 (rd_BlockE n q N cp at' e xs hx hat hN hbig o a1 e1 h1) (rdblk_loose n q N cp a1 e1 (o.getD [])) (Ad rM Af) (A4 rfl) (fun w h => ⟨An h mM, sees_ext h (by simp [Cx.with]; exact hW.2.2.1) hW.2.1, hW.2.2.1⟩) ?_
 rintro v10 out10 ⟨s10, bl10, rfl, hac10, rfl⟩
 simp only [List.append_assoc, List.cons_append, List.nil_append]
 refine Tr.cV rfl rfl rfl rfl Body36 (vote_read s10.p s10.n s10.c (o.getD []) hac10.num.symm (fun e => hac10.nil e) (by rw [hac10.num]; omega)) (fun w h => hac10.see (Lies.of h iN)) ?_
 refine Tr.m rfl rfl rfl ?_
 refine Tr.eX rfl rfl rfl rfl ?_
 refine Tr.eX rfl rfl rfl rfl ?_
 refine Tr.alloc (cs := Vote.zero.cells) rfl Vote.zr rfl ?_
 intro n5 hn5 hf5
 refine Tr.sA rfl rfl rfl rfl (Vote.isCell (by first | exact oK  | exact hvk)) Bw (Vote.length (by first | exact oK  | exact hvk)) mM (Vote.length (by first | exact oK  | exact hvk)) uU ?_
 refine Tr.a rfl rfl rfl ?_
 refine Tr.nil (Aa (Sat.seq (Sat.region ?_)))
 simp only [List.cons_append, List.nil_append, List.append_nil, List.append_assoc]
 refine Tr.lA rfl rfl rfl U29 rfl Bw mM (Vote.length (by first | exact oK  | exact hvk)) ?_
 refine Tr.m rfl rfl rfl ?_
 refine Tr.eqi rfl rfl rfl rfl rfl ?_
 refine Tr.sA rfl rfl rfl rfl (Vote.isCell (by first | exact oK  | exact hvk)) Bw (Vote.length (by first | exact oK  | exact hvk)) mM (Vote.length (by first | exact oK  | exact hvk)) uU ?_
 refine Tr.a rfl rfl rfl ?_
 refine Tr.nil (Aa (Sat.ret (Ak ?_)))
 refine Aj (out := (RB n q N cp a1 e1 :: [])) (Ar rfl rfl rfl U29 rfl Bw mM (by first | (simp; done) | exact Vote.length (by first | exact oK  | exact hvk))) (Ad rM Af) ?_
 exact ⟨rfl, rfl⟩

theorem pm_one {hp l R : List Blk} {x : Blk} (h : hp.Perm ((x :: l) ++ R)) : hp.Perm (([x] ++ l) ++ R) := h
def votesR (xs : List UInt8) : Nat → Nat → Int → Option (List Vote × Nat × Int)
  | 0, a, e => some ([], a, e)
  | k + 1, a, e => (votesR xs k a e).bind fun r => if (A9 ((blkR xs r.2.1 r.2.2).1.getD [])).2 = 0 ∧ (blkR xs r.2.1 r.2.2).2.2 = 0 then some (r.1 ++ [(A9 ((blkR xs r.2.1 r.2.2).1.getD [])).1], (blkR xs r.2.1 r.2.2).2) else none
def readVL (xs : List UInt8) (M a : Nat) (e : Int) : Option (List Vote × Nat × Int) :=
  if (Bf xs a e).2.2 = 0 ∧ (Bf xs a e).1.toNat ≤ M then votesR xs (Bf xs a e).1.toNat (Bf xs a e).2.1 (Bf xs a e).2.2 else none
theorem votesR_step {xs : List UInt8} {k a : Nat} {e : Int} {vs : List Vote} {a2 a3 : Nat} {e2 e3 : Int} {o : Option (List UInt8)} (h : votesR xs k a e = some (vs, a2, e2)) (hb : blkR xs a2 e2 = (o, a3, e3)) (h1 : (A9 (o.getD [])).2 = 0) (h2 : e3 = 0) : votesR xs (k + 1) a e = some (vs ++ [(A9 (o.getD [])).1], a3, e3) := by
  rw [votesR, h, Option.bind_some]
  simp only [hb]
  rw [if_pos ⟨h1, h2⟩]
theorem votesR_stop {xs : List UInt8} {k a : Nat} {e : Int} {vs : List Vote} {a2 a3 : Nat} {e2 e3 : Int} {o : Option (List UInt8)} (h : votesR xs k a e = some (vs, a2, e2)) (hb : blkR xs a2 e2 = (o, a3, e3)) (h1 : ¬ ((A9 (o.getD [])).2 = 0 ∧ e3 = 0)) : ∀ m, k < m → votesR xs m a e = none
  | 0, hm => absurd hm oM
  | m + 1, hm => by
    rcases Nat.lt_succ_iff_lt_or_eq.1 hm with h3 | rfl
    · rw [votesR, votesR_stop h hb h1 m h3]; rfl
    · rw [votesR, h, Option.bind_some]
      simp only [hb]
      rw [if_neg h1]
theorem Bd (xs : List UInt8) : (A9 xs).1.ok := by
  unfold A9
  split
  · obtain ⟨x1, r1, h1⟩ : ∃ l r, Bf xs 0 0 = (l, r) := ⟨_, _, rfl⟩
    obtain ⟨a1, e1⟩ := r1
    obtain ⟨x2, r2, h2⟩ : ∃ l r, Bf xs a1 e1 = (l, r) := ⟨_, _, rfl⟩
    obtain ⟨a2, e2⟩ := r2
    obtain ⟨x3, r3, h3⟩ : ∃ l r, Bf xs a2 e2 = (l, r) := ⟨_, _, rfl⟩
    obtain ⟨a3, e3⟩ := r3
    obtain ⟨l4, r4, h4⟩ : ∃ l r, digR xs a3 e3 = (l, r) := ⟨_, _, rfl⟩
    obtain ⟨a4, e4⟩ := r4
    obtain ⟨x5, r5, h5⟩ : ∃ l r, Bf xs a4 e4 = (l, r) := ⟨_, _, rfl⟩
    obtain ⟨a5, e5⟩ := r5
    obtain ⟨l6, r6, h6⟩ : ∃ l r, digR xs a5 e5 = (l, r) := ⟨_, _, rfl⟩
    obtain ⟨a6, e6⟩ := r6
    obtain ⟨l7, r7, h7⟩ : ∃ l r, takR xs 64 a6 e6 = (l, r) := ⟨_, _, rfl⟩
    obtain ⟨a7, e7⟩ := r7
    have hd1 := numE_le h1 rfl (Nat.zero_le _)
    have hd2 := numE_le h2 rfl hd1
    have hd3 := numE_le h3 rfl hd2
    have hd4 := digE_le h4 rfl hd3
    have hd5 := numE_le h5 rfl hd4.1
    have hd6 := digE_le h6 rfl hd5
    have hd7 := takE_le h7 rfl hd6.1
    have hvp : (voteP xs).1 = (⟨x1, x2, ((min x3.toNat 4 : Nat) : Int), l4, x5, l6, l7 ++ (List.replicate 64 0).drop l7.length⟩ : Vote) := by simp only [voteP, h1, h2, h3, h4, h5, h6, h7]
    show (voteP xs).1.ok
    rw [hvp]
    exact ⟨hd4.2, hd6.2, by rcases hd7.2 with h | h <;> simp [h]⟩
  · exact Vote.zero_ok
theorem wf_small {x : Int} (h0 : 0 ≤ x) (h4 : x ≤ 4) : (Lit.int .i64 x).wf = true := by
  have e1 : IntKind.i64.min = -9223372036854775808 := rfl
  have e2 : IntKind.i64.max = 9223372036854775807 := rfl
  simp [Lit.wf]
  omega
structure Vgood (V : Vote) : Prop where
  ok : V.ok
  wf : (Lit.int .i64 V.fPhase).wf = true
theorem voteRd_good (xs : List UInt8) : Vgood (A9 xs).1 := ⟨Bd xs, by
  unfold A9
  split
  · refine wf_small ?_ ?_ <;> simp only [voteP] <;> omega
  · exact wf_small dE dE⟩
def VotesRead (xs : List UInt8) (M a : Nat) (e : Int) (n q N cp : Nat) (v : Value) (out : List Blk) : Prop :=
  ∃ s bl a1 e1, a1 ≤ N ∧ out = bl ++ [RB n q N cp a1 e1] ∧ v = .tuple #[Sl.v s, .bool (readVL xs M a e).isSome] ∧ (∀ vs a2 e2, readVL xs M a e = some (vs, a2, e2) → a1 = a2 ∧ e1 = e2 ∧ vs.length ≤ M ∧ (∀ V ∈ vs, Vgood V) ∧ Hw.Acc s bl (vs.map Vote.cells).flatten 29 vs.length 132)
theorem votes_none {xs : List UInt8} {M a : Nat} {e : Int} {n q N cp a1 : Nat} {e1 : Int} (h : readVL xs M a e = none) (ha : a1 ≤ N) : VotesRead xs M a e n q N cp (.tuple #[.slice none 0 0, .bool false]) (RB n q N cp a1 e1 :: []) :=
  ⟨Sl.nil, [], a1, e1, ha, rfl, by rw [h]; rfl, fun vs a2 e2 h2 => by rw [h] at h2; cases h2⟩
structure VSt where
  k : Nat
  s : Sl
  bl : List Blk
  vs : List Vote
  a : Nat
  e : Int

theorem read_votes (n q N cp at' : Nat) (e : Int) (c M : Nat) (xs : List UInt8) (hx : xs.length = N) (hat : at' ≤ N) (hN : N ≤ cp) (hbig : N ≤ 90000) (hcn : c ≠ n) (hM : M ≤ 1000) : Meets Tryz.prog 88 [ptr n 0, i64 (M : Int), .func (.func 128) #[] #[ptr c 0]] [n] (fun W => BlkOk W (RB n q N cp at' e) ∧ Sees W q 0 (Ab xs) ∧ q ≠ n ∧ W.cell? ⟨c, 0, none⟩ = some (.func (.func 36) #[] #[])) (VotesRead xs M at' e n q N cp) := by
 intro W hW
 obtain ⟨x1, r1, h1⟩ : ∃ l r, Bf xs at' e = (l, r) := ⟨_, _, rfl⟩
 obtain ⟨a1, e1⟩ := r1
 have hd1 := numE_le h1 hx hat
 have hMw : (UInt64.ofNat M).toNat = M := Br oM
 have hrv : readVL xs M at' e = if e1 = 0 ∧ x1.toNat ≤ M then votesR xs x1.toNat a1 e1 else none := by simp only [readVL, h1]
 refine A3 (hp0 := [RB n q N cp at' e]) Tryz.func88 rfl 47 Tryz.ntmps88 rfl (HRep.one hW.1) ?_
 refine Sat.seq (Sat.region ?_)
 refine Tr.a rfl rfl rfl ?_
 refine Tr.a rfl rfl rfl ?_
 refine Tr.nil (Aa (Sat.seq (Sat.region ?_)))
 refine Tr.m rfl rfl rfl ?_
 refine Tr.callL (L := [RB n q N cp at' e]) rfl rfl rfl rfl rfl Body90 (rd_NumberE n q N cp at' e xs hx hat hN oM x1 a1 e1 h1) (Ad rM Af) (A4 rfl) (fun w h => ⟨An h mM, sees_ext h (by simp; exact hW.2.2.1) hW.2.1, hW.2.2.1⟩) ?_
 rintro v13 out13 ⟨rfl, rfl⟩
 refine Tr.a rfl rfl rfl ?_
 refine Tr.nil (Aa (Sat.seq (Sat.seq (Sat.region ?_))))
 refine Tr.m rfl rfl rfl ?_
 refine Tr.cV rfl rfl rfl rfl Body123 (rd_Err n q N cp a1 e1) (fun w h => An h mM) ?_
 refine two (fun r hr k => Tr.nei rfl rfl rfl rfl hr k) (fun hs2_20 => ?_) (fun hs2_20 => ?_)
 ·
  first | have hs2_2 := of_decide_eq_true hs2_20 | have hs2_2 := of_decide_eq_false hs2_20 | have hs2_2 := Bg hs2_20 | have hs2_2 := Bh hs2_20 | have hs2_2 := hs2_20
  refine Tr.m rfl rfl rfl ?_
  refine Tr.skp rfl rfl ?_
  refine Tr.skp rfl rfl ?_
  refine Tr.skp rfl rfl ?_
  refine Tr.skp rfl rfl ?_
  refine Tr.pick rfl rfl rfl rfl rfl rfl ?_
  refine Tr.nil (Aa ?_)
  refine Sat.cond_t rfl rfl ?_
  refine Sat.seq (Sat.region ?_)
  refine Tr.a rfl rfl rfl ?_
  refine Tr.a rfl rfl rfl ?_
  refine Tr.nil (Aa (Sat.ret (Ao (Ak ?_))))
  refine Aj (out := (RB n q N cp a1 e1 :: [])) (Bj rfl rfl rfl) (Ad rM Af) ?_
  exact votes_none (by rw [hrv]; exact if_neg (fun h => by omega)) oM
 ·
  first | have hs2_2 := of_decide_eq_true hs2_20 | have hs2_2 := of_decide_eq_false hs2_20 | have hs2_2 := Bg hs2_20 | have hs2_2 := Bh hs2_20 | have hs2_2 := hs2_20
  refine Tr.m rfl rfl rfl ?_
  refine Tr.m rfl rfl rfl ?_
  refine Tr.m rfl rfl rfl ?_
  refine Tr.conv rfl rfl rfl U3 U22 (Bo _) ?_
  rw [word_nat (n := M) oM]
  refine Tr.gtr rfl rfl rfl rfl rfl ?_
  refine Tr.pick rfl rfl rfl rfl rfl rfl ?_
  refine Tr.nil (Aa ?_)
  first
   | refine Sat.condP rfl (fun hc0 => ?_) (fun hc0 => ?_)
   | refine Sat.condNP rfl (fun hc0 => ?_) (fun hc0 => ?_)
   | refine Sat.cond rfl (fun hc0 => ?_) (fun hc0 => ?_)
  ·
   have hno : ¬ (e1 = 0 ∧ x1.toNat ≤ M) := by omega
   refine Sat.seq (Sat.region ?_)
   refine Tr.a rfl rfl rfl ?_
   refine Tr.a rfl rfl rfl ?_
   refine Tr.nil (Aa (Sat.ret (Ao (Ak ?_))))
   refine Aj (out := (RB n q N cp a1 e1 :: [])) (Bj rfl rfl rfl) (Ad rM Af) ?_
   exact votes_none (by rw [hrv]; exact if_neg (fun h => by omega)) oM
  ·
   have hyes : e1 = 0 ∧ x1.toNat ≤ M := by omega
   have hx64 : x1 = UInt64.ofNat x1.toNat := by simp
   refine Sat.skip (Aa (Sat.seq (Sat.region ?_)))
   refine Tr.m rfl rfl rfl ?_
   refine Tr.mkRoomN (z := agg Vote.zero.cells) (by' := 160) x1.toNat rfl rfl rfl rfl rfl U42 Bw Vote.zr (by unfold By; kernel_rfl) oM oM ?_
   intro q9
   refine Tr.a rfl rfl rfl ?_
   refine Tr.nil (Aa (Sat.seq (Sat.seq (Sat.region ?_))))
   refine Tr.m rfl rfl rfl ?_
   refine Tr.m rfl rfl rfl ?_
   refine Tr.nil (Aa (Sat.block ?_))
   refine Sat.loop (ι := VSt) (fun p => ⟨[(0, ptr n 0), (2, .func (.func 128) #[] #[ptr c 0]), (9, p.s.v), (25, u64 x1), (26, u64 (UInt64.ofNat p.k))], (RB n q N cp p.a p.e :: (p.bl ++ []))⟩) (fun p => p.k ≤ x1.toNat ∧ votesR xs p.k a1 e1 = some (p.vs, p.a, p.e) ∧ p.a ≤ N ∧ Hw.Acc p.s p.bl (p.vs.map Vote.cells).flatten 29 p.k 132 ∧ p.vs.length = p.k ∧ ∀ V ∈ p.vs, Vgood V) (fun p => x1.toNat - p.k) (⟨0, ⟨some ⟨q9, 0, none⟩, 0, x1.toNat⟩, [⟨q9, [], 29, x1.toNat * 132⟩], [], a1, e1⟩) ?_ ?_ ?_
   · exact ⟨Nat.zero_le _, rfl, hd1, Acc.some (Nat.zero_le _) sP, rfl, fun V h => (by cases h)⟩
   · exact Ah (wk1 rfl (wk1 rfl (wk1 rfl (wk1 rfl (wk1 rfl wk0))))) (Ad rM (pm_one (Ad rM Af)))
   ·
    rintro p hp
    obtain ⟨k, s, bl, vs, a2, e2⟩ := p
    obtain ⟨hk, hvr, ha2, hac, hvl, hvo⟩ := hp
    dsimp only at hk hvr ha2 hac hvl hvo ⊢
    obtain ⟨o, r3, hb3⟩ : ∃ l r, blkR xs a2 e2 = (l, r) := ⟨_, _, rfl⟩
    obtain ⟨a3, e3⟩ := r3
    have hd3 := blkE_le hb3 hx ha2
    refine Sat.seq (Sat.region ?_)
    refine Tr.lss rfl rfl rfl rfl rfl ?_
    refine Tr.nil (Aa (Sat.seq ?_))
    first
     | refine Sat.condP rfl (fun hc1 => ?_) (fun hc1 => ?_)
     | refine Sat.condNP rfl (fun hc1 => ?_) (fun hc1 => ?_)
     | refine Sat.cond rfl (fun hc1 => ?_) (fun hc1 => ?_)
    ·
     have hk64 : (UInt64.ofNat k).toNat = k := Br oM
     have hk2 : k < x1.toNat := by omega
     refine Sat.skip (Aa (Sat.seq (Sat.block (Sat.seq (Sat.region ?_)))))
     refine Tr.m rfl rfl rfl ?_
     refine Tr.m rfl rfl rfl ?_
     refine Tr.callCL (L := [RB n q N cp a2 e2]) rfl rfl rfl rfl rfl rfl Body128 (item_vote n q N cp a2 e2 c xs hx ha2 hN hbig hcn o a3 e3 hb3 (Bd _)) (Ad rM Af) (A4 rfl) (fun w h => ⟨An h mM, sees_ext h (by simp; exact hW.2.2.1) hW.2.1, hW.2.2.1, h.keeps.cell (by simp; exact hcn) hW.2.2.2⟩) ?_
     rintro v31 out31 ⟨rfl, rfl⟩
     refine Tr.m rfl rfl rfl ?_
     refine Tr.eX rfl rfl rfl rfl ?_
     refine Tr.extractB rfl rfl rfl rfl (fun hs7_50 => ?_) (fun hs7_50 => ?_)
     ·
      first | have hs7_5 := of_decide_eq_true hs7_50 | have hs7_5 := of_decide_eq_false hs7_50 | have hs7_5 := Bg hs7_50 | have hs7_5 := Bh hs7_50 | have hs7_5 := hs7_50
      refine Tr.alloc (cs := Vote.zero.cells) rfl Vote.zr rfl ?_
      intro n10 hn10 hf10
      refine Tr.sA rfl rfl rfl rfl (Vote.isCell (by first | exact oK  | exact Bd _)) Bw (Vote.length (by first | exact oK  | exact Bd _)) mM (Vote.length (by first | exact oK  | exact Bd _)) uU ?_
      refine Tr.a rfl rfl rfl ?_
      refine Tr.nil (Aa (Sat.seq (Sat.seq (Sat.region ?_))))
      refine Tr.m rfl rfl rfl ?_
      refine Tr.not rfl rfl rfl ?_
      refine Tr.m rfl rfl rfl ?_
      refine Tr.m rfl rfl rfl ?_
      refine Tr.cV rfl rfl rfl rfl Body123 (rd_Err n q N cp a3 e3) (fun w h => An h mM) ?_
      refine Tr.nei rfl rfl rfl rfl rfl ?_
      refine Tr.pick rfl rfl rfl rfl rfl rfl ?_
      refine Tr.nil (Aa ?_)
      first
       | refine Sat.condP rfl (fun hc2 => ?_) (fun hc2 => ?_)
       | refine Sat.condNP rfl (fun hc2 => ?_) (fun hc2 => ?_)
       | refine Sat.cond rfl (fun hc2 => ?_) (fun hc2 => ?_)
      ·
       refine Sat.seq (Sat.region ?_)
       refine Tr.a rfl rfl rfl ?_
       refine Tr.a rfl rfl rfl ?_
       refine Tr.nil (Aa (Sat.ret (Ao (B8 (Ao (Ao (B8 (Ao (Ak ?_)))))))))
       refine Aj (out := (RB n q N cp a3 e3 :: [])) (Bj rfl rfl rfl) (Ad rM Af) ?_
       exact votes_none (by rw [hrv, if_pos hyes]; exact votesR_stop hvr hb3 oM _ hk2) hd3.1
      ·
       refine Sat.skip (Aa (Sat.region ?_))
       refine Tr.m rfl rfl rfl ?_
       refine Tr.lA rfl rfl rfl U29 rfl Bw mM (Vote.length (by first | exact oK  | exact Bd _)) ?_
       refine Tr.mkRow (z := agg Vote.zero.cells) [agg (A9 (o.getD [])).1.cells] (A9 (o.getD [])).1.cells rfl rfl rfl U42 Bw Vote.zr rfl rfl (by intro v hv; rw [List.mem_singleton.1 hv]; exact Vote.length (Bd _)) dE (by simp [Value.cells]) ?_
       intro q43
       refine Tr.appendAcc (z := agg Vote.zero.cells) (by' := 160) ((A9 (o.getD [])).1.cells) rfl rfl rfl rfl rfl U42 U42 Bw Zr29 (by unfold By; kernel_rfl) rfl hac sG (fun w h => SeesP.of (As h mM)) (fun e => by cases e) (Vote.isCell (Bd _)) oM oM (by rw [Vote.length (Bd _)]) ?_
       intro s44 bl44 hac44
       refine Tr.a rfl rfl rfl ?_
       refine Tr.nil (Bs (Aa (Sat.region ?_)))
       refine Tr.add_u64 rfl rfl rfl (show Am _ _ = some (u64 1) from rfl) ?_
       refine Tr.m rfl rfl rfl ?_
       refine Tr.nil (Aa ?_)
       refine ⟨⟨k + 1, s44, bl44, vs ++ [(A9 (o.getD [])).1], a3, e3⟩, ⟨by simp only []; omega, votesR_step hvr hb3 hs7_5 oM, hd3.1, by simpa using hac44, by simp [hvl], fun V hV => ?_⟩, by simp only []; omega, Ah (wk1 rfl (wk1 rfl (wk1 rfl (wk1 rfl (wk1 (congrArg (fun z => some (u64 z)) (ofNat_step _)) wk0))))) (Ad rM (Ac sG Af))⟩
       rcases List.mem_append.1 hV with h | h
       · exact hvo V h
       · rw [List.mem_singleton.1 h]; exact voteRd_good _
     ·
      first | have hs7_5 := of_decide_eq_true hs7_50 | have hs7_5 := of_decide_eq_false hs7_50 | have hs7_5 := Bg hs7_50 | have hs7_5 := Bh hs7_50 | have hs7_5 := hs7_50
      refine Tr.alloc (cs := Vote.zero.cells) rfl Vote.zr rfl ?_
      intro n10 hn10 hf10
      refine Tr.sA rfl rfl rfl rfl (Vote.isCell (by first | exact oK  | exact Bd _)) Bw (Vote.length (by first | exact oK  | exact Bd _)) mM (Vote.length (by first | exact oK  | exact Bd _)) uU ?_
      refine Tr.a rfl rfl rfl ?_
      refine Tr.nil (Aa (Sat.seq (Sat.seq (Sat.region ?_))))
      refine Tr.m rfl rfl rfl ?_
      refine Tr.not rfl rfl rfl ?_
      refine Tr.m rfl rfl rfl ?_
      refine Tr.skp rfl rfl ?_
      refine Tr.skp rfl rfl ?_
      refine Tr.skp rfl rfl ?_
      refine Tr.pick rfl rfl rfl rfl rfl rfl ?_
      refine Tr.nil (Aa ?_)
      refine Sat.cond_t rfl rfl ?_
      refine Sat.seq (Sat.region ?_)
      refine Tr.a rfl rfl rfl ?_
      refine Tr.a rfl rfl rfl ?_
      refine Tr.nil (Aa (Sat.ret (Ao (B8 (Ao (Ao (B8 (Ao (Ak ?_)))))))))
      refine Aj (out := (RB n q N cp a3 e3 :: [])) (Bj rfl rfl rfl) (Ad rM Af) ?_
      exact votes_none (by rw [hrv, if_pos hyes]; exact votesR_stop hvr hb3 oM _ hk2) hd3.1
    ·
     have hk64 : (UInt64.ofNat k).toNat = k := Br oM
     have hke : k = x1.toNat := by omega
     refine Sat.exit (A7 (A7 (bl_h (Aa (Sat.seq (Sat.region ?_))))))
     refine Tr.m rfl rfl rfl ?_
     refine Tr.a rfl rfl rfl ?_
     refine Tr.a rfl rfl rfl ?_
     refine Tr.nil (Aa (Sat.ret (Ak ?_)))
     refine Aj (out := (bl ++ (RB n q N cp a2 e2 :: []))) (Bj rfl rfl rfl) (Ac sG (Ad rM Af)) ?_
     have hfin : readVL xs M at' e = some (vs, a2, e2) := by rw [hrv, if_pos hyes, ← hke]; exact hvr
     exact ⟨s, bl, a2, e2, ha2, by simp, by rw [hfin]; rfl, fun vs2 a4 e4 h4 => by rw [hfin] at h4; cases h4; exact ⟨rfl, rfl, by omega, hvo, by rw [hvl]; exact hac⟩⟩

end Go.Proofs.YtkfhpmidcbmofaaGreat
end

section
namespace Go.Proofs.YtkfhpmidcbmofaaGreat
open Go Hw

def dcertz : DCert := ⟨DCut.zero, []⟩
noncomputable def certRd (xs : List UInt8) : DCert × Int :=
  if (cutRd ((blkR xs 0 0).1.getD [])).2 = 0 then
    match readVL xs 16 (blkR xs 0 0).2.1 (blkR xs 0 0).2.2 with
    | some (vs, a, e) => if endR xs.length a e = 0 ∧ (⟨(cutRd ((blkR xs 0 0).1.getD [])).1, vs⟩ : DCert).check = 0 then (⟨(cutRd ((blkR xs 0 0).1.getD [])).1, vs⟩, 0) else (dcertz, 4)
    | none => (dcertz, 4)
  else (dcertz, 4)
theorem certz_is (W : World) : CertIs W Cert.zero dcertz := ⟨Cert.zero_ok, cutz_is W, ⟨[], SeqIs.none⟩⟩
def CertRead (xs : List UInt8) (v : Value) (out : List Blk) : Prop := ∃ C : Cert, C.ok ∧ v = .tuple #[agg C.cells, i64 (certRd xs).2] ∧ ∀ W2, Lies out W2 → CertIs W2 C (certRd xs).1
theorem cert_bad {xs : List UInt8} {out : List Blk} (h : certRd xs = (dcertz, 4)) : CertRead xs (.tuple #[agg Cert.zero.cells, i64 4]) out := by
  refine ⟨Cert.zero, Cert.zero_ok, ?_, fun W2 _ => ?_⟩ <;> rw [h]
  exact certz_is W2
theorem cert_okR {xs : List UInt8} {out : List Blk} {C : Cert} {D : DCert} (h : certRd xs = (D, 0)) (hok : C.ok) (hC : ∀ W2, Lies out W2 → CertIs W2 C D) : CertRead xs (.tuple #[agg C.cells, i64 0]) out := by
  refine ⟨C, hok, ?_, fun W2 h2 => ?_⟩ <;> rw [h]
  exact hC W2 h2
theorem upd_cut {C : Cert} (h : C.ok) {X : Cut} (hx : X.ok) : upd C.cells (0 + 0) X.cells = ({ C with fCut := X } : Cert).cells := by
  have h1 := Cut.length h.o_fCut
  have h2 := Cut.length hx
  simp only [upd, Cert.cells, Nat.zero_add, List.take_zero, List.nil_append, h2]
  congr 1
  rw [← h1, List.drop_left]

theorem owned_vs {s : Sl} {bl : List Blk} {vs : List Vote} (hv : ∀ V ∈ vs, Vgood V) (h : Hw.Acc s bl (vs.map Vote.cells).flatten 29 vs.length 132) (hm : vs.length ≤ 1000000) : ∀ W2, Lies bl W2 → VotesAt W2 s vs := fun W2 hl => ⟨vs, acc_seq h hl rfl rfl (fun r hr => Vote.length (hv r hr).ok) hm fun i r d hr hd => (by
  rw [hr] at hd
  obtain rfl := Option.some.inj hd
  exact ⟨(hv r (List.mem_of_getElem? hr)).ok, rfl, (hv r (List.mem_of_getElem? hr)).wf⟩)⟩

theorem mk_item_vote  : Meets Tryz.prog 89 [.func (.func 36) #[] #[]] [] (fun _ => True) (fun v out => ∃ c, v = .func (.func 128) #[] #[ptr c 0] ∧ out = [⟨c, [.func (.func 36) #[] #[]], 85, 1⟩]) := by
 intro W hW
 refine Ai Tryz.func89 rfl 4 Tryz.ntmps89 rfl ?_
 refine Sat.seq (Sat.region ?_)
 refine Tr.box1 rfl rfl rfl ?_
 intro n1 hn1 hf1
 refine Tr.a rfl rfl rfl ?_
 refine Tr.nil (Aa (Sat.seq (Sat.region ?_)))
 refine Tr.makeFunc rfl rfl rfl rfl ?_
 refine Tr.a rfl rfl rfl ?_
 refine Tr.nil (Aa (Sat.ret (Ak ?_)))
 refine Aj (out := (⟨n1, [.func (.func 36) #[] #[]], 85, 1⟩ :: [])) (Ae rfl rfl) (Ad rM Af) ?_
 exact ⟨n1, rfl, by simp⟩

theorem cert_read (a : Option Addr) (n c : Nat) (xs : List UInt8) (hl : xs.length = n) (hp : a = none → n = 0) (hn : n ≤ 90000) : Meets Tryz.prog 34 [.slice a n c] [] (fun W => SeesP W a (Ab xs)) (CertRead xs) := by
 intro W hW
 obtain ⟨o, r1, h1⟩ : ∃ l r, blkR xs 0 0 = (l, r) := ⟨_, _, rfl⟩
 obtain ⟨a1, e1⟩ := r1
 have hd1 := blkE_le h1 hl (Nat.zero_le _)
 have hcr : certRd xs = if (cutRd (o.getD [])).2 = 0 then (match readVL xs 16 a1 e1 with | some (vs, a, e) => if endR xs.length a e = 0 ∧ (⟨(cutRd (o.getD [])).1, vs⟩ : DCert).check = 0 then ((⟨(cutRd (o.getD [])).1, vs⟩ : DCert), (0 : Int)) else (dcertz, (4 : Int)) | none => (dcertz, (4 : Int))) else (dcertz, (4 : Int)) := by simp only [certRd, h1]
 refine Ai Tryz.func34 rfl 40 Tryz.ntmps34 rfl ?_
 refine Sat.seq (Sat.region ?_)
 refine Tr.alloc (cs := Cert.zero.cells) rfl Cert.zr rfl ?_
 intro n2 hn2 hf2
 refine Tr.a rfl rfl rfl ?_
 refine Tr.nil (Aa (Sat.seq (Sat.region ?_)))
 refine Tr.m rfl rfl rfl ?_
 refine Tr.call4 rfl rfl rfl rfl rfl Body81 (oct_Read a n c xs hl hp hn) (fun w h => Ax h rfl hW) ?_
 rintro v7 out7 ⟨n7, q7, cp7, rfl, hcp7, rfl⟩
 refine Tr.nd (fun hnd => ?_)
 have hne : q7 ≠ n7 := by intro e; simp [RB, e] at hnd
 clear hnd
 refine Tr.a rfl rfl rfl ?_
 refine Tr.nil (Aa (Sat.seq (Sat.region ?_)))
 refine Tr.alloc (cs := Cert.zero.cells) rfl Cert.zr rfl ?_
 intro n5 hn5 hf5
 refine Tr.nil (Aa (Sat.seq (Sat.region ?_)))
 refine Tr.a rfl rfl rfl ?_
 refine Tr.nil (Aa (Sat.seq (Sat.seq (Sat.region ?_))))
 refine Tr.m rfl rfl rfl ?_
 refine Tr.callL (L := [RB n7 q7 n cp7 0 0]) rfl rfl rfl rfl rfl Body87 (rd_BlockE n7 q7 n cp7 0 0 xs hl (Nat.zero_le _) hcp7 hn o a1 e1 h1) (Ad rM Af) (A4 rfl) (fun w h => ⟨An h mM, As h mM, hne⟩) ?_
 rintro v12 out12 ⟨s12, bl12, rfl, hac12, rfl⟩
 simp only [List.append_assoc, List.cons_append, List.nil_append]
 refine Tr.call4 rfl rfl rfl rfl rfl Body38 (cut_read s12.p s12.n s12.c (o.getD []) hac12.num.symm (fun e => hac12.nil e) (by rw [hac12.num]; omega)) (fun w h => hac12.see (Lies.of h iN)) ?_
 rintro v13 out13 ⟨C13, okC, rfl, hC13⟩
 refine Tr.m rfl rfl rfl ?_
 refine Tr.eX rfl rfl rfl rfl ?_
 refine Tr.eX rfl rfl rfl rfl ?_
 refine Tr.fld rfl rfl rfl U80 rfl B0 dE _ rfl ?_
 refine Tr.storeN C13.cells rfl rfl rfl rfl rfl (Cut.isCell okC) B0 (Cut.length okC) mM (by rw [Cert.length Cert.zero_ok, Cut.length okC]; decide) (upd_cut Cert.zero_ok okC) uU ?_
 refine Tr.a rfl rfl rfl ?_
 refine Tr.nil (Aa (Sat.seq (Sat.region ?_)))
 refine Tr.m rfl rfl rfl ?_
 refine Tr.nei rfl rfl rfl rfl rfl ?_
 refine Tr.nil (Aa ?_)
 first
  | refine Sat.condP rfl (fun hc0 => ?_) (fun hc0 => ?_)
  | refine Sat.condNP rfl (fun hc0 => ?_) (fun hc0 => ?_)
  | refine Sat.cond rfl (fun hc0 => ?_) (fun hc0 => ?_)
 ·
  refine Sat.seq (Sat.region ?_)
  refine Tr.build (cs := Cert.zero.cells) rfl rfl rfl (fun w => by kernel_rfl) ?_
  refine Tr.sA rfl rfl rfl rfl (Cert.isCell (by first | exact oK | exact ⟨okC⟩ | exact okC)) Sz80 (Cert.length (by first | exact oK | exact ⟨okC⟩ | exact okC)) mM (Cert.length (by first | exact oK | exact ⟨okC⟩ | exact okC)) uU ?_
  refine Tr.a rfl rfl rfl ?_
  refine Tr.nil (Aa (Sat.ret (Ao (Ak ?_))))
  refine Aj (out := []) (Ar rfl rfl rfl U80 rfl Sz80 mM (by first | (simp; done) | exact Cert.length (by first | exact oK | exact ⟨okC⟩ | exact okC))) Af ?_
  exact cert_bad (by rw [hcr]; exact if_neg oM)
 ·
  have hc13 : (cutRd (o.getD [])).2 = 0 := by omega
  refine Sat.skip (Aa (Sat.seq (Sat.region ?_)))
  refine Tr.a rfl rfl rfl ?_
  refine Tr.nil (Aa (Sat.seq (Sat.seq (Sat.region ?_))))
  refine Tr.m rfl rfl rfl ?_
  refine Tr.call4 rfl rfl rfl rfl rfl Body89 (mk_item_vote) tV ?_
  rintro v22 out22 ⟨c22, rfl, rfl⟩
  refine Tr.nd (fun hnd => ?_)
  have hcn : c22 ≠ n7 := by intro e; simp [RB, e] at hnd
  clear hnd
  simp only [List.append_assoc, List.cons_append, List.nil_append]
  refine Tr.callL (L := [RB n7 q7 n cp7 a1 e1]) rfl rfl rfl rfl rfl Body88 (read_votes n7 q7 n cp7 a1 e1 c22 16 xs hl hd1.1 hcp7 hn hcn dE) (Ad rM Af) (A4 rfl) (fun w h => ⟨An h mM, As h mM, hne, (An (B := ⟨c22, _, _, _⟩) h mM).cell (o := 0) rfl⟩) ?_
  rintro v23 out23 ⟨s23, bl23, a2, e2, ha2, rfl, rfl, hv23⟩
  simp only [List.append_assoc, List.cons_append, List.nil_append]
  refine Tr.m rfl rfl rfl ?_
  refine Tr.eX rfl rfl rfl rfl ?_
  refine Tr.extractB rfl rfl rfl rfl (fun hs8_50 => ?_) (fun hs8_50 => ?_)
  ·
   first | have hs8_5 := of_decide_eq_true hs8_50 | have hs8_5 := of_decide_eq_false hs8_50 | have hs8_5 := Bg hs8_50 | have hs8_5 := Bh hs8_50 | have hs8_5 := hs8_50
   obtain ⟨r23, hr23⟩ := Option.isSome_iff_exists.1 hs8_5
   obtain ⟨vs, a4, e4⟩ := r23
   obtain ⟨rfl, rfl, hvn, hvo, hvac⟩ := hv23 vs a4 e4 hr23
   refine Tr.fld rfl rfl rfl U80 rfl Sz42 dE _ rfl ?_
   refine Tr.s1 rfl rfl rfl rfl rfl Sz42 mM (by rw [Cert.length (by first | exact oK | exact ⟨okC⟩ | exact okC)]; decide) (by first | exact Cert.set_fVotes (by first | exact oK | exact ⟨okC⟩ | exact okC) _ | exact Cert.setS_fVotes (by first | exact oK | exact ⟨okC⟩ | exact okC) _ _ _) uU ?_
   refine Tr.a rfl rfl rfl ?_
   refine Tr.nil (Aa (Sat.seq (Sat.region ?_)))
   refine Tr.m rfl rfl rfl ?_
   refine Tr.not rfl rfl rfl ?_
   refine Tr.nil (Aa ?_)
   refine Sat.cond_f rfl rfl ?_
   refine Sat.skip (Aa (Sat.seq (Sat.seq (Sat.region ?_))))
   refine Tr.m rfl rfl rfl ?_
   refine Tr.cV rfl rfl rfl rfl Body86 (rd_End n7 q7 n cp7 a2 e2 ha2 oM) (fun w h => An h mM) ?_
   refine two (fun r hr k => Tr.nei rfl rfl rfl rfl hr k) (fun hs11_20 => ?_) (fun hs11_20 => ?_)
   ·
    first | have hs11_2 := of_decide_eq_true hs11_20 | have hs11_2 := of_decide_eq_false hs11_20 | have hs11_2 := Bg hs11_20 | have hs11_2 := Bh hs11_20 | have hs11_2 := hs11_20
    refine Tr.m rfl rfl rfl ?_
    refine Tr.skp rfl rfl ?_
    refine Tr.skp rfl rfl ?_
    refine Tr.skp rfl rfl ?_
    refine Tr.pick rfl rfl rfl rfl rfl rfl ?_
    refine Tr.nil (Aa ?_)
    refine Sat.cond_t rfl rfl ?_
    refine Sat.seq (Sat.region ?_)
    refine Tr.build (cs := Cert.zero.cells) rfl rfl rfl (fun w => by kernel_rfl) ?_
    refine Tr.sA rfl rfl rfl rfl (Cert.isCell (by first | exact oK | exact ⟨okC⟩ | exact okC)) Sz80 (Cert.length (by first | exact oK | exact ⟨okC⟩ | exact okC)) mM (Cert.length (by first | exact oK | exact ⟨okC⟩ | exact okC)) uU ?_
    refine Tr.a rfl rfl rfl ?_
    refine Tr.nil (Aa (Sat.ret (Ao (Ak ?_))))
    refine Aj (out := []) (Ar rfl rfl rfl U80 rfl Sz80 mM (by first | (simp; done) | exact Cert.length (by first | exact oK | exact ⟨okC⟩ | exact okC))) Af ?_
    exact cert_bad (by rw [hcr, if_pos hc13, hr23]; dsimp only; rw [hl]; exact if_neg (fun h => by have := h.1; omega))
   ·
    first | have hs11_2 := of_decide_eq_true hs11_20 | have hs11_2 := of_decide_eq_false hs11_20 | have hs11_2 := Bg hs11_20 | have hs11_2 := Bh hs11_20 | have hs11_2 := hs11_20
    refine Tr.m rfl rfl rfl ?_
    refine Tr.lA rfl rfl rfl U80 rfl Sz80 mM (Cert.length (by first | exact oK | exact ⟨okC⟩ | exact okC)) ?_
    refine Tr.cV rfl rfl rfl rfl Body50 (cert_check ({ Cert.zero with fCut := C13, fVotes := s23 } : Cert) ⟨(cutRd (o.getD [])).1, vs⟩) (fun w h => ⟨⟨okC⟩, hC13 w (Lies.of h iN), owned_vs hvo hvac oM w (Lies.of h iN)⟩) ?_
    refine Tr.nei rfl rfl rfl rfl rfl ?_
    refine Tr.pick rfl rfl rfl rfl rfl rfl ?_
    refine Tr.nil (Aa ?_)
    first
     | refine Sat.condP rfl (fun hc2 => ?_) (fun hc2 => ?_)
     | refine Sat.condNP rfl (fun hc2 => ?_) (fun hc2 => ?_)
     | refine Sat.cond rfl (fun hc2 => ?_) (fun hc2 => ?_)
    ·
     refine Sat.seq (Sat.region ?_)
     refine Tr.build (cs := Cert.zero.cells) rfl rfl rfl (fun w => by kernel_rfl) ?_
     refine Tr.sA rfl rfl rfl rfl (Cert.isCell (by first | exact oK | exact ⟨okC⟩ | exact okC)) Sz80 (Cert.length (by first | exact oK | exact ⟨okC⟩ | exact okC)) mM (Cert.length (by first | exact oK | exact ⟨okC⟩ | exact okC)) uU ?_
     refine Tr.a rfl rfl rfl ?_
     refine Tr.nil (Aa (Sat.ret (Ao (Ak ?_))))
     refine Aj (out := []) (Ar rfl rfl rfl U80 rfl Sz80 mM (by first | (simp; done) | exact Cert.length (by first | exact oK | exact ⟨okC⟩ | exact okC))) Af ?_
     exact cert_bad (by rw [hcr, if_pos hc13, hr23]; dsimp only; rw [hl]; exact if_neg (fun h => by have := h.2; omega))
    ·
     refine Sat.skip (Aa (Sat.seq (Sat.region ?_)))
     refine Tr.lA rfl rfl rfl U80 rfl Sz80 mM (Cert.length (by first | exact oK | exact ⟨okC⟩ | exact okC)) ?_
     refine Tr.sA rfl rfl rfl rfl (Cert.isCell (by first | exact oK | exact ⟨okC⟩ | exact okC)) Sz80 (Cert.length (by first | exact oK | exact ⟨okC⟩ | exact okC)) mM (Cert.length (by first | exact oK | exact ⟨okC⟩ | exact okC)) uU ?_
     refine Tr.a rfl rfl rfl ?_
     refine Tr.nil (Aa (Sat.ret (Ak ?_)))
     refine Aj (out := (out13 ++ (bl23 ++ []))) (Ar rfl rfl rfl U80 rfl Sz80 mM (by first | (simp; done) | exact Cert.length (by first | exact oK | exact ⟨okC⟩ | exact okC))) (Ac sG (Ac sG Af)) ?_
     exact cert_okR (D := ⟨(cutRd (o.getD [])).1, vs⟩) (by rw [hcr, if_pos hc13, hr23]; dsimp only; rw [hl]; exact if_pos ⟨by omega, by omega⟩) ⟨okC⟩ (fun W2 h2 => ⟨⟨okC⟩, hC13 W2 (h2.sub iN), owned_vs hvo hvac oM W2 (h2.sub iN)⟩)
  ·
   first | have hs8_5 := of_decide_eq_true hs8_50 | have hs8_5 := of_decide_eq_false hs8_50 | have hs8_5 := Bg hs8_50 | have hs8_5 := Bh hs8_50 | have hs8_5 := hs8_50
   have hr23 : readVL xs 16 a1 e1 = none := by simpa using hs8_5
   refine Tr.fld rfl rfl rfl U80 rfl Sz42 dE _ rfl ?_
   refine Tr.s1 rfl rfl rfl rfl rfl Sz42 mM (by rw [Cert.length (by first | exact oK | exact ⟨okC⟩ | exact okC)]; decide) (by first | exact Cert.set_fVotes (by first | exact oK | exact ⟨okC⟩ | exact okC) _ | exact Cert.setS_fVotes (by first | exact oK | exact ⟨okC⟩ | exact okC) _ _ _) uU ?_
   refine Tr.a rfl rfl rfl ?_
   refine Tr.nil (Aa (Sat.seq (Sat.region ?_)))
   refine Tr.m rfl rfl rfl ?_
   refine Tr.not rfl rfl rfl ?_
   refine Tr.nil (Aa ?_)
   refine Sat.cond_t rfl rfl ?_
   refine Sat.seq (Sat.region ?_)
   refine Tr.build (cs := Cert.zero.cells) rfl rfl rfl (fun w => by kernel_rfl) ?_
   refine Tr.sA rfl rfl rfl rfl (Cert.isCell (by first | exact oK | exact ⟨okC⟩ | exact okC)) Sz80 (Cert.length (by first | exact oK | exact ⟨okC⟩ | exact okC)) mM (Cert.length (by first | exact oK | exact ⟨okC⟩ | exact okC)) uU ?_
   refine Tr.a rfl rfl rfl ?_
   refine Tr.nil (Aa (Sat.ret (Ao (Ak ?_))))
   refine Aj (out := []) (Ar rfl rfl rfl U80 rfl Sz80 mM (by first | (simp; done) | exact Cert.length (by first | exact oK | exact ⟨okC⟩ | exact okC))) Af ?_
   exact cert_bad (by rw [hcr, if_pos hc13, hr23])

end Go.Proofs.YtkfhpmidcbmofaaGreat
end

section
namespace Hw
open Go

def headOf (s h : Nat) : UInt8 := shl8 255 (9 - s) ||| UInt8.ofNat h
theorem head_facts : ∀ s, s < 10 → 1 ≤ s → ∀ h, h < 2 ^ (8 - s) → (s = 9 → h = 0) → cntB (headOf s h) = s ∧ (headV (headOf s h)).toNat = h := by
  decide +kernel
def beN : List UInt8 → Nat
  | [] => 0
  | b :: l => b.toNat * 256 ^ l.length + beN l
theorem beN_tail (x : UInt64) : ∀ k, k ≤ 8 → beN (tailB x k) = x.toNat % 256 ^ k
  | 0, _ => by simp [tailB, beN, Nat.mod_one]
  | k + 1, hk => by
    have hp : 0 < 256 ^ k := Nat.pow_pos dE
    have e : (2 : Nat) ^ (8 * k) = 256 ^ k := by rw [Nat.pow_mul]
    rw [tailB, beN, tailB_length, beN_tail x k oM, UInt64.toNat_toUInt8]
    have e1 : (shr64 x (8 * k)).toNat = x.toNat / 256 ^ k := by
      have h : x.toNat / 2 ^ (8 * k) ≤ x.toNat := Nat.div_le_self _ _
      have := x.toNat_lt
      rw [shr64, UInt64.toNat_ofNat', Nat.mod_eq_of_lt oM, e]
    rw [e1]
    have h3 := Nat.mod_mul (a := 256 ^ k) (b := 256) (x := x.toNat)
    have e2 : (256 : Nat) ^ (k + 1) = 256 ^ k * 256 := Nat.pow_succ ..
    have e3 : (2 : Nat) ^ 8 = 256 := by decide
    rw [e2, h3, e3, Nat.mul_comm (256 ^ k)]
    omega
theorem foldB_nat : ∀ (l : List UInt8) (a : UInt64), a.toNat * 256 ^ l.length + beN l < 2 ^ 64 → (foldB a l).toNat = a.toNat * 256 ^ l.length + beN l
  | [], a, _ => by simp [foldB, beN]
  | b :: l, a, h => by
    rw [beN, List.length_cons, Nat.pow_succ] at h
    have hb := b.toNat_lt
    have hp : 0 < 256 ^ l.length := Nat.pow_pos dE
    have e : a.toNat * (256 ^ l.length * 256) + (b.toNat * 256 ^ l.length + beN l) = (a.toNat * 256 + b.toNat) * 256 ^ l.length + beN l := by
      rw [Nat.add_mul, Nat.mul_assoc, Nat.mul_comm 256, Nat.add_assoc]
    rw [e] at h
    have h1 : a.toNat * 256 + b.toNat < 18446744073709551616 := by
      rw [show (2 : Nat) ^ 64 = 18446744073709551616 by decide] at h
      have : (a.toNat * 256 + b.toNat) * 1 ≤ (a.toNat * 256 + b.toNat) * 256 ^ l.length := Nat.mul_le_mul_left _ hp
      omega
    have hs : (shl64 a 8).toNat = a.toNat * 256 := by
      have e0 : a.toNat * 2 ^ 8 = a.toNat * 256 := rfl
      rw [shl64, UInt64.toNat_ofNat', e0, Nat.mod_eq_of_lt (Nat.lt_of_le_of_lt (Nat.le_add_right _ b.toNat) h1)]
    have ho : (shl64 a 8 ||| b.toUInt64).toNat = a.toNat * 256 + b.toNat := by
      rw [UInt64.toNat_or, hs, show b.toUInt64.toNat = b.toNat from by simp]
      rw [show a.toNat * 256 = 2 ^ 8 * a.toNat by omega, Nat.two_pow_add_eq_or_of_lt oM]
    rw [foldB, foldB_nat l _ (by rw [ho]; exact h), ho, beN, List.length_cons, Nat.pow_succ, e]

theorem or_one (x : Nat) : x ||| 1 = if x % 2 = 0 then x + 1 else x := by
  have h := Nat.or_mod_two_pow (a := x) (b := 1) (n := 1)
  have h2 := Nat.or_div_two_pow (a := x) (b := 1) (n := 1)
  simp only [Nat.pow_one] at h h2
  have e : x % 2 = 0 ∨ x % 2 = 1 := by omega
  have hm : (x ||| 1) % 2 = 1 := by
    rw [h]
    rcases e with e | e <;> rw [e] <;> rfl
  have hd : (x ||| 1) / 2 = x / 2 := by rw [h2]; simp
  split <;> omega
theorem or_one_lt {x k : Nat} (hk : 1 ≤ k) : (x ||| 1) < 2 ^ k ↔ x < 2 ^ k := by
  rw [or_one]
  have : 2 ^ k = 2 * 2 ^ (k - 1) := by rw [← Nat.pow_succ']; congr 1; omega
  split <;> omega
theorem szN_le {x s : Nat} (hs : 1 ≤ s) (h8 : s ≤ 8) : szN x ≤ s ↔ x < 2 ^ (7 * s) := by
  rw [← or_one_lt oM, ← bLen_le]
  unfold szN
  omega
theorem szN_hi {x : Nat} (hs : szN x ≤ 8) : x < 2 ^ (7 * szN x) := (szN_le (Bb x).1 hs).1 (Nat.le_refl _)

theorem headB_of (x : UInt64) : ∃ h, headB x = headOf (szN x.toNat) h ∧ h < 2 ^ (8 - szN x.toNat) ∧ (szN x.toNat = 9 → h = 0) ∧ x.toNat = h * 256 ^ (szN x.toNat - 1) + x.toNat % 256 ^ (szN x.toNat - 1) := by
  have hp := Bb x.toNat
  have hx := x.toNat_lt
  have e : (2 : Nat) ^ (8 * (szN x.toNat - 1)) = 256 ^ (szN x.toNat - 1) := by rw [Nat.pow_mul]
  have e1 : (shr64 x (8 * (szN x.toNat - 1))).toNat = x.toNat / 256 ^ (szN x.toNat - 1) := by
    have h : x.toNat / 2 ^ (8 * (szN x.toNat - 1)) ≤ x.toNat := Nat.div_le_self _ _
    rw [shr64, UInt64.toNat_ofNat', Nat.mod_eq_of_lt oM, e]
  have hlt : x.toNat / 256 ^ (szN x.toNat - 1) < 2 ^ (8 - szN x.toNat) ∧ (szN x.toNat = 9 → x.toNat / 256 ^ (szN x.toNat - 1) = 0) := by
    by_cases h9 : szN x.toNat = 9
    · rw [h9]
      have : x.toNat / 256 ^ (9 - 1) = 0 := Nat.div_eq_of_lt (by rw [show (256 : Nat) ^ (9 - 1) = 2 ^ 64 by decide]; exact hx)
      rw [this]
      exact ⟨by decide, fun _ => rfl⟩
    · refine ⟨?_, fun h => absurd h h9⟩
      rw [Nat.div_lt_iff_lt_mul (Nat.pow_pos dE), ← e, ← Nat.pow_add]
      have := szN_hi (x := x.toNat) oM
      rwa [show 8 - szN x.toNat + 8 * (szN x.toNat - 1) = 7 * szN x.toNat by omega]
  refine ⟨x.toNat / 256 ^ (szN x.toNat - 1), ?_, hlt.1, hlt.2, (Nat.div_add_mod' _ _).symm⟩
  unfold headB headOf
  congr 1
  apply UInt8.toNat_inj.1
  rw [UInt64.toNat_toUInt8, e1, UInt8.toNat_ofNat']

theorem num_back (x : UInt64) : cntB (headB x) = szN x.toNat ∧ foldB (headV (headB x)) (tailB x (szN x.toNat - 1)) = x := by
  obtain ⟨h, h1, h2, h3, h4⟩ := headB_of x
  have hp := Bb x.toNat
  have hf := head_facts (szN x.toNat) oM hp.1 h h2 h3
  rw [h1]
  refine ⟨hf.1, UInt64.toNat_inj.1 ?_⟩
  have hb := beN_tail x (szN x.toNat - 1) oM
  rw [foldB_nat _ _ (by rw [tailB_length, hf.2, hb, ← h4]; exact x.toNat_lt), tailB_length, hf.2, hb, ← h4]

end Hw
end

section
namespace Go.Proofs.YtkfhpmidcbmofaaGreat
open Go Hw

theorem drop_cons {xs l : List UInt8} {a : Nat} {f : UInt8} (h : xs.drop a = f :: l) : a < xs.length ∧ xs.getD a 0 = f ∧ xs.drop (a + 1) = l := by
  have hlt : a < xs.length := by
    rcases Nat.lt_or_ge a xs.length with h1 | h1
    · exact h1
    · rw [List.drop_eq_nil_of_le h1] at h; cases h
  rw [List.drop_eq_getElem_cons hlt] at h
  injection h with h1 h2
  exact ⟨hlt, by rw [List.getD_eq_getElem?_getD, List.getElem?_eq_getElem hlt]; exact h1, h2⟩
theorem drop_split {xs p t : List UInt8} {a : Nat} (h : xs.drop a = p ++ t) (hp : 0 < p.length) : a + p.length ≤ xs.length ∧ (xs.drop a).take p.length = p ∧ xs.drop (a + p.length) = t := by
  have h1 := congrArg List.length h
  rw [List.length_drop, List.length_append] at h1
  refine ⟨by omega, by rw [h]; simp, ?_⟩
  rw [← List.drop_drop, h]; simp
theorem dig_fwd {xs d t : List UInt8} {a : Nat} (h : xs.drop a = d ++ t) (hd : d.length = 32) : digR xs a 0 = (d, a + 32, 0) ∧ xs.drop (a + 32) = t := by
  obtain ⟨h1, h2, h3⟩ := drop_split h oM
  rw [hd] at h1 h2 h3
  unfold digR
  rw [if_neg sP, if_neg oM, h2]
  exact ⟨rfl, h3⟩
theorem num_fwd {xs t : List UInt8} {a : Nat} {x : UInt64} (h : xs.drop a = Bm x ++ t) : Bf xs a 0 = (x, a + szN x.toNat, 0) ∧ xs.drop (a + szN x.toNat) = t := by
  have hp := Bb x.toNat
  have hl := A5 x
  obtain ⟨h1, h2, h3⟩ := drop_split h oM
  rw [hl] at h1 h2 h3
  rw [Bm, List.cons_append] at h
  obtain ⟨g1, g2, g3⟩ := drop_cons h
  obtain ⟨n1, n2⟩ := num_back x
  have hv : numV xs a = x := by
    rw [numV, g2, g3, n1, List.take_left' (tailB_length x _)]
    exact n2
  unfold Bf
  rw [if_neg sP, if_neg oM, hv, g2, n1, if_neg oM, if_pos rfl]
  exact ⟨rfl, h3⟩
theorem blk_fwd {xs ds t : List UInt8} {a : Nat} (hn : ds.length ≤ 1000000) (h : xs.drop a = Bm (UInt64.ofNat ds.length) ++ ds ++ t) : blkR xs a 0 = (some ds, a + szN ds.length + ds.length, 0) ∧ xs.drop (a + szN ds.length + ds.length) = t := by
  rw [List.append_assoc] at h
  have hx : (UInt64.ofNat ds.length).toNat = ds.length := Br hn
  obtain ⟨h1, h2⟩ := num_fwd h
  rw [hx] at h1 h2
  unfold blkR
  rw [h1]
  simp only [hx]
  rw [if_neg sP]
  have hl := congrArg List.length h2
  rw [List.length_drop, List.length_append] at hl
  have hz := Bb ds.length
  have hle : a + szN ds.length ≤ xs.length := by
    have := congrArg List.length h
    rw [List.length_drop, List.length_append, A5, hx] at this
    omega
  rw [if_neg oM, h2]
  refine ⟨by simp, ?_⟩
  rw [← List.drop_drop, h2]; simp
theorem tak_fwd {xs d t : List UInt8} {a m : Nat} (h : xs.drop a = d ++ t) (hd : d.length = m) (hm : 0 < m) : takR xs m a 0 = (d, a + m, 0) ∧ xs.drop (a + m) = t := by
  obtain ⟨h1, h2, h3⟩ := drop_split h oM
  rw [hd] at h1 h2 h3
  unfold takR
  rw [if_neg sP, if_neg oM, h2]
  exact ⟨rfl, h3⟩
theorem digs_fwd {xs t : List UInt8} {ls : List (List UInt8)} {a : Nat} (hls : ∀ l ∈ ls, l.length = 32) (h : xs.drop a = ls.flatten ++ t) : ∀ j, j ≤ ls.length → Bv xs j a 0 = (ls.take j, a + 32 * j, 0) ∧ xs.drop (a + 32 * j) = (ls.drop j).flatten ++ t
  | 0, _ => ⟨rfl, by simpa using h⟩
  | j + 1, hj => by
    obtain ⟨h1, h2⟩ := digs_fwd hls h j oM
    rw [List.drop_eq_getElem_cons (l := ls) (i := j) oM, List.flatten_cons, List.append_assoc] at h2
    obtain ⟨h3, h4⟩ := dig_fwd h2 (hls _ (List.getElem_mem oM))
    refine ⟨?_, by rw [show a + 32 * (j + 1) = a + 32 * j + 32 by omega]; exact h4⟩
    rw [Bv, h1]
    simp only [h3]
    rw [List.take_succ_eq_append_getElem oM]
    rfl
theorem readP_bytes {D : DB} (h : D.ok) (hc : D.check = 0) (t : List UInt8) : readP (D.bytes ++ t) = (D, D.bytes.length, 0) := by
  have hs := D.head_small hc
  have hl1 : (UInt64.ofNat D.ls.length).toNat = D.ls.length := Br oM
  obtain ⟨xs, hxs⟩ : ∃ xs, D.bytes ++ t = xs := ⟨_, rfl⟩
  rw [hxs]
  have h0 : xs.drop 0 = D.w ++ (Bm D.seq ++ (D.prev ++ (Bm (UInt64.ofNat D.ls.length) ++ (D.ls.flatten ++ (Bm (UInt64.ofNat D.ds.length) ++ D.ds ++ (D.sg ++ t)))))) := by
    rw [List.drop_zero, ← hxs]
    simp only [DB.bytes, DB.body, List.append_assoc]
  obtain ⟨r1, h1⟩ := dig_fwd h0 h.w
  obtain ⟨r2, h2⟩ := num_fwd h1
  obtain ⟨r3, h3⟩ := dig_fwd h2 h.prev
  obtain ⟨r4, h4⟩ := num_fwd h3
  rw [hl1] at r4 h4
  obtain ⟨r5, h5⟩ := digs_fwd h.ls h4 D.ls.length (Nat.le_refl _)
  rw [List.take_length] at r5
  rw [List.drop_length, List.flatten_nil, List.nil_append] at h5
  obtain ⟨r6, h6⟩ := blk_fwd oM h5
  obtain ⟨r7, h7⟩ := tak_fwd h6 h.sg dE
  have hk : min (UInt64.ofNat D.ls.length).toNat 17 = D.ls.length := by omega
  have hlen : D.bytes.length = 0 + 32 + szN D.seq.toNat + 32 + szN D.ls.length + 32 * D.ls.length + szN D.ds.length + D.ds.length + 64 := by
    have hfl := flatten_take_len h.ls (Nat.le_refl D.ls.length)
    rw [List.take_length] at hfl
    simp only [DB.bytes, DB.body, List.length_append, A5, h.w, h.prev, h.sg, hfl, hl1, Br (n := D.ds.length) oM]
    omega
  simp only [readP, r1, r2, r3, r4, hk, r5, r6, r7, Option.getD_some]
  rw [h.sg, hlen, List.drop_of_length_le sP, List.append_nil]
theorem readD_bytes {D : DB} (h : D.ok) (hc : D.check = 0) : readD D.bytes = (D, 0) := by
  have hr := readP_bytes h hc []
  rw [List.append_nil] at hr
  rw [readD_ok (by rw [hr]; exact ⟨by simp [endR], hc⟩), hr]
theorem bytes_inj {D E : DB} (hD : D.ok) (hE : E.ok) (cD : D.check = 0) (cE : E.check = 0) : D.bytes = E.bytes ↔ D = E := by
  constructor
  · intro h
    have h1 := readD_bytes hD cD
    rw [h, readD_bytes hE cE] at h1
    exact (congrArg Prod.fst h1).symm
  · intro h; rw [h]
end Go.Proofs.YtkfhpmidcbmofaaGreat
end

section
namespace Go.Proofs.YtkfhpmidcbmofaaGreat
open Go Hw

def DRecord.check (D : DRecord) : Int := if D.dKind = 0 ∨ (8192 : Int) < (D.dData.length : Int) then 2 else 0

theorem record_check (X : Record) (D : DRecord) : Meets Tryz.prog 77 [agg X.cells] [] (fun W => RecordIs W X D) (fun v out => v = i64 D.check ∧ out = []) := by
 intro W hW
 have hok := hW.ok
 have hk := hW.fKind
 have hl := hW.fData.len
 refine Ai Tryz.func77 rfl 12 Tryz.ntmps77 rfl ?_
 refine Sat.seq (Sat.region ?_)
 refine Tr.boxA rfl rfl ?_
 intro n1 hn1 hf1
 refine Tr.a rfl rfl rfl ?_
 refine Tr.nil (Aa (Sat.seq (Sat.seq (Sat.region ?_))))
 refine Tr.fld rfl rfl rfl U32 rfl Sz5 dE _ rfl ?_
 refine Tr.load1 rfl rfl rfl U5 rfl mM (by first | exact Record.get_fKind (by first | exact oK  | exact hok) | exact vL) ?_
 refine two (fun r hr k => Tr.eqi rfl rfl rfl rfl hr k) (fun hs1_20 => ?_) (fun hs1_20 => ?_)
 ·
  first | have hs1_2 := of_decide_eq_true hs1_20 | have hs1_2 := of_decide_eq_false hs1_20 | have hs1_2 := Bg hs1_20 | have hs1_2 := Bh hs1_20 | have hs1_2 := hs1_20
  refine Tr.m rfl rfl rfl ?_
  refine Tr.skp rfl rfl ?_
  refine Tr.skp rfl rfl ?_
  refine Tr.skp rfl rfl ?_
  refine Tr.skp rfl rfl ?_
  refine Tr.pick rfl rfl rfl rfl rfl rfl ?_
  refine Tr.nil (Aa ?_)
  refine Sat.cond_t rfl rfl ?_
  refine Sat.seq (Sat.region ?_)
  refine Tr.a rfl rfl rfl ?_
  refine Tr.nil (Aa (Sat.ret (Ao (Ak ?_))))
  refine ⟨_, [], Ae rfl rfl, sP, sP, ?_, rfl⟩
  unfold DRecord.check
  first
   | (refine congrArg i64 (if_pos (Or.inl (UInt8.toNat_inj.1 ?_))).symm; simp_all; done)
   | (refine congrArg i64 (if_pos (Or.inr ?_)).symm; omega)
   | (refine congrArg i64 (if_neg ?_).symm; have h0 : D.dKind = 0 → X.fKind.toNat = 0 := (fun e => by rw [hk, e]; rfl); rintro (h | h); (have := h0 h; omega); omega)
 ·
  first | have hs1_2 := of_decide_eq_true hs1_20 | have hs1_2 := of_decide_eq_false hs1_20 | have hs1_2 := Bg hs1_20 | have hs1_2 := Bh hs1_20 | have hs1_2 := hs1_20
  refine Tr.m rfl rfl rfl ?_
  refine Tr.fld rfl rfl rfl U32 rfl Sz30 dE _ rfl ?_
  refine Tr.load1 rfl rfl rfl U30 rfl mM (by first | exact Record.get_fData (by first | exact oK  | exact hok) | exact vL) ?_
  refine Tr.lenSl rfl rfl rfl U30 ?_
  refine Tr.gtr rfl rfl rfl rfl rfl ?_
  refine Tr.pick rfl rfl rfl rfl rfl rfl ?_
  refine Tr.nil (Aa ?_)
  first
   | refine Sat.condP rfl (fun hc0 => ?_) (fun hc0 => ?_)
   | refine Sat.condNP rfl (fun hc0 => ?_) (fun hc0 => ?_)
   | refine Sat.cond rfl (fun hc0 => ?_) (fun hc0 => ?_)
  ·
   refine Sat.seq (Sat.region ?_)
   refine Tr.a rfl rfl rfl ?_
   refine Tr.nil (Aa (Sat.ret (Ao (Ak ?_))))
   refine ⟨_, [], Ae rfl rfl, sP, sP, ?_, rfl⟩
   unfold DRecord.check
   first
    | (refine congrArg i64 (if_pos (Or.inl (UInt8.toNat_inj.1 ?_))).symm; simp_all; done)
    | (refine congrArg i64 (if_pos (Or.inr ?_)).symm; omega)
    | (refine congrArg i64 (if_neg ?_).symm; have h0 : D.dKind = 0 → X.fKind.toNat = 0 := (fun e => by rw [hk, e]; rfl); rintro (h | h); (have := h0 h; omega); omega)
  ·
   refine Sat.skip (Aa (Sat.seq (Sat.region ?_)))
   refine Tr.a rfl rfl rfl ?_
   refine Tr.nil (Aa (Sat.ret (Ak ?_)))
   refine ⟨_, [], Ae rfl rfl, sP, sP, ?_, rfl⟩
   unfold DRecord.check
   first
    | (refine congrArg i64 (if_pos (Or.inl (UInt8.toNat_inj.1 ?_))).symm; simp_all; done)
    | (refine congrArg i64 (if_pos (Or.inr ?_)).symm; omega)
    | (refine congrArg i64 (if_neg ?_).symm; have h0 : D.dKind = 0 → X.fKind.toNat = 0 := (fun e => by rw [hk, e]; rfl); rintro (h | h); (have := h0 h; omega); omega)

def inOrd (ds : List DCert) : Bool := (List.range ds.length).all fun k => decide ((ds.getD k dcertz).dCut.dHeight.toNat = k + 1)
theorem inOrd_yes {ds : List DCert} {n : Nat} (hn : ds.length = n) (h : ∀ j, j < n → (ds.getD j dcertz).dCut.dHeight.toNat = j + 1) : inOrd ds = true := by
  unfold inOrd
  rw [List.all_eq_true]
  intro k hk
  rw [List.mem_range, hn] at hk
  exact decide_eq_true (h k hk)
theorem inOrd_not {ds : List DCert} {k : Nat} (hk : k < ds.length) (h : ¬ (ds.getD k dcertz).dCut.dHeight.toNat = k + 1) : inOrd ds = false := by
  unfold inOrd
  rw [List.all_eq_false]
  exact ⟨k, List.mem_range.2 hk, by rw [decide_eq_false h]; simp⟩
theorem word_next {k : Nat} (h : k < 9223372036854775807) : (A8 (k : Int) + 1).toNat = k + 1 := by
  have e : (A8 (k : Int)).toNat = k := by
    have h0 : ((k : Int) % 18446744073709551616).toNat = k := by omega
    rw [A8, h0, UInt64.toNat_ofNat']
    exact Nat.mod_eq_of_lt oM
  rw [UInt64.toNat_add, e, show (1 : UInt64).toNat = 1 from rfl]
  exact Nat.mod_eq_of_lt oM
theorem cert_is {ds : List DCert} {k : Nat} {d : DCert} (h : ds[k]? = some d) : ds.getD k dcertz = d := by simp [List.getD_eq_getElem?_getD, h]

theorem in_order (s : Sl) (ds : List DCert) : Meets Tryz.prog 39 [s.v] [] (fun W => CertsAt W s ds) (fun v out => v = .bool (inOrd ds) ∧ out = []) := by
 intro W hW
 obtain ⟨rs, hs⟩ := hW
 have hnd := hs.nd
 have hmax := hs.max
 simp only [maxLen] at hmax
 refine Ai Tryz.func39 rfl 20 Tryz.ntmps39 rfl ?_
 refine Sat.seq (Sat.region ?_)
 refine Tr.a rfl rfl rfl ?_
 refine Tr.nil (Aa (Sat.seq (Sat.seq (Sat.region ?_))))
 refine Tr.m rfl rfl rfl ?_
 refine Tr.lenSl rfl rfl rfl U41 ?_
 refine Tr.m rfl rfl rfl ?_
 refine Tr.nil (Aa (Sat.block ?_))
 refine Sat.loop (ι := Nat) (fun k => ⟨[(5, s.v), (6, i64 (s.n : Int)), (7, i64 (k : Int))], []⟩) (fun k => k ≤ s.n ∧ ∀ j, j < k → (ds.getD j dcertz).dCut.dHeight.toNat = j + 1) (fun k => s.n - k) (0) ?_ ?_ ?_
 · exact ⟨by omega, fun j hj => by omega⟩
 · exact Ap (wk1 rfl (wk1 rfl (wk1 rfl wk0))) wh0 nD
 ·
  rintro k ⟨hk, hg⟩
  refine Sat.seq (Sat.region ?_)
  refine Tr.lss rfl rfl rfl rfl rfl ?_
  refine Tr.nil (Aa (Sat.seq ?_))
  first
   | refine Sat.condP rfl (fun hc0 => ?_) (fun hc0 => ?_)
   | refine Sat.condNP rfl (fun hc0 => ?_) (fun hc0 => ?_)
   | refine Sat.cond rfl (fun hc0 => ?_) (fun hc0 => ?_)
  ·
   have hk2 : k < s.n := by omega
   obtain ⟨b, o, r, d, hsp, hr, hd, his, hlen, hsee⟩ := hs.at dE hk2
   have ehh : r.fCut.fHeight.toNat = d.dCut.dHeight.toNat := by rw [his.fCut.fHeight]
   have hw1 : (A8 (k : Int) + 1).toNat = k + 1 := word_next oM
   refine Sat.skip (Aa (Sat.seq (Sat.block (Sat.seq (Sat.region ?_)))))
   refine Tr.m rfl rfl rfl ?_
   refine Tr.idxSlP 35 rfl rfl rfl hsp rfl U41 Sz80 k rfl oM ?_
   refine Tr.loadEN r.cells rfl rfl rfl U80 rfl Sz80 sP hlen hsee ?_
   refine Tr.alloc (cs := Cert.zero.cells) rfl Cert.zr rfl ?_
   intro n4 hn4 hf4
   refine Tr.a rfl rfl rfl ?_
   refine Tr.sA rfl rfl rfl rfl (Cert.isCell (by first | exact oK  | exact his.ok)) Sz80 (Cert.length (by first | exact oK  | exact his.ok)) mM (Cert.length (by first | exact oK  | exact his.ok)) uU ?_
   refine Tr.nil (Aa (Sat.seq (Sat.region ?_)))
   refine Tr.fld rfl rfl rfl U80 rfl B0 dE _ rfl ?_
   refine Tr.fld rfl rfl rfl U39 rfl B4 dE _ rfl ?_
   refine Tr.load1 rfl rfl rfl U22 rfl mM (Cert.see_fCut his.ok 0 _ (Cut.get_fHeight his.ok.o_fCut)) ?_
   refine Tr.m rfl rfl rfl ?_
   refine Tr.conv rfl rfl rfl U3 U22 (Bo _) ?_
   refine Tr.add_u64 rfl rfl rfl (show Am _ _ = some (u64 1) from rfl) ?_
   refine Tr.nei rfl rfl rfl rfl rfl ?_
   refine Tr.nil (Aa ?_)
   first
    | refine Sat.condP rfl (fun hc1 => ?_) (fun hc1 => ?_)
    | refine Sat.condNP rfl (fun hc1 => ?_) (fun hc1 => ?_)
    | refine Sat.cond rfl (fun hc1 => ?_) (fun hc1 => ?_)
   ·
    refine Sat.seq (Sat.region ?_)
    refine Tr.a rfl rfl rfl ?_
    refine Tr.nil (Aa (Sat.ret (B8 (Ao (Ao (B8 (Ao (Ak ?_))))))))
    refine ⟨_, [], Ae rfl rfl, sP, sP, ?_, rfl⟩
    first
     | exact congrArg Value.bool (inOrd_yes hnd hg).symm
     | (refine congrArg Value.bool (inOrd_not (k := k) oM ?_).symm; rw [cert_is hd]; omega)
   ·
    refine Sat.skip (Bs (Aa (Sat.region ?_)))
    refine Tr.aI rfl rfl rfl rfl oM ?_
    refine Tr.m rfl rfl rfl ?_
    refine Tr.nil (Aa ?_)
    exact ⟨k + 1, ⟨by omega, fun j hj => by rcases Nat.lt_succ_iff_lt_or_eq.1 hj with h | rfl; exact hg j h; exact (by rw [cert_is hd]; omega)⟩, by omega, Ap (wk1 rfl (wk1 rfl (wk1 rfl wk0))) wh0 nD⟩
  ·
   obtain rfl : k = s.n := by omega
   refine Sat.exit (A7 (A7 (bl_h (Aa (Sat.seq (Sat.region ?_))))))
   refine Tr.a rfl rfl rfl ?_
   refine Tr.nil (Aa (Sat.ret (Ak ?_)))
   refine ⟨_, [], Ae rfl rfl, sP, sP, ?_, rfl⟩
   first
    | exact congrArg Value.bool (inOrd_yes hnd hg).symm
    | (refine congrArg Value.bool (inOrd_not (k := k) oM ?_).symm; rw [cert_is hd]; omega)

end Go.Proofs.YtkfhpmidcbmofaaGreat
end

section
namespace Go.Proofs.YtkfhpmidcbmofaaGreat
open Go Hw

def drecz : DRecord := ⟨0, []⟩
def Bu (K : UInt8) (bs : List UInt8) (chk : Int) : DRecord × Int := if chk = 0 then (if (⟨K, bs⟩ : DRecord).check = 0 then (⟨K, bs⟩, 0) else (drecz, 2)) else (drecz, chk)
def RecMade (K : UInt8) (bs : List UInt8) (chk : Int) (v : Value) (out : List Blk) : Prop := ∃ X : Record, X.ok ∧ v = .tuple #[agg X.cells, i64 (Bu K bs chk).2] ∧ X.fKind = (Bu K bs chk).1.dKind ∧ ∀ W2, Lies out W2 → RecordIs W2 X (Bu K bs chk).1
theorem recz_is (W : World) : RecordIs W Record.zero drecz := ⟨Record.zero_ok, rfl, ⟨rfl, Nat.le_refl _, SeesP.nil, by decide, fun _ => rfl⟩⟩
theorem rec_bad1 {K : UInt8} {bs : List UInt8} {chk : Int} {out : List Blk} (h : ¬ chk = 0) : RecMade K bs chk (.tuple #[agg Record.zero.cells, i64 chk]) out := by
  have e : Bu K bs chk = (drecz, chk) := if_neg h
  refine ⟨Record.zero, Record.zero_ok, ?_, ?_, fun W2 _ => ?_⟩ <;> rw [e]
  · rfl
  · exact recz_is W2
theorem rec_bad2 {K : UInt8} {bs : List UInt8} {chk : Int} {out : List Blk} (h : chk = 0) (h2 : ¬ (⟨K, bs⟩ : DRecord).check = 0) : RecMade K bs chk (.tuple #[agg Record.zero.cells, i64 2]) out := by
  have e : Bu K bs chk = (drecz, 2) := by rw [Bu, if_pos h, if_neg h2]
  refine ⟨Record.zero, Record.zero_ok, ?_, ?_, fun W2 _ => ?_⟩ <;> rw [e]
  · rfl
  · exact recz_is W2
theorem rec_ok {K : UInt8} {bs : List UInt8} {chk : Int} {out : List Blk} {s : Sl} {E : TypeId} (h : chk = 0) (h2 : (⟨K, bs⟩ : DRecord).check = 0) (ha : Hw.Acc s out (Ab bs) E bs.length 1) (hm : bs.length ≤ 1000000) : RecMade K bs chk (.tuple #[agg (⟨K, s⟩ : Record).cells, i64 0]) out := by
  have e : Bu K bs chk = (⟨K, bs⟩, 0) := by rw [Bu, if_pos h, if_pos h2]
  refine ⟨⟨K, s⟩, ⟨trivial⟩, ?_, ?_, fun W2 hl => ?_⟩ <;> rw [e]
  exact ⟨⟨trivial⟩, rfl, acc_bytes ha hl rfl hm⟩

theorem rec_of_vote (K : UInt8) (X : Vote) (D : Vote) (hsz : (Be D).length ≤ 40000) : Meets Tryz.prog 27 [u8 K, agg X.cells, .func (.func 28) #[] #[]] [] (fun W => VoteIs W X D) (RecMade K (Be D) (Bp D)) := by
 intro W hW
 obtain rfl : D = X := hW.eq.symm
 refine Ai Tryz.func27 rfl 29 Tryz.ntmps27 rfl ?_
 refine Sat.seq (Sat.region ?_)
 refine Tr.boxA rfl rfl ?_
 intro n4 hn4 hf4
 refine Tr.alloc (cs := Record.zero.cells) rfl Record.zr rfl ?_
 intro n6 hn6 hf6
 refine Tr.a rfl rfl rfl ?_
 refine Tr.nil (Aa (Sat.seq (Sat.region ?_)))
 refine Tr.m rfl rfl rfl ?_
 refine Tr.lA rfl rfl rfl U29 rfl Bw mM (Vote.length (by first | exact oK  | exact hW.ok | exact ⟨trivial⟩)) ?_
 refine Tr.call4 rfl rfl rfl rfl rfl Body28 (vote_bytes D hW.ok) (fun w h => trivial) ?_
 rintro v14 out14 ⟨s14, rfl, hac14⟩
 have hnm := hac14.num
 refine Tr.m rfl rfl rfl ?_
 refine Tr.eX rfl rfl rfl rfl ?_
 refine Tr.eX rfl rfl rfl rfl ?_
 refine Tr.a rfl rfl rfl ?_
 refine Tr.a rfl rfl rfl ?_
 refine Tr.nil (Aa (Sat.seq (Sat.seq (Sat.region ?_))))
 refine Tr.m rfl rfl rfl ?_
 refine Tr.nei rfl rfl rfl rfl rfl ?_
 refine Tr.nil (Aa ?_)
 first
  | refine Sat.condP rfl (fun hc0 => ?_) (fun hc0 => ?_)
  | refine Sat.condNP rfl (fun hc0 => ?_) (fun hc0 => ?_)
  | refine Sat.cond rfl (fun hc0 => ?_) (fun hc0 => ?_)
 ·
  refine Sat.seq (Sat.region ?_)
  refine Tr.build (cs := Record.zero.cells) rfl rfl rfl (fun w => by kernel_rfl) ?_
  refine Tr.m rfl rfl rfl ?_
  refine Tr.sA rfl rfl rfl rfl (Record.isCell (by first | exact oK  | exact hW.ok | exact ⟨trivial⟩)) B1 (Record.length (by first | exact oK  | exact hW.ok | exact ⟨trivial⟩)) mM (Record.length (by first | exact oK  | exact hW.ok | exact ⟨trivial⟩)) uU ?_
  refine Tr.a rfl rfl rfl ?_
  refine Tr.nil (Aa (Sat.ret (Ao (Ak ?_))))
  refine Aj (out := []) (Ar rfl rfl rfl U32 rfl B1 mM (by first | (simp; done) | exact Record.length (by first | exact oK  | exact hW.ok | exact ⟨trivial⟩))) Af ?_
  exact rec_bad1 oM
 ·
  refine Sat.skip (Aa (Sat.seq (Sat.region ?_)))
  refine Tr.m rfl rfl rfl ?_
  refine Tr.m rfl rfl rfl ?_
  refine Tr.build (cs := (⟨K, s14⟩ : Record).cells) rfl rfl rfl (fun w => by kernel_rfl) ?_
  refine Tr.alloc (cs := Record.zero.cells) rfl Record.zr rfl ?_
  intro n10 hn10 hf10
  refine Tr.sA rfl rfl rfl rfl (Record.isCell (by first | exact oK  | exact hW.ok | exact ⟨trivial⟩)) B1 (Record.length (by first | exact oK  | exact hW.ok | exact ⟨trivial⟩)) mM (Record.length (by first | exact oK  | exact hW.ok | exact ⟨trivial⟩)) uU ?_
  refine Tr.nil (Aa (Sat.seq (Sat.seq (Sat.region ?_))))
  refine Tr.lA rfl rfl rfl U32 rfl B1 mM (Record.length (by first | exact oK  | exact hW.ok | exact ⟨trivial⟩)) ?_
  refine Tr.cV rfl rfl rfl rfl Body77 (record_check ⟨K, s14⟩ ⟨K, Be D⟩) (fun w h => ⟨⟨trivial⟩, rfl, acc_bytes hac14 (Lies.of h iN) rfl oM⟩) ?_
  refine Tr.nei rfl rfl rfl rfl rfl ?_
  refine Tr.nil (Aa ?_)
  first
   | refine Sat.condP rfl (fun hc1 => ?_) (fun hc1 => ?_)
   | refine Sat.condNP rfl (fun hc1 => ?_) (fun hc1 => ?_)
   | refine Sat.cond rfl (fun hc1 => ?_) (fun hc1 => ?_)
  ·
   refine Sat.seq (Sat.region ?_)
   refine Tr.build (cs := Record.zero.cells) rfl rfl rfl (fun w => by kernel_rfl) ?_
   refine Tr.sA rfl rfl rfl rfl (Record.isCell (by first | exact oK  | exact hW.ok | exact ⟨trivial⟩)) B1 (Record.length (by first | exact oK  | exact hW.ok | exact ⟨trivial⟩)) mM (Record.length (by first | exact oK  | exact hW.ok | exact ⟨trivial⟩)) uU ?_
   refine Tr.a rfl rfl rfl ?_
   refine Tr.nil (Aa (Sat.ret (Ao (Ak ?_))))
   refine Aj (out := []) (Ar rfl rfl rfl U32 rfl B1 mM (by first | (simp; done) | exact Record.length (by first | exact oK  | exact hW.ok | exact ⟨trivial⟩))) Af ?_
   exact rec_bad2 oM oM
  ·
   refine Sat.skip (Aa (Sat.seq (Sat.region ?_)))
   refine Tr.lA rfl rfl rfl U32 rfl B1 mM (Record.length (by first | exact oK  | exact hW.ok | exact ⟨trivial⟩)) ?_
   refine Tr.sA rfl rfl rfl rfl (Record.isCell (by first | exact oK  | exact hW.ok | exact ⟨trivial⟩)) B1 (Record.length (by first | exact oK  | exact hW.ok | exact ⟨trivial⟩)) mM (Record.length (by first | exact oK  | exact hW.ok | exact ⟨trivial⟩)) uU ?_
   refine Tr.a rfl rfl rfl ?_
   refine Tr.nil (Aa (Sat.ret (Ak ?_)))
   refine Aj (out := (out14 ++ [])) (Ar rfl rfl rfl U32 rfl B1 mM (by first | (simp; done) | exact Record.length (by first | exact oK  | exact hW.ok | exact ⟨trivial⟩))) (Ac sG Af) ?_
   rw [List.append_nil]; exact rec_ok oM oM hac14 oM

theorem rec_of_cut (K : UInt8) (X : Cut) (D : DCut) (hsz : (cutR D).length ≤ 40000) : Meets Tryz.prog 29 [u8 K, agg X.cells, .func (.func 30) #[] #[]] [] (fun W => CutIs W X D) (RecMade K (cutR D) (D.check)) := by
 intro W hW
 have hok := hW.ok
 refine Ai Tryz.func29 rfl 29 Tryz.ntmps29 rfl ?_
 refine Sat.seq (Sat.region ?_)
 refine Tr.boxA rfl rfl ?_
 intro n4 hn4 hf4
 refine Tr.alloc (cs := Record.zero.cells) rfl Record.zr rfl ?_
 intro n6 hn6 hf6
 refine Tr.a rfl rfl rfl ?_
 refine Tr.nil (Aa (Sat.seq (Sat.region ?_)))
 refine Tr.m rfl rfl rfl ?_
 refine Tr.lA rfl rfl rfl U39 rfl B0 mM (Cut.length (by first | exact oK  | exact hW.ok | exact ⟨trivial⟩)) ?_
 refine Tr.call4 rfl rfl rfl rfl rfl Body30 (cut_bytes X D) (fun w h => hW.ext h rfl) ?_
 rintro v14 out14 ⟨s14, rfl, hac14⟩
 have hnm := hac14.num
 refine Tr.m rfl rfl rfl ?_
 refine Tr.eX rfl rfl rfl rfl ?_
 refine Tr.eX rfl rfl rfl rfl ?_
 refine Tr.a rfl rfl rfl ?_
 refine Tr.a rfl rfl rfl ?_
 refine Tr.nil (Aa (Sat.seq (Sat.seq (Sat.region ?_))))
 refine Tr.m rfl rfl rfl ?_
 refine Tr.nei rfl rfl rfl rfl rfl ?_
 refine Tr.nil (Aa ?_)
 first
  | refine Sat.condP rfl (fun hc0 => ?_) (fun hc0 => ?_)
  | refine Sat.condNP rfl (fun hc0 => ?_) (fun hc0 => ?_)
  | refine Sat.cond rfl (fun hc0 => ?_) (fun hc0 => ?_)
 ·
  refine Sat.seq (Sat.region ?_)
  refine Tr.build (cs := Record.zero.cells) rfl rfl rfl (fun w => by kernel_rfl) ?_
  refine Tr.m rfl rfl rfl ?_
  refine Tr.sA rfl rfl rfl rfl (Record.isCell (by first | exact oK  | exact hW.ok | exact ⟨trivial⟩)) B1 (Record.length (by first | exact oK  | exact hW.ok | exact ⟨trivial⟩)) mM (Record.length (by first | exact oK  | exact hW.ok | exact ⟨trivial⟩)) uU ?_
  refine Tr.a rfl rfl rfl ?_
  refine Tr.nil (Aa (Sat.ret (Ao (Ak ?_))))
  refine Aj (out := []) (Ar rfl rfl rfl U32 rfl B1 mM (by first | (simp; done) | exact Record.length (by first | exact oK  | exact hW.ok | exact ⟨trivial⟩))) Af ?_
  exact rec_bad1 oM
 ·
  refine Sat.skip (Aa (Sat.seq (Sat.region ?_)))
  refine Tr.m rfl rfl rfl ?_
  refine Tr.m rfl rfl rfl ?_
  refine Tr.build (cs := (⟨K, s14⟩ : Record).cells) rfl rfl rfl (fun w => by kernel_rfl) ?_
  refine Tr.alloc (cs := Record.zero.cells) rfl Record.zr rfl ?_
  intro n10 hn10 hf10
  refine Tr.sA rfl rfl rfl rfl (Record.isCell (by first | exact oK  | exact hW.ok | exact ⟨trivial⟩)) B1 (Record.length (by first | exact oK  | exact hW.ok | exact ⟨trivial⟩)) mM (Record.length (by first | exact oK  | exact hW.ok | exact ⟨trivial⟩)) uU ?_
  refine Tr.nil (Aa (Sat.seq (Sat.seq (Sat.region ?_))))
  refine Tr.lA rfl rfl rfl U32 rfl B1 mM (Record.length (by first | exact oK  | exact hW.ok | exact ⟨trivial⟩)) ?_
  refine Tr.cV rfl rfl rfl rfl Body77 (record_check ⟨K, s14⟩ ⟨K, cutR D⟩) (fun w h => ⟨⟨trivial⟩, rfl, acc_bytes hac14 (Lies.of h iN) rfl oM⟩) ?_
  refine Tr.nei rfl rfl rfl rfl rfl ?_
  refine Tr.nil (Aa ?_)
  first
   | refine Sat.condP rfl (fun hc1 => ?_) (fun hc1 => ?_)
   | refine Sat.condNP rfl (fun hc1 => ?_) (fun hc1 => ?_)
   | refine Sat.cond rfl (fun hc1 => ?_) (fun hc1 => ?_)
  ·
   refine Sat.seq (Sat.region ?_)
   refine Tr.build (cs := Record.zero.cells) rfl rfl rfl (fun w => by kernel_rfl) ?_
   refine Tr.sA rfl rfl rfl rfl (Record.isCell (by first | exact oK  | exact hW.ok | exact ⟨trivial⟩)) B1 (Record.length (by first | exact oK  | exact hW.ok | exact ⟨trivial⟩)) mM (Record.length (by first | exact oK  | exact hW.ok | exact ⟨trivial⟩)) uU ?_
   refine Tr.a rfl rfl rfl ?_
   refine Tr.nil (Aa (Sat.ret (Ao (Ak ?_))))
   refine Aj (out := []) (Ar rfl rfl rfl U32 rfl B1 mM (by first | (simp; done) | exact Record.length (by first | exact oK  | exact hW.ok | exact ⟨trivial⟩))) Af ?_
   exact rec_bad2 oM oM
  ·
   refine Sat.skip (Aa (Sat.seq (Sat.region ?_)))
   refine Tr.lA rfl rfl rfl U32 rfl B1 mM (Record.length (by first | exact oK  | exact hW.ok | exact ⟨trivial⟩)) ?_
   refine Tr.sA rfl rfl rfl rfl (Record.isCell (by first | exact oK  | exact hW.ok | exact ⟨trivial⟩)) B1 (Record.length (by first | exact oK  | exact hW.ok | exact ⟨trivial⟩)) mM (Record.length (by first | exact oK  | exact hW.ok | exact ⟨trivial⟩)) uU ?_
   refine Tr.a rfl rfl rfl ?_
   refine Tr.nil (Aa (Sat.ret (Ak ?_)))
   refine Aj (out := (out14 ++ [])) (Ar rfl rfl rfl U32 rfl B1 mM (by first | (simp; done) | exact Record.length (by first | exact oK  | exact hW.ok | exact ⟨trivial⟩))) (Ac sG Af) ?_
   rw [List.append_nil]; exact rec_ok oM oM hac14 oM

theorem rec_of_cert (K : UInt8) (X : Cert) (D : DCert) (hsz : (certBy D).length ≤ 40000) : Meets Tryz.prog 97 [u8 K, agg X.cells, .func (.func 98) #[] #[]] [] (fun W => CertIs W X D) (RecMade K (certBy D) (D.check)) := by
 intro W hW
 have hok := hW.ok
 refine Ai Tryz.func97 rfl 29 Tryz.ntmps97 rfl ?_
 refine Sat.seq (Sat.region ?_)
 refine Tr.boxA rfl rfl ?_
 intro n4 hn4 hf4
 refine Tr.alloc (cs := Record.zero.cells) rfl Record.zr rfl ?_
 intro n6 hn6 hf6
 refine Tr.a rfl rfl rfl ?_
 refine Tr.nil (Aa (Sat.seq (Sat.region ?_)))
 refine Tr.m rfl rfl rfl ?_
 refine Tr.lA rfl rfl rfl U80 rfl Sz80 mM (Cert.length (by first | exact oK  | exact hW.ok | exact ⟨trivial⟩)) ?_
 refine Tr.call4 rfl rfl rfl rfl rfl Body98 (cert_bytes X D) (fun w h => hW.ext h rfl) ?_
 rintro v14 out14 ⟨s14, rfl, hac14⟩
 have hnm := hac14.num
 refine Tr.m rfl rfl rfl ?_
 refine Tr.eX rfl rfl rfl rfl ?_
 refine Tr.eX rfl rfl rfl rfl ?_
 refine Tr.a rfl rfl rfl ?_
 refine Tr.a rfl rfl rfl ?_
 refine Tr.nil (Aa (Sat.seq (Sat.seq (Sat.region ?_))))
 refine Tr.m rfl rfl rfl ?_
 refine Tr.nei rfl rfl rfl rfl rfl ?_
 refine Tr.nil (Aa ?_)
 first
  | refine Sat.condP rfl (fun hc0 => ?_) (fun hc0 => ?_)
  | refine Sat.condNP rfl (fun hc0 => ?_) (fun hc0 => ?_)
  | refine Sat.cond rfl (fun hc0 => ?_) (fun hc0 => ?_)
 ·
  refine Sat.seq (Sat.region ?_)
  refine Tr.build (cs := Record.zero.cells) rfl rfl rfl (fun w => by kernel_rfl) ?_
  refine Tr.m rfl rfl rfl ?_
  refine Tr.sA rfl rfl rfl rfl (Record.isCell (by first | exact oK  | exact hW.ok | exact ⟨trivial⟩)) B1 (Record.length (by first | exact oK  | exact hW.ok | exact ⟨trivial⟩)) mM (Record.length (by first | exact oK  | exact hW.ok | exact ⟨trivial⟩)) uU ?_
  refine Tr.a rfl rfl rfl ?_
  refine Tr.nil (Aa (Sat.ret (Ao (Ak ?_))))
  refine Aj (out := []) (Ar rfl rfl rfl U32 rfl B1 mM (by first | (simp; done) | exact Record.length (by first | exact oK  | exact hW.ok | exact ⟨trivial⟩))) Af ?_
  exact rec_bad1 oM
 ·
  refine Sat.skip (Aa (Sat.seq (Sat.region ?_)))
  refine Tr.m rfl rfl rfl ?_
  refine Tr.m rfl rfl rfl ?_
  refine Tr.build (cs := (⟨K, s14⟩ : Record).cells) rfl rfl rfl (fun w => by kernel_rfl) ?_
  refine Tr.alloc (cs := Record.zero.cells) rfl Record.zr rfl ?_
  intro n10 hn10 hf10
  refine Tr.sA rfl rfl rfl rfl (Record.isCell (by first | exact oK  | exact hW.ok | exact ⟨trivial⟩)) B1 (Record.length (by first | exact oK  | exact hW.ok | exact ⟨trivial⟩)) mM (Record.length (by first | exact oK  | exact hW.ok | exact ⟨trivial⟩)) uU ?_
  refine Tr.nil (Aa (Sat.seq (Sat.seq (Sat.region ?_))))
  refine Tr.lA rfl rfl rfl U32 rfl B1 mM (Record.length (by first | exact oK  | exact hW.ok | exact ⟨trivial⟩)) ?_
  refine Tr.cV rfl rfl rfl rfl Body77 (record_check ⟨K, s14⟩ ⟨K, certBy D⟩) (fun w h => ⟨⟨trivial⟩, rfl, acc_bytes hac14 (Lies.of h iN) rfl oM⟩) ?_
  refine Tr.nei rfl rfl rfl rfl rfl ?_
  refine Tr.nil (Aa ?_)
  first
   | refine Sat.condP rfl (fun hc1 => ?_) (fun hc1 => ?_)
   | refine Sat.condNP rfl (fun hc1 => ?_) (fun hc1 => ?_)
   | refine Sat.cond rfl (fun hc1 => ?_) (fun hc1 => ?_)
  ·
   refine Sat.seq (Sat.region ?_)
   refine Tr.build (cs := Record.zero.cells) rfl rfl rfl (fun w => by kernel_rfl) ?_
   refine Tr.sA rfl rfl rfl rfl (Record.isCell (by first | exact oK  | exact hW.ok | exact ⟨trivial⟩)) B1 (Record.length (by first | exact oK  | exact hW.ok | exact ⟨trivial⟩)) mM (Record.length (by first | exact oK  | exact hW.ok | exact ⟨trivial⟩)) uU ?_
   refine Tr.a rfl rfl rfl ?_
   refine Tr.nil (Aa (Sat.ret (Ao (Ak ?_))))
   refine Aj (out := []) (Ar rfl rfl rfl U32 rfl B1 mM (by first | (simp; done) | exact Record.length (by first | exact oK  | exact hW.ok | exact ⟨trivial⟩))) Af ?_
   exact rec_bad2 oM oM
  ·
   refine Sat.skip (Aa (Sat.seq (Sat.region ?_)))
   refine Tr.lA rfl rfl rfl U32 rfl B1 mM (Record.length (by first | exact oK  | exact hW.ok | exact ⟨trivial⟩)) ?_
   refine Tr.sA rfl rfl rfl rfl (Record.isCell (by first | exact oK  | exact hW.ok | exact ⟨trivial⟩)) B1 (Record.length (by first | exact oK  | exact hW.ok | exact ⟨trivial⟩)) mM (Record.length (by first | exact oK  | exact hW.ok | exact ⟨trivial⟩)) uU ?_
   refine Tr.a rfl rfl rfl ?_
   refine Tr.nil (Aa (Sat.ret (Ak ?_)))
   refine Aj (out := (out14 ++ [])) (Ar rfl rfl rfl U32 rfl B1 mM (by first | (simp; done) | exact Record.length (by first | exact oK  | exact hW.ok | exact ⟨trivial⟩))) (Ac sG Af) ?_
   rw [List.append_nil]; exact rec_ok oM oM hac14 oM

def blockBy (D : DB) : List UInt8 := if D.check = 0 then D.bytes else []
theorem block_bytes (X : Block) (D : DB) : Meets Tryz.prog 44 [agg X.cells] [] (fun W => BlockIs W X D) (fun v out => ∃ s : Sl, v = .tuple #[s.v, i64 D.check] ∧ Hw.Acc s out (Ab (blockBy D)) 5 (blockBy D).length 1) := by
  intro W hW
  have hbc : bcheck X D.ls = D.check := hW.check
  by_cases hc : D.check = 0
  · refine (bytes_ok X hW.ok D.ls D.ds (by rw [hbc]; exact hc) W ⟨hW.ls, hW.ds⟩).mono fun e W' ⟨v, out, h1, h2, h4⟩ => ⟨v, out, h1, ?_, h4⟩
    clear h1 h4
    obtain ⟨q, c, N, hN, hN2, rfl, hNc, rfl⟩ := h2
    have e : bytesB X D.ls D.ds = blockBy D := by rw [blockBy, if_pos hc]; exact hW.bytes
    rw [e] at hN ⊢
    subst hN
    exact ⟨⟨some ⟨q, 0, none⟩, (blockBy D).length, c⟩, by rw [hc]; rfl, .inr ⟨q, c, rfl, hNc, by simp [Ab], rfl⟩⟩
  · refine (bytes_bad X hW.ok D.ls D.ds (by rw [hbc]; exact hc) W ⟨hW.ls, hW.ds⟩).mono fun e W' ⟨v, out, h1, h2, h4⟩ => ⟨v, out, h1, ?_, h4⟩
    clear h1 h4
    obtain ⟨rfl, rfl⟩ := h2
    rw [blockBy, if_neg hc, hbc]
    exact ⟨Sl.nil, rfl, .inl ⟨rfl, rfl, rfl, rfl⟩⟩

theorem rec_of_block (K : UInt8) (X : Block) (D : DB) (hsz : (blockBy D).length ≤ 40000) : Meets Tryz.prog 43 [u8 K, agg X.cells, .func (.func 44) #[] #[]] [] (fun W => BlockIs W X D) (RecMade K (blockBy D) (D.check)) := by
 intro W hW
 have hok := hW.ok
 refine Ai Tryz.func43 rfl 29 Tryz.ntmps43 rfl ?_
 refine Sat.seq (Sat.region ?_)
 refine Tr.boxA rfl rfl ?_
 intro n4 hn4 hf4
 refine Tr.alloc (cs := Record.zero.cells) rfl Record.zr rfl ?_
 intro n6 hn6 hf6
 refine Tr.a rfl rfl rfl ?_
 refine Tr.nil (Aa (Sat.seq (Sat.region ?_)))
 refine Tr.m rfl rfl rfl ?_
 refine Tr.lA rfl rfl rfl U52 rfl Sz52 mM (Block.length (by first | exact oK  | exact hW.ok | exact ⟨trivial⟩)) ?_
 refine Tr.call4 rfl rfl rfl rfl rfl Body44 (block_bytes X D) (fun w h => hW.ext h rfl) ?_
 rintro v14 out14 ⟨s14, rfl, hac14⟩
 have hnm := hac14.num
 refine Tr.m rfl rfl rfl ?_
 refine Tr.eX rfl rfl rfl rfl ?_
 refine Tr.eX rfl rfl rfl rfl ?_
 refine Tr.a rfl rfl rfl ?_
 refine Tr.a rfl rfl rfl ?_
 refine Tr.nil (Aa (Sat.seq (Sat.seq (Sat.region ?_))))
 refine Tr.m rfl rfl rfl ?_
 refine Tr.nei rfl rfl rfl rfl rfl ?_
 refine Tr.nil (Aa ?_)
 first
  | refine Sat.condP rfl (fun hc0 => ?_) (fun hc0 => ?_)
  | refine Sat.condNP rfl (fun hc0 => ?_) (fun hc0 => ?_)
  | refine Sat.cond rfl (fun hc0 => ?_) (fun hc0 => ?_)
 ·
  refine Sat.seq (Sat.region ?_)
  refine Tr.build (cs := Record.zero.cells) rfl rfl rfl (fun w => by kernel_rfl) ?_
  refine Tr.m rfl rfl rfl ?_
  refine Tr.sA rfl rfl rfl rfl (Record.isCell (by first | exact oK  | exact hW.ok | exact ⟨trivial⟩)) B1 (Record.length (by first | exact oK  | exact hW.ok | exact ⟨trivial⟩)) mM (Record.length (by first | exact oK  | exact hW.ok | exact ⟨trivial⟩)) uU ?_
  refine Tr.a rfl rfl rfl ?_
  refine Tr.nil (Aa (Sat.ret (Ao (Ak ?_))))
  refine Aj (out := []) (Ar rfl rfl rfl U32 rfl B1 mM (by first | (simp; done) | exact Record.length (by first | exact oK  | exact hW.ok | exact ⟨trivial⟩))) Af ?_
  exact rec_bad1 oM
 ·
  refine Sat.skip (Aa (Sat.seq (Sat.region ?_)))
  refine Tr.m rfl rfl rfl ?_
  refine Tr.m rfl rfl rfl ?_
  refine Tr.build (cs := (⟨K, s14⟩ : Record).cells) rfl rfl rfl (fun w => by kernel_rfl) ?_
  refine Tr.alloc (cs := Record.zero.cells) rfl Record.zr rfl ?_
  intro n10 hn10 hf10
  refine Tr.sA rfl rfl rfl rfl (Record.isCell (by first | exact oK  | exact hW.ok | exact ⟨trivial⟩)) B1 (Record.length (by first | exact oK  | exact hW.ok | exact ⟨trivial⟩)) mM (Record.length (by first | exact oK  | exact hW.ok | exact ⟨trivial⟩)) uU ?_
  refine Tr.nil (Aa (Sat.seq (Sat.seq (Sat.region ?_))))
  refine Tr.lA rfl rfl rfl U32 rfl B1 mM (Record.length (by first | exact oK  | exact hW.ok | exact ⟨trivial⟩)) ?_
  refine Tr.cV rfl rfl rfl rfl Body77 (record_check ⟨K, s14⟩ ⟨K, blockBy D⟩) (fun w h => ⟨⟨trivial⟩, rfl, acc_bytes hac14 (Lies.of h iN) rfl oM⟩) ?_
  refine Tr.nei rfl rfl rfl rfl rfl ?_
  refine Tr.nil (Aa ?_)
  first
   | refine Sat.condP rfl (fun hc1 => ?_) (fun hc1 => ?_)
   | refine Sat.condNP rfl (fun hc1 => ?_) (fun hc1 => ?_)
   | refine Sat.cond rfl (fun hc1 => ?_) (fun hc1 => ?_)
  ·
   refine Sat.seq (Sat.region ?_)
   refine Tr.build (cs := Record.zero.cells) rfl rfl rfl (fun w => by kernel_rfl) ?_
   refine Tr.sA rfl rfl rfl rfl (Record.isCell (by first | exact oK  | exact hW.ok | exact ⟨trivial⟩)) B1 (Record.length (by first | exact oK  | exact hW.ok | exact ⟨trivial⟩)) mM (Record.length (by first | exact oK  | exact hW.ok | exact ⟨trivial⟩)) uU ?_
   refine Tr.a rfl rfl rfl ?_
   refine Tr.nil (Aa (Sat.ret (Ao (Ak ?_))))
   refine Aj (out := []) (Ar rfl rfl rfl U32 rfl B1 mM (by first | (simp; done) | exact Record.length (by first | exact oK  | exact hW.ok | exact ⟨trivial⟩))) Af ?_
   exact rec_bad2 oM oM
  ·
   refine Sat.skip (Aa (Sat.seq (Sat.region ?_)))
   refine Tr.lA rfl rfl rfl U32 rfl B1 mM (Record.length (by first | exact oK  | exact hW.ok | exact ⟨trivial⟩)) ?_
   refine Tr.sA rfl rfl rfl rfl (Record.isCell (by first | exact oK  | exact hW.ok | exact ⟨trivial⟩)) B1 (Record.length (by first | exact oK  | exact hW.ok | exact ⟨trivial⟩)) mM (Record.length (by first | exact oK  | exact hW.ok | exact ⟨trivial⟩)) uU ?_
   refine Tr.a rfl rfl rfl ?_
   refine Tr.nil (Aa (Sat.ret (Ak ?_)))
   refine Aj (out := (out14 ++ [])) (Ar rfl rfl rfl U32 rfl B1 mM (by first | (simp; done) | exact Record.length (by first | exact oK  | exact hW.ok | exact ⟨trivial⟩))) (Ac sG Af) ?_
   rw [List.append_nil]; exact rec_ok oM oM hac14 oM

theorem keep_vote (X : Vote) (D : Vote) (hsz : (Be D).length ≤ 40000) : Meets Tryz.prog 6 [agg X.cells] [] (fun W => VoteIs W X D) (RecMade 3 (Be D) (Bp D)) := by
 intro W hW
 refine Ai Tryz.func6 rfl 8 Tryz.ntmps6 rfl ?_
 refine Sat.seq (Sat.region ?_)
 refine Tr.boxA rfl rfl ?_
 intro n1 hn1 hf1
 refine Tr.alloc (cs := Record.zero.cells) rfl Record.zr rfl ?_
 intro n2 hn2 hf2
 refine Tr.a rfl rfl rfl ?_
 refine Tr.nil (Aa (Sat.seq (Sat.region ?_)))
 refine Tr.lA rfl rfl rfl U29 rfl Bw mM (Vote.length (by first | exact oK  | exact hW.ok | exact okX5 | exact Record.zero_ok)) ?_
 refine Tr.call4 rfl rfl rfl rfl rfl Body27 (rec_of_vote 3 X D hsz) (fun w h => hW.ext h rfl) ?_
 rintro v5 out5 ⟨X5, okX5, rfl, kX5, hX5⟩
 refine Tr.eX rfl rfl rfl rfl ?_
 refine Tr.eX rfl rfl rfl rfl ?_
 refine Tr.sA rfl rfl rfl rfl (Record.isCell (by first | exact oK  | exact hW.ok | exact okX5 | exact Record.zero_ok)) B1 (Record.length (by first | exact oK  | exact hW.ok | exact okX5 | exact Record.zero_ok)) mM (Record.length (by first | exact oK  | exact hW.ok | exact okX5 | exact Record.zero_ok)) uU ?_
 refine Tr.a rfl rfl rfl ?_
 refine Tr.nil (Aa (Sat.ret (Ak ?_)))
 refine Aj (out := (out5 ++ [])) (Ar rfl rfl rfl U32 rfl B1 mM (by first | (simp; done) | exact Record.length (by first | exact oK  | exact hW.ok | exact okX5 | exact Record.zero_ok))) (Ac sG Af) ?_
 rw [List.append_nil]; exact ⟨X5, okX5, rfl, kX5, hX5⟩

theorem keep_cut (X : Cut) (D : DCut) (hsz : (cutR D).length ≤ 40000) : Meets Tryz.prog 7 [agg X.cells] [] (fun W => CutIs W X D) (RecMade 4 (cutR D) (D.check)) := by
 intro W hW
 refine Ai Tryz.func7 rfl 8 Tryz.ntmps7 rfl ?_
 refine Sat.seq (Sat.region ?_)
 refine Tr.boxA rfl rfl ?_
 intro n1 hn1 hf1
 refine Tr.alloc (cs := Record.zero.cells) rfl Record.zr rfl ?_
 intro n2 hn2 hf2
 refine Tr.a rfl rfl rfl ?_
 refine Tr.nil (Aa (Sat.seq (Sat.region ?_)))
 refine Tr.lA rfl rfl rfl U39 rfl B0 mM (Cut.length (by first | exact oK  | exact hW.ok | exact okX5 | exact Record.zero_ok)) ?_
 refine Tr.call4 rfl rfl rfl rfl rfl Body29 (rec_of_cut 4 X D hsz) (fun w h => hW.ext h rfl) ?_
 rintro v5 out5 ⟨X5, okX5, rfl, kX5, hX5⟩
 refine Tr.eX rfl rfl rfl rfl ?_
 refine Tr.eX rfl rfl rfl rfl ?_
 refine Tr.sA rfl rfl rfl rfl (Record.isCell (by first | exact oK  | exact hW.ok | exact okX5 | exact Record.zero_ok)) B1 (Record.length (by first | exact oK  | exact hW.ok | exact okX5 | exact Record.zero_ok)) mM (Record.length (by first | exact oK  | exact hW.ok | exact okX5 | exact Record.zero_ok)) uU ?_
 refine Tr.a rfl rfl rfl ?_
 refine Tr.nil (Aa (Sat.ret (Ak ?_)))
 refine Aj (out := (out5 ++ [])) (Ar rfl rfl rfl U32 rfl B1 mM (by first | (simp; done) | exact Record.length (by first | exact oK  | exact hW.ok | exact okX5 | exact Record.zero_ok))) (Ac sG Af) ?_
 rw [List.append_nil]; exact ⟨X5, okX5, rfl, kX5, hX5⟩

theorem keep_cert (X : Cert) (D : DCert) (hsz : (certBy D).length ≤ 40000) : Meets Tryz.prog 45 [agg X.cells] [] (fun W => CertIs W X D) (RecMade 2 (certBy D) (D.check)) := by
 intro W hW
 refine Ai Tryz.func45 rfl 8 Tryz.ntmps45 rfl ?_
 refine Sat.seq (Sat.region ?_)
 refine Tr.boxA rfl rfl ?_
 intro n1 hn1 hf1
 refine Tr.alloc (cs := Record.zero.cells) rfl Record.zr rfl ?_
 intro n2 hn2 hf2
 refine Tr.a rfl rfl rfl ?_
 refine Tr.nil (Aa (Sat.seq (Sat.region ?_)))
 refine Tr.lA rfl rfl rfl U80 rfl Sz80 mM (Cert.length (by first | exact oK  | exact hW.ok | exact okX5 | exact Record.zero_ok)) ?_
 refine Tr.call4 rfl rfl rfl rfl rfl Body97 (rec_of_cert 2 X D hsz) (fun w h => hW.ext h rfl) ?_
 rintro v5 out5 ⟨X5, okX5, rfl, kX5, hX5⟩
 refine Tr.eX rfl rfl rfl rfl ?_
 refine Tr.eX rfl rfl rfl rfl ?_
 refine Tr.sA rfl rfl rfl rfl (Record.isCell (by first | exact oK  | exact hW.ok | exact okX5 | exact Record.zero_ok)) B1 (Record.length (by first | exact oK  | exact hW.ok | exact okX5 | exact Record.zero_ok)) mM (Record.length (by first | exact oK  | exact hW.ok | exact okX5 | exact Record.zero_ok)) uU ?_
 refine Tr.a rfl rfl rfl ?_
 refine Tr.nil (Aa (Sat.ret (Ak ?_)))
 refine Aj (out := (out5 ++ [])) (Ar rfl rfl rfl U32 rfl B1 mM (by first | (simp; done) | exact Record.length (by first | exact oK  | exact hW.ok | exact okX5 | exact Record.zero_ok))) (Ac sG Af) ?_
 rw [List.append_nil]; exact ⟨X5, okX5, rfl, kX5, hX5⟩

theorem keep_block (X : Block) (D : DB) (hsz : (blockBy D).length ≤ 40000) : Meets Tryz.prog 10 [agg X.cells] [] (fun W => BlockIs W X D) (RecMade 1 (blockBy D) (D.check)) := by
 intro W hW
 refine Ai Tryz.func10 rfl 8 Tryz.ntmps10 rfl ?_
 refine Sat.seq (Sat.region ?_)
 refine Tr.boxA rfl rfl ?_
 intro n1 hn1 hf1
 refine Tr.alloc (cs := Record.zero.cells) rfl Record.zr rfl ?_
 intro n2 hn2 hf2
 refine Tr.a rfl rfl rfl ?_
 refine Tr.nil (Aa (Sat.seq (Sat.region ?_)))
 refine Tr.lA rfl rfl rfl U52 rfl Sz52 mM (Block.length (by first | exact oK  | exact hW.ok | exact okX5 | exact Record.zero_ok)) ?_
 refine Tr.call4 rfl rfl rfl rfl rfl Body43 (rec_of_block 1 X D hsz) (fun w h => hW.ext h rfl) ?_
 rintro v5 out5 ⟨X5, okX5, rfl, kX5, hX5⟩
 refine Tr.eX rfl rfl rfl rfl ?_
 refine Tr.eX rfl rfl rfl rfl ?_
 refine Tr.sA rfl rfl rfl rfl (Record.isCell (by first | exact oK  | exact hW.ok | exact okX5 | exact Record.zero_ok)) B1 (Record.length (by first | exact oK  | exact hW.ok | exact okX5 | exact Record.zero_ok)) mM (Record.length (by first | exact oK  | exact hW.ok | exact okX5 | exact Record.zero_ok)) uU ?_
 refine Tr.a rfl rfl rfl ?_
 refine Tr.nil (Aa (Sat.ret (Ak ?_)))
 refine Aj (out := (out5 ++ [])) (Ar rfl rfl rfl U32 rfl B1 mM (by first | (simp; done) | exact Record.length (by first | exact oK  | exact hW.ok | exact okX5 | exact Record.zero_ok))) (Ac sG Af) ?_
 rw [List.append_nil]; exact ⟨X5, okX5, rfl, kX5, hX5⟩

end Go.Proofs.YtkfhpmidcbmofaaGreat
end

section
namespace Go.Proofs.YtkfhpmidcbmofaaGreat
open Go Hw

theorem seesP_na0 {C : Cx} {hp : List Blk} {w : World} {p : Option Addr} {xs : List UInt8} {k : Nat} (h : HRep C hp w) (hs : SeesP C.W0 p (Ab xs)) (hl : xs.length = k) (hna : 0 < k → ∀ a, p = some a → a.block ∉ C.lent) : SeesP w p (Ab xs) := fun j v hj => by
  have h1 : j < (Ab xs).length := (List.getElem?_eq_some_iff.1 hj).1
  rw [Ab, List.length_map] at h1
  exact seesP_na h hs (hna oM) j v hj
def KB (n : Nat) (K : Kept) : Blk := ⟨n, K.cells, 45, 4⟩
theorem take_hrep {P : Program} {W : World} {N n : Nat} {K : Kept} {s : Sl} {bl : List Blk} {cells : List Value} {E : TypeId} {m size : Nat} (h : Hw.Acc s bl cells E m size) (hk : BlkOk W (KB n K)) (hl : Lies bl W) (hn : ∀ b ∈ bl, b.n ≠ n) : HRep ⟨P, W, N, n :: bl.map (·.n), [], []⟩ (KB n K :: (bl ++ [])) W := by
  rw [List.append_nil]
  have h1 := Acc.hrep (P := P) (N := N) h hl
  refine ⟨fun b hb => ?_, ?_, fun b hb => ?_, Keeps.refl _ _, fun _ h => (by cases h), fun _ _ _ h => (by cases h)⟩
  · rcases List.mem_cons.1 hb with rfl | hb
    · exact hk
    · exact hl b hb
  · refine List.nodup_cons.2 ⟨fun hm => ?_, h1.nodup⟩
    obtain ⟨b, hb, e⟩ := List.mem_map.1 hm
    exact hn b hb e
  · rcases List.mem_cons.1 hb with rfl | hb
    · exact .inr List.mem_cons_self
    · exact .inr (List.mem_cons_of_mem _ (List.mem_map.2 ⟨b, hb, rfl⟩))
theorem take_vote (n : Nat) (K : Kept) (hK : K.ok) (bl : List Blk) (rs : List Vote) (m : Nat) (hac : Hw.Acc K.fVotes bl (rs.map Vote.cells).flatten 29 m 132) (hm : m ≤ 100000) (p : Option Addr) (k c : Nat) (xs : List UInt8) (hl : xs.length = k) (hp : p = none → k = 0) (hk : k ≤ 90000) : Meets Tryz.prog 35 [ptr n 2, .slice p k c, .func (.func 36) #[] #[]] (n :: bl.map (·.n)) (fun W => BlkOk W (KB n K) ∧ Lies bl W ∧ SeesP W p (Ab xs) ∧ (0 < k → ∀ a, p = some a → a.block ∉ n :: bl.map (·.n)) ∧ ∀ b ∈ bl, b.n ≠ n) (fun v out => ∃ (s2 : Sl) (bl2 : List Blk), v = .bool (decide ((A9 xs).2 = 0)) ∧ ((¬ (A9 xs).2 = 0 ∧ out = KB n K :: (bl ++ [])) ∨ ((A9 xs).2 = 0 ∧ out = KB n { K with fVotes := s2 } :: (bl2 ++ []) ∧ Hw.Acc s2 bl2 ((rs ++ [(A9 xs).1]).map Vote.cells).flatten 29 (m + 1) 132))) := by
 intro W hW
 refine A3 (hp0 := KB n K :: (bl ++ [])) Tryz.func35 rfl 25 Tryz.ntmps35 rfl (take_hrep hac hW.1 hW.2.1 hW.2.2.2.2) ?_
 refine Sat.seq (Sat.region ?_)
 refine Tr.a rfl rfl rfl ?_
 refine Tr.nil (Aa (Sat.seq (Sat.region ?_)))
 refine Tr.m rfl rfl rfl ?_
 refine Tr.m rfl rfl rfl ?_
 refine Tr.call4 rfl rfl rfl rfl rfl Body36 (vote_read p k c xs hl hp hk) (fun w h => seesP_na0 h hW.2.2.1 hl hW.2.2.2.1) ?_
 rintro v12 out12 ⟨rfl, rfl⟩
 refine Tr.m rfl rfl rfl ?_
 refine Tr.eX rfl rfl rfl rfl ?_
 refine Tr.eX rfl rfl rfl rfl ?_
 refine Tr.alloc (cs := Vote.zero.cells) rfl Vote.zr rfl ?_
 intro n7 hn7 hf7
 refine Tr.sA rfl rfl rfl rfl (Vote.isCell (by first | exact oK  | exact hK | exact Bd _)) Bw (Vote.length (by first | exact oK  | exact hK | exact Bd _)) mM (Vote.length (by first | exact oK  | exact hK | exact Bd _)) uU ?_
 refine Tr.a rfl rfl rfl ?_
 refine Tr.nil (Aa (Sat.seq (Sat.seq (Sat.region ?_))))
 refine Tr.m rfl rfl rfl ?_
 refine Tr.nei rfl rfl rfl rfl rfl ?_
 refine Tr.nil (Aa ?_)
 first
  | refine Sat.condP rfl (fun hc0 => ?_) (fun hc0 => ?_)
  | refine Sat.condNP rfl (fun hc0 => ?_) (fun hc0 => ?_)
  | refine Sat.cond rfl (fun hc0 => ?_) (fun hc0 => ?_)
 ·
  refine Sat.seq (Sat.region ?_)
  refine Tr.a rfl rfl rfl ?_
  refine Tr.nil (Aa (Sat.ret (Ao (Ak ?_))))
  refine Aj (out := (KB n K :: (bl ++ []))) (Ae rfl rfl) (Ad rM (Ac sG Af)) ?_
  exact ⟨Sl.nil, [], by simp; omega, .inl ⟨by omega, rfl⟩⟩
 ·
  refine Sat.skip (Aa (Sat.seq ?_))
  refine Sat.draw [(0, 0), (0, 1), (0, 2), (1, 3), (1, 4), (2, 5), (4, 6), (0, 7), (4, 8)] Bz zK ?_
  refine Tr.m rfl rfl rfl ?_
  refine Tr.m rfl rfl rfl ?_
  refine Tr.nC rfl rfl rfl ?_
  refine Tr.load1 rfl rfl rfl U42 rfl mM (Kept.get_fVotes hK) ?_
  refine Tr.lA rfl rfl rfl U29 rfl Bw mM (Vote.length (by first | exact oK  | exact hK | exact Bd _)) ?_
  refine Tr.mkRow2 (z := agg Vote.zero.cells) [agg (A9 xs).1.cells] (A9 xs).1.cells rfl rfl U42 Bw Vote.zr rfl rfl (by intro v hv; rw [List.mem_singleton.1 hv]; exact Vote.length (Bd _)) dE (by simp [Value.cells]) ?_
  intro q22
  refine Tr.appendAcc (z := agg Vote.zero.cells) (by' := 160) ((A9 xs).1.cells) rfl rfl rfl rfl rfl U42 U42 Bw Zr29 (by unfold By; kernel_rfl) rfl hac sG (fun w h => SeesP.of (As h mM)) (fun e => by cases e) (Vote.isCell (Bd _)) oM oM (by rw [Vote.length (Bd _)]) ?_
  intro s23 bl23 hac23
  refine Tr.nC rfl rfl rfl ?_
  refine Tr.s1 rfl rfl rfl rfl rfl Sz42 mM (by rw [Kept.length hK]; decide) (Kept.setS_fVotes hK _ _ _) uU ?_
  refine Tr.nil (Aa (Sat.seq (Sat.region ?_)))
  refine Tr.a rfl rfl rfl ?_
  refine Tr.nil (Aa (Sat.ret (Ak ?_)))
  refine Aj (out := (KB n { K with fVotes := s23 } :: (bl23 ++ []))) (Ae rfl rfl) (Ad rM (Ac sG Af)) ?_
  exact ⟨s23, bl23, by simp; omega, .inr ⟨by omega, rfl, by simpa using hac23⟩⟩

theorem take_cut (n : Nat) (K : Kept) (hK : K.ok) (bl : List Blk) (rs : List Cut) (m : Nat) (hac : Hw.Acc K.fCuts bl (rs.map Cut.cells).flatten 39 m 34) (hm : m ≤ 100000) (p : Option Addr) (k c : Nat) (xs : List UInt8) (hl : xs.length = k) (hp : p = none → k = 0) (hk : k ≤ 90000) : Meets Tryz.prog 37 [ptr n 3, .slice p k c, .func (.func 38) #[] #[]] (n :: bl.map (·.n)) (fun W => BlkOk W (KB n K) ∧ Lies bl W ∧ SeesP W p (Ab xs) ∧ (0 < k → ∀ a, p = some a → a.block ∉ n :: bl.map (·.n)) ∧ ∀ b ∈ bl, b.n ≠ n) (fun v out => ∃ (s2 : Sl) (bl2 o : List Blk) (X : Cut), v = .bool (decide ((cutRd xs).2 = 0)) ∧ X.ok ∧ (∀ W2, Lies o W2 → CutIs W2 X (cutRd xs).1) ∧ ((¬ (cutRd xs).2 = 0 ∧ out = KB n K :: (bl ++ [])) ∨ ((cutRd xs).2 = 0 ∧ out = KB n { K with fCuts := s2 } :: (bl2 ++ (o ++ [])) ∧ Hw.Acc s2 bl2 ((rs ++ [X]).map Cut.cells).flatten 39 (m + 1) 34))) := by
 intro W hW
 refine A3 (hp0 := KB n K :: (bl ++ [])) Tryz.func37 rfl 25 Tryz.ntmps37 rfl (take_hrep hac hW.1 hW.2.1 hW.2.2.2.2) ?_
 refine Sat.seq (Sat.region ?_)
 refine Tr.a rfl rfl rfl ?_
 refine Tr.nil (Aa (Sat.seq (Sat.region ?_)))
 refine Tr.m rfl rfl rfl ?_
 refine Tr.m rfl rfl rfl ?_
 refine Tr.call4 rfl rfl rfl rfl rfl Body38 (cut_read p k c xs hl hp hk) (fun w h => seesP_na0 h hW.2.2.1 hl hW.2.2.2.1) ?_
 rintro v12 out12 ⟨C12, okC, rfl, hC12⟩
 refine Tr.m rfl rfl rfl ?_
 refine Tr.eX rfl rfl rfl rfl ?_
 refine Tr.eX rfl rfl rfl rfl ?_
 refine Tr.alloc (cs := Cut.zero.cells) rfl Cut.zr rfl ?_
 intro n7 hn7 hf7
 refine Tr.sA rfl rfl rfl rfl (Cut.isCell (by first | exact oK  | exact hK | exact okC)) B0 (Cut.length (by first | exact oK  | exact hK | exact okC)) mM (Cut.length (by first | exact oK  | exact hK | exact okC)) uU ?_
 refine Tr.a rfl rfl rfl ?_
 refine Tr.nil (Aa (Sat.seq (Sat.seq (Sat.region ?_))))
 refine Tr.m rfl rfl rfl ?_
 refine Tr.nei rfl rfl rfl rfl rfl ?_
 refine Tr.nil (Aa ?_)
 first
  | refine Sat.condP rfl (fun hc0 => ?_) (fun hc0 => ?_)
  | refine Sat.condNP rfl (fun hc0 => ?_) (fun hc0 => ?_)
  | refine Sat.cond rfl (fun hc0 => ?_) (fun hc0 => ?_)
 ·
  refine Sat.seq (Sat.region ?_)
  refine Tr.a rfl rfl rfl ?_
  refine Tr.nil (Aa (Sat.ret (Ao (Ak ?_))))
  refine Aj (out := (KB n K :: (bl ++ []))) (Ae rfl rfl) (Ad rM (Ac sG Af)) ?_
  exact ⟨Sl.nil, [], out12, C12, by simp; omega, okC, hC12, .inl ⟨by omega, rfl⟩⟩
 ·
  refine Sat.skip (Aa (Sat.seq ?_))
  refine Sat.draw [(0, 0), (0, 1), (0, 2), (1, 3), (1, 4), (2, 5), (4, 6), (0, 7), (4, 8)] Bz zK ?_
  refine Tr.m rfl rfl rfl ?_
  refine Tr.m rfl rfl rfl ?_
  refine Tr.nC rfl rfl rfl ?_
  refine Tr.load1 rfl rfl rfl U43 rfl mM (Kept.get_fCuts hK) ?_
  refine Tr.lA rfl rfl rfl U39 rfl B0 mM (Cut.length (by first | exact oK  | exact hK | exact okC)) ?_
  refine Tr.mkRow2 (z := agg Cut.zero.cells) [agg C12.cells] C12.cells rfl rfl U43 B0 Cut.zr rfl rfl (by intro v hv; rw [List.mem_singleton.1 hv]; exact Cut.length okC) dE (by simp [Value.cells]) ?_
  intro q22
  refine Tr.appendAcc (z := agg Cut.zero.cells) (by' := 64) (C12.cells) rfl rfl rfl rfl rfl U43 U43 B0 Zr39 (by unfold By; kernel_rfl) rfl hac sG (fun w h => SeesP.of (As h mM)) (fun e => by cases e) (Cut.isCell okC) oM oM (by rw [Cut.length okC]) ?_
  intro s23 bl23 hac23
  refine Tr.nC rfl rfl rfl ?_
  refine Tr.s1 rfl rfl rfl rfl rfl Sz43 mM (by rw [Kept.length hK]; decide) (Kept.setS_fCuts hK _ _ _) uU ?_
  refine Tr.nil (Aa (Sat.seq (Sat.region ?_)))
  refine Tr.a rfl rfl rfl ?_
  refine Tr.nil (Aa (Sat.ret (Ak ?_)))
  refine Aj (out := (KB n { K with fCuts := s23 } :: (bl23 ++ (out12 ++ [])))) (Ae rfl rfl) (Ad rM (Ac sG (Ac sG Af))) ?_
  exact ⟨s23, bl23, out12, C12, by simp; omega, okC, hC12, .inr ⟨by omega, rfl, by simpa using hac23⟩⟩

theorem take_cert (n : Nat) (K : Kept) (hK : K.ok) (bl : List Blk) (rs : List Cert) (m : Nat) (hac : Hw.Acc K.fCerts bl (rs.map Cert.cells).flatten 80 m 35) (hm : m ≤ 100000) (p : Option Addr) (k c : Nat) (xs : List UInt8) (hl : xs.length = k) (hp : p = none → k = 0) (hk : k ≤ 90000) : Meets Tryz.prog 33 [ptr n 1, .slice p k c, .func (.func 34) #[] #[]] (n :: bl.map (·.n)) (fun W => BlkOk W (KB n K) ∧ Lies bl W ∧ SeesP W p (Ab xs) ∧ (0 < k → ∀ a, p = some a → a.block ∉ n :: bl.map (·.n)) ∧ ∀ b ∈ bl, b.n ≠ n) (fun v out => ∃ (s2 : Sl) (bl2 o : List Blk) (X : Cert), v = .bool (decide ((certRd xs).2 = 0)) ∧ X.ok ∧ (∀ W2, Lies o W2 → CertIs W2 X (certRd xs).1) ∧ ((¬ (certRd xs).2 = 0 ∧ out = KB n K :: (bl ++ [])) ∨ ((certRd xs).2 = 0 ∧ out = KB n { K with fCerts := s2 } :: (bl2 ++ (o ++ [])) ∧ Hw.Acc s2 bl2 ((rs ++ [X]).map Cert.cells).flatten 80 (m + 1) 35))) := by
 intro W hW
 refine A3 (hp0 := KB n K :: (bl ++ [])) Tryz.func33 rfl 25 Tryz.ntmps33 rfl (take_hrep hac hW.1 hW.2.1 hW.2.2.2.2) ?_
 refine Sat.seq (Sat.region ?_)
 refine Tr.a rfl rfl rfl ?_
 refine Tr.nil (Aa (Sat.seq (Sat.region ?_)))
 refine Tr.m rfl rfl rfl ?_
 refine Tr.m rfl rfl rfl ?_
 refine Tr.call4 rfl rfl rfl rfl rfl Body34 (cert_read p k c xs hl hp hk) (fun w h => seesP_na0 h hW.2.2.1 hl hW.2.2.2.1) ?_
 rintro v12 out12 ⟨C12, okC, rfl, hC12⟩
 refine Tr.m rfl rfl rfl ?_
 refine Tr.eX rfl rfl rfl rfl ?_
 refine Tr.eX rfl rfl rfl rfl ?_
 refine Tr.alloc (cs := Cert.zero.cells) rfl Cert.zr rfl ?_
 intro n7 hn7 hf7
 refine Tr.sA rfl rfl rfl rfl (Cert.isCell (by first | exact oK  | exact hK | exact okC)) Sz80 (Cert.length (by first | exact oK  | exact hK | exact okC)) mM (Cert.length (by first | exact oK  | exact hK | exact okC)) uU ?_
 refine Tr.a rfl rfl rfl ?_
 refine Tr.nil (Aa (Sat.seq (Sat.seq (Sat.region ?_))))
 refine Tr.m rfl rfl rfl ?_
 refine Tr.nei rfl rfl rfl rfl rfl ?_
 refine Tr.nil (Aa ?_)
 first
  | refine Sat.condP rfl (fun hc0 => ?_) (fun hc0 => ?_)
  | refine Sat.condNP rfl (fun hc0 => ?_) (fun hc0 => ?_)
  | refine Sat.cond rfl (fun hc0 => ?_) (fun hc0 => ?_)
 ·
  refine Sat.seq (Sat.region ?_)
  refine Tr.a rfl rfl rfl ?_
  refine Tr.nil (Aa (Sat.ret (Ao (Ak ?_))))
  refine Aj (out := (KB n K :: (bl ++ []))) (Ae rfl rfl) (Ad rM (Ac sG Af)) ?_
  exact ⟨Sl.nil, [], out12, C12, by simp; omega, okC, hC12, .inl ⟨by omega, rfl⟩⟩
 ·
  refine Sat.skip (Aa (Sat.seq ?_))
  refine Sat.draw [(0, 0), (0, 1), (0, 2), (1, 3), (1, 4), (2, 5), (4, 6), (0, 7), (4, 8)] Bz zK ?_
  refine Tr.m rfl rfl rfl ?_
  refine Tr.m rfl rfl rfl ?_
  refine Tr.nC rfl rfl rfl ?_
  refine Tr.load1 rfl rfl rfl U41 rfl mM (Kept.get_fCerts hK) ?_
  refine Tr.lA rfl rfl rfl U80 rfl Sz80 mM (Cert.length (by first | exact oK  | exact hK | exact okC)) ?_
  refine Tr.mkRow2 (z := agg Cert.zero.cells) [agg C12.cells] C12.cells rfl rfl U41 Sz80 Cert.zr rfl rfl (by intro v hv; rw [List.mem_singleton.1 hv]; exact Cert.length okC) dE (by simp [Value.cells]) ?_
  intro q22
  refine Tr.appendAcc (z := agg Cert.zero.cells) (by' := 88) (C12.cells) rfl rfl rfl rfl rfl U41 U41 Sz80 Zr80 (by unfold By; kernel_rfl) rfl hac sG (fun w h => SeesP.of (As h mM)) (fun e => by cases e) (Cert.isCell okC) oM oM (by rw [Cert.length okC]) ?_
  intro s23 bl23 hac23
  refine Tr.nC rfl rfl rfl ?_
  refine Tr.s1 rfl rfl rfl rfl rfl Sz41 mM (by rw [Kept.length hK]; decide) (Kept.setS_fCerts hK _ _ _) uU ?_
  refine Tr.nil (Aa (Sat.seq (Sat.region ?_)))
  refine Tr.a rfl rfl rfl ?_
  refine Tr.nil (Aa (Sat.ret (Ak ?_)))
  refine Aj (out := (KB n { K with fCerts := s23 } :: (bl23 ++ (out12 ++ [])))) (Ae rfl rfl) (Ad rM (Ac sG (Ac sG Af))) ?_
  exact ⟨s23, bl23, out12, C12, by simp; omega, okC, hC12, .inr ⟨by omega, rfl, by simpa using hac23⟩⟩

theorem take_block (n : Nat) (K : Kept) (hK : K.ok) (bl : List Blk) (rs : List Block) (m : Nat) (hac : Hw.Acc K.fBlocks bl (rs.map Block.cells).flatten 52 m 131) (hm : m ≤ 100000) (p : Option Addr) (k c : Nat) (xs : List UInt8) (hl : xs.length = k) (hp : p = none → k = 0) (hk : k ≤ 90000) : Meets Tryz.prog 31 [ptr n 0, .slice p k c, .func (.func 32) #[] #[]] (n :: bl.map (·.n)) (fun W => BlkOk W (KB n K) ∧ Lies bl W ∧ SeesP W p (Ab xs) ∧ (0 < k → ∀ a, p = some a → a.block ∉ n :: bl.map (·.n)) ∧ ∀ b ∈ bl, b.n ≠ n) (fun v out => ∃ (s2 : Sl) (bl2 o : List Blk) (X : Block), v = .bool (decide ((readD xs).2 = 0)) ∧ X.ok ∧ (∀ W2, Lies o W2 → BlockIs W2 X (readD xs).1) ∧ ((¬ (readD xs).2 = 0 ∧ out = KB n K :: (bl ++ [])) ∨ ((readD xs).2 = 0 ∧ out = KB n { K with fBlocks := s2 } :: (bl2 ++ (o ++ [])) ∧ Hw.Acc s2 bl2 ((rs ++ [X]).map Block.cells).flatten 52 (m + 1) 131))) := by
 intro W hW
 refine A3 (hp0 := KB n K :: (bl ++ [])) Tryz.func31 rfl 25 Tryz.ntmps31 rfl (take_hrep hac hW.1 hW.2.1 hW.2.2.2.2) ?_
 refine Sat.seq (Sat.region ?_)
 refine Tr.a rfl rfl rfl ?_
 refine Tr.nil (Aa (Sat.seq (Sat.region ?_)))
 refine Tr.m rfl rfl rfl ?_
 refine Tr.m rfl rfl rfl ?_
 refine Tr.call4 rfl rfl rfl rfl rfl Body32 (block_read p k c xs hl hp hk) (fun w h => seesP_na0 h hW.2.2.1 hl hW.2.2.2.1) ?_
 rintro v12 out12 ⟨C12, okC, rfl, hC12⟩
 refine Tr.m rfl rfl rfl ?_
 refine Tr.eX rfl rfl rfl rfl ?_
 refine Tr.eX rfl rfl rfl rfl ?_
 refine Tr.alloc (cs := Block.zero.cells) rfl Block.zr rfl ?_
 intro n7 hn7 hf7
 refine Tr.sA rfl rfl rfl rfl (Block.isCell (by first | exact oK  | exact hK | exact okC)) Sz52 (Block.length (by first | exact oK  | exact hK | exact okC)) mM (Block.length (by first | exact oK  | exact hK | exact okC)) uU ?_
 refine Tr.a rfl rfl rfl ?_
 refine Tr.nil (Aa (Sat.seq (Sat.seq (Sat.region ?_))))
 refine Tr.m rfl rfl rfl ?_
 refine Tr.nei rfl rfl rfl rfl rfl ?_
 refine Tr.nil (Aa ?_)
 first
  | refine Sat.condP rfl (fun hc0 => ?_) (fun hc0 => ?_)
  | refine Sat.condNP rfl (fun hc0 => ?_) (fun hc0 => ?_)
  | refine Sat.cond rfl (fun hc0 => ?_) (fun hc0 => ?_)
 ·
  refine Sat.seq (Sat.region ?_)
  refine Tr.a rfl rfl rfl ?_
  refine Tr.nil (Aa (Sat.ret (Ao (Ak ?_))))
  refine Aj (out := (KB n K :: (bl ++ []))) (Ae rfl rfl) (Ad rM (Ac sG Af)) ?_
  exact ⟨Sl.nil, [], out12, C12, by simp; omega, okC, hC12, .inl ⟨by omega, rfl⟩⟩
 ·
  refine Sat.skip (Aa (Sat.seq ?_))
  refine Sat.draw [(0, 0), (0, 1), (0, 2), (1, 3), (1, 4), (2, 5), (4, 6), (0, 7), (4, 8)] Bz zK ?_
  refine Tr.m rfl rfl rfl ?_
  refine Tr.m rfl rfl rfl ?_
  refine Tr.nC rfl rfl rfl ?_
  refine Tr.load1 rfl rfl rfl U40 rfl mM (Kept.get_fBlocks hK) ?_
  refine Tr.lA rfl rfl rfl U52 rfl Sz52 mM (Block.length (by first | exact oK  | exact hK | exact okC)) ?_
  refine Tr.mkRow2 (z := agg Block.zero.cells) [agg C12.cells] C12.cells rfl rfl U40 Sz52 Block.zr rfl rfl (by intro v hv; rw [List.mem_singleton.1 hv]; exact Block.length okC) dE (by simp [Value.cells]) ?_
  intro q22
  refine Tr.appendAcc (z := agg Block.zero.cells) (by' := 184) (C12.cells) rfl rfl rfl rfl rfl U40 U40 Sz52 Zr52 (by unfold By; kernel_rfl) rfl hac sG (fun w h => SeesP.of (As h mM)) (fun e => by cases e) (Block.isCell okC) oM oM (by rw [Block.length okC]) ?_
  intro s23 bl23 hac23
  refine Tr.nC rfl rfl rfl ?_
  refine Tr.s1 rfl rfl rfl rfl rfl Sz40 mM (by rw [Kept.length hK]; decide) (Kept.setS_fBlocks hK _ _ _) uU ?_
  refine Tr.nil (Aa (Sat.seq (Sat.region ?_)))
  refine Tr.a rfl rfl rfl ?_
  refine Tr.nil (Aa (Sat.ret (Ak ?_)))
  refine Aj (out := (KB n { K with fBlocks := s23 } :: (bl23 ++ (out12 ++ [])))) (Ae rfl rfl) (Ad rM (Ac sG (Ac sG Af))) ?_
  exact ⟨s23, bl23, out12, C12, by simp; omega, okC, hC12, .inr ⟨by omega, rfl, by simpa using hac23⟩⟩

end Go.Proofs.YtkfhpmidcbmofaaGreat
end

section
namespace Go.Proofs.YtkfhpmidcbmofaaGreat
open Go Hw

def dkz : DKept := ⟨[], [], [], []⟩
noncomputable def keepStep (D : DKept) (r : DRecord) : Option DKept :=
  if r.dKind = 1 then (if (readD r.dData).2 = 0 then some { D with dBlocks := D.dBlocks ++ [(readD r.dData).1] } else none)
  else if r.dKind = 2 then (if (certRd r.dData).2 = 0 then some { D with dCerts := D.dCerts ++ [(certRd r.dData).1] } else none)
  else if r.dKind = 3 then (if (A9 r.dData).2 = 0 then some { D with dVotes := D.dVotes ++ [(A9 r.dData).1] } else none)
  else if r.dKind = 4 then (if (cutRd r.dData).2 = 0 then some { D with dCuts := D.dCuts ++ [(cutRd r.dData).1] } else none)
  else none
noncomputable def keepR (ds : List DRecord) : Option DKept := ds.foldl (fun o r => o.bind fun D => keepStep D r) (some dkz)
noncomputable def keepRd (ds : List DRecord) : DKept × Int := match keepR ds with
  | some D => if inOrd D.dCerts = true then (D, 0) else (dkz, 4)
  | none => (dkz, 4)
theorem keepR_nil : keepR [] = some dkz := rfl
theorem keepR_snoc (l : List DRecord) (d : DRecord) : keepR (l ++ [d]) = (keepR l).bind fun D => keepStep D d := by simp [keepR, List.foldl_append]
theorem fold_none (l : List DRecord) : l.foldl (fun o r => o.bind fun D => keepStep D r) none = none := by
  induction l with
  | nil => rfl
  | cons a l ih => exact ih
theorem keepR_none {ds : List DRecord} {j : Nat} (h : keepR (ds.take j) = none) : keepR ds = none := by
  have e : keepR ds = keepR (ds.take j ++ ds.drop j) := by rw [List.take_append_drop]
  rw [e, keepR, List.foldl_append]
  have h' : (ds.take j).foldl (fun o r => o.bind fun D => keepStep D r) (some dkz) = none := h
  rw [h', fold_none]
theorem keepR_step {ds : List DRecord} {k : Nat} {d : DRecord} (h : ds[k]? = some d) {D : DKept} (hD : keepR (ds.take k) = some D) : keepR (ds.take (k + 1)) = keepStep D d := by
  rw [take_snoc h, keepR_snoc, hD]; rfl
theorem keepRd_bad {ds : List DRecord} (h : keepR ds = none) : keepRd ds = (dkz, 4) := by rw [keepRd, h]
theorem keepRd_ord {ds : List DRecord} {D : DKept} (h : keepR ds = some D) (h2 : inOrd D.dCerts = false) : keepRd ds = (dkz, 4) := by simp only [keepRd, h, h2]; rfl
theorem keepRd_ok {ds : List DRecord} {D : DKept} (h : keepR ds = some D) (h2 : inOrd D.dCerts = true) : keepRd ds = (D, 0) := by simp only [keepRd, h, h2]; rfl
def KeepRead (ds : List DRecord) (v : Value) (out : List Blk) : Prop := ∃ X : Kept, X.ok ∧ v = .tuple #[agg X.cells, i64 (keepRd ds).2] ∧ ∀ W2, Lies out W2 → KeptIs W2 X (keepRd ds).1
theorem keptz_is (W : World) : KeptIs W Kept.zero dkz := ⟨Kept.zero_ok, ⟨[], SeqIs.none⟩, ⟨[], SeqIs.none⟩, ⟨[], SeqIs.none⟩, ⟨[], SeqIs.none⟩⟩
theorem keep_bad {ds : List DRecord} {out : List Blk} (h : keepRd ds = (dkz, 4)) : KeepRead ds (.tuple #[agg Kept.zero.cells, i64 4]) out :=
  ⟨Kept.zero, Kept.zero_ok, by rw [h], fun W2 _ => by rw [h]; exact keptz_is W2⟩
structure KSt where
  i : Nat
  K : Kept
  D : DKept
  m1 : Nat
  m2 : Nat
  m3 : Nat
  m4 : Nat
  b1 : List Blk
  o1 : List Blk
  r1 : List Block
  b2 : List Blk
  o2 : List Blk
  r2 : List Cert
  b3 : List Blk
  r3 : List Vote
  b4 : List Blk
  o4 : List Blk
  r4 : List Cut
structure KInv (ds : List DRecord) (p : KSt) : Prop where
  fold : keepR (ds.take p.i) = some p.D
  ok : p.K.ok
  q1 : OwnSeq Block.cells 131 BlockIs 52 p.K.fBlocks p.b1 p.o1 p.r1 p.D.dBlocks p.m1
  q2 : OwnSeq Cert.cells 35 CertIs 80 p.K.fCerts p.b2 p.o2 p.r2 p.D.dCerts p.m2
  q3 : OwnSeq Vote.cells 132 VoteIs 29 p.K.fVotes p.b3 [] p.r3 p.D.dVotes p.m3
  q4 : OwnSeq Cut.cells 34 CutIs 39 p.K.fCuts p.b4 p.o4 p.r4 p.D.dCuts p.m4
  le : p.m1 ≤ p.i ∧ p.m2 ≤ p.i ∧ p.m3 ≤ p.i ∧ p.m4 ≤ p.i
def ks0 : KSt := ⟨0, Kept.zero, dkz, 0, 0, 0, 0, [], [], [], [], [], [], [], [], [], [], []⟩
theorem KInv.first (ds : List DRecord) : KInv ds ks0 := ⟨rfl, Kept.zero_ok, OwnSeq.none, OwnSeq.none, OwnSeq.none, OwnSeq.none, ⟨Nat.le_refl _, Nat.le_refl _, Nat.le_refl _, Nat.le_refl _⟩⟩
theorem uniO {A : Prop} {n : Nat} {K K' : Kept} {bl bl2 o out : List Blk} {Q : Prop} (h : (¬ A ∧ out = KB n K :: (bl ++ [])) ∨ (A ∧ out = KB n K' :: (bl2 ++ (o ++ [])) ∧ Q)) : ∃ K2 bl3 o3, out = KB n K2 :: (bl3 ++ (o3 ++ [])) ∧ (A → K2 = K' ∧ bl3 = bl2 ∧ o3 = o ∧ Q) := by
  rcases h with ⟨h, rfl⟩ | ⟨h, rfl, q⟩
  · exact ⟨K, bl, [], by simp, fun a => absurd a h⟩
  · exact ⟨K', bl2, o, rfl, fun _ => ⟨rfl, rfl, rfl, q⟩⟩
theorem uniV {A : Prop} {n : Nat} {K K' : Kept} {bl bl2 out : List Blk} {Q : Prop} (h : (¬ A ∧ out = KB n K :: (bl ++ [])) ∨ (A ∧ out = KB n K' :: (bl2 ++ []) ∧ Q)) : ∃ K2 bl3, out = KB n K2 :: (bl3 ++ []) ∧ (A → K2 = K' ∧ bl3 = bl2 ∧ Q) := by
  rcases h with ⟨h, rfl⟩ | ⟨h, rfl, q⟩
  · exact ⟨K, bl, rfl, fun a => absurd a h⟩
  · exact ⟨K', bl2, rfl, fun _ => ⟨rfl, rfl, q⟩⟩
theorem seesP_lt {W : World} {p : Option Addr} {xs : List UInt8} (hs : SeesP W p (Ab xs)) (h : 0 < xs.length) {a : Addr} (ha : p = some a) : a.block < W.heap.size := by
  cases xs with
  | nil => simp at h
  | cons x xs =>
    obtain ⟨b, o, e, hc⟩ := hs 0 (u8 x) rfl
    rw [ha] at e
    obtain rfl : a = ⟨b, o, none⟩ := Option.some.inj e
    rcases Nat.lt_or_ge b W.heap.size with h1 | h1
    · exact h1
    · exact absurd hc (by rw [World.cell?]; simp [Array.getElem?_eq_none h1])
theorem take_pre {C : Cx} {hp R bl : List Blk} {w : World} {n : Nat} {K : Kept} {s : Sl} {xs : List UInt8} (h : HRep C hp w) (hl : C.lent = []) (hb : BytesAt C.W0 s xs) (hp' : hp.Perm ((KB n K :: bl) ++ R)) :
    BlkOk w (KB n K) ∧ Lies bl w ∧ SeesP w s.p (Ab xs) ∧ (0 < s.n → ∀ a, s.p = some a → a.block ∉ n :: bl.map (·.n)) ∧ ∀ b ∈ bl, b.n ≠ n := by
  have hK : KB n K ∈ hp := hp'.mem_iff.2 sP
  have hB : ∀ b ∈ bl, b ∈ hp := fun b hb => hp'.mem_iff.2 (by simp [hb])
  have own : ∀ b ∈ hp, C.W0.heap.size ≤ b.n := fun b hb => by
    rcases h.own b hb with h1 | h1
    · exact h1
    · rw [hl] at h1; cases h1
  have nd := ((hp'.map (·.n)).nodup_iff.1 h.nodup)
  rw [List.cons_append, List.map_cons, List.nodup_cons] at nd
  refine ⟨h.cells _ hK, Lies.of h hB, Ax h hl hb.see, fun h0 a ha hm => ?_, fun b hb e => nd.1 ?_⟩
  · have h1 := seesP_lt hb.see (by rw [hb.len]; exact h0) ha
    rcases List.mem_cons.1 hm with e | hm
    · have := own _ hK
      simp only [KB] at this
      omega
    · obtain ⟨b, hb, e⟩ := List.mem_map.1 hm
      have := own b (hB b hb)
      omega
  · exact List.mem_map.2 ⟨b, List.mem_append_left _ hb, e⟩
theorem KInv.end' {ds : List DRecord} {p : KSt} (h : KInv ds p) (hi : ds.length ≤ p.i) (hs : p.i ≤ 100000) (ho : inOrd p.D.dCerts = true) {W2 : World} (l1 : Lies p.b1 W2) (l2 : Lies p.o1 W2) (l3 : Lies p.b2 W2) (l4 : Lies p.o2 W2) (l5 : Lies p.b3 W2) (l6 : Lies p.b4 W2) (l7 : Lies p.o4 W2) : KeptIs W2 p.K (keepRd ds).1 := by
  have hf := h.fold
  rw [List.take_of_length_le hi] at hf
  rw [keepRd_ok hf ho]
  have := h.le
  exact ⟨h.ok, ⟨_, h.q1.seq l1 l2 oM⟩, ⟨_, h.q2.seq l3 l4 oM⟩, ⟨_, h.q3.seq l5 (fun b hb => (by cases hb)) oM⟩, ⟨_, h.q4.seq l6 l7 oM⟩⟩

def JI (ds : List DRecord) (i : Nat) (pb : Bool × KSt) : Prop := (pb.1 = true → KInv ds pb.2 ∧ pb.2.i = i + 1) ∧ (pb.1 = false → keepR ds = none)
theorem KInv.fail {ds : List DRecord} {p : KSt} {d : DRecord} (h : KInv ds p) (hd : ds[p.i]? = some d) (h1 : d.dKind = 1 → ¬ (readD d.dData).2 = 0) (h2 : d.dKind = 2 → ¬ (certRd d.dData).2 = 0) (h3 : d.dKind = 3 → ¬ (A9 d.dData).2 = 0) (h4 : d.dKind = 4 → ¬ (cutRd d.dData).2 = 0) : keepR ds = none := by
  refine keepR_none (j := p.i + 1) ?_
  rw [keepR_step hd h.fold, keepStep]
  split
  · rename_i e; rw [if_neg (h1 e)]
  · split
    · rename_i e; rw [if_neg (h2 e)]
    · split
      · rename_i e; rw [if_neg (h3 e)]
      · split
        · rename_i e; rw [if_neg (h4 e)]
        · rfl
theorem kind_of {x y : UInt8} {n : Nat} (h : x = y) (hn : n < 256) (e : (x.toNat : Int) = n) : y = UInt8.ofNat n := by
  subst h
  refine UInt8.toNat_inj.1 ?_
  rw [UInt8.toNat_ofNat', Nat.mod_eq_of_lt oM]; omega
theorem kind_no {x y : UInt8} {n : Nat} (h : x = y) (hn : n < 256) (e : ¬ (x.toNat : Int) = n) : ¬ y = UInt8.ofNat n := fun h2 => by
  subst h
  rw [h2, UInt8.toNat_ofNat', Nat.mod_eq_of_lt oM] at e
  exact e rfl
theorem voteRd_is (xs : List UInt8) (W : World) : VoteIs W (A9 xs).1 (A9 xs).1 := ⟨(voteRd_good xs).ok, rfl, (voteRd_good xs).wf⟩
theorem KInv.skip {ds : List DRecord} {p : KSt} {d : DRecord} (h : KInv ds p) (hd : ds[p.i]? = some d) (h1 : ¬ d.dKind = 1) (h2 : ¬ d.dKind = 2) (h3 : ¬ d.dKind = 3) (h4 : ¬ d.dKind = 4) : JI ds p.i (false, p) :=
  ⟨fun e => (by cases e), fun _ => h.fail hd (fun e => absurd e h1) (fun e => absurd e h2) (fun e => absurd e h3) (fun e => absurd e h4)⟩

theorem KInv.j1 {ds : List DRecord} {p : KSt} {d : DRecord} (h : KInv ds p) (hd : ds[p.i]? = some d) (hk : d.dKind = 1) {K2 : Kept} {s2 : Sl} {b3 o3 bl2 o2 : List Blk} {X : Block} (hX : ∀ W2, Lies o2 W2 → BlockIs W2 X (readD d.dData).1) (hlen : X.cells.length = 131)
    (hg : (readD d.dData).2 = 0 → K2 = { p.K with fBlocks := s2 } ∧ b3 = bl2 ∧ o3 = o2 ∧ Hw.Acc s2 bl2 ((p.r1 ++ [X]).map Block.cells).flatten 52 (p.m1 + 1) 131) :
    JI ds p.i (decide ((readD d.dData).2 = 0), { p with i := p.i + 1, K := K2, D := { p.D with dBlocks := p.D.dBlocks ++ [(readD d.dData).1] }, m1 := p.m1 + 1, b1 := b3, o1 := o3 ++ p.o1, r1 := p.r1 ++ [X] }) := by
  refine ⟨fun e => ?_, fun e => h.fail hd (fun _ => of_decide_eq_false e) (fun e => absurd (hk.symm.trans e) dE) (fun e => absurd (hk.symm.trans e) dE) (fun e => absurd (hk.symm.trans e) dE)⟩
  have hz : (readD d.dData).2 = 0 := of_decide_eq_true e
  obtain ⟨rfl, rfl, rfl, ha⟩ := hg hz
  have hle := h.le
  have hs : OwnSeq Block.cells 131 BlockIs 52 s2 b3 (o3 ++ p.o1) (p.r1 ++ [X]) (p.D.dBlocks ++ [(readD d.dData).1]) (p.m1 + 1) := h.q1.snoc (by simpa using ha) hlen hX
  refine ⟨⟨?_, ⟨trivial⟩, hs, h.q2, h.q3, h.q4, by simp only []; omega⟩, rfl⟩
  show keepR (ds.take (p.i + 1)) = _
  rw [keepR_step hd h.fold, keepStep, if_pos hk, if_pos hz]
theorem KInv.j2 {ds : List DRecord} {p : KSt} {d : DRecord} (h : KInv ds p) (hd : ds[p.i]? = some d) (hk : d.dKind = 2) {K2 : Kept} {s2 : Sl} {b3 o3 bl2 o2 : List Blk} {X : Cert} (hX : ∀ W2, Lies o2 W2 → CertIs W2 X (certRd d.dData).1) (hlen : X.cells.length = 35)
    (hg : (certRd d.dData).2 = 0 → K2 = { p.K with fCerts := s2 } ∧ b3 = bl2 ∧ o3 = o2 ∧ Hw.Acc s2 bl2 ((p.r2 ++ [X]).map Cert.cells).flatten 80 (p.m2 + 1) 35) :
    JI ds p.i (decide ((certRd d.dData).2 = 0), { p with i := p.i + 1, K := K2, D := { p.D with dCerts := p.D.dCerts ++ [(certRd d.dData).1] }, m2 := p.m2 + 1, b2 := b3, o2 := o3 ++ p.o2, r2 := p.r2 ++ [X] }) := by
  refine ⟨fun e => ?_, fun e => h.fail hd (fun e => absurd (hk.symm.trans e) dE) (fun _ => of_decide_eq_false e) (fun e => absurd (hk.symm.trans e) dE) (fun e => absurd (hk.symm.trans e) dE)⟩
  have hz : (certRd d.dData).2 = 0 := of_decide_eq_true e
  obtain ⟨rfl, rfl, rfl, ha⟩ := hg hz
  have hle := h.le
  have hs : OwnSeq Cert.cells 35 CertIs 80 s2 b3 (o3 ++ p.o2) (p.r2 ++ [X]) (p.D.dCerts ++ [(certRd d.dData).1]) (p.m2 + 1) := h.q2.snoc (by simpa using ha) hlen hX
  refine ⟨⟨?_, ⟨trivial⟩, h.q1, hs, h.q3, h.q4, by simp only []; omega⟩, rfl⟩
  show keepR (ds.take (p.i + 1)) = _
  rw [keepR_step hd h.fold, keepStep, if_neg (by rw [hk]; decide), if_pos hk, if_pos hz]
theorem KInv.j3 {ds : List DRecord} {p : KSt} {d : DRecord} (h : KInv ds p) (hd : ds[p.i]? = some d) (hk : d.dKind = 3) {K2 : Kept} {s2 : Sl} {b3 bl2 : List Blk} {X : Vote} (hX : ∀ W2, Lies [] W2 → VoteIs W2 X (A9 d.dData).1) (hlen : X.cells.length = 132)
    (hg : (A9 d.dData).2 = 0 → K2 = { p.K with fVotes := s2 } ∧ b3 = bl2 ∧ Hw.Acc s2 bl2 ((p.r3 ++ [X]).map Vote.cells).flatten 29 (p.m3 + 1) 132) :
    JI ds p.i (decide ((A9 d.dData).2 = 0), { p with i := p.i + 1, K := K2, D := { p.D with dVotes := p.D.dVotes ++ [(A9 d.dData).1] }, m3 := p.m3 + 1, b3 := b3, r3 := p.r3 ++ [X] }) := by
  refine ⟨fun e => ?_, fun e => h.fail hd (fun e => absurd (hk.symm.trans e) dE) (fun e => absurd (hk.symm.trans e) dE) (fun _ => of_decide_eq_false e) (fun e => absurd (hk.symm.trans e) dE)⟩
  have hz : (A9 d.dData).2 = 0 := of_decide_eq_true e
  obtain ⟨rfl, rfl, ha⟩ := hg hz
  have hle := h.le
  have hs : OwnSeq Vote.cells 132 VoteIs 29 s2 b3 ([] ++ []) (p.r3 ++ [X]) (p.D.dVotes ++ [(A9 d.dData).1]) (p.m3 + 1) := h.q3.snoc (by simpa using ha) hlen hX
  refine ⟨⟨?_, ⟨trivial⟩, h.q1, h.q2, hs, h.q4, by simp only []; omega⟩, rfl⟩
  show keepR (ds.take (p.i + 1)) = _
  rw [keepR_step hd h.fold, keepStep, if_neg (by rw [hk]; decide), if_neg (by rw [hk]; decide), if_pos hk, if_pos hz]
theorem KInv.j4 {ds : List DRecord} {p : KSt} {d : DRecord} (h : KInv ds p) (hd : ds[p.i]? = some d) (hk : d.dKind = 4) {K2 : Kept} {s2 : Sl} {b3 o3 bl2 o2 : List Blk} {X : Cut} (hX : ∀ W2, Lies o2 W2 → CutIs W2 X (cutRd d.dData).1) (hlen : X.cells.length = 34)
    (hg : (cutRd d.dData).2 = 0 → K2 = { p.K with fCuts := s2 } ∧ b3 = bl2 ∧ o3 = o2 ∧ Hw.Acc s2 bl2 ((p.r4 ++ [X]).map Cut.cells).flatten 39 (p.m4 + 1) 34) :
    JI ds p.i (decide ((cutRd d.dData).2 = 0), { p with i := p.i + 1, K := K2, D := { p.D with dCuts := p.D.dCuts ++ [(cutRd d.dData).1] }, m4 := p.m4 + 1, b4 := b3, o4 := o3 ++ p.o4, r4 := p.r4 ++ [X] }) := by
  refine ⟨fun e => ?_, fun e => h.fail hd (fun e => absurd (hk.symm.trans e) dE) (fun e => absurd (hk.symm.trans e) dE) (fun e => absurd (hk.symm.trans e) dE) (fun _ => of_decide_eq_false e)⟩
  have hz : (cutRd d.dData).2 = 0 := of_decide_eq_true e
  obtain ⟨rfl, rfl, rfl, ha⟩ := hg hz
  have hle := h.le
  have hs : OwnSeq Cut.cells 34 CutIs 39 s2 b3 (o3 ++ p.o4) (p.r4 ++ [X]) (p.D.dCuts ++ [(cutRd d.dData).1]) (p.m4 + 1) := h.q4.snoc (by simpa using ha) hlen hX
  refine ⟨⟨?_, ⟨trivial⟩, h.q1, h.q2, h.q3, hs, by simp only []; omega⟩, rfl⟩
  show keepR (ds.take (p.i + 1)) = _
  rw [keepR_step hd h.fold, keepStep, if_neg (by rw [hk]; decide), if_neg (by rw [hk]; decide), if_neg (by rw [hk]; decide), if_pos hk, if_pos hz]

theorem keep_read (s : Sl) (ds : List DRecord) (hsn : s.n ≤ 1000) (hsm : ∀ d ∈ ds, d.dData.length ≤ 90000) : Meets Tryz.prog 8 [s.v] [] (fun W => RecordsAt W s ds) (KeepRead ds) := by
 intro W hW
 obtain ⟨rs, hs⟩ := hW
 have hnd := hs.nd
 refine Ai Tryz.func8 rfl 50 Tryz.ntmps8 rfl ?_
 refine Sat.seq (Sat.region ?_)
 refine Tr.alloc (cs := Kept.zero.cells) rfl Kept.zr rfl ?_
 intro n2 hn2 hf2
 refine Tr.a rfl rfl rfl ?_
 refine Tr.nil (Aa (Sat.seq (Sat.region ?_)))
 refine Tr.alloc (cs := Kept.zero.cells) rfl Kept.zr rfl ?_
 intro n4 hn4 hf4
 refine Tr.nil (Aa (Sat.seq (Sat.seq (Sat.region ?_))))
 refine Tr.m rfl rfl rfl ?_
 refine Tr.lenSl rfl rfl rfl U48 ?_
 refine Tr.m rfl rfl rfl ?_
 refine Tr.nil (Aa (Sat.block ?_))
 refine Sat.loop (ι := KSt) (fun p => ⟨[(2, ptr n2 0), (4, ptr n4 0), (8, s.v), (9, i64 (s.n : Int)), (10, i64 (p.i : Int))], (⟨n2, Kept.zero.cells, 45, 4⟩ :: (KB n4 p.K :: (p.b1 ++ (p.o1 ++ (p.b2 ++ (p.o2 ++ (p.b3 ++ (p.b4 ++ (p.o4 ++ [])))))))))⟩) (fun p => KInv ds p ∧ p.i ≤ s.n) (fun p => s.n - p.i) (ks0) ?_ ?_ ?_
 · exact ⟨KInv.first ds, Nat.zero_le _⟩
 · exact Ah (wk1 rfl (wk1 rfl (wk1 rfl (wk1 rfl (wk1 rfl wk0))))) (Ad rM (Ad rM (pm_none (pm_none (pm_none (pm_none (pm_none (pm_none (pm_none Af)))))))))
 ·
  rintro p ⟨hi, hile⟩
  obtain ⟨i, K, D, m1, m2, m3, m4, b1, o1, r1, b2, o2, r2, b3, r3, b4, o4, r4⟩ := p
  have hle := hi.le
  dsimp only at hile hle ⊢
  refine Sat.seq (Sat.region ?_)
  refine Tr.lss rfl rfl rfl rfl rfl ?_
  refine Tr.nil (Aa (Sat.seq ?_))
  first
   | refine Sat.condP rfl (fun hc0 => ?_) (fun hc0 => ?_)
   | refine Sat.condNP rfl (fun hc0 => ?_) (fun hc0 => ?_)
   | refine Sat.cond rfl (fun hc0 => ?_) (fun hc0 => ?_)
  ·
   have hk0 : i < s.n := by omega
   obtain ⟨b, o, r, d, hsp, hr, hd, his, hlen, hsee⟩ := hs.at dE hk0
   refine Sat.skip (Aa (Sat.seq (Sat.block (Sat.seq (Sat.region ?_)))))
   refine Tr.idxSlP 2 rfl rfl rfl hsp rfl U48 B1 i rfl oM ?_
   refine Tr.loadEN r.cells rfl rfl rfl U32 rfl B1 sP hlen hsee ?_
   refine Tr.alloc (cs := Record.zero.cells) rfl Record.zr rfl ?_
   intro n6 hn6 hf6
   refine Tr.sA rfl rfl rfl rfl (Record.isCell (by first | exact oK  | exact his.ok | exact hi.ok)) B1 (Record.length (by first | exact oK  | exact his.ok | exact hi.ok)) mM (Record.length (by first | exact oK  | exact his.ok | exact hi.ok)) uU ?_
   refine Tr.nil (Aa (Sat.seq (Sat.region ?_)))
   refine Tr.a rfl rfl rfl ?_
   refine Tr.nil (Aa ?_)
   refine Sat.join (ι := Bool × KSt) (fun pj => ⟨[(2, ptr n2 0), (4, ptr n4 0), (7, .bool pj.1), (8, s.v), (9, i64 (s.n : Int)), (10, i64 (i : Int))], (⟨n2, Kept.zero.cells, 45, 4⟩ :: (KB n4 pj.2.K :: (pj.2.b1 ++ (pj.2.o1 ++ (pj.2.b2 ++ (pj.2.o2 ++ (pj.2.b3 ++ (pj.2.b4 ++ (pj.2.o4 ++ [])))))))))⟩) (fun pj => JI ds i pj) ?_ ?_
   ·
    refine Sat.seq (Sat.region ?_)
    refine Tr.fld rfl rfl rfl U32 rfl Sz5 dE _ rfl ?_
    refine Tr.load1 rfl rfl rfl U5 rfl mM (by first | exact Record.get_fKind (by first | exact oK  | exact his.ok | exact hi.ok) | exact vL) ?_
    refine Tr.nil (Aa (Sat.block (Sat.seq (Sat.region ?_))))
    refine Tr.eqi rfl rfl rfl rfl rfl ?_
    refine Tr.a rfl rfl rfl ?_
    refine Tr.nil (Aa ?_)
    first
     | refine Sat.condP rfl (fun hc1 => ?_) (fun hc1 => ?_)
     | refine Sat.condNP rfl (fun hc1 => ?_) (fun hc1 => ?_)
     | refine Sat.cond rfl (fun hc1 => ?_) (fun hc1 => ?_)
    ·
     have hk1 : d.dKind = 1 := kind_of (n := 1) his.fKind dE hc1
     refine Sat.region ?_
     refine Tr.fld rfl rfl rfl U45 rfl Sz40 dE _ rfl ?_
     refine Tr.fld rfl rfl rfl U32 rfl Sz30 dE _ rfl ?_
     refine Tr.load1 rfl rfl rfl U30 rfl mM (by first | exact Record.get_fData (by first | exact oK  | exact his.ok | exact hi.ok) | exact vL) ?_
     refine Tr.callL (L := KB n4 K :: b1) rfl rfl rfl rfl rfl Body31 (take_block n4 K hi.ok b1 r1 m1 hi.q1.acc oM r.fData.p r.fData.n r.fData.c d.dData his.fData.len (fun e => by have := his.fData.nil e; have := his.fData.cap; omega) (by rw [← his.fData.len]; exact hsm d (List.mem_of_getElem? hd))) (Ad rM sG) (A4 rfl) (fun w h => take_pre h rfl his.fData (Ad rM sG)) ?_
     rintro v21 out21 ⟨s21, bl21, o21, X21, rfl, okX, hX, hor⟩
     obtain ⟨K21, b21, p21, rfl, hgd⟩ := uniO hor
     simp only [List.cons_append, List.append_assoc, List.nil_append]
     refine Tr.a rfl rfl rfl ?_
     refine Tr.nil (Bs (Aa ?_))
     first
      | exact ⟨(decide ((readD d.dData).2 = 0), ⟨i + 1, K21, { D with dBlocks := D.dBlocks ++ [(readD d.dData).1] }, m1 + 1, m2, m3, m4, b21, p21 ++ o1, r1 ++ [X21], b2, o2, r2, b3, r3, b4, o4, r4⟩), hi.j1 hd hk1 hX (Block.length okX) hgd, Ah (wk1 rfl (wk1 rfl (wk1 rfl (wk1 rfl (wk1 rfl (wk1 rfl wk0)))))) (Ad rM (Ad rM (Ac sG (B5 (Ac sG (Ac sG (Ac sG (Ac sG (Ac sG (Ac sG (Ac sG Af)))))))))))⟩
      | exact ⟨(decide ((certRd d.dData).2 = 0), ⟨i + 1, K27, { D with dCerts := D.dCerts ++ [(certRd d.dData).1] }, m1, m2 + 1, m3, m4, b1, o1, r1, b27, p27 ++ o2, r2 ++ [X27], b3, r3, b4, o4, r4⟩), hi.j2 hd hk2 hX (Cert.length okX) hgd, Ah (wk1 rfl (wk1 rfl (wk1 rfl (wk1 rfl (wk1 rfl (wk1 rfl wk0)))))) (Ad rM (Ad rM (Ac sG (Ac sG (Ac sG (B5 (Ac sG (Ac sG (Ac sG (Ac sG (Ac sG Af)))))))))))⟩
      | exact ⟨(decide ((A9 d.dData).2 = 0), ⟨i + 1, K33, { D with dVotes := D.dVotes ++ [(A9 d.dData).1] }, m1, m2, m3 + 1, m4, b1, o1, r1, b2, o2, r2, b33, r3 ++ [(A9 d.dData).1], b4, o4, r4⟩), hi.j3 hd hk3 (fun W2 _ => voteRd_is _ W2) (Vote.length (Bd _)) hgd, Ah (wk1 rfl (wk1 rfl (wk1 rfl (wk1 rfl (wk1 rfl (wk1 rfl wk0)))))) (Ad rM (Ad rM (Ac sG (Ac sG (Ac sG (Ac sG (Ac sG (Ac sG (Ac sG Af)))))))))⟩
      | exact ⟨(decide ((cutRd d.dData).2 = 0), ⟨i + 1, K39, { D with dCuts := D.dCuts ++ [(cutRd d.dData).1] }, m1, m2, m3, m4 + 1, b1, o1, r1, b2, o2, r2, b3, r3, b39, p39 ++ o4, r4 ++ [X39]⟩), hi.j4 hd hk4 hX (Cut.length okX) hgd, Ah (wk1 rfl (wk1 rfl (wk1 rfl (wk1 rfl (wk1 rfl (wk1 rfl wk0)))))) (Ad rM (Ad rM (Ac sG (Ac sG (Ac sG (Ac sG (Ac sG (Ac sG (B5 (Ac sG (Ac sG Af)))))))))))⟩
      | exact ⟨(false, ⟨i, K, D, m1, m2, m3, m4, b1, o1, r1, b2, o2, r2, b3, r3, b4, o4, r4⟩), hi.skip hd hn1 hn2 hn3 hn4, Ah (wk1 rfl (wk1 rfl (wk1 rfl (wk1 rfl (wk1 rfl (wk1 rfl wk0)))))) (Ad rM (Ad rM (Ac sG (Ac sG (Ac sG (Ac sG (Ac sG (Ac sG (Ac sG Af)))))))))⟩
    ·
     have hn1 : ¬ d.dKind = 1 := kind_no (n := 1) his.fKind dE hc1
     refine Sat.seq (Sat.region ?_)
     refine Tr.eqi rfl rfl rfl rfl rfl ?_
     refine Tr.a rfl rfl rfl ?_
     refine Tr.nil (Aa ?_)
     first
      | refine Sat.condP rfl (fun hc2 => ?_) (fun hc2 => ?_)
      | refine Sat.condNP rfl (fun hc2 => ?_) (fun hc2 => ?_)
      | refine Sat.cond rfl (fun hc2 => ?_) (fun hc2 => ?_)
     ·
      have hk2 : d.dKind = 2 := kind_of (n := 2) his.fKind dE hc2
      refine Sat.region ?_
      refine Tr.fld rfl rfl rfl U45 rfl Sz41 dE _ rfl ?_
      refine Tr.fld rfl rfl rfl U32 rfl Sz30 dE _ rfl ?_
      refine Tr.load1 rfl rfl rfl U30 rfl mM (by first | exact Record.get_fData (by first | exact oK  | exact his.ok | exact hi.ok) | exact vL) ?_
      refine Tr.callL (L := KB n4 K :: b2) rfl rfl rfl rfl rfl Body33 (take_cert n4 K hi.ok b2 r2 m2 hi.q2.acc oM r.fData.p r.fData.n r.fData.c d.dData his.fData.len (fun e => by have := his.fData.nil e; have := his.fData.cap; omega) (by rw [← his.fData.len]; exact hsm d (List.mem_of_getElem? hd))) (Ad rM sG) (A4 rfl) (fun w h => take_pre h rfl his.fData (Ad rM sG)) ?_
      rintro v27 out27 ⟨s27, bl27, o27, X27, rfl, okX, hX, hor⟩
      obtain ⟨K27, b27, p27, rfl, hgd⟩ := uniO hor
      simp only [List.cons_append, List.append_assoc, List.nil_append]
      refine Tr.a rfl rfl rfl ?_
      refine Tr.nil (Bs (Aa ?_))
      first
       | exact ⟨(decide ((readD d.dData).2 = 0), ⟨i + 1, K21, { D with dBlocks := D.dBlocks ++ [(readD d.dData).1] }, m1 + 1, m2, m3, m4, b21, p21 ++ o1, r1 ++ [X21], b2, o2, r2, b3, r3, b4, o4, r4⟩), hi.j1 hd hk1 hX (Block.length okX) hgd, Ah (wk1 rfl (wk1 rfl (wk1 rfl (wk1 rfl (wk1 rfl (wk1 rfl wk0)))))) (Ad rM (Ad rM (Ac sG (B5 (Ac sG (Ac sG (Ac sG (Ac sG (Ac sG (Ac sG (Ac sG Af)))))))))))⟩
       | exact ⟨(decide ((certRd d.dData).2 = 0), ⟨i + 1, K27, { D with dCerts := D.dCerts ++ [(certRd d.dData).1] }, m1, m2 + 1, m3, m4, b1, o1, r1, b27, p27 ++ o2, r2 ++ [X27], b3, r3, b4, o4, r4⟩), hi.j2 hd hk2 hX (Cert.length okX) hgd, Ah (wk1 rfl (wk1 rfl (wk1 rfl (wk1 rfl (wk1 rfl (wk1 rfl wk0)))))) (Ad rM (Ad rM (Ac sG (Ac sG (Ac sG (B5 (Ac sG (Ac sG (Ac sG (Ac sG (Ac sG Af)))))))))))⟩
       | exact ⟨(decide ((A9 d.dData).2 = 0), ⟨i + 1, K33, { D with dVotes := D.dVotes ++ [(A9 d.dData).1] }, m1, m2, m3 + 1, m4, b1, o1, r1, b2, o2, r2, b33, r3 ++ [(A9 d.dData).1], b4, o4, r4⟩), hi.j3 hd hk3 (fun W2 _ => voteRd_is _ W2) (Vote.length (Bd _)) hgd, Ah (wk1 rfl (wk1 rfl (wk1 rfl (wk1 rfl (wk1 rfl (wk1 rfl wk0)))))) (Ad rM (Ad rM (Ac sG (Ac sG (Ac sG (Ac sG (Ac sG (Ac sG (Ac sG Af)))))))))⟩
       | exact ⟨(decide ((cutRd d.dData).2 = 0), ⟨i + 1, K39, { D with dCuts := D.dCuts ++ [(cutRd d.dData).1] }, m1, m2, m3, m4 + 1, b1, o1, r1, b2, o2, r2, b3, r3, b39, p39 ++ o4, r4 ++ [X39]⟩), hi.j4 hd hk4 hX (Cut.length okX) hgd, Ah (wk1 rfl (wk1 rfl (wk1 rfl (wk1 rfl (wk1 rfl (wk1 rfl wk0)))))) (Ad rM (Ad rM (Ac sG (Ac sG (Ac sG (Ac sG (Ac sG (Ac sG (B5 (Ac sG (Ac sG Af)))))))))))⟩
       | exact ⟨(false, ⟨i, K, D, m1, m2, m3, m4, b1, o1, r1, b2, o2, r2, b3, r3, b4, o4, r4⟩), hi.skip hd hn1 hn2 hn3 hn4, Ah (wk1 rfl (wk1 rfl (wk1 rfl (wk1 rfl (wk1 rfl (wk1 rfl wk0)))))) (Ad rM (Ad rM (Ac sG (Ac sG (Ac sG (Ac sG (Ac sG (Ac sG (Ac sG Af)))))))))⟩
     ·
      have hn2 : ¬ d.dKind = 2 := kind_no (n := 2) his.fKind dE hc2
      refine Sat.seq (Sat.region ?_)
      refine Tr.eqi rfl rfl rfl rfl rfl ?_
      refine Tr.a rfl rfl rfl ?_
      refine Tr.nil (Aa ?_)
      first
       | refine Sat.condP rfl (fun hc3 => ?_) (fun hc3 => ?_)
       | refine Sat.condNP rfl (fun hc3 => ?_) (fun hc3 => ?_)
       | refine Sat.cond rfl (fun hc3 => ?_) (fun hc3 => ?_)
      ·
       have hk3 : d.dKind = 3 := kind_of (n := 3) his.fKind dE hc3
       refine Sat.region ?_
       refine Tr.fld rfl rfl rfl U45 rfl Sz42 dE _ rfl ?_
       refine Tr.fld rfl rfl rfl U32 rfl Sz30 dE _ rfl ?_
       refine Tr.load1 rfl rfl rfl U30 rfl mM (by first | exact Record.get_fData (by first | exact oK  | exact his.ok | exact hi.ok) | exact vL) ?_
       refine Tr.callL (L := KB n4 K :: b3) rfl rfl rfl rfl rfl Body35 (take_vote n4 K hi.ok b3 r3 m3 hi.q3.acc oM r.fData.p r.fData.n r.fData.c d.dData his.fData.len (fun e => by have := his.fData.nil e; have := his.fData.cap; omega) (by rw [← his.fData.len]; exact hsm d (List.mem_of_getElem? hd))) (Ad rM sG) (A4 rfl) (fun w h => take_pre h rfl his.fData (Ad rM sG)) ?_
       rintro v33 out33 ⟨s33, bl33, rfl, hor⟩
       obtain ⟨K33, b33, rfl, hgd⟩ := uniV hor
       simp only [List.cons_append, List.append_assoc, List.nil_append]
       refine Tr.a rfl rfl rfl ?_
       refine Tr.nil (Bs (Aa ?_))
       first
        | exact ⟨(decide ((readD d.dData).2 = 0), ⟨i + 1, K21, { D with dBlocks := D.dBlocks ++ [(readD d.dData).1] }, m1 + 1, m2, m3, m4, b21, p21 ++ o1, r1 ++ [X21], b2, o2, r2, b3, r3, b4, o4, r4⟩), hi.j1 hd hk1 hX (Block.length okX) hgd, Ah (wk1 rfl (wk1 rfl (wk1 rfl (wk1 rfl (wk1 rfl (wk1 rfl wk0)))))) (Ad rM (Ad rM (Ac sG (B5 (Ac sG (Ac sG (Ac sG (Ac sG (Ac sG (Ac sG (Ac sG Af)))))))))))⟩
        | exact ⟨(decide ((certRd d.dData).2 = 0), ⟨i + 1, K27, { D with dCerts := D.dCerts ++ [(certRd d.dData).1] }, m1, m2 + 1, m3, m4, b1, o1, r1, b27, p27 ++ o2, r2 ++ [X27], b3, r3, b4, o4, r4⟩), hi.j2 hd hk2 hX (Cert.length okX) hgd, Ah (wk1 rfl (wk1 rfl (wk1 rfl (wk1 rfl (wk1 rfl (wk1 rfl wk0)))))) (Ad rM (Ad rM (Ac sG (Ac sG (Ac sG (B5 (Ac sG (Ac sG (Ac sG (Ac sG (Ac sG Af)))))))))))⟩
        | exact ⟨(decide ((A9 d.dData).2 = 0), ⟨i + 1, K33, { D with dVotes := D.dVotes ++ [(A9 d.dData).1] }, m1, m2, m3 + 1, m4, b1, o1, r1, b2, o2, r2, b33, r3 ++ [(A9 d.dData).1], b4, o4, r4⟩), hi.j3 hd hk3 (fun W2 _ => voteRd_is _ W2) (Vote.length (Bd _)) hgd, Ah (wk1 rfl (wk1 rfl (wk1 rfl (wk1 rfl (wk1 rfl (wk1 rfl wk0)))))) (Ad rM (Ad rM (Ac sG (Ac sG (Ac sG (Ac sG (Ac sG (Ac sG (Ac sG Af)))))))))⟩
        | exact ⟨(decide ((cutRd d.dData).2 = 0), ⟨i + 1, K39, { D with dCuts := D.dCuts ++ [(cutRd d.dData).1] }, m1, m2, m3, m4 + 1, b1, o1, r1, b2, o2, r2, b3, r3, b39, p39 ++ o4, r4 ++ [X39]⟩), hi.j4 hd hk4 hX (Cut.length okX) hgd, Ah (wk1 rfl (wk1 rfl (wk1 rfl (wk1 rfl (wk1 rfl (wk1 rfl wk0)))))) (Ad rM (Ad rM (Ac sG (Ac sG (Ac sG (Ac sG (Ac sG (Ac sG (B5 (Ac sG (Ac sG Af)))))))))))⟩
        | exact ⟨(false, ⟨i, K, D, m1, m2, m3, m4, b1, o1, r1, b2, o2, r2, b3, r3, b4, o4, r4⟩), hi.skip hd hn1 hn2 hn3 hn4, Ah (wk1 rfl (wk1 rfl (wk1 rfl (wk1 rfl (wk1 rfl (wk1 rfl wk0)))))) (Ad rM (Ad rM (Ac sG (Ac sG (Ac sG (Ac sG (Ac sG (Ac sG (Ac sG Af)))))))))⟩
      ·
       have hn3 : ¬ d.dKind = 3 := kind_no (n := 3) his.fKind dE hc3
       refine Sat.seq (Sat.region ?_)
       refine Tr.eqi rfl rfl rfl rfl rfl ?_
       refine Tr.a rfl rfl rfl ?_
       refine Tr.nil (Aa ?_)
       first
        | refine Sat.condP rfl (fun hc4 => ?_) (fun hc4 => ?_)
        | refine Sat.condNP rfl (fun hc4 => ?_) (fun hc4 => ?_)
        | refine Sat.cond rfl (fun hc4 => ?_) (fun hc4 => ?_)
       ·
        have hk4 : d.dKind = 4 := kind_of (n := 4) his.fKind dE hc4
        refine Sat.region ?_
        refine Tr.fld rfl rfl rfl U45 rfl Sz43 dE _ rfl ?_
        refine Tr.fld rfl rfl rfl U32 rfl Sz30 dE _ rfl ?_
        refine Tr.load1 rfl rfl rfl U30 rfl mM (by first | exact Record.get_fData (by first | exact oK  | exact his.ok | exact hi.ok) | exact vL) ?_
        refine Tr.callL (L := KB n4 K :: b4) rfl rfl rfl rfl rfl Body37 (take_cut n4 K hi.ok b4 r4 m4 hi.q4.acc oM r.fData.p r.fData.n r.fData.c d.dData his.fData.len (fun e => by have := his.fData.nil e; have := his.fData.cap; omega) (by rw [← his.fData.len]; exact hsm d (List.mem_of_getElem? hd))) (Ad rM sG) (A4 rfl) (fun w h => take_pre h rfl his.fData (Ad rM sG)) ?_
        rintro v39 out39 ⟨s39, bl39, o39, X39, rfl, okX, hX, hor⟩
        obtain ⟨K39, b39, p39, rfl, hgd⟩ := uniO hor
        simp only [List.cons_append, List.append_assoc, List.nil_append]
        refine Tr.a rfl rfl rfl ?_
        refine Tr.nil (Bs (Aa ?_))
        first
         | exact ⟨(decide ((readD d.dData).2 = 0), ⟨i + 1, K21, { D with dBlocks := D.dBlocks ++ [(readD d.dData).1] }, m1 + 1, m2, m3, m4, b21, p21 ++ o1, r1 ++ [X21], b2, o2, r2, b3, r3, b4, o4, r4⟩), hi.j1 hd hk1 hX (Block.length okX) hgd, Ah (wk1 rfl (wk1 rfl (wk1 rfl (wk1 rfl (wk1 rfl (wk1 rfl wk0)))))) (Ad rM (Ad rM (Ac sG (B5 (Ac sG (Ac sG (Ac sG (Ac sG (Ac sG (Ac sG (Ac sG Af)))))))))))⟩
         | exact ⟨(decide ((certRd d.dData).2 = 0), ⟨i + 1, K27, { D with dCerts := D.dCerts ++ [(certRd d.dData).1] }, m1, m2 + 1, m3, m4, b1, o1, r1, b27, p27 ++ o2, r2 ++ [X27], b3, r3, b4, o4, r4⟩), hi.j2 hd hk2 hX (Cert.length okX) hgd, Ah (wk1 rfl (wk1 rfl (wk1 rfl (wk1 rfl (wk1 rfl (wk1 rfl wk0)))))) (Ad rM (Ad rM (Ac sG (Ac sG (Ac sG (B5 (Ac sG (Ac sG (Ac sG (Ac sG (Ac sG Af)))))))))))⟩
         | exact ⟨(decide ((A9 d.dData).2 = 0), ⟨i + 1, K33, { D with dVotes := D.dVotes ++ [(A9 d.dData).1] }, m1, m2, m3 + 1, m4, b1, o1, r1, b2, o2, r2, b33, r3 ++ [(A9 d.dData).1], b4, o4, r4⟩), hi.j3 hd hk3 (fun W2 _ => voteRd_is _ W2) (Vote.length (Bd _)) hgd, Ah (wk1 rfl (wk1 rfl (wk1 rfl (wk1 rfl (wk1 rfl (wk1 rfl wk0)))))) (Ad rM (Ad rM (Ac sG (Ac sG (Ac sG (Ac sG (Ac sG (Ac sG (Ac sG Af)))))))))⟩
         | exact ⟨(decide ((cutRd d.dData).2 = 0), ⟨i + 1, K39, { D with dCuts := D.dCuts ++ [(cutRd d.dData).1] }, m1, m2, m3, m4 + 1, b1, o1, r1, b2, o2, r2, b3, r3, b39, p39 ++ o4, r4 ++ [X39]⟩), hi.j4 hd hk4 hX (Cut.length okX) hgd, Ah (wk1 rfl (wk1 rfl (wk1 rfl (wk1 rfl (wk1 rfl (wk1 rfl wk0)))))) (Ad rM (Ad rM (Ac sG (Ac sG (Ac sG (Ac sG (Ac sG (Ac sG (B5 (Ac sG (Ac sG Af)))))))))))⟩
         | exact ⟨(false, ⟨i, K, D, m1, m2, m3, m4, b1, o1, r1, b2, o2, r2, b3, r3, b4, o4, r4⟩), hi.skip hd hn1 hn2 hn3 hn4, Ah (wk1 rfl (wk1 rfl (wk1 rfl (wk1 rfl (wk1 rfl (wk1 rfl wk0)))))) (Ad rM (Ad rM (Ac sG (Ac sG (Ac sG (Ac sG (Ac sG (Ac sG (Ac sG Af)))))))))⟩
       ·
        have hn4 : ¬ d.dKind = 4 := kind_no (n := 4) his.fKind dE hc4
        refine Sat.skip (Bs (Aa ?_))
        first
         | exact ⟨(decide ((readD d.dData).2 = 0), ⟨i + 1, K21, { D with dBlocks := D.dBlocks ++ [(readD d.dData).1] }, m1 + 1, m2, m3, m4, b21, p21 ++ o1, r1 ++ [X21], b2, o2, r2, b3, r3, b4, o4, r4⟩), hi.j1 hd hk1 hX (Block.length okX) hgd, Ah (wk1 rfl (wk1 rfl (wk1 rfl (wk1 rfl (wk1 rfl (wk1 rfl wk0)))))) (Ad rM (Ad rM (Ac sG (B5 (Ac sG (Ac sG (Ac sG (Ac sG (Ac sG (Ac sG (Ac sG Af)))))))))))⟩
         | exact ⟨(decide ((certRd d.dData).2 = 0), ⟨i + 1, K27, { D with dCerts := D.dCerts ++ [(certRd d.dData).1] }, m1, m2 + 1, m3, m4, b1, o1, r1, b27, p27 ++ o2, r2 ++ [X27], b3, r3, b4, o4, r4⟩), hi.j2 hd hk2 hX (Cert.length okX) hgd, Ah (wk1 rfl (wk1 rfl (wk1 rfl (wk1 rfl (wk1 rfl (wk1 rfl wk0)))))) (Ad rM (Ad rM (Ac sG (Ac sG (Ac sG (B5 (Ac sG (Ac sG (Ac sG (Ac sG (Ac sG Af)))))))))))⟩
         | exact ⟨(decide ((A9 d.dData).2 = 0), ⟨i + 1, K33, { D with dVotes := D.dVotes ++ [(A9 d.dData).1] }, m1, m2, m3 + 1, m4, b1, o1, r1, b2, o2, r2, b33, r3 ++ [(A9 d.dData).1], b4, o4, r4⟩), hi.j3 hd hk3 (fun W2 _ => voteRd_is _ W2) (Vote.length (Bd _)) hgd, Ah (wk1 rfl (wk1 rfl (wk1 rfl (wk1 rfl (wk1 rfl (wk1 rfl wk0)))))) (Ad rM (Ad rM (Ac sG (Ac sG (Ac sG (Ac sG (Ac sG (Ac sG (Ac sG Af)))))))))⟩
         | exact ⟨(decide ((cutRd d.dData).2 = 0), ⟨i + 1, K39, { D with dCuts := D.dCuts ++ [(cutRd d.dData).1] }, m1, m2, m3, m4 + 1, b1, o1, r1, b2, o2, r2, b3, r3, b39, p39 ++ o4, r4 ++ [X39]⟩), hi.j4 hd hk4 hX (Cut.length okX) hgd, Ah (wk1 rfl (wk1 rfl (wk1 rfl (wk1 rfl (wk1 rfl (wk1 rfl wk0)))))) (Ad rM (Ad rM (Ac sG (Ac sG (Ac sG (Ac sG (Ac sG (Ac sG (B5 (Ac sG (Ac sG Af)))))))))))⟩
         | exact ⟨(false, ⟨i, K, D, m1, m2, m3, m4, b1, o1, r1, b2, o2, r2, b3, r3, b4, o4, r4⟩), hi.skip hd hn1 hn2 hn3 hn4, Ah (wk1 rfl (wk1 rfl (wk1 rfl (wk1 rfl (wk1 rfl (wk1 rfl wk0)))))) (Ad rM (Ad rM (Ac sG (Ac sG (Ac sG (Ac sG (Ac sG (Ac sG (Ac sG Af)))))))))⟩
   ·
    intro pj hj
    skip
    refine Sat.seq (Sat.region ?_)
    refine Tr.m rfl rfl rfl ?_
    refine Tr.not rfl rfl rfl ?_
    refine Tr.nil (Aa ?_)
    refine Sat.cond rfl (fun hc5 => ?_) (fun hc5 => ?_)
    ·
     have hnone := hj.2 (by simpa using hc5)
     refine Sat.seq (Sat.region ?_)
     refine Tr.build (cs := Kept.zero.cells) rfl rfl rfl (fun w => by kernel_rfl) ?_
     refine Tr.sA rfl rfl rfl rfl (Kept.isCell (by first | exact oK  | exact his.ok | exact hi.ok)) Sz45 (Kept.length (by first | exact oK  | exact his.ok | exact hi.ok)) mM (Kept.length (by first | exact oK  | exact his.ok | exact hi.ok)) uU ?_
     refine Tr.a rfl rfl rfl ?_
     refine Tr.nil (Aa (Sat.ret (B8 (Ao (Ao (B8 (Ao (Ak ?_))))))))
     refine Aj (out := []) (Ar rfl rfl rfl U45 rfl Sz45 mM (by first | (simp; done) | exact Kept.length (by first | exact oK  | exact his.ok | exact hi.ok))) Af ?_
     exact keep_bad (keepRd_bad hnone)
    ·
     have hj2 := hj.1 (by simpa using hc5)
     refine Sat.skip (Bs (Aa (Sat.region ?_)))
     refine Tr.aI rfl rfl rfl rfl oM ?_
     refine Tr.m rfl rfl rfl ?_
     refine Tr.nil (Aa ?_)
     exact ⟨pj.2, ⟨hj2.1, by omega⟩, by omega, Ah (wk1 rfl (wk1 rfl (wk1 rfl (wk1 rfl (wk1 (congrArg (fun z : Nat => some (i64 (z : Int))) hj2.2.symm) wk0))))) (Ad rM (Ad rM (Ac sG (Ac sG (Ac sG (Ac sG (Ac sG (Ac sG (Ac sG Af)))))))))⟩
  ·
   have hie : i = s.n := by omega
   refine Sat.exit (A7 (A7 (bl_h (Aa (Sat.seq (Sat.seq (Sat.region ?_)))))))
   refine Tr.fld rfl rfl rfl U45 rfl Sz41 dE _ rfl ?_
   refine Tr.load1 rfl rfl rfl U41 rfl mM (by first | exact Kept.get_fCerts (by first | exact oK  | exact his.ok | exact hi.ok) | exact vL) ?_
   refine Tr.cV rfl rfl rfl rfl Body39 (in_order K.fCerts D.dCerts) (fun w h => ⟨_, hi.q2.seq (Lies.of h iN) (Lies.of h iN) (by dsimp only; omega)⟩) ?_
   refine Tr.not rfl rfl rfl ?_
   refine Tr.nil (Aa ?_)
   refine Sat.cond rfl (fun hc6 => ?_) (fun hc6 => ?_)
   ·
    have ho : inOrd D.dCerts = false := by simpa using hc6
    have hf := hi.fold
    dsimp only at hf
    rw [List.take_of_length_le oM] at hf
    refine Sat.seq (Sat.region ?_)
    refine Tr.build (cs := Kept.zero.cells) rfl rfl rfl (fun w => by kernel_rfl) ?_
    refine Tr.sA rfl rfl rfl rfl (Kept.isCell (by first | exact oK  | exact his.ok | exact hi.ok)) Sz45 (Kept.length (by first | exact oK  | exact his.ok | exact hi.ok)) mM (Kept.length (by first | exact oK  | exact his.ok | exact hi.ok)) uU ?_
    refine Tr.a rfl rfl rfl ?_
    refine Tr.nil (Aa (Sat.ret (Ao (Ak ?_))))
    refine Aj (out := []) (Ar rfl rfl rfl U45 rfl Sz45 mM (by first | (simp; done) | exact Kept.length (by first | exact oK  | exact his.ok | exact hi.ok))) Af ?_
    exact keep_bad (keepRd_ord hf ho)
   ·
    have ho : inOrd D.dCerts = true := by simpa using hc6
    refine Sat.skip (Aa (Sat.seq (Sat.region ?_)))
    refine Tr.lA rfl rfl rfl U45 rfl Sz45 mM (Kept.length (by first | exact oK  | exact his.ok | exact hi.ok)) ?_
    refine Tr.sA rfl rfl rfl rfl (Kept.isCell (by first | exact oK  | exact his.ok | exact hi.ok)) Sz45 (Kept.length (by first | exact oK  | exact his.ok | exact hi.ok)) mM (Kept.length (by first | exact oK  | exact his.ok | exact hi.ok)) uU ?_
    refine Tr.a rfl rfl rfl ?_
    refine Tr.nil (Aa (Sat.ret (Ak ?_)))
    refine Aj (out := (b1 ++ (o1 ++ (b2 ++ (o2 ++ (b3 ++ (b4 ++ (o4 ++ [])))))))) (Ar rfl rfl rfl U45 rfl Sz45 mM (by first | (simp; done) | exact Kept.length (by first | exact oK  | exact his.ok | exact hi.ok))) (Ac sG (Ac sG (Ac sG (Ac sG (Ac sG (Ac sG (Ac sG Af))))))) ?_
    refine ⟨K, hi.ok, ?_, fun W2 hl => hi.end' (by simp only []; omega) (by simp only []; omega) ho (hl.sub iN) (hl.sub iN) (hl.sub iN) (hl.sub iN) (hl.sub iN) (hl.sub iN) (hl.sub iN)⟩
    have hf := hi.fold
    dsimp only at hf
    rw [List.take_of_length_le oM] at hf
    rw [keepRd_ok hf ho]

end Go.Proofs.YtkfhpmidcbmofaaGreat
end

section
namespace Go.Proofs.YtkfhpmidcbmofaaGreat
open Go Hw

def sameC (a b : DCut) : Bool := decide ((a.dHeight.toNat : Int) = (b.dHeight.toNat : Int)) && (decide (a.dPrev = b.dPrev) && decide (a.dHeads = b.dHeads))

theorem kit_cut (A B : Cut) (a b : DCut) (hn : A.fHeads.n ≤ 1000000) : Meets Tryz.prog 75 [agg A.cells, agg B.cells] [] (fun W => CutIs W A a ∧ CutIs W B b) (fun v out => v = .bool (sameC a b) ∧ out = []) := by
 intro W hW
 have hA := hW.1.ok
 have hB := hW.2.ok
 have e1 := hW.1.fHeight
 have e2 := hW.2.fHeight
 have e3 := hW.1.fPrev
 have e4 := hW.2.fPrev
 refine Ai Tryz.func75 rfl 24 Tryz.ntmps75 rfl ?_
 refine Sat.seq (Sat.region ?_)
 refine Tr.boxA rfl rfl ?_
 intro n2 hn2 hf2
 refine Tr.boxA rfl rfl ?_
 intro n3 hn3 hf3
 refine Tr.a rfl rfl rfl ?_
 refine Tr.nil (Aa (Sat.seq (Sat.region ?_)))
 refine Tr.fld rfl rfl rfl U39 rfl B4 dE _ rfl ?_
 refine Tr.load1 rfl rfl rfl U22 rfl mM (by first | exact Cut.get_fHeight (by first | (simp [hA.l_fPrev, hB.l_fPrev]; done) | exact oK  | exact hA | exact hB) | exact (by first | rfl | exact Au (by first | omega | (simp [hA.l_fPrev, hB.l_fPrev]; done) | (simp [hA.l_fPrev, hB.l_fPrev]; omega)) | exact A2 (by first | omega | (simp [hA.l_fPrev, hB.l_fPrev]; done) | (simp [hA.l_fPrev, hB.l_fPrev]; omega)) | exact Bi (by first | omega | (simp [hA.l_fPrev, hB.l_fPrev]; done) | (simp [hA.l_fPrev, hB.l_fPrev]; omega)))) ?_
 refine Tr.fld rfl rfl rfl U39 rfl B4 dE _ rfl ?_
 refine Tr.load1 rfl rfl rfl U22 rfl mM (by first | exact Cut.get_fHeight (by first | (simp [hA.l_fPrev, hB.l_fPrev]; done) | exact oK  | exact hA | exact hB) | exact (by first | rfl | exact Au (by first | omega | (simp [hA.l_fPrev, hB.l_fPrev]; done) | (simp [hA.l_fPrev, hB.l_fPrev]; omega)) | exact A2 (by first | omega | (simp [hA.l_fPrev, hB.l_fPrev]; done) | (simp [hA.l_fPrev, hB.l_fPrev]; omega)) | exact Bi (by first | omega | (simp [hA.l_fPrev, hB.l_fPrev]; done) | (simp [hA.l_fPrev, hB.l_fPrev]; omega)))) ?_
 refine two (fun r hr k => Tr.eqi rfl rfl rfl rfl hr k) (fun hs1_40 => ?_) (fun hs1_40 => ?_)
 ·
  first | have hs1_4 := of_decide_eq_true hs1_40 | have hs1_4 := of_decide_eq_false hs1_40 | have hs1_4 := Bg hs1_40 | have hs1_4 := Bh hs1_40 | have hs1_4 := hs1_40
  refine Tr.m rfl rfl rfl ?_
  refine Tr.fld rfl rfl rfl U39 rfl Bc dE _ rfl ?_
  first
   | refine Tr.lN (Ab _) rfl rfl rfl U24 rfl Bc mM (Cut.row_fPrev (by first | (simp [hA.l_fPrev, hB.l_fPrev]; done) | exact oK  | exact hA | exact hB)) (Cut.rl_fPrev (by first | (simp [hA.l_fPrev, hB.l_fPrev]; done) | exact oK  | exact hA | exact hB)) ?_
  refine Tr.fld rfl rfl rfl U39 rfl Bc dE _ rfl ?_
  first
   | refine Tr.lN (Ab _) rfl rfl rfl U24 rfl Bc mM (Cut.row_fPrev (by first | (simp [hA.l_fPrev, hB.l_fPrev]; done) | exact oK  | exact hA | exact hB)) (Cut.rl_fPrev (by first | (simp [hA.l_fPrev, hB.l_fPrev]; done) | exact oK  | exact hA | exact hB)) ?_
  refine two (fun r hr k => Tr.eql_bytes rfl rfl rfl rfl Tryz.eqGuardType24 U24 U5 Sz5 (by first | (simp [hA.l_fPrev, hB.l_fPrev]; done) | assumption | (rw [Ab, List.length_map]; assumption)) (by first | (simp [hA.l_fPrev, hB.l_fPrev]; done) | assumption | (rw [Ab, List.length_map]; assumption)) hr k) (fun hs1_100 => ?_) (fun hs1_100 => ?_)
  ·
   first | have hs1_10 := of_decide_eq_true hs1_100 | have hs1_10 := of_decide_eq_false hs1_100 | have hs1_10 := Bg hs1_100 | have hs1_10 := Bh hs1_100 | have hs1_10 := hs1_100
   refine Tr.pick rfl rfl rfl rfl rfl rfl ?_
   refine Tr.m rfl rfl rfl ?_
   refine Tr.fld rfl rfl rfl U39 rfl Sz37 dE _ rfl ?_
   refine Tr.load1 rfl rfl rfl U37 rfl mM (by first | exact Cut.get_fHeads (by first | (simp [hA.l_fPrev, hB.l_fPrev]; done) | exact oK  | exact hA | exact hB) | exact (by first | rfl | exact Au (by first | omega | (simp [hA.l_fPrev, hB.l_fPrev]; done) | (simp [hA.l_fPrev, hB.l_fPrev]; omega)) | exact A2 (by first | omega | (simp [hA.l_fPrev, hB.l_fPrev]; done) | (simp [hA.l_fPrev, hB.l_fPrev]; omega)) | exact Bi (by first | omega | (simp [hA.l_fPrev, hB.l_fPrev]; done) | (simp [hA.l_fPrev, hB.l_fPrev]; omega)))) ?_
   refine Tr.fld rfl rfl rfl U39 rfl Sz37 dE _ rfl ?_
   refine Tr.load1 rfl rfl rfl U37 rfl mM (by first | exact Cut.get_fHeads (by first | (simp [hA.l_fPrev, hB.l_fPrev]; done) | exact oK  | exact hA | exact hB) | exact (by first | rfl | exact Au (by first | omega | (simp [hA.l_fPrev, hB.l_fPrev]; done) | (simp [hA.l_fPrev, hB.l_fPrev]; omega)) | exact A2 (by first | omega | (simp [hA.l_fPrev, hB.l_fPrev]; done) | (simp [hA.l_fPrev, hB.l_fPrev]; omega)) | exact Bi (by first | omega | (simp [hA.l_fPrev, hB.l_fPrev]; done) | (simp [hA.l_fPrev, hB.l_fPrev]; omega)))) ?_
   refine Tr.cV rfl rfl rfl rfl Body115 (digests_any2 _ _ _ _ _ _ a.dHeads b.dHeads hW.1.fHeads.row hW.2.fHeads.row hW.1.fHeads.len hW.2.fHeads.len hn) (fun w h => ⟨Ax h rfl hW.1.fHeads.see, Ax h rfl hW.2.fHeads.see⟩) ?_
   refine Tr.pick rfl rfl rfl rfl rfl rfl ?_
   refine Tr.a rfl rfl rfl ?_
   refine Tr.nil (Aa (Sat.ret (Ak ?_)))
   refine ⟨_, [], Ae rfl rfl, sP, sP, ?_, rfl⟩
   unfold sameC
   simp_all
  ·
   first | have hs1_10 := of_decide_eq_true hs1_100 | have hs1_10 := of_decide_eq_false hs1_100 | have hs1_10 := Bg hs1_100 | have hs1_10 := Bh hs1_100 | have hs1_10 := hs1_100
   refine Tr.pick rfl rfl rfl rfl rfl rfl ?_
   refine Tr.m rfl rfl rfl ?_
   refine Tr.skp rfl rfl ?_
   refine Tr.skp rfl rfl ?_
   refine Tr.skp rfl rfl ?_
   refine Tr.skp rfl rfl ?_
   refine Tr.skp rfl rfl ?_
   refine Tr.pick rfl rfl rfl rfl rfl rfl ?_
   refine Tr.a rfl rfl rfl ?_
   refine Tr.nil (Aa (Sat.ret (Ak ?_)))
   refine ⟨_, [], Ae rfl rfl, sP, sP, ?_, rfl⟩
   unfold sameC
   simp_all
 ·
  first | have hs1_4 := of_decide_eq_true hs1_40 | have hs1_4 := of_decide_eq_false hs1_40 | have hs1_4 := Bg hs1_40 | have hs1_4 := Bh hs1_40 | have hs1_4 := hs1_40
  refine Tr.m rfl rfl rfl ?_
  refine Tr.skp rfl rfl ?_
  refine Tr.skp rfl rfl ?_
  refine Tr.skp rfl rfl ?_
  refine Tr.skp rfl rfl ?_
  refine Tr.skp rfl rfl ?_
  refine Tr.pick rfl rfl rfl rfl rfl rfl ?_
  refine Tr.m rfl rfl rfl ?_
  refine Tr.skp rfl rfl ?_
  refine Tr.skp rfl rfl ?_
  refine Tr.skp rfl rfl ?_
  refine Tr.skp rfl rfl ?_
  refine Tr.skp rfl rfl ?_
  refine Tr.pick rfl rfl rfl rfl rfl rfl ?_
  refine Tr.a rfl rfl rfl ?_
  refine Tr.nil (Aa (Sat.ret (Ak ?_)))
  refine ⟨_, [], Ae rfl rfl, sP, sP, ?_, rfl⟩
  unfold sameC
  simp_all

def sameL {D : Type} (f : D → D → Bool) (xs ys : List D) : Bool := decide (xs.length = ys.length) && (xs.zip ys).all fun p => f p.1 p.2
theorem sameL_yes {D : Type} {f : D → D → Bool} {xs ys : List D} (hl : xs.length = ys.length) (h : ∀ (j : Nat) (a b : D), j < xs.length → xs[j]? = some a → ys[j]? = some b → f a b = true) : sameL f xs ys = true := by
  have e : ((xs.zip ys).all fun p => f p.1 p.2) = true := by
    rw [List.all_eq_true]
    rintro ⟨a, b⟩ hm
    obtain ⟨j, hj⟩ := List.getElem?_of_mem hm
    obtain ⟨h1, h2⟩ := List.getElem?_zip_eq_some.1 hj
    exact h j a b (List.getElem?_eq_some_iff.1 h1).1 h1 h2
  rw [sameL, e, decide_eq_true hl]; rfl
theorem sameL_no {D : Type} {f : D → D → Bool} {xs ys : List D} {k : Nat} {a b : D} (ha : xs[k]? = some a) (hb : ys[k]? = some b) (h : f a b = false) : sameL f xs ys = false := by
  have e : ((xs.zip ys).all fun p => f p.1 p.2) = false := by
    rw [List.all_eq_false]
    exact ⟨(a, b), List.mem_of_getElem? (List.getElem?_zip_eq_some.2 ⟨ha, hb⟩), by rw [h]; simp⟩
  rw [sameL, e, Bool.and_false]
theorem sameL_len {D : Type} {f : D → D → Bool} {xs ys : List D} (h : ¬ xs.length = ys.length) : sameL f xs ys = false := by rw [sameL, decide_eq_false h]; rfl

theorem kit_cuts (s u : Sl) (xs ys : List DCut) (hsm : ∀ d ∈ xs, d.dHeads.length ≤ 1000000) : Meets Tryz.prog 23 [s.v, u.v] [] (fun W => CutsAt W s xs ∧ CutsAt W u ys) (fun v out => v = .bool (sameL sameC xs ys) ∧ out = []) := by
 intro W hW
 obtain ⟨⟨rs, hs⟩, ⟨ru, hu⟩⟩ := hW
 have hnd := hs.nd
 have hnu := hu.nd
 have hmax := hs.max
 have hmaxu := hu.max
 simp only [maxLen] at hmax hmaxu
 refine Ai Tryz.func23 rfl 27 Tryz.ntmps23 rfl ?_
 refine Sat.seq (Sat.region ?_)
 refine Tr.a rfl rfl rfl ?_
 refine Tr.nil (Aa (Sat.seq (Sat.seq (Sat.region ?_))))
 refine Tr.m rfl rfl rfl ?_
 refine Tr.lenSl rfl rfl rfl U43 ?_
 refine Tr.m rfl rfl rfl ?_
 refine Tr.lenSl rfl rfl rfl U43 ?_
 refine Tr.nei rfl rfl rfl rfl rfl ?_
 refine Tr.nil (Aa ?_)
 first
  | refine Sat.condP rfl (fun hc0 => ?_) (fun hc0 => ?_)
  | refine Sat.condNP rfl (fun hc0 => ?_) (fun hc0 => ?_)
  | refine Sat.cond rfl (fun hc0 => ?_) (fun hc0 => ?_)
 ·
  refine Sat.seq (Sat.region ?_)
  refine Tr.a rfl rfl rfl ?_
  refine Tr.nil (Aa (Sat.ret (Ao (Ak ?_))))
  refine ⟨_, [], Ae rfl rfl, sP, sP, ?_, rfl⟩
  first
   | exact congrArg Value.bool (sameL_len (by rw [hnd, hnu]; omega)).symm
   | exact congrArg Value.bool (sameL_yes (by rw [hnd, hnu]; omega) (by rw [hnd]; exact hg)).symm
   | exact congrArg Value.bool (sameL_no hd hdu (by simp_all; done)).symm
 ·
  refine Sat.skip (Aa (Sat.seq (Sat.seq (Sat.region ?_))))
  refine Tr.a rfl rfl rfl ?_
  refine Tr.nil (Aa (Sat.block ?_))
  refine Sat.loop (ι := Nat) (fun k => ⟨[(0, s.v), (1, u.v), (5, i64 (k : Int))], []⟩) (fun k => k ≤ s.n ∧ s.n = u.n ∧ ∀ (j : Nat) (a b : DCut), j < k → xs[j]? = some a → ys[j]? = some b → sameC a b = true) (fun k => s.n - k) (0) ?_ ?_ ?_
  · exact ⟨by omega, by omega, fun j a b hj => by omega⟩
  · exact Ap (wk1 rfl (wk1 rfl (wk1 rfl wk0))) wh0 nD
  ·
   rintro k ⟨hk, hsu, hg⟩
   refine Sat.seq (Sat.seq (Sat.region ?_))
   refine Tr.m rfl rfl rfl ?_
   refine Tr.m rfl rfl rfl ?_
   refine Tr.lenSl rfl rfl rfl U43 ?_
   refine Tr.lss rfl rfl rfl rfl rfl ?_
   refine Tr.nil (Aa ?_)
   first
    | refine Sat.condP rfl (fun hc1 => ?_) (fun hc1 => ?_)
    | refine Sat.condNP rfl (fun hc1 => ?_) (fun hc1 => ?_)
    | refine Sat.cond rfl (fun hc1 => ?_) (fun hc1 => ?_)
   ·
    have hk2 : k < s.n := by omega
    obtain ⟨b, o, r, d, hsp, hr, hd, his, hlen, hsee⟩ := hs.at dE hk2
    obtain ⟨b2, o2, r2, d2, hspu, hru, hdu, hiu, hlenu, hseeu⟩ := hu.at dE (show k < u.n by omega)
    refine Sat.skip (Aa (Sat.seq (Sat.block (Sat.seq ?_))))
    refine Sat.draw [(0, 0), (0, 1), (0, 2), (1, 3), (0, 4), (0, 5), (0, 6), (1, 7), (3, 8), (0, 9)] Bz zK ?_
    refine Tr.m rfl rfl rfl ?_
    refine Tr.m rfl rfl rfl ?_
    refine Tr.idxSlP 34 rfl rfl rfl hsp rfl U43 B0 k rfl oM ?_
    refine Tr.loadEN r.cells rfl rfl rfl U39 rfl B0 sP hlen hsee ?_
    refine Tr.m rfl rfl rfl ?_
    refine Tr.m rfl rfl rfl ?_
    refine Tr.idxSlP 34 rfl rfl rfl hspu rfl U43 B0 k rfl oM ?_
    refine Tr.loadEN r2.cells rfl rfl rfl U39 rfl B0 sP hlenu hseeu ?_
    refine Tr.cV rfl rfl rfl rfl Body75 (kit_cut r r2 d d2 (by rw [← his.fHeads.len]; exact hsm d (List.mem_of_getElem? hd))) (fun w h => ⟨his.ext h rfl, hiu.ext h rfl⟩) ?_
    refine Tr.not rfl rfl rfl ?_
    refine Tr.nil (Aa ?_)
    first
     | refine Sat.condP rfl (fun hc2 => ?_) (fun hc2 => ?_)
     | refine Sat.condNP rfl (fun hc2 => ?_) (fun hc2 => ?_)
     | refine Sat.cond rfl (fun hc2 => ?_) (fun hc2 => ?_)
    ·
     refine Sat.seq (Sat.region ?_)
     refine Tr.a rfl rfl rfl ?_
     refine Tr.nil (Aa (Sat.ret (B8 (Ao (Ao (B8 (Ao (Ak ?_))))))))
     refine ⟨_, [], Ae rfl rfl, sP, sP, ?_, rfl⟩
     first
      | exact congrArg Value.bool (sameL_len (by rw [hnd, hnu]; omega)).symm
      | exact congrArg Value.bool (sameL_yes (by rw [hnd, hnu]; omega) (by rw [hnd]; exact hg)).symm
      | exact congrArg Value.bool (sameL_no hd hdu (by simp_all; done)).symm
    ·
     refine Sat.skip (Bs (Aa (Sat.region ?_)))
     refine Tr.m rfl rfl rfl ?_
     refine Tr.aI rfl rfl rfl rfl oM ?_
     refine Tr.a rfl rfl rfl ?_
     refine Tr.nil (Aa ?_)
     exact ⟨k + 1, ⟨by omega, hsu, fun j a b hj ha hb => by rcases Nat.lt_succ_iff_lt_or_eq.1 hj with h | rfl; exact hg j a b h ha hb; exact (by rw [hd] at ha; rw [hdu] at hb; cases ha; cases hb; simp_all)⟩, by omega, Ap (wk1 rfl (wk1 rfl (wk1 rfl wk0))) wh0 nD⟩
   ·
    obtain rfl : k = s.n := by omega
    refine Sat.exit (A7 (A7 (bl_h (Aa (Sat.seq (Sat.region ?_))))))
    refine Tr.a rfl rfl rfl ?_
    refine Tr.nil (Aa (Sat.ret (Ak ?_)))
    refine ⟨_, [], Ae rfl rfl, sP, sP, ?_, rfl⟩
    first
     | exact congrArg Value.bool (sameL_len (by rw [hnd, hnu]; omega)).symm
     | exact congrArg Value.bool (sameL_yes (by rw [hnd, hnu]; omega) (by rw [hnd]; exact hg)).symm
     | exact congrArg Value.bool (sameL_no hd hdu (by simp_all; done)).symm

open Classical in
noncomputable def sameV (a b : Vote) : Bool := decide (a = b)
theorem sameV_eq {a b : Vote} (h : a = b) : sameV a b = true := by unfold sameV; simp [h]
theorem sameV_ne {a b : Vote} (h : ¬ a = b) : sameV a b = false := by unfold sameV; simp [h]

theorem Cb (s u : Sl) (xs ys : List Vote) : Meets Tryz.prog 20 [s.v, u.v] [] (fun W => VotesAt W s xs ∧ VotesAt W u ys) (fun v out => v = .bool (sameL sameV xs ys) ∧ out = []) := by
 intro W hW
 obtain ⟨⟨rs, hs⟩, ⟨ru, hu⟩⟩ := hW
 have hnd := hs.nd
 have hnu := hu.nd
 have hmax := hs.max
 have hmaxu := hu.max
 simp only [maxLen] at hmax hmaxu
 refine Ai Tryz.func20 rfl 26 Tryz.ntmps20 rfl ?_
 refine Sat.seq (Sat.region ?_)
 refine Tr.a rfl rfl rfl ?_
 refine Tr.nil (Aa (Sat.seq (Sat.seq (Sat.region ?_))))
 refine Tr.m rfl rfl rfl ?_
 refine Tr.lenSl rfl rfl rfl U42 ?_
 refine Tr.m rfl rfl rfl ?_
 refine Tr.lenSl rfl rfl rfl U42 ?_
 refine Tr.nei rfl rfl rfl rfl rfl ?_
 refine Tr.nil (Aa ?_)
 first
  | refine Sat.condP rfl (fun hc0 => ?_) (fun hc0 => ?_)
  | refine Sat.condNP rfl (fun hc0 => ?_) (fun hc0 => ?_)
  | refine Sat.cond rfl (fun hc0 => ?_) (fun hc0 => ?_)
 ·
  refine Sat.seq (Sat.region ?_)
  refine Tr.a rfl rfl rfl ?_
  refine Tr.nil (Aa (Sat.ret (Ao (Ak ?_))))
  refine ⟨_, [], Ae rfl rfl, sP, sP, ?_, rfl⟩
  first
   | exact congrArg Value.bool (sameL_len (by rw [hnd, hnu]; omega)).symm
   | exact congrArg Value.bool (sameL_yes (by rw [hnd, hnu]; omega) (by rw [hnd]; exact hg)).symm
   | exact congrArg Value.bool (sameL_no hd hdu (sameV_ne (by first | assumption | (intro h9; simp_all; done)))).symm
 ·
  refine Sat.skip (Aa (Sat.seq (Sat.seq (Sat.region ?_))))
  refine Tr.a rfl rfl rfl ?_
  refine Tr.nil (Aa (Sat.block ?_))
  refine Sat.loop (ι := Nat) (fun k => ⟨[(0, s.v), (1, u.v), (5, i64 (k : Int))], []⟩) (fun k => k ≤ s.n ∧ s.n = u.n ∧ ∀ (j : Nat) (a b : Vote), j < k → xs[j]? = some a → ys[j]? = some b → sameV a b = true) (fun k => s.n - k) (0) ?_ ?_ ?_
  · exact ⟨by omega, by omega, fun j a b hj => by omega⟩
  · exact Ap (wk1 rfl (wk1 rfl (wk1 rfl wk0))) wh0 nD
  ·
   rintro k ⟨hk, hsu, hg⟩
   refine Sat.seq (Sat.seq (Sat.region ?_))
   refine Tr.m rfl rfl rfl ?_
   refine Tr.m rfl rfl rfl ?_
   refine Tr.lenSl rfl rfl rfl U42 ?_
   refine Tr.lss rfl rfl rfl rfl rfl ?_
   refine Tr.nil (Aa ?_)
   first
    | refine Sat.condP rfl (fun hc1 => ?_) (fun hc1 => ?_)
    | refine Sat.condNP rfl (fun hc1 => ?_) (fun hc1 => ?_)
    | refine Sat.cond rfl (fun hc1 => ?_) (fun hc1 => ?_)
   ·
    have hk2 : k < s.n := by omega
    obtain ⟨b, o, r, d, hsp, hr, hd, his, hlen, hsee⟩ := hs.at dE hk2
    obtain ⟨b2, o2, r2, d2, hspu, hru, hdu, hiu, hlenu, hseeu⟩ := hu.at dE (show k < u.n by omega)
    obtain rfl := his.eq
    obtain rfl := hiu.eq
    refine Sat.skip (Aa (Sat.seq (Sat.block (Sat.seq ?_))))
    refine Sat.draw [(0, 0), (0, 1), (0, 2), (1, 3), (0, 4), (0, 5), (0, 6), (1, 7), (0, 8)] Bz zK ?_
    refine Tr.m rfl rfl rfl ?_
    refine Tr.m rfl rfl rfl ?_
    refine Tr.idxSlP 132 rfl rfl rfl hsp rfl U42 Bw k rfl oM ?_
    refine Tr.loadEN r.cells rfl rfl rfl U29 rfl Bw sP hlen hsee ?_
    refine Tr.m rfl rfl rfl ?_
    refine Tr.m rfl rfl rfl ?_
    refine Tr.idxSlP 132 rfl rfl rfl hspu rfl U42 Bw k rfl oM ?_
    refine Tr.loadEN r2.cells rfl rfl rfl U29 rfl Bw sP hlenu hseeu ?_
    refine Tr.neq_rec rfl rfl rfl rfl Vote.eg (fun w => Vote.eq_runC (by first | exact oK  | exact his.ok | exact hiu.ok) (by first | exact oK  | exact his.ok | exact hiu.ok) w) rfl ?_
    refine Tr.nil (Aa ?_)
    first
     | refine Sat.condP rfl (fun hc2 => ?_) (fun hc2 => ?_)
     | refine Sat.condNP rfl (fun hc2 => ?_) (fun hc2 => ?_)
     | refine Sat.cond rfl (fun hc2 => ?_) (fun hc2 => ?_)
    ·
     refine Sat.seq (Sat.region ?_)
     refine Tr.a rfl rfl rfl ?_
     refine Tr.nil (Aa (Sat.ret (B8 (Ao (Ao (B8 (Ao (Ak ?_))))))))
     refine ⟨_, [], Ae rfl rfl, sP, sP, ?_, rfl⟩
     first
      | exact congrArg Value.bool (sameL_len (by rw [hnd, hnu]; omega)).symm
      | exact congrArg Value.bool (sameL_yes (by rw [hnd, hnu]; omega) (by rw [hnd]; exact hg)).symm
      | exact congrArg Value.bool (sameL_no hd hdu (sameV_ne (by first | assumption | (intro h9; simp_all; done)))).symm
    ·
     refine Sat.skip (Bs (Aa (Sat.region ?_)))
     refine Tr.m rfl rfl rfl ?_
     refine Tr.aI rfl rfl rfl rfl oM ?_
     refine Tr.a rfl rfl rfl ?_
     refine Tr.nil (Aa ?_)
     exact ⟨k + 1, ⟨by omega, hsu, fun j a b hj ha hb => by rcases Nat.lt_succ_iff_lt_or_eq.1 hj with h | rfl; exact hg j a b h ha hb; exact (by rw [hd] at ha; rw [hdu] at hb; cases ha; cases hb; exact sameV_eq (by first | assumption | (simp_all; done)))⟩, by omega, Ap (wk1 rfl (wk1 rfl (wk1 rfl wk0))) wh0 nD⟩
   ·
    obtain rfl : k = s.n := by omega
    refine Sat.exit (A7 (A7 (bl_h (Aa (Sat.seq (Sat.region ?_))))))
    refine Tr.a rfl rfl rfl ?_
    refine Tr.nil (Aa (Sat.ret (Ak ?_)))
    refine ⟨_, [], Ae rfl rfl, sP, sP, ?_, rfl⟩
    first
     | exact congrArg Value.bool (sameL_len (by rw [hnd, hnu]; omega)).symm
     | exact congrArg Value.bool (sameL_yes (by rw [hnd, hnu]; omega) (by rw [hnd]; exact hg)).symm
     | exact congrArg Value.bool (sameL_no hd hdu (sameV_ne (by first | assumption | (intro h9; simp_all; done)))).symm

noncomputable def sameE (a b : DCert) : Bool := sameC a.dCut b.dCut && sameL sameV a.dVotes b.dVotes

theorem kit_cert (A B : Cert) (a b : DCert) (hn : A.fCut.fHeads.n ≤ 1000000) : Meets Tryz.prog 74 [agg A.cells, agg B.cells] [] (fun W => CertIs W A a ∧ CertIs W B b) (fun v out => v = .bool (sameE a b) ∧ out = []) := by
 intro W hW
 have hA := hW.1.ok
 have hB := hW.2.ok
 refine Ai Tryz.func74 rfl 17 Tryz.ntmps74 rfl ?_
 refine Sat.seq (Sat.region ?_)
 refine Tr.boxA rfl rfl ?_
 intro n2 hn2 hf2
 refine Tr.boxA rfl rfl ?_
 intro n3 hn3 hf3
 refine Tr.a rfl rfl rfl ?_
 refine Tr.nil (Aa (Sat.seq (Sat.region ?_)))
 refine Tr.fld rfl rfl rfl U80 rfl B0 dE _ rfl ?_
 refine Tr.lN (Cut.cells _) rfl rfl rfl U39 rfl B0 mM (Cert.row_fCut (by first | exact oK  | exact hA | exact hB)) (Cert.rl_fCut (by first | exact oK  | exact hA | exact hB)) ?_
 refine Tr.fld rfl rfl rfl U80 rfl B0 dE _ rfl ?_
 refine Tr.lN (Cut.cells _) rfl rfl rfl U39 rfl B0 mM (Cert.row_fCut (by first | exact oK  | exact hA | exact hB)) (Cert.rl_fCut (by first | exact oK  | exact hA | exact hB)) ?_
 refine Tr.callB rfl rfl rfl rfl Body75 (kit_cut A.fCut B.fCut a.dCut b.dCut hn) (fun w h => ⟨hW.1.fCut.ext h rfl, hW.2.fCut.ext h rfl⟩) (fun hs1_40 => ?_) (fun hs1_40 => ?_)
 ·
  first | have hs1_4 := of_decide_eq_true hs1_40 | have hs1_4 := of_decide_eq_false hs1_40 | have hs1_4 := Bg hs1_40 | have hs1_4 := Bh hs1_40 | have hs1_4 := hs1_40
  refine Tr.m rfl rfl rfl ?_
  refine Tr.fld rfl rfl rfl U80 rfl Sz42 dE _ rfl ?_
  refine Tr.load1 rfl rfl rfl U42 rfl mM (by first | exact Cert.get_fVotes (by first | exact oK  | exact hA | exact hB) | exact vL) ?_
  refine Tr.fld rfl rfl rfl U80 rfl Sz42 dE _ rfl ?_
  refine Tr.load1 rfl rfl rfl U42 rfl mM (by first | exact Cert.get_fVotes (by first | exact oK  | exact hA | exact hB) | exact vL) ?_
  refine Tr.cV rfl rfl rfl rfl Body20 (Cb A.fVotes B.fVotes a.dVotes b.dVotes) (fun w h => ⟨Votes_ext h rfl hW.1.fVotes, Votes_ext h rfl hW.2.fVotes⟩) ?_
  refine Tr.pick rfl rfl rfl rfl rfl rfl ?_
  refine Tr.a rfl rfl rfl ?_
  refine Tr.nil (Aa (Sat.ret (Ak ?_)))
  refine ⟨_, [], Ae rfl rfl, sP, sP, ?_, rfl⟩
  simp_all [sameE]
 ·
  first | have hs1_4 := of_decide_eq_true hs1_40 | have hs1_4 := of_decide_eq_false hs1_40 | have hs1_4 := Bg hs1_40 | have hs1_4 := Bh hs1_40 | have hs1_4 := hs1_40
  refine Tr.m rfl rfl rfl ?_
  refine Tr.skp rfl rfl ?_
  refine Tr.skp rfl rfl ?_
  refine Tr.skp rfl rfl ?_
  refine Tr.skp rfl rfl ?_
  refine Tr.skp rfl rfl ?_
  refine Tr.pick rfl rfl rfl rfl rfl rfl ?_
  refine Tr.a rfl rfl rfl ?_
  refine Tr.nil (Aa (Sat.ret (Ak ?_)))
  refine ⟨_, [], Ae rfl rfl, sP, sP, ?_, rfl⟩
  simp_all [sameE]

theorem kit_certs (s u : Sl) (xs ys : List DCert) (hsm : ∀ d ∈ xs, d.dCut.dHeads.length ≤ 1000000) : Meets Tryz.prog 22 [s.v, u.v] [] (fun W => CertsAt W s xs ∧ CertsAt W u ys) (fun v out => v = .bool (sameL sameE xs ys) ∧ out = []) := by
 intro W hW
 obtain ⟨⟨rs, hs⟩, ⟨ru, hu⟩⟩ := hW
 have hnd := hs.nd
 have hnu := hu.nd
 have hmax := hs.max
 have hmaxu := hu.max
 simp only [maxLen] at hmax hmaxu
 refine Ai Tryz.func22 rfl 27 Tryz.ntmps22 rfl ?_
 refine Sat.seq (Sat.region ?_)
 refine Tr.a rfl rfl rfl ?_
 refine Tr.nil (Aa (Sat.seq (Sat.seq (Sat.region ?_))))
 refine Tr.m rfl rfl rfl ?_
 refine Tr.lenSl rfl rfl rfl U41 ?_
 refine Tr.m rfl rfl rfl ?_
 refine Tr.lenSl rfl rfl rfl U41 ?_
 refine Tr.nei rfl rfl rfl rfl rfl ?_
 refine Tr.nil (Aa ?_)
 first
  | refine Sat.condP rfl (fun hc0 => ?_) (fun hc0 => ?_)
  | refine Sat.condNP rfl (fun hc0 => ?_) (fun hc0 => ?_)
  | refine Sat.cond rfl (fun hc0 => ?_) (fun hc0 => ?_)
 ·
  refine Sat.seq (Sat.region ?_)
  refine Tr.a rfl rfl rfl ?_
  refine Tr.nil (Aa (Sat.ret (Ao (Ak ?_))))
  refine ⟨_, [], Ae rfl rfl, sP, sP, ?_, rfl⟩
  first
   | exact congrArg Value.bool (sameL_len (by rw [hnd, hnu]; omega)).symm
   | exact congrArg Value.bool (sameL_yes (by rw [hnd, hnu]; omega) (by rw [hnd]; exact hg)).symm
   | exact congrArg Value.bool (sameL_no hd hdu (by simp_all; done)).symm
 ·
  refine Sat.skip (Aa (Sat.seq (Sat.seq (Sat.region ?_))))
  refine Tr.a rfl rfl rfl ?_
  refine Tr.nil (Aa (Sat.block ?_))
  refine Sat.loop (ι := Nat) (fun k => ⟨[(0, s.v), (1, u.v), (5, i64 (k : Int))], []⟩) (fun k => k ≤ s.n ∧ s.n = u.n ∧ ∀ (j : Nat) (a b : DCert), j < k → xs[j]? = some a → ys[j]? = some b → sameE a b = true) (fun k => s.n - k) (0) ?_ ?_ ?_
  · exact ⟨by omega, by omega, fun j a b hj => by omega⟩
  · exact Ap (wk1 rfl (wk1 rfl (wk1 rfl wk0))) wh0 nD
  ·
   rintro k ⟨hk, hsu, hg⟩
   refine Sat.seq (Sat.seq (Sat.region ?_))
   refine Tr.m rfl rfl rfl ?_
   refine Tr.m rfl rfl rfl ?_
   refine Tr.lenSl rfl rfl rfl U41 ?_
   refine Tr.lss rfl rfl rfl rfl rfl ?_
   refine Tr.nil (Aa ?_)
   first
    | refine Sat.condP rfl (fun hc1 => ?_) (fun hc1 => ?_)
    | refine Sat.condNP rfl (fun hc1 => ?_) (fun hc1 => ?_)
    | refine Sat.cond rfl (fun hc1 => ?_) (fun hc1 => ?_)
   ·
    have hk2 : k < s.n := by omega
    obtain ⟨b, o, r, d, hsp, hr, hd, his, hlen, hsee⟩ := hs.at dE hk2
    obtain ⟨b2, o2, r2, d2, hspu, hru, hdu, hiu, hlenu, hseeu⟩ := hu.at dE (show k < u.n by omega)
    refine Sat.skip (Aa (Sat.seq (Sat.block (Sat.seq ?_))))
    refine Sat.draw [(0, 0), (0, 1), (0, 2), (1, 3), (0, 4), (0, 5), (0, 6), (1, 7), (3, 8), (0, 9)] Bz zK ?_
    refine Tr.m rfl rfl rfl ?_
    refine Tr.m rfl rfl rfl ?_
    refine Tr.idxSlP 35 rfl rfl rfl hsp rfl U41 Sz80 k rfl oM ?_
    refine Tr.loadEN r.cells rfl rfl rfl U80 rfl Sz80 sP hlen hsee ?_
    refine Tr.m rfl rfl rfl ?_
    refine Tr.m rfl rfl rfl ?_
    refine Tr.idxSlP 35 rfl rfl rfl hspu rfl U41 Sz80 k rfl oM ?_
    refine Tr.loadEN r2.cells rfl rfl rfl U80 rfl Sz80 sP hlenu hseeu ?_
    refine Tr.cV rfl rfl rfl rfl Body74 (kit_cert r r2 d d2 (by rw [← his.fCut.fHeads.len]; exact hsm d (List.mem_of_getElem? hd))) (fun w h => ⟨his.ext h rfl, hiu.ext h rfl⟩) ?_
    refine Tr.not rfl rfl rfl ?_
    refine Tr.nil (Aa ?_)
    first
     | refine Sat.condP rfl (fun hc2 => ?_) (fun hc2 => ?_)
     | refine Sat.condNP rfl (fun hc2 => ?_) (fun hc2 => ?_)
     | refine Sat.cond rfl (fun hc2 => ?_) (fun hc2 => ?_)
    ·
     refine Sat.seq (Sat.region ?_)
     refine Tr.a rfl rfl rfl ?_
     refine Tr.nil (Aa (Sat.ret (B8 (Ao (Ao (B8 (Ao (Ak ?_))))))))
     refine ⟨_, [], Ae rfl rfl, sP, sP, ?_, rfl⟩
     first
      | exact congrArg Value.bool (sameL_len (by rw [hnd, hnu]; omega)).symm
      | exact congrArg Value.bool (sameL_yes (by rw [hnd, hnu]; omega) (by rw [hnd]; exact hg)).symm
      | exact congrArg Value.bool (sameL_no hd hdu (by simp_all; done)).symm
    ·
     refine Sat.skip (Bs (Aa (Sat.region ?_)))
     refine Tr.m rfl rfl rfl ?_
     refine Tr.aI rfl rfl rfl rfl oM ?_
     refine Tr.a rfl rfl rfl ?_
     refine Tr.nil (Aa ?_)
     exact ⟨k + 1, ⟨by omega, hsu, fun j a b hj ha hb => by rcases Nat.lt_succ_iff_lt_or_eq.1 hj with h | rfl; exact hg j a b h ha hb; exact (by rw [hd] at ha; rw [hdu] at hb; cases ha; cases hb; simp_all)⟩, by omega, Ap (wk1 rfl (wk1 rfl (wk1 rfl wk0))) wh0 nD⟩
   ·
    obtain rfl : k = s.n := by omega
    refine Sat.exit (A7 (A7 (bl_h (Aa (Sat.seq (Sat.region ?_))))))
    refine Tr.a rfl rfl rfl ?_
    refine Tr.nil (Aa (Sat.ret (Ak ?_)))
    refine ⟨_, [], Ae rfl rfl, sP, sP, ?_, rfl⟩
    first
     | exact congrArg Value.bool (sameL_len (by rw [hnd, hnu]; omega)).symm
     | exact congrArg Value.bool (sameL_yes (by rw [hnd, hnu]; omega) (by rw [hnd]; exact hg)).symm
     | exact congrArg Value.bool (sameL_no hd hdu (by simp_all; done)).symm

def sameBk (a b : DB) : Bool := decide (a.w = b.w) && (decide ((a.seq.toNat : Int) = (b.seq.toNat : Int)) && (decide (a.prev = b.prev) && (decide (a.ls = b.ls) && (decide (a.ds = b.ds) && decide (a.sg = b.sg)))))
theorem sameB_Bk {W : World} {A B : Block} {a b : DB} (h1 : BlockIs W A a) (h2 : BlockIs W B b) : sameB A B a.ls b.ls a.ds b.ds = sameBk a b := by
  simp only [sameB, sameBk, h1.w, h2.w, h1.seq, h2.seq, h1.prev, h2.prev, h1.sg, h2.sg]
theorem kit_blockD (A B : Block) (a b : DB) (hn : A.fLinks.n ≤ 1000000) : Meets Tryz.prog 73 [agg A.cells, agg B.cells] [] (fun W => BlockIs W A a ∧ BlockIs W B b) (fun v out => v = .bool (sameBk a b) ∧ out = []) := fun W hW => by
  rw [← sameB_Bk hW.1 hW.2]
  exact kit_block A B hW.1.ok hW.2.ok a.ls b.ls a.ds b.ds hn W ⟨⟨hW.1.ls, hW.1.ds⟩, ⟨hW.2.ls, hW.2.ds⟩⟩

theorem kit_blocks (s u : Sl) (xs ys : List DB) (hsm : ∀ d ∈ xs, d.ls.length ≤ 1000000) : Meets Tryz.prog 21 [s.v, u.v] [] (fun W => BlocksAt W s xs ∧ BlocksAt W u ys) (fun v out => v = .bool (sameL sameBk xs ys) ∧ out = []) := by
 intro W hW
 obtain ⟨⟨rs, hs⟩, ⟨ru, hu⟩⟩ := hW
 have hnd := hs.nd
 have hnu := hu.nd
 have hmax := hs.max
 have hmaxu := hu.max
 simp only [maxLen] at hmax hmaxu
 refine Ai Tryz.func21 rfl 27 Tryz.ntmps21 rfl ?_
 refine Sat.seq (Sat.region ?_)
 refine Tr.a rfl rfl rfl ?_
 refine Tr.nil (Aa (Sat.seq (Sat.seq (Sat.region ?_))))
 refine Tr.m rfl rfl rfl ?_
 refine Tr.lenSl rfl rfl rfl U40 ?_
 refine Tr.m rfl rfl rfl ?_
 refine Tr.lenSl rfl rfl rfl U40 ?_
 refine Tr.nei rfl rfl rfl rfl rfl ?_
 refine Tr.nil (Aa ?_)
 first
  | refine Sat.condP rfl (fun hc0 => ?_) (fun hc0 => ?_)
  | refine Sat.condNP rfl (fun hc0 => ?_) (fun hc0 => ?_)
  | refine Sat.cond rfl (fun hc0 => ?_) (fun hc0 => ?_)
 ·
  refine Sat.seq (Sat.region ?_)
  refine Tr.a rfl rfl rfl ?_
  refine Tr.nil (Aa (Sat.ret (Ao (Ak ?_))))
  refine ⟨_, [], Ae rfl rfl, sP, sP, ?_, rfl⟩
  first
   | exact congrArg Value.bool (sameL_len (by rw [hnd, hnu]; omega)).symm
   | exact congrArg Value.bool (sameL_yes (by rw [hnd, hnu]; omega) (by rw [hnd]; exact hg)).symm
   | exact congrArg Value.bool (sameL_no hd hdu (by simp_all; done)).symm
 ·
  refine Sat.skip (Aa (Sat.seq (Sat.seq (Sat.region ?_))))
  refine Tr.a rfl rfl rfl ?_
  refine Tr.nil (Aa (Sat.block ?_))
  refine Sat.loop (ι := Nat) (fun k => ⟨[(0, s.v), (1, u.v), (5, i64 (k : Int))], []⟩) (fun k => k ≤ s.n ∧ s.n = u.n ∧ ∀ (j : Nat) (a b : DB), j < k → xs[j]? = some a → ys[j]? = some b → sameBk a b = true) (fun k => s.n - k) (0) ?_ ?_ ?_
  · exact ⟨by omega, by omega, fun j a b hj => by omega⟩
  · exact Ap (wk1 rfl (wk1 rfl (wk1 rfl wk0))) wh0 nD
  ·
   rintro k ⟨hk, hsu, hg⟩
   refine Sat.seq (Sat.seq (Sat.region ?_))
   refine Tr.m rfl rfl rfl ?_
   refine Tr.m rfl rfl rfl ?_
   refine Tr.lenSl rfl rfl rfl U40 ?_
   refine Tr.lss rfl rfl rfl rfl rfl ?_
   refine Tr.nil (Aa ?_)
   first
    | refine Sat.condP rfl (fun hc1 => ?_) (fun hc1 => ?_)
    | refine Sat.condNP rfl (fun hc1 => ?_) (fun hc1 => ?_)
    | refine Sat.cond rfl (fun hc1 => ?_) (fun hc1 => ?_)
   ·
    have hk2 : k < s.n := by omega
    obtain ⟨b, o, r, d, hsp, hr, hd, his, hlen, hsee⟩ := hs.at dE hk2
    obtain ⟨b2, o2, r2, d2, hspu, hru, hdu, hiu, hlenu, hseeu⟩ := hu.at dE (show k < u.n by omega)
    refine Sat.skip (Aa (Sat.seq (Sat.block (Sat.seq ?_))))
    refine Sat.draw [(0, 0), (0, 1), (0, 2), (1, 3), (0, 4), (0, 5), (0, 6), (1, 7), (3, 8), (0, 9)] Bz zK ?_
    refine Tr.m rfl rfl rfl ?_
    refine Tr.m rfl rfl rfl ?_
    refine Tr.idxSlP 131 rfl rfl rfl hsp rfl U40 Sz52 k rfl oM ?_
    refine Tr.loadEN r.cells rfl rfl rfl U52 rfl Sz52 sP hlen hsee ?_
    refine Tr.m rfl rfl rfl ?_
    refine Tr.m rfl rfl rfl ?_
    refine Tr.idxSlP 131 rfl rfl rfl hspu rfl U40 Sz52 k rfl oM ?_
    refine Tr.loadEN r2.cells rfl rfl rfl U52 rfl Sz52 sP hlenu hseeu ?_
    refine Tr.cV rfl rfl rfl rfl Body73 (kit_blockD r r2 d d2 (by rw [← his.ls.len]; exact hsm d (List.mem_of_getElem? hd))) (fun w h => ⟨his.ext h rfl, hiu.ext h rfl⟩) ?_
    refine Tr.not rfl rfl rfl ?_
    refine Tr.nil (Aa ?_)
    first
     | refine Sat.condP rfl (fun hc2 => ?_) (fun hc2 => ?_)
     | refine Sat.condNP rfl (fun hc2 => ?_) (fun hc2 => ?_)
     | refine Sat.cond rfl (fun hc2 => ?_) (fun hc2 => ?_)
    ·
     refine Sat.seq (Sat.region ?_)
     refine Tr.a rfl rfl rfl ?_
     refine Tr.nil (Aa (Sat.ret (B8 (Ao (Ao (B8 (Ao (Ak ?_))))))))
     refine ⟨_, [], Ae rfl rfl, sP, sP, ?_, rfl⟩
     first
      | exact congrArg Value.bool (sameL_len (by rw [hnd, hnu]; omega)).symm
      | exact congrArg Value.bool (sameL_yes (by rw [hnd, hnu]; omega) (by rw [hnd]; exact hg)).symm
      | exact congrArg Value.bool (sameL_no hd hdu (by simp_all; done)).symm
    ·
     refine Sat.skip (Bs (Aa (Sat.region ?_)))
     refine Tr.m rfl rfl rfl ?_
     refine Tr.aI rfl rfl rfl rfl oM ?_
     refine Tr.a rfl rfl rfl ?_
     refine Tr.nil (Aa ?_)
     exact ⟨k + 1, ⟨by omega, hsu, fun j a b hj ha hb => by rcases Nat.lt_succ_iff_lt_or_eq.1 hj with h | rfl; exact hg j a b h ha hb; exact (by rw [hd] at ha; rw [hdu] at hb; cases ha; cases hb; simp_all)⟩, by omega, Ap (wk1 rfl (wk1 rfl (wk1 rfl wk0))) wh0 nD⟩
   ·
    obtain rfl : k = s.n := by omega
    refine Sat.exit (A7 (A7 (bl_h (Aa (Sat.seq (Sat.region ?_))))))
    refine Tr.a rfl rfl rfl ?_
    refine Tr.nil (Aa (Sat.ret (Ak ?_)))
    refine ⟨_, [], Ae rfl rfl, sP, sP, ?_, rfl⟩
    first
     | exact congrArg Value.bool (sameL_len (by rw [hnd, hnu]; omega)).symm
     | exact congrArg Value.bool (sameL_yes (by rw [hnd, hnu]; omega) (by rw [hnd]; exact hg)).symm
     | exact congrArg Value.bool (sameL_no hd hdu (by simp_all; done)).symm

noncomputable def sameK (a b : DKept) : Bool := sameL sameBk a.dBlocks b.dBlocks && (sameL sameE a.dCerts b.dCerts && (sameL sameV a.dVotes b.dVotes && sameL sameC a.dCuts b.dCuts))
def DKept.small (a : DKept) : Prop := (∀ d ∈ a.dBlocks, d.ls.length ≤ 1000000) ∧ (∀ d ∈ a.dCerts, d.dCut.dHeads.length ≤ 1000000) ∧ ∀ d ∈ a.dCuts, d.dHeads.length ≤ 1000000

theorem kit_kept (A B : Kept) (a b : DKept) (hsm : a.small) : Meets Tryz.prog 18 [agg A.cells, agg B.cells] [] (fun W => KeptIs W A a ∧ KeptIs W B b) (fun v out => v = .bool (sameK a b) ∧ out = []) := by
 intro W hW
 have hA := hW.1.ok
 have hB := hW.2.ok
 refine Ai Tryz.func18 rfl 31 Tryz.ntmps18 rfl ?_
 refine Sat.seq (Sat.region ?_)
 refine Tr.boxA rfl rfl ?_
 intro n2 hn2 hf2
 refine Tr.boxA rfl rfl ?_
 intro n3 hn3 hf3
 refine Tr.a rfl rfl rfl ?_
 refine Tr.nil (Aa (Sat.seq (Sat.region ?_)))
 refine Tr.fld rfl rfl rfl U45 rfl Sz40 dE _ rfl ?_
 refine Tr.load1 rfl rfl rfl U40 rfl mM (by first | exact Kept.get_fBlocks (by first | exact oK  | exact hA | exact hB) | exact vL) ?_
 refine Tr.fld rfl rfl rfl U45 rfl Sz40 dE _ rfl ?_
 refine Tr.load1 rfl rfl rfl U40 rfl mM (by first | exact Kept.get_fBlocks (by first | exact oK  | exact hA | exact hB) | exact vL) ?_
 refine Tr.callB rfl rfl rfl rfl Body21 (kit_blocks A.fBlocks B.fBlocks a.dBlocks b.dBlocks hsm.1) (fun w h => ⟨Bk h rfl hW.1.fBlocks, Bk h rfl hW.2.fBlocks⟩) (fun hs1_40 => ?_) (fun hs1_40 => ?_)
 ·
  first | have hs1_4 := of_decide_eq_true hs1_40 | have hs1_4 := of_decide_eq_false hs1_40 | have hs1_4 := Bg hs1_40 | have hs1_4 := Bh hs1_40 | have hs1_4 := hs1_40
  refine Tr.m rfl rfl rfl ?_
  refine Tr.fld rfl rfl rfl U45 rfl Sz41 dE _ rfl ?_
  refine Tr.load1 rfl rfl rfl U41 rfl mM (by first | exact Kept.get_fCerts (by first | exact oK  | exact hA | exact hB) | exact vL) ?_
  refine Tr.fld rfl rfl rfl U45 rfl Sz41 dE _ rfl ?_
  refine Tr.load1 rfl rfl rfl U41 rfl mM (by first | exact Kept.get_fCerts (by first | exact oK  | exact hA | exact hB) | exact vL) ?_
  refine Tr.callB rfl rfl rfl rfl Body22 (kit_certs A.fCerts B.fCerts a.dCerts b.dCerts hsm.2.1) (fun w h => ⟨Bt h rfl hW.1.fCerts, Bt h rfl hW.2.fCerts⟩) (fun hs1_100 => ?_) (fun hs1_100 => ?_)
  ·
   first | have hs1_10 := of_decide_eq_true hs1_100 | have hs1_10 := of_decide_eq_false hs1_100 | have hs1_10 := Bg hs1_100 | have hs1_10 := Bh hs1_100 | have hs1_10 := hs1_100
   refine Tr.pick rfl rfl rfl rfl rfl rfl ?_
   refine Tr.m rfl rfl rfl ?_
   refine Tr.fld rfl rfl rfl U45 rfl Sz42 dE _ rfl ?_
   refine Tr.load1 rfl rfl rfl U42 rfl mM (by first | exact Kept.get_fVotes (by first | exact oK  | exact hA | exact hB) | exact vL) ?_
   refine Tr.fld rfl rfl rfl U45 rfl Sz42 dE _ rfl ?_
   refine Tr.load1 rfl rfl rfl U42 rfl mM (by first | exact Kept.get_fVotes (by first | exact oK  | exact hA | exact hB) | exact vL) ?_
   refine Tr.callB rfl rfl rfl rfl Body20 (Cb A.fVotes B.fVotes a.dVotes b.dVotes) (fun w h => ⟨Votes_ext h rfl hW.1.fVotes, Votes_ext h rfl hW.2.fVotes⟩) (fun hs1_170 => ?_) (fun hs1_170 => ?_)
   ·
    first | have hs1_17 := of_decide_eq_true hs1_170 | have hs1_17 := of_decide_eq_false hs1_170 | have hs1_17 := Bg hs1_170 | have hs1_17 := Bh hs1_170 | have hs1_17 := hs1_170
    refine Tr.pick rfl rfl rfl rfl rfl rfl ?_
    refine Tr.m rfl rfl rfl ?_
    refine Tr.fld rfl rfl rfl U45 rfl Sz43 dE _ rfl ?_
    refine Tr.load1 rfl rfl rfl U43 rfl mM (by first | exact Kept.get_fCuts (by first | exact oK  | exact hA | exact hB) | exact vL) ?_
    refine Tr.fld rfl rfl rfl U45 rfl Sz43 dE _ rfl ?_
    refine Tr.load1 rfl rfl rfl U43 rfl mM (by first | exact Kept.get_fCuts (by first | exact oK  | exact hA | exact hB) | exact vL) ?_
    refine Tr.cV rfl rfl rfl rfl Body23 (kit_cuts A.fCuts B.fCuts a.dCuts b.dCuts hsm.2.2) (fun w h => ⟨Cuts_ext h rfl hW.1.fCuts, Cuts_ext h rfl hW.2.fCuts⟩) ?_
    refine Tr.pick rfl rfl rfl rfl rfl rfl ?_
    refine Tr.a rfl rfl rfl ?_
    refine Tr.nil (Aa (Sat.ret (Ak ?_)))
    refine ⟨_, [], Ae rfl rfl, sP, sP, ?_, rfl⟩
    simp_all [sameK]
   ·
    first | have hs1_17 := of_decide_eq_true hs1_170 | have hs1_17 := of_decide_eq_false hs1_170 | have hs1_17 := Bg hs1_170 | have hs1_17 := Bh hs1_170 | have hs1_17 := hs1_170
    refine Tr.pick rfl rfl rfl rfl rfl rfl ?_
    refine Tr.m rfl rfl rfl ?_
    refine Tr.skp rfl rfl ?_
    refine Tr.skp rfl rfl ?_
    refine Tr.skp rfl rfl ?_
    refine Tr.skp rfl rfl ?_
    refine Tr.skp rfl rfl ?_
    refine Tr.pick rfl rfl rfl rfl rfl rfl ?_
    refine Tr.a rfl rfl rfl ?_
    refine Tr.nil (Aa (Sat.ret (Ak ?_)))
    refine ⟨_, [], Ae rfl rfl, sP, sP, ?_, rfl⟩
    simp_all [sameK]
  ·
   first | have hs1_10 := of_decide_eq_true hs1_100 | have hs1_10 := of_decide_eq_false hs1_100 | have hs1_10 := Bg hs1_100 | have hs1_10 := Bh hs1_100 | have hs1_10 := hs1_100
   refine Tr.pick rfl rfl rfl rfl rfl rfl ?_
   refine Tr.m rfl rfl rfl ?_
   refine Tr.skp rfl rfl ?_
   refine Tr.skp rfl rfl ?_
   refine Tr.skp rfl rfl ?_
   refine Tr.skp rfl rfl ?_
   refine Tr.skp rfl rfl ?_
   refine Tr.pick rfl rfl rfl rfl rfl rfl ?_
   refine Tr.m rfl rfl rfl ?_
   refine Tr.skp rfl rfl ?_
   refine Tr.skp rfl rfl ?_
   refine Tr.skp rfl rfl ?_
   refine Tr.skp rfl rfl ?_
   refine Tr.skp rfl rfl ?_
   refine Tr.pick rfl rfl rfl rfl rfl rfl ?_
   refine Tr.a rfl rfl rfl ?_
   refine Tr.nil (Aa (Sat.ret (Ak ?_)))
   refine ⟨_, [], Ae rfl rfl, sP, sP, ?_, rfl⟩
   simp_all [sameK]
 ·
  first | have hs1_4 := of_decide_eq_true hs1_40 | have hs1_4 := of_decide_eq_false hs1_40 | have hs1_4 := Bg hs1_40 | have hs1_4 := Bh hs1_40 | have hs1_4 := hs1_40
  refine Tr.m rfl rfl rfl ?_
  refine Tr.skp rfl rfl ?_
  refine Tr.skp rfl rfl ?_
  refine Tr.skp rfl rfl ?_
  refine Tr.skp rfl rfl ?_
  refine Tr.skp rfl rfl ?_
  refine Tr.pick rfl rfl rfl rfl rfl rfl ?_
  refine Tr.m rfl rfl rfl ?_
  refine Tr.skp rfl rfl ?_
  refine Tr.skp rfl rfl ?_
  refine Tr.skp rfl rfl ?_
  refine Tr.skp rfl rfl ?_
  refine Tr.skp rfl rfl ?_
  refine Tr.pick rfl rfl rfl rfl rfl rfl ?_
  refine Tr.m rfl rfl rfl ?_
  refine Tr.skp rfl rfl ?_
  refine Tr.skp rfl rfl ?_
  refine Tr.skp rfl rfl ?_
  refine Tr.skp rfl rfl ?_
  refine Tr.skp rfl rfl ?_
  refine Tr.pick rfl rfl rfl rfl rfl rfl ?_
  refine Tr.a rfl rfl rfl ?_
  refine Tr.nil (Aa (Sat.ret (Ak ?_)))
  refine ⟨_, [], Ae rfl rfl, sP, sP, ?_, rfl⟩
  simp_all [sameK]

end Go.Proofs.YtkfhpmidcbmofaaGreat
end

section
namespace Go.Proofs.YtkfhpmidcbmofaaGreat
open Go Hw

theorem seq_one {R D : Type} {cells : R → List Value} {k : Nat} {Is : World → R → D → Prop} {w : World} (q : Nat) (E : TypeId) (r : R) {m : Nat} {d : D} (hl : Lies [⟨q, cells r, E, m⟩] w) (hlen : (cells r).length = k) (hm : m = 1 * k) (hi : Is w r d) : SeqIs cells k Is w ⟨some ⟨q, 0, none⟩, 1, 1⟩ [r] [d] := by
  subst hm
  have ha : Hw.Acc ⟨some ⟨q, 0, none⟩, 1, 1⟩ [⟨q, cells r, E, 1 * k⟩] (cells r) E 1 k := Acc.some (Nat.le_refl _) (by rw [hlen, Nat.one_mul])
  have e : ([r].map cells).flatten = cells r := by simp
  refine acc_seq (by rw [e]; exact ha) hl rfl rfl (fun x hx => by rw [List.mem_singleton.1 hx]; exact hlen) sP fun i x y hx hy => ?_
  obtain ⟨hi1, rfl⟩ := List.getElem?_eq_some_iff.1 hx
  obtain ⟨hi2, rfl⟩ := List.getElem?_eq_some_iff.1 hy
  have e0 : i = 0 := by simp at hi1; exact hi1
  subst e0
  exact hi
theorem sameC_self (a : DCut) : sameC a a = true := by simp [sameC]
theorem sameV_self (a : Vote) : sameV a a = true := sameV_eq rfl
theorem Aq {D : Type} {f : D → D → Bool} (h : ∀ a, f a a = true) (l : List D) : sameL f l l = true := sameL_yes rfl fun j a b _ ha hb => by rw [ha] at hb; cases hb; exact h a
theorem sameE_self (a : DCert) : sameE a a = true := by simp only [sameE, sameC_self, Aq sameV_self, Bool.and_self]
theorem Ca (a : DB) : sameBk a a = true := by simp [sameBk]
theorem sameK_self (a : DKept) : sameK a a = true := by simp only [sameK, Aq Ca, Aq sameE_self, Aq sameV_self, Aq sameC_self, Bool.and_self]
theorem Bl (A B : Kept) (a : DKept) (h : a.small) : Meets Tryz.prog 18 [agg A.cells, agg B.cells] [] (fun W => KeptIs W A a ∧ KeptIs W B a) (fun v out => v = .bool true ∧ out = []) := by
  have h := kit_kept A B a a h
  rwa [sameK_self] at h
theorem dkz_small : dkz.small := ⟨fun d h => (by cases h), fun d h => (by cases h), fun d h => (by cases h)⟩
def oneB : List UInt8 := 1 :: List.replicate 31 0
def sevB : List UInt8 := 7 :: List.replicate 31 0
def exCut (q : Nat) : Cut := ⟨1, List.replicate 32 0, ⟨some ⟨q, 0, none⟩, 1, 1⟩⟩
def exCutD : DCut := ⟨1, List.replicate 32 0, [oneB]⟩
def exVote : Vote := ⟨1, 0, 3, sevB, 0, List.replicate 32 0, List.replicate 64 0⟩
def exCert (q r : Nat) : Cert := ⟨exCut q, ⟨some ⟨r, 0, none⟩, 1, 1⟩⟩
def exD : DCert := ⟨exCutD, [exVote]⟩
theorem exCut_ok (q : Nat) : (exCut q).ok := ⟨rfl⟩
theorem Cd : exVote.ok := ⟨rfl, rfl, rfl⟩
theorem exCert_ok (q r : Nat) : (exCert q r).ok := ⟨exCut_ok q⟩
theorem ex_name : (decide (sevB = cnameD exCutD)) = false := by kernel_rfl
theorem ex_check : exD.check = 2 := cert_bad2 (k := 0) dE (.inr (.inr (.inr (.inl (of_decide_eq_false ex_name)))))
theorem ex_by : certBy exD = [] := if_neg (by rw [ex_check]; decide)
theorem ex_rec : (Bu 2 (certBy exD) exD.check).2 = 2 := by rw [Bu, if_neg (by rw [ex_check]; decide)]; exact ex_check
theorem ex_r0 : keepRd [] = (dkz, 0) := keepRd_ok keepR_nil rfl
theorem keepR_one (r : DRecord) : keepR [r] = keepStep dkz r := rfl
theorem step_no {D : DKept} {r : DRecord} (h : 4 < r.dKind.toNat) : keepStep D r = none := by
  have hn : ∀ k : UInt8, k.toNat ≤ 4 → ¬ r.dKind = k := fun k hk e => by rw [e] at h; omega
  rw [keepStep, if_neg (hn 1 dE), if_neg (hn 2 dE), if_neg (hn 3 dE), if_neg (hn 4 dE)]
theorem rd_kind {r : DRecord} (h : 4 < r.dKind.toNat) : keepRd [r] = (dkz, 4) := keepRd_bad (by rw [keepR_one, step_no h])
theorem exCut_is {w : World} {q : Nat} {m : Nat} (hl : Lies [⟨q, Cc [oneB], 24, m⟩] w) (hm : m = 1 * 32) : CutIs w (exCut q) exCutD := by
  subst hm
  exact ⟨exCut_ok q, rfl, rfl, acc_rows (Acc.some (E := 24) (cells := Cc [oneB]) (Nat.le_refl _) rfl) hl (fun l h => by rw [List.mem_singleton.1 h]; rfl) rfl dE⟩

theorem law26_lives  : Meets Tryz.prog 11 [] [] (fun _ => True) (fun v out => v = .bool true ∧ out = []) := by
 intro W hW
 refine Ai Tryz.func11 rfl 45 Tryz.ntmps11 rfl ?_
 refine Sat.seq (Sat.region ?_)
 refine Tr.a rfl rfl rfl ?_
 refine Tr.nil (Aa (Sat.seq (Sat.region ?_)))
 refine Tr.build (cs := Ab oneB) rfl rfl rfl (fun w => by kernel_rfl) ?_
 refine Tr.mkRow2 (z := agg (Ab (List.replicate 32 0))) [agg (Ab oneB)] (Cc [oneB]) rfl rfl U37 Bc Zr24 rfl rfl (by intro v hv; rw [List.mem_singleton.1 hv]; rfl) dE (by rfl) ?_
 intro q9
 refine Tr.build (cs := (exCut q9).cells) rfl rfl rfl (fun w => by kernel_rfl) ?_
 refine Tr.build (cs := Ab sevB) rfl rfl rfl (fun w => by kernel_rfl) ?_
 refine Tr.build (cs := exVote.cells) rfl rfl rfl (fun w => by kernel_rfl) ?_
 refine Tr.mkRow2 (z := agg Vote.zero.cells) [agg exVote.cells] exVote.cells rfl rfl U42 Bw Vote.zr rfl rfl (by intro v hv; rw [List.mem_singleton.1 hv]; exact Vote.length Cd) dE (by simp [Value.cells]) ?_
 intro q13
 refine Tr.build (cs := (exCert q9 q13).cells) rfl rfl rfl (fun w => by kernel_rfl) ?_
 refine Tr.alloc (cs := Cert.zero.cells) rfl Cert.zr rfl ?_
 intro n1 hn1 hf1
 refine Tr.sA rfl rfl rfl rfl (Cert.isCell (by first | exact oK  | exact exCert_ok _ _ | exact exCut_ok _ | exact Cd | exact ok16 | exact ok22 | exact ok27 | exact ⟨trivial⟩)) Sz80 (Cert.length (by first | exact oK  | exact exCert_ok _ _ | exact exCut_ok _ | exact Cd | exact ok16 | exact ok22 | exact ok27 | exact ⟨trivial⟩)) mM (Cert.length (by first | exact oK  | exact exCert_ok _ _ | exact exCut_ok _ | exact Cd | exact ok16 | exact ok22 | exact ok27 | exact ⟨trivial⟩)) uU ?_
 refine Tr.nil (Aa (Sat.seq (Sat.region ?_)))
 refine Tr.call4 rfl rfl rfl rfl rfl Body8 (keep_read Sl.nil [] dE (fun d h => by cases h)) (fun w h => ⟨[], SeqIs.none⟩) ?_
 rintro v16 out16 ⟨X16, ok16, rfl, h16⟩
 rw [ex_r0] at h16 ⊢
 refine Tr.m rfl rfl rfl ?_
 refine Tr.eX rfl rfl rfl rfl ?_
 refine Tr.eX rfl rfl rfl rfl ?_
 refine Tr.alloc (cs := Kept.zero.cells) rfl Kept.zr rfl ?_
 intro n2 hn2 hf2
 refine Tr.sA rfl rfl rfl rfl (Kept.isCell (by first | exact oK  | exact exCert_ok _ _ | exact exCut_ok _ | exact Cd | exact ok16 | exact ok22 | exact ok27 | exact ⟨trivial⟩)) Sz45 (Kept.length (by first | exact oK  | exact exCert_ok _ _ | exact exCut_ok _ | exact Cd | exact ok16 | exact ok22 | exact ok27 | exact ⟨trivial⟩)) mM (Kept.length (by first | exact oK  | exact exCert_ok _ _ | exact exCut_ok _ | exact Cd | exact ok16 | exact ok22 | exact ok27 | exact ⟨trivial⟩)) uU ?_
 refine Tr.a rfl rfl rfl ?_
 refine Tr.nil (Aa (Sat.seq (Sat.region ?_)))
 refine Tr.build (cs := (⟨5, Sl.nil⟩ : Record).cells) rfl rfl rfl (fun w => by kernel_rfl) ?_
 refine Tr.mkRow2 (z := agg Record.zero.cells) [agg (⟨5, Sl.nil⟩ : Record).cells] (⟨5, Sl.nil⟩ : Record).cells rfl rfl U48 B1 Record.zr rfl rfl (by intro v hv; rw [List.mem_singleton.1 hv]; exact rfl) dE (by simp [Value.cells]) ?_
 intro q21
 refine Tr.call4 rfl rfl rfl rfl rfl Body8 (keep_read ⟨some ⟨q21, 0, none⟩, 1, 1⟩ [⟨5, []⟩] sP (fun d h => by rw [List.mem_singleton.1 h]; decide)) (fun w h => ⟨_, seq_one q21 32 (⟨5, Sl.nil⟩ : Record) (Lies.of h (by intro b hb; rw [List.mem_singleton.1 hb]; repeat (first | exact List.mem_cons_self | refine List.mem_cons_of_mem _ ?_ | refine mem_seg ?_))) (Record.length (show (⟨5, Sl.nil⟩ : Record).ok from ⟨trivial⟩)) (by rw [Record.length (show (⟨5, Sl.nil⟩ : Record).ok from ⟨trivial⟩)]) ⟨⟨trivial⟩, rfl, ⟨rfl, Nat.le_refl _, SeesP.nil, by decide, fun _ => rfl⟩⟩⟩) ?_
 rintro v22 out22 ⟨X22, ok22, rfl, h22⟩
 rw [rd_kind dE] at h22 ⊢
 refine Tr.m rfl rfl rfl ?_
 refine Tr.eX rfl rfl rfl rfl ?_
 refine Tr.eX rfl rfl rfl rfl ?_
 refine Tr.alloc (cs := Kept.zero.cells) rfl Kept.zr rfl ?_
 intro n4 hn4 hf4
 refine Tr.sA rfl rfl rfl rfl (Kept.isCell (by first | exact oK  | exact exCert_ok _ _ | exact exCut_ok _ | exact Cd | exact ok16 | exact ok22 | exact ok27 | exact ⟨trivial⟩)) Sz45 (Kept.length (by first | exact oK  | exact exCert_ok _ _ | exact exCut_ok _ | exact Cd | exact ok16 | exact ok22 | exact ok27 | exact ⟨trivial⟩)) mM (Kept.length (by first | exact oK  | exact exCert_ok _ _ | exact exCut_ok _ | exact Cd | exact ok16 | exact ok22 | exact ok27 | exact ⟨trivial⟩)) uU ?_
 refine Tr.a rfl rfl rfl ?_
 refine Tr.nil (Aa (Sat.seq (Sat.region ?_)))
 refine Tr.lA rfl rfl rfl U80 rfl Sz80 mM (Cert.length (by first | exact oK  | exact exCert_ok _ _ | exact exCut_ok _ | exact Cd | exact ok16 | exact ok22 | exact ok27 | exact ⟨trivial⟩)) ?_
 refine Tr.call4 rfl rfl rfl rfl rfl Body45 (keep_cert (exCert q9 q13) exD (by rw [ex_by]; decide)) (fun w h => ⟨exCert_ok _ _, exCut_is (q := q9) (Lies.of h (by intro b hb; rw [List.mem_singleton.1 hb]; repeat (first | exact List.mem_cons_self | refine List.mem_cons_of_mem _ ?_ | refine mem_seg ?_))) rfl, ⟨_, seq_one q13 29 exVote (Lies.of h (by intro b hb; rw [List.mem_singleton.1 hb]; repeat (first | exact List.mem_cons_self | refine List.mem_cons_of_mem _ ?_ | refine mem_seg ?_))) (Vote.length Cd) rfl ⟨Cd, rfl, by decide⟩⟩⟩) ?_
 rintro v27 out27 ⟨X27, ok27, rfl, k27, h27⟩
 refine Tr.m rfl rfl rfl ?_
 refine Tr.eX rfl rfl rfl rfl ?_
 refine Tr.eX rfl rfl rfl rfl ?_
 refine Tr.alloc (cs := Record.zero.cells) rfl Record.zr rfl ?_
 intro n6 hn6 hf6
 refine Tr.sA rfl rfl rfl rfl (Record.isCell (by first | exact oK  | exact exCert_ok _ _ | exact exCut_ok _ | exact Cd | exact ok16 | exact ok22 | exact ok27 | exact ⟨trivial⟩)) B1 (Record.length (by first | exact oK  | exact exCert_ok _ _ | exact exCut_ok _ | exact Cd | exact ok16 | exact ok22 | exact ok27 | exact ⟨trivial⟩)) mM (Record.length (by first | exact oK  | exact exCert_ok _ _ | exact exCut_ok _ | exact Cd | exact ok16 | exact ok22 | exact ok27 | exact ⟨trivial⟩)) uU ?_
 refine Tr.a rfl rfl rfl ?_
 refine Tr.nil (Aa (Sat.seq (Sat.region ?_)))
 refine Tr.m rfl rfl rfl ?_
 refine Tr.eqi rfl rfl rfl rfl (decide_eq_true (rfl)) ?_
 refine Tr.m rfl rfl rfl ?_
 refine Tr.lA rfl rfl rfl U45 rfl Sz45 mM (Kept.length (by first | exact oK  | exact exCert_ok _ _ | exact exCut_ok _ | exact Cd | exact ok16 | exact ok22 | exact ok27 | exact ⟨trivial⟩)) ?_
 refine Tr.build (cs := Kept.zero.cells) rfl rfl rfl (fun w => by kernel_rfl) ?_
 refine Tr.cV rfl rfl rfl rfl Body18 (Bl X16 Kept.zero dkz dkz_small) (fun w h => ⟨h16 w (Lies.of h iN), keptz_is w⟩) ?_
 refine Tr.pick rfl rfl rfl rfl rfl rfl ?_
 refine Tr.m rfl rfl rfl ?_
 refine Tr.m rfl rfl rfl ?_
 refine Tr.eqi rfl rfl rfl rfl (decide_eq_true (rfl)) ?_
 refine Tr.pick rfl rfl rfl rfl rfl rfl ?_
 refine Tr.m rfl rfl rfl ?_
 refine Tr.m rfl rfl rfl ?_
 refine Tr.eqi rfl rfl rfl rfl (decide_eq_true (ex_rec)) ?_
 refine Tr.pick rfl rfl rfl rfl rfl rfl ?_
 refine Tr.a rfl rfl rfl ?_
 refine Tr.nil (Aa (Sat.ret (Ak ?_)))
 refine ⟨_, [], Ae rfl rfl, sP, sP, ?_, rfl⟩
 rfl

end Go.Proofs.YtkfhpmidcbmofaaGreat
end

section
namespace Go.Proofs.YtkfhpmidcbmofaaGreat
open Go Hw

theorem all_blockk_1 (x : Block) (d : DB) (q : Nat) : Meets Tryz.prog 100 [agg x.cells, ptr q 0] [] (fun W => BlockIs W x d ∧ W.cell? ⟨q, 0, none⟩ = some (.func (.func 48) #[] #[])) (fun v out => v = .bool (!decide (d.check = 0)) ∧ out = []) := by
 intro W hW
 refine Ai Tryz.func100 rfl 8 Tryz.ntmps100 rfl ?_
 refine Sat.seq (Sat.region ?_)
 refine Tr.boxA rfl rfl ?_
 intro n2 hn2 hf2
 refine Tr.a rfl rfl rfl ?_
 refine Tr.nil (Aa (Sat.seq (Sat.region ?_)))
 refine Tr.loadE rfl rfl rfl Tryz.underlying98 rfl (by first | (simp; done) | (simp; exact hW.2.2) | (simp [Cx.with]; done) | (simp [Cx.with]; omega)) (hW.2) ?_
 refine Tr.lA rfl rfl rfl U52 rfl Sz52 mM (Block.length (by first | exact oK  | exact hW.1.ok)) ?_
 refine Tr.cV rfl rfl rfl rfl Body48 (db_check x d) (fun w h => hW.1.ext h rfl) ?_
 refine Tr.nei rfl rfl rfl rfl rfl ?_
 refine Tr.a rfl rfl rfl ?_
 refine Tr.nil (Aa (Sat.ret (Ak ?_)))
 refine ⟨_, [], Ae rfl rfl, sP, sP, ?_, rfl⟩
 first
  | rfl
  | simp

theorem index_blockk (s : Sl) (ds : List DB) (q : Nat) : Meets Tryz.prog 133 [s.v, .func (.func 100) #[] #[ptr q 0]] [] (fun W => BlocksAt W s ds ∧ W.cell? ⟨q, 0, none⟩ = some (.func (.func 48) #[] #[])) (fun v out => v = i64 (fstBad (fun d : DB => !decide (d.check = 0)) ds) ∧ out = []) := by
 intro W hW
 obtain ⟨⟨rs, hs⟩, hq⟩ := hW
 have hmax := hs.max
 simp only [maxLen] at hmax
 have hcap := hs.cap
 refine Ai Tryz.func133 rfl 19 Tryz.ntmps133 rfl ?_
 refine Sat.seq (Sat.region ?_)
 refine Tr.a rfl rfl rfl ?_
 refine Tr.nil (Aa (Sat.seq (Sat.seq (Sat.region ?_))))
 refine Tr.m rfl rfl rfl ?_
 refine Tr.lenSl rfl rfl rfl U40 ?_
 refine Tr.m rfl rfl rfl ?_
 refine Tr.nil (Aa (Sat.block ?_))
 refine Sat.loop (ι := Nat) (fun k => ⟨[(0, s.v), (1, .func (.func 100) #[] #[ptr q 0]), (7, i64 (s.n : Int)), (8, i64 (k : Int))], []⟩) (fun k => k ≤ s.n ∧ ∀ j, j < k → (ds.map (fun d : DB => !decide (d.check = 0)))[j]? = some false) (fun k => s.n - k) (0) ?_ ?_ ?_
 · exact ⟨by omega, fun j hj => by omega⟩
 · exact Ap (wk1 rfl (wk1 rfl (wk1 rfl (wk1 rfl wk0)))) wh0 nD
 ·
  rintro k ⟨hk, hg⟩
  refine Sat.seq (Sat.region ?_)
  refine Tr.lss rfl rfl rfl rfl rfl ?_
  refine Tr.nil (Aa (Sat.seq ?_))
  first
   | refine Sat.condP rfl (fun hc0 => ?_) (fun hc0 => ?_)
   | refine Sat.condNP rfl (fun hc0 => ?_) (fun hc0 => ?_)
   | refine Sat.cond rfl (fun hc0 => ?_) (fun hc0 => ?_)
  ·
   have hk2 : k < s.n := by omega
   obtain ⟨b, o, r, d, hsp, hr, hd, his, hlen, hsee⟩ := hs.at dE hk2
   refine Sat.skip (Aa (Sat.seq (Sat.block (Sat.seq (Sat.region ?_)))))
   refine Tr.m rfl rfl rfl ?_
   refine Tr.a rfl rfl rfl ?_
   refine Tr.nil (Aa (Sat.seq (Sat.region ?_)))
   refine Tr.m rfl rfl rfl ?_
   refine Tr.m rfl rfl rfl ?_
   refine Tr.m rfl rfl rfl ?_
   refine Tr.idxSlP 131 rfl rfl rfl hsp rfl U40 Sz52 k oM oM ?_
   refine Tr.loadEN r.cells rfl rfl rfl U52 rfl Sz52 sP hlen hsee ?_
   refine Tr.callCV rfl rfl rfl rfl rfl Body100 (all_blockk_1 r d q) (fun w h => ⟨his.ext h rfl, h.keeps.cell sP hq⟩) ?_
   refine Tr.nil (Aa ?_)
   first
    | refine Sat.condP rfl (fun hc1 => ?_) (fun hc1 => ?_)
    | refine Sat.condNP rfl (fun hc1 => ?_) (fun hc1 => ?_)
    | refine Sat.cond rfl (fun hc1 => ?_) (fun hc1 => ?_)
   ·
    refine Sat.seq (Sat.region ?_)
    refine Tr.m rfl rfl rfl ?_
    refine Tr.a rfl rfl rfl ?_
    refine Tr.nil (Aa (Sat.ret (B8 (Ao (Ao (B8 (Ao (Ak ?_))))))))
    refine ⟨_, [], Ae rfl rfl, sP, sP, ?_, rfl⟩
    first
     | exact congrArg i64 (fstBad_none (by intro j hj; exact hg j (by rw [hs.nd] at hj; exact hj))).symm
     | exact congrArg i64 (fstBad_at hg (by rw [List.getElem?_map, hd]; simpa using hc1)).symm
   ·
    refine Sat.skip (Bs (Aa (Sat.region ?_)))
    refine Tr.aI rfl rfl rfl rfl oM ?_
    refine Tr.m rfl rfl rfl ?_
    refine Tr.nil (Aa ?_)
    exact ⟨k + 1, ⟨by omega, fun j hj => by rcases Nat.lt_succ_iff_lt_or_eq.1 hj with h | rfl; exact hg j h; rw [List.getElem?_map, hd]; simpa using hc1⟩, by omega, Ap (wk1 rfl (wk1 rfl (wk1 rfl (wk1 rfl wk0)))) wh0 nD⟩
  ·
   obtain rfl : k = s.n := by omega
   refine Sat.exit (A7 (A7 (bl_h (Aa (Sat.seq (Sat.region ?_))))))
   refine Tr.a rfl rfl rfl ?_
   refine Tr.nil (Aa (Sat.ret (Ak ?_)))
   refine ⟨_, [], Ae rfl rfl, sP, sP, ?_, rfl⟩
   first
    | exact congrArg i64 (fstBad_none (by intro j hj; exact hg j (by rw [hs.nd] at hj; exact hj))).symm
    | exact congrArg i64 (fstBad_at hg (by rw [List.getElem?_map, hd]; simpa using hc1)).symm

theorem contains_blockk (s : Sl) (ds : List DB) (q : Nat) : Meets Tryz.prog 99 [s.v, .func (.func 100) #[] #[ptr q 0]] [] (fun W => BlocksAt W s ds ∧ W.cell? ⟨q, 0, none⟩ = some (.func (.func 48) #[] #[])) (fun v out => v = .bool (ds.any (fun d : DB => !decide (d.check = 0))) ∧ out = []) := by
 intro W hW
 refine Ai Tryz.func99 rfl 9 Tryz.ntmps99 rfl ?_
 refine Sat.seq (Sat.region ?_)
 refine Tr.a rfl rfl rfl ?_
 refine Tr.nil (Aa (Sat.seq (Sat.region ?_)))
 refine Tr.m rfl rfl rfl ?_
 refine Tr.m rfl rfl rfl ?_
 refine Tr.cV rfl rfl rfl rfl Body133 (index_blockk s ds q) (fun w h => ⟨Bk h rfl hW.1, h.keeps.cell sP hW.2⟩) ?_
 refine Tr.geq rfl rfl rfl rfl rfl ?_
 refine Tr.a rfl rfl rfl ?_
 refine Tr.nil (Aa (Sat.ret (Ak ?_)))
 refine ⟨_, [], Ae rfl rfl, sP, sP, ?_, rfl⟩
 exact congrArg Value.bool (fstBad_ge _ _)

theorem all_blockk (s : Sl) (ds : List DB) : Meets Tryz.prog 47 [s.v, .func (.func 48) #[] #[]] [] (fun W => BlocksAt W s ds) (fun v out => v = .bool (ds.all fun d => decide (d.check = 0)) ∧ out = []) := by
 intro W hW
 refine Ai Tryz.func47 rfl 9 Tryz.ntmps47 rfl ?_
 refine Sat.seq (Sat.region ?_)
 refine Tr.box1 rfl rfl rfl ?_
 intro n3 hn3 hf3
 refine Tr.a rfl rfl rfl ?_
 refine Tr.nil (Aa (Sat.seq (Sat.region ?_)))
 refine Tr.m rfl rfl rfl ?_
 refine Tr.makeFunc rfl rfl rfl rfl ?_
 refine Tr.cV rfl rfl rfl rfl Body99 (contains_blockk s ds n3) (fun w h => ⟨Bk h rfl hW, (An h mM).cell (o := 0) rfl⟩) ?_
 refine Tr.not rfl rfl rfl ?_
 refine Tr.a rfl rfl rfl ?_
 refine Tr.nil (Aa (Sat.ret (Ak ?_)))
 refine ⟨_, [], Ae rfl rfl, sP, sP, ?_, rfl⟩
 exact congrArg Value.bool (any_all _ _)

theorem all_certk_1 (x : Cert) (d : DCert) (q : Nat) : Meets Tryz.prog 103 [agg x.cells, ptr q 0] [] (fun W => CertIs W x d ∧ W.cell? ⟨q, 0, none⟩ = some (.func (.func 50) #[] #[])) (fun v out => v = .bool (!decide (d.check = 0)) ∧ out = []) := by
 intro W hW
 refine Ai Tryz.func103 rfl 8 Tryz.ntmps103 rfl ?_
 refine Sat.seq (Sat.region ?_)
 refine Tr.boxA rfl rfl ?_
 intro n2 hn2 hf2
 refine Tr.a rfl rfl rfl ?_
 refine Tr.nil (Aa (Sat.seq (Sat.region ?_)))
 refine Tr.loadE rfl rfl rfl Tryz.underlying100 rfl (by first | (simp; done) | (simp; exact hW.2.2) | (simp [Cx.with]; done) | (simp [Cx.with]; omega)) (hW.2) ?_
 refine Tr.lA rfl rfl rfl U80 rfl Sz80 mM (Cert.length (by first | exact oK  | exact hW.1.ok)) ?_
 refine Tr.cV rfl rfl rfl rfl Body50 (cert_check x d) (fun w h => hW.1.ext h rfl) ?_
 refine Tr.nei rfl rfl rfl rfl rfl ?_
 refine Tr.a rfl rfl rfl ?_
 refine Tr.nil (Aa (Sat.ret (Ak ?_)))
 refine ⟨_, [], Ae rfl rfl, sP, sP, ?_, rfl⟩
 first
  | rfl
  | simp

theorem index_certk (s : Sl) (ds : List DCert) (q : Nat) : Meets Tryz.prog 134 [s.v, .func (.func 103) #[] #[ptr q 0]] [] (fun W => CertsAt W s ds ∧ W.cell? ⟨q, 0, none⟩ = some (.func (.func 50) #[] #[])) (fun v out => v = i64 (fstBad (fun d : DCert => !decide (d.check = 0)) ds) ∧ out = []) := by
 intro W hW
 obtain ⟨⟨rs, hs⟩, hq⟩ := hW
 have hmax := hs.max
 simp only [maxLen] at hmax
 have hcap := hs.cap
 refine Ai Tryz.func134 rfl 19 Tryz.ntmps134 rfl ?_
 refine Sat.seq (Sat.region ?_)
 refine Tr.a rfl rfl rfl ?_
 refine Tr.nil (Aa (Sat.seq (Sat.seq (Sat.region ?_))))
 refine Tr.m rfl rfl rfl ?_
 refine Tr.lenSl rfl rfl rfl U41 ?_
 refine Tr.m rfl rfl rfl ?_
 refine Tr.nil (Aa (Sat.block ?_))
 refine Sat.loop (ι := Nat) (fun k => ⟨[(0, s.v), (1, .func (.func 103) #[] #[ptr q 0]), (7, i64 (s.n : Int)), (8, i64 (k : Int))], []⟩) (fun k => k ≤ s.n ∧ ∀ j, j < k → (ds.map (fun d : DCert => !decide (d.check = 0)))[j]? = some false) (fun k => s.n - k) (0) ?_ ?_ ?_
 · exact ⟨by omega, fun j hj => by omega⟩
 · exact Ap (wk1 rfl (wk1 rfl (wk1 rfl (wk1 rfl wk0)))) wh0 nD
 ·
  rintro k ⟨hk, hg⟩
  refine Sat.seq (Sat.region ?_)
  refine Tr.lss rfl rfl rfl rfl rfl ?_
  refine Tr.nil (Aa (Sat.seq ?_))
  first
   | refine Sat.condP rfl (fun hc0 => ?_) (fun hc0 => ?_)
   | refine Sat.condNP rfl (fun hc0 => ?_) (fun hc0 => ?_)
   | refine Sat.cond rfl (fun hc0 => ?_) (fun hc0 => ?_)
  ·
   have hk2 : k < s.n := by omega
   obtain ⟨b, o, r, d, hsp, hr, hd, his, hlen, hsee⟩ := hs.at dE hk2
   refine Sat.skip (Aa (Sat.seq (Sat.block (Sat.seq (Sat.region ?_)))))
   refine Tr.m rfl rfl rfl ?_
   refine Tr.a rfl rfl rfl ?_
   refine Tr.nil (Aa (Sat.seq (Sat.region ?_)))
   refine Tr.m rfl rfl rfl ?_
   refine Tr.m rfl rfl rfl ?_
   refine Tr.m rfl rfl rfl ?_
   refine Tr.idxSlP 35 rfl rfl rfl hsp rfl U41 Sz80 k oM oM ?_
   refine Tr.loadEN r.cells rfl rfl rfl U80 rfl Sz80 sP hlen hsee ?_
   refine Tr.callCV rfl rfl rfl rfl rfl Body103 (all_certk_1 r d q) (fun w h => ⟨his.ext h rfl, h.keeps.cell sP hq⟩) ?_
   refine Tr.nil (Aa ?_)
   first
    | refine Sat.condP rfl (fun hc1 => ?_) (fun hc1 => ?_)
    | refine Sat.condNP rfl (fun hc1 => ?_) (fun hc1 => ?_)
    | refine Sat.cond rfl (fun hc1 => ?_) (fun hc1 => ?_)
   ·
    refine Sat.seq (Sat.region ?_)
    refine Tr.m rfl rfl rfl ?_
    refine Tr.a rfl rfl rfl ?_
    refine Tr.nil (Aa (Sat.ret (B8 (Ao (Ao (B8 (Ao (Ak ?_))))))))
    refine ⟨_, [], Ae rfl rfl, sP, sP, ?_, rfl⟩
    first
     | exact congrArg i64 (fstBad_none (by intro j hj; exact hg j (by rw [hs.nd] at hj; exact hj))).symm
     | exact congrArg i64 (fstBad_at hg (by rw [List.getElem?_map, hd]; simpa using hc1)).symm
   ·
    refine Sat.skip (Bs (Aa (Sat.region ?_)))
    refine Tr.aI rfl rfl rfl rfl oM ?_
    refine Tr.m rfl rfl rfl ?_
    refine Tr.nil (Aa ?_)
    exact ⟨k + 1, ⟨by omega, fun j hj => by rcases Nat.lt_succ_iff_lt_or_eq.1 hj with h | rfl; exact hg j h; rw [List.getElem?_map, hd]; simpa using hc1⟩, by omega, Ap (wk1 rfl (wk1 rfl (wk1 rfl (wk1 rfl wk0)))) wh0 nD⟩
  ·
   obtain rfl : k = s.n := by omega
   refine Sat.exit (A7 (A7 (bl_h (Aa (Sat.seq (Sat.region ?_))))))
   refine Tr.a rfl rfl rfl ?_
   refine Tr.nil (Aa (Sat.ret (Ak ?_)))
   refine ⟨_, [], Ae rfl rfl, sP, sP, ?_, rfl⟩
   first
    | exact congrArg i64 (fstBad_none (by intro j hj; exact hg j (by rw [hs.nd] at hj; exact hj))).symm
    | exact congrArg i64 (fstBad_at hg (by rw [List.getElem?_map, hd]; simpa using hc1)).symm

theorem contains_certk (s : Sl) (ds : List DCert) (q : Nat) : Meets Tryz.prog 102 [s.v, .func (.func 103) #[] #[ptr q 0]] [] (fun W => CertsAt W s ds ∧ W.cell? ⟨q, 0, none⟩ = some (.func (.func 50) #[] #[])) (fun v out => v = .bool (ds.any (fun d : DCert => !decide (d.check = 0))) ∧ out = []) := by
 intro W hW
 refine Ai Tryz.func102 rfl 9 Tryz.ntmps102 rfl ?_
 refine Sat.seq (Sat.region ?_)
 refine Tr.a rfl rfl rfl ?_
 refine Tr.nil (Aa (Sat.seq (Sat.region ?_)))
 refine Tr.m rfl rfl rfl ?_
 refine Tr.m rfl rfl rfl ?_
 refine Tr.cV rfl rfl rfl rfl Body134 (index_certk s ds q) (fun w h => ⟨Bt h rfl hW.1, h.keeps.cell sP hW.2⟩) ?_
 refine Tr.geq rfl rfl rfl rfl rfl ?_
 refine Tr.a rfl rfl rfl ?_
 refine Tr.nil (Aa (Sat.ret (Ak ?_)))
 refine ⟨_, [], Ae rfl rfl, sP, sP, ?_, rfl⟩
 exact congrArg Value.bool (fstBad_ge _ _)

theorem all_certk (s : Sl) (ds : List DCert) : Meets Tryz.prog 49 [s.v, .func (.func 50) #[] #[]] [] (fun W => CertsAt W s ds) (fun v out => v = .bool (ds.all fun d => decide (d.check = 0)) ∧ out = []) := by
 intro W hW
 refine Ai Tryz.func49 rfl 9 Tryz.ntmps49 rfl ?_
 refine Sat.seq (Sat.region ?_)
 refine Tr.box1 rfl rfl rfl ?_
 intro n3 hn3 hf3
 refine Tr.a rfl rfl rfl ?_
 refine Tr.nil (Aa (Sat.seq (Sat.region ?_)))
 refine Tr.m rfl rfl rfl ?_
 refine Tr.makeFunc rfl rfl rfl rfl ?_
 refine Tr.cV rfl rfl rfl rfl Body102 (contains_certk s ds n3) (fun w h => ⟨Bt h rfl hW, (An h mM).cell (o := 0) rfl⟩) ?_
 refine Tr.not rfl rfl rfl ?_
 refine Tr.a rfl rfl rfl ?_
 refine Tr.nil (Aa (Sat.ret (Ak ?_)))
 refine ⟨_, [], Ae rfl rfl, sP, sP, ?_, rfl⟩
 exact congrArg Value.bool (any_all _ _)

theorem all_votek_1 (x : Vote) (d : Vote) (q : Nat) : Meets Tryz.prog 107 [agg x.cells, ptr q 0] [] (fun W => VoteIs W x d ∧ W.cell? ⟨q, 0, none⟩ = some (.func (.func 52) #[] #[])) (fun v out => v = .bool (!decide (Bp d = 0)) ∧ out = []) := by
 intro W hW
 refine Ai Tryz.func107 rfl 8 Tryz.ntmps107 rfl ?_
 refine Sat.seq (Sat.region ?_)
 refine Tr.boxA rfl rfl ?_
 intro n2 hn2 hf2
 refine Tr.a rfl rfl rfl ?_
 refine Tr.nil (Aa (Sat.seq (Sat.region ?_)))
 refine Tr.loadE rfl rfl rfl Tryz.underlying102 rfl (by first | (simp; done) | (simp; exact hW.2.2) | (simp [Cx.with]; done) | (simp [Cx.with]; omega)) (hW.2) ?_
 refine Tr.lA rfl rfl rfl U29 rfl Bw mM (Vote.length (by first | exact oK  | exact hW.1.ok)) ?_
 refine Tr.cV rfl rfl rfl rfl Body52 ((vote_check x hW.1.ok).imp (fun w h => trivial) (fun v out h => by rwa [hW.1.eq] at h)) (fun w h => hW.1.ext h rfl) ?_
 refine Tr.nei rfl rfl rfl rfl rfl ?_
 refine Tr.a rfl rfl rfl ?_
 refine Tr.nil (Aa (Sat.ret (Ak ?_)))
 refine ⟨_, [], Ae rfl rfl, sP, sP, ?_, rfl⟩
 first
  | rfl
  | simp

theorem index_votek (s : Sl) (ds : List Vote) (q : Nat) : Meets Tryz.prog 137 [s.v, .func (.func 107) #[] #[ptr q 0]] [] (fun W => VotesAt W s ds ∧ W.cell? ⟨q, 0, none⟩ = some (.func (.func 52) #[] #[])) (fun v out => v = i64 (fstBad (fun d : Vote => !decide (Bp d = 0)) ds) ∧ out = []) := by
 intro W hW
 obtain ⟨⟨rs, hs⟩, hq⟩ := hW
 have hmax := hs.max
 simp only [maxLen] at hmax
 have hcap := hs.cap
 refine Ai Tryz.func137 rfl 19 Tryz.ntmps137 rfl ?_
 refine Sat.seq (Sat.region ?_)
 refine Tr.a rfl rfl rfl ?_
 refine Tr.nil (Aa (Sat.seq (Sat.seq (Sat.region ?_))))
 refine Tr.m rfl rfl rfl ?_
 refine Tr.lenSl rfl rfl rfl U42 ?_
 refine Tr.m rfl rfl rfl ?_
 refine Tr.nil (Aa (Sat.block ?_))
 refine Sat.loop (ι := Nat) (fun k => ⟨[(0, s.v), (1, .func (.func 107) #[] #[ptr q 0]), (7, i64 (s.n : Int)), (8, i64 (k : Int))], []⟩) (fun k => k ≤ s.n ∧ ∀ j, j < k → (ds.map (fun d : Vote => !decide (Bp d = 0)))[j]? = some false) (fun k => s.n - k) (0) ?_ ?_ ?_
 · exact ⟨by omega, fun j hj => by omega⟩
 · exact Ap (wk1 rfl (wk1 rfl (wk1 rfl (wk1 rfl wk0)))) wh0 nD
 ·
  rintro k ⟨hk, hg⟩
  refine Sat.seq (Sat.region ?_)
  refine Tr.lss rfl rfl rfl rfl rfl ?_
  refine Tr.nil (Aa (Sat.seq ?_))
  first
   | refine Sat.condP rfl (fun hc0 => ?_) (fun hc0 => ?_)
   | refine Sat.condNP rfl (fun hc0 => ?_) (fun hc0 => ?_)
   | refine Sat.cond rfl (fun hc0 => ?_) (fun hc0 => ?_)
  ·
   have hk2 : k < s.n := by omega
   obtain ⟨b, o, r, d, hsp, hr, hd, his, hlen, hsee⟩ := hs.at dE hk2
   refine Sat.skip (Aa (Sat.seq (Sat.block (Sat.seq (Sat.region ?_)))))
   refine Tr.m rfl rfl rfl ?_
   refine Tr.a rfl rfl rfl ?_
   refine Tr.nil (Aa (Sat.seq (Sat.region ?_)))
   refine Tr.m rfl rfl rfl ?_
   refine Tr.m rfl rfl rfl ?_
   refine Tr.m rfl rfl rfl ?_
   refine Tr.idxSlP 132 rfl rfl rfl hsp rfl U42 Bw k oM oM ?_
   refine Tr.loadEN r.cells rfl rfl rfl U29 rfl Bw sP hlen hsee ?_
   refine Tr.callCV rfl rfl rfl rfl rfl Body107 (all_votek_1 r d q) (fun w h => ⟨his.ext h rfl, h.keeps.cell sP hq⟩) ?_
   refine Tr.nil (Aa ?_)
   first
    | refine Sat.condP rfl (fun hc1 => ?_) (fun hc1 => ?_)
    | refine Sat.condNP rfl (fun hc1 => ?_) (fun hc1 => ?_)
    | refine Sat.cond rfl (fun hc1 => ?_) (fun hc1 => ?_)
   ·
    refine Sat.seq (Sat.region ?_)
    refine Tr.m rfl rfl rfl ?_
    refine Tr.a rfl rfl rfl ?_
    refine Tr.nil (Aa (Sat.ret (B8 (Ao (Ao (B8 (Ao (Ak ?_))))))))
    refine ⟨_, [], Ae rfl rfl, sP, sP, ?_, rfl⟩
    first
     | exact congrArg i64 (fstBad_none (by intro j hj; exact hg j (by rw [hs.nd] at hj; exact hj))).symm
     | exact congrArg i64 (fstBad_at hg (by rw [List.getElem?_map, hd]; simpa using hc1)).symm
   ·
    refine Sat.skip (Bs (Aa (Sat.region ?_)))
    refine Tr.aI rfl rfl rfl rfl oM ?_
    refine Tr.m rfl rfl rfl ?_
    refine Tr.nil (Aa ?_)
    exact ⟨k + 1, ⟨by omega, fun j hj => by rcases Nat.lt_succ_iff_lt_or_eq.1 hj with h | rfl; exact hg j h; rw [List.getElem?_map, hd]; simpa using hc1⟩, by omega, Ap (wk1 rfl (wk1 rfl (wk1 rfl (wk1 rfl wk0)))) wh0 nD⟩
  ·
   obtain rfl : k = s.n := by omega
   refine Sat.exit (A7 (A7 (bl_h (Aa (Sat.seq (Sat.region ?_))))))
   refine Tr.a rfl rfl rfl ?_
   refine Tr.nil (Aa (Sat.ret (Ak ?_)))
   refine ⟨_, [], Ae rfl rfl, sP, sP, ?_, rfl⟩
   first
    | exact congrArg i64 (fstBad_none (by intro j hj; exact hg j (by rw [hs.nd] at hj; exact hj))).symm
    | exact congrArg i64 (fstBad_at hg (by rw [List.getElem?_map, hd]; simpa using hc1)).symm

theorem contains_votek (s : Sl) (ds : List Vote) (q : Nat) : Meets Tryz.prog 106 [s.v, .func (.func 107) #[] #[ptr q 0]] [] (fun W => VotesAt W s ds ∧ W.cell? ⟨q, 0, none⟩ = some (.func (.func 52) #[] #[])) (fun v out => v = .bool (ds.any (fun d : Vote => !decide (Bp d = 0))) ∧ out = []) := by
 intro W hW
 refine Ai Tryz.func106 rfl 9 Tryz.ntmps106 rfl ?_
 refine Sat.seq (Sat.region ?_)
 refine Tr.a rfl rfl rfl ?_
 refine Tr.nil (Aa (Sat.seq (Sat.region ?_)))
 refine Tr.m rfl rfl rfl ?_
 refine Tr.m rfl rfl rfl ?_
 refine Tr.cV rfl rfl rfl rfl Body137 (index_votek s ds q) (fun w h => ⟨Votes_ext h rfl hW.1, h.keeps.cell sP hW.2⟩) ?_
 refine Tr.geq rfl rfl rfl rfl rfl ?_
 refine Tr.a rfl rfl rfl ?_
 refine Tr.nil (Aa (Sat.ret (Ak ?_)))
 refine ⟨_, [], Ae rfl rfl, sP, sP, ?_, rfl⟩
 exact congrArg Value.bool (fstBad_ge _ _)

theorem all_votek (s : Sl) (ds : List Vote) : Meets Tryz.prog 51 [s.v, .func (.func 52) #[] #[]] [] (fun W => VotesAt W s ds) (fun v out => v = .bool (ds.all fun d => decide (Bp d = 0)) ∧ out = []) := by
 intro W hW
 refine Ai Tryz.func51 rfl 9 Tryz.ntmps51 rfl ?_
 refine Sat.seq (Sat.region ?_)
 refine Tr.box1 rfl rfl rfl ?_
 intro n3 hn3 hf3
 refine Tr.a rfl rfl rfl ?_
 refine Tr.nil (Aa (Sat.seq (Sat.region ?_)))
 refine Tr.m rfl rfl rfl ?_
 refine Tr.makeFunc rfl rfl rfl rfl ?_
 refine Tr.cV rfl rfl rfl rfl Body106 (contains_votek s ds n3) (fun w h => ⟨Votes_ext h rfl hW, (An h mM).cell (o := 0) rfl⟩) ?_
 refine Tr.not rfl rfl rfl ?_
 refine Tr.a rfl rfl rfl ?_
 refine Tr.nil (Aa (Sat.ret (Ak ?_)))
 refine ⟨_, [], Ae rfl rfl, sP, sP, ?_, rfl⟩
 exact congrArg Value.bool (any_all _ _)

theorem all_cutk_1 (x : Cut) (d : DCut) (q : Nat) : Meets Tryz.prog 109 [agg x.cells, ptr q 0] [] (fun W => CutIs W x d ∧ W.cell? ⟨q, 0, none⟩ = some (.func (.func 54) #[] #[])) (fun v out => v = .bool (!decide (d.check = 0)) ∧ out = []) := by
 intro W hW
 refine Ai Tryz.func109 rfl 8 Tryz.ntmps109 rfl ?_
 refine Sat.seq (Sat.region ?_)
 refine Tr.boxA rfl rfl ?_
 intro n2 hn2 hf2
 refine Tr.a rfl rfl rfl ?_
 refine Tr.nil (Aa (Sat.seq (Sat.region ?_)))
 refine Tr.loadE rfl rfl rfl Tryz.underlying104 rfl (by first | (simp; done) | (simp; exact hW.2.2) | (simp [Cx.with]; done) | (simp [Cx.with]; omega)) (hW.2) ?_
 refine Tr.lA rfl rfl rfl U39 rfl B0 mM (Cut.length (by first | exact oK  | exact hW.1.ok)) ?_
 refine Tr.cV rfl rfl rfl rfl Body54 (cut_check x d) (fun w h => hW.1.ext h rfl) ?_
 refine Tr.nei rfl rfl rfl rfl rfl ?_
 refine Tr.a rfl rfl rfl ?_
 refine Tr.nil (Aa (Sat.ret (Ak ?_)))
 refine ⟨_, [], Ae rfl rfl, sP, sP, ?_, rfl⟩
 first
  | rfl
  | simp

theorem index_cutk (s : Sl) (ds : List DCut) (q : Nat) : Meets Tryz.prog 138 [s.v, .func (.func 109) #[] #[ptr q 0]] [] (fun W => CutsAt W s ds ∧ W.cell? ⟨q, 0, none⟩ = some (.func (.func 54) #[] #[])) (fun v out => v = i64 (fstBad (fun d : DCut => !decide (d.check = 0)) ds) ∧ out = []) := by
 intro W hW
 obtain ⟨⟨rs, hs⟩, hq⟩ := hW
 have hmax := hs.max
 simp only [maxLen] at hmax
 have hcap := hs.cap
 refine Ai Tryz.func138 rfl 19 Tryz.ntmps138 rfl ?_
 refine Sat.seq (Sat.region ?_)
 refine Tr.a rfl rfl rfl ?_
 refine Tr.nil (Aa (Sat.seq (Sat.seq (Sat.region ?_))))
 refine Tr.m rfl rfl rfl ?_
 refine Tr.lenSl rfl rfl rfl U43 ?_
 refine Tr.m rfl rfl rfl ?_
 refine Tr.nil (Aa (Sat.block ?_))
 refine Sat.loop (ι := Nat) (fun k => ⟨[(0, s.v), (1, .func (.func 109) #[] #[ptr q 0]), (7, i64 (s.n : Int)), (8, i64 (k : Int))], []⟩) (fun k => k ≤ s.n ∧ ∀ j, j < k → (ds.map (fun d : DCut => !decide (d.check = 0)))[j]? = some false) (fun k => s.n - k) (0) ?_ ?_ ?_
 · exact ⟨by omega, fun j hj => by omega⟩
 · exact Ap (wk1 rfl (wk1 rfl (wk1 rfl (wk1 rfl wk0)))) wh0 nD
 ·
  rintro k ⟨hk, hg⟩
  refine Sat.seq (Sat.region ?_)
  refine Tr.lss rfl rfl rfl rfl rfl ?_
  refine Tr.nil (Aa (Sat.seq ?_))
  first
   | refine Sat.condP rfl (fun hc0 => ?_) (fun hc0 => ?_)
   | refine Sat.condNP rfl (fun hc0 => ?_) (fun hc0 => ?_)
   | refine Sat.cond rfl (fun hc0 => ?_) (fun hc0 => ?_)
  ·
   have hk2 : k < s.n := by omega
   obtain ⟨b, o, r, d, hsp, hr, hd, his, hlen, hsee⟩ := hs.at dE hk2
   refine Sat.skip (Aa (Sat.seq (Sat.block (Sat.seq (Sat.region ?_)))))
   refine Tr.m rfl rfl rfl ?_
   refine Tr.a rfl rfl rfl ?_
   refine Tr.nil (Aa (Sat.seq (Sat.region ?_)))
   refine Tr.m rfl rfl rfl ?_
   refine Tr.m rfl rfl rfl ?_
   refine Tr.m rfl rfl rfl ?_
   refine Tr.idxSlP 34 rfl rfl rfl hsp rfl U43 B0 k oM oM ?_
   refine Tr.loadEN r.cells rfl rfl rfl U39 rfl B0 sP hlen hsee ?_
   refine Tr.callCV rfl rfl rfl rfl rfl Body109 (all_cutk_1 r d q) (fun w h => ⟨his.ext h rfl, h.keeps.cell sP hq⟩) ?_
   refine Tr.nil (Aa ?_)
   first
    | refine Sat.condP rfl (fun hc1 => ?_) (fun hc1 => ?_)
    | refine Sat.condNP rfl (fun hc1 => ?_) (fun hc1 => ?_)
    | refine Sat.cond rfl (fun hc1 => ?_) (fun hc1 => ?_)
   ·
    refine Sat.seq (Sat.region ?_)
    refine Tr.m rfl rfl rfl ?_
    refine Tr.a rfl rfl rfl ?_
    refine Tr.nil (Aa (Sat.ret (B8 (Ao (Ao (B8 (Ao (Ak ?_))))))))
    refine ⟨_, [], Ae rfl rfl, sP, sP, ?_, rfl⟩
    first
     | exact congrArg i64 (fstBad_none (by intro j hj; exact hg j (by rw [hs.nd] at hj; exact hj))).symm
     | exact congrArg i64 (fstBad_at hg (by rw [List.getElem?_map, hd]; simpa using hc1)).symm
   ·
    refine Sat.skip (Bs (Aa (Sat.region ?_)))
    refine Tr.aI rfl rfl rfl rfl oM ?_
    refine Tr.m rfl rfl rfl ?_
    refine Tr.nil (Aa ?_)
    exact ⟨k + 1, ⟨by omega, fun j hj => by rcases Nat.lt_succ_iff_lt_or_eq.1 hj with h | rfl; exact hg j h; rw [List.getElem?_map, hd]; simpa using hc1⟩, by omega, Ap (wk1 rfl (wk1 rfl (wk1 rfl (wk1 rfl wk0)))) wh0 nD⟩
  ·
   obtain rfl : k = s.n := by omega
   refine Sat.exit (A7 (A7 (bl_h (Aa (Sat.seq (Sat.region ?_))))))
   refine Tr.a rfl rfl rfl ?_
   refine Tr.nil (Aa (Sat.ret (Ak ?_)))
   refine ⟨_, [], Ae rfl rfl, sP, sP, ?_, rfl⟩
   first
    | exact congrArg i64 (fstBad_none (by intro j hj; exact hg j (by rw [hs.nd] at hj; exact hj))).symm
    | exact congrArg i64 (fstBad_at hg (by rw [List.getElem?_map, hd]; simpa using hc1)).symm

theorem contains_cutk (s : Sl) (ds : List DCut) (q : Nat) : Meets Tryz.prog 108 [s.v, .func (.func 109) #[] #[ptr q 0]] [] (fun W => CutsAt W s ds ∧ W.cell? ⟨q, 0, none⟩ = some (.func (.func 54) #[] #[])) (fun v out => v = .bool (ds.any (fun d : DCut => !decide (d.check = 0))) ∧ out = []) := by
 intro W hW
 refine Ai Tryz.func108 rfl 9 Tryz.ntmps108 rfl ?_
 refine Sat.seq (Sat.region ?_)
 refine Tr.a rfl rfl rfl ?_
 refine Tr.nil (Aa (Sat.seq (Sat.region ?_)))
 refine Tr.m rfl rfl rfl ?_
 refine Tr.m rfl rfl rfl ?_
 refine Tr.cV rfl rfl rfl rfl Body138 (index_cutk s ds q) (fun w h => ⟨Cuts_ext h rfl hW.1, h.keeps.cell sP hW.2⟩) ?_
 refine Tr.geq rfl rfl rfl rfl rfl ?_
 refine Tr.a rfl rfl rfl ?_
 refine Tr.nil (Aa (Sat.ret (Ak ?_)))
 refine ⟨_, [], Ae rfl rfl, sP, sP, ?_, rfl⟩
 exact congrArg Value.bool (fstBad_ge _ _)

theorem all_cutk (s : Sl) (ds : List DCut) : Meets Tryz.prog 53 [s.v, .func (.func 54) #[] #[]] [] (fun W => CutsAt W s ds) (fun v out => v = .bool (ds.all fun d => decide (d.check = 0)) ∧ out = []) := by
 intro W hW
 refine Ai Tryz.func53 rfl 9 Tryz.ntmps53 rfl ?_
 refine Sat.seq (Sat.region ?_)
 refine Tr.box1 rfl rfl rfl ?_
 intro n3 hn3 hf3
 refine Tr.a rfl rfl rfl ?_
 refine Tr.nil (Aa (Sat.seq (Sat.region ?_)))
 refine Tr.m rfl rfl rfl ?_
 refine Tr.makeFunc rfl rfl rfl rfl ?_
 refine Tr.cV rfl rfl rfl rfl Body108 (contains_cutk s ds n3) (fun w h => ⟨Cuts_ext h rfl hW, (An h mM).cell (o := 0) rfl⟩) ?_
 refine Tr.not rfl rfl rfl ?_
 refine Tr.a rfl rfl rfl ?_
 refine Tr.nil (Aa (Sat.ret (Ak ?_)))
 refine ⟨_, [], Ae rfl rfl, sP, sP, ?_, rfl⟩
 exact congrArg Value.bool (any_all _ _)

noncomputable def DKept.good (D : DKept) : Bool := (D.dBlocks.all fun d => decide (d.check = 0)) && ((D.dCerts.all fun d => decide (d.check = 0)) && ((D.dVotes.all fun d => decide (Bp d = 0)) && ((D.dCuts.all fun d => decide (d.check = 0)) && inOrd D.dCerts)))
noncomputable def DKept.check (D : DKept) : Int := if D.good = true then 0 else 2

theorem keep_check (X : Kept) (D : DKept) : Meets Tryz.prog 14 [agg X.cells] [] (fun W => KeptIs W X D) (fun v out => v = i64 D.check ∧ out = []) := by
 intro W hW
 have hok := hW.ok
 refine Ai Tryz.func14 rfl 31 Tryz.ntmps14 rfl ?_
 refine Sat.seq (Sat.region ?_)
 refine Tr.boxA rfl rfl ?_
 intro n1 hn1 hf1
 refine Tr.a rfl rfl rfl ?_
 refine Tr.nil (Aa (Sat.seq (Sat.seq (Sat.region ?_))))
 refine Tr.fld rfl rfl rfl U45 rfl Sz40 dE _ rfl ?_
 refine Tr.load1 rfl rfl rfl U40 rfl mM (by first | exact Kept.get_fBlocks (by first | exact oK  | exact hok) | exact vL) ?_
 refine Tr.callB rfl rfl rfl rfl Body47 (all_blockk X.fBlocks D.dBlocks) (fun w h => Bk h rfl hW.fBlocks) (fun hs1_20 => ?_) (fun hs1_20 => ?_)
 ·
  first | have hs1_2 := of_decide_eq_true hs1_20 | have hs1_2 := of_decide_eq_false hs1_20 | have hs1_2 := Bg hs1_20 | have hs1_2 := Bh hs1_20 | have hs1_2 := hs1_20
  refine Tr.not rfl rfl rfl ?_
  refine Tr.m rfl rfl rfl ?_
  refine Tr.fld rfl rfl rfl U45 rfl Sz41 dE _ rfl ?_
  refine Tr.load1 rfl rfl rfl U41 rfl mM (by first | exact Kept.get_fCerts (by first | exact oK  | exact hok) | exact vL) ?_
  refine Tr.callB rfl rfl rfl rfl Body49 (all_certk X.fCerts D.dCerts) (fun w h => Bt h rfl hW.fCerts) (fun hs1_70 => ?_) (fun hs1_70 => ?_)
  ·
   first | have hs1_7 := of_decide_eq_true hs1_70 | have hs1_7 := of_decide_eq_false hs1_70 | have hs1_7 := Bg hs1_70 | have hs1_7 := Bh hs1_70 | have hs1_7 := hs1_70
   refine Tr.not rfl rfl rfl ?_
   refine Tr.pick rfl rfl rfl rfl rfl rfl ?_
   refine Tr.m rfl rfl rfl ?_
   refine Tr.fld rfl rfl rfl U45 rfl Sz42 dE _ rfl ?_
   refine Tr.load1 rfl rfl rfl U42 rfl mM (by first | exact Kept.get_fVotes (by first | exact oK  | exact hok) | exact vL) ?_
   refine Tr.callB rfl rfl rfl rfl Body51 (all_votek X.fVotes D.dVotes) (fun w h => Votes_ext h rfl hW.fVotes) (fun hs1_130 => ?_) (fun hs1_130 => ?_)
   ·
    first | have hs1_13 := of_decide_eq_true hs1_130 | have hs1_13 := of_decide_eq_false hs1_130 | have hs1_13 := Bg hs1_130 | have hs1_13 := Bh hs1_130 | have hs1_13 := hs1_130
    refine Tr.not rfl rfl rfl ?_
    refine Tr.pick rfl rfl rfl rfl rfl rfl ?_
    refine Tr.m rfl rfl rfl ?_
    refine Tr.fld rfl rfl rfl U45 rfl Sz43 dE _ rfl ?_
    refine Tr.load1 rfl rfl rfl U43 rfl mM (by first | exact Kept.get_fCuts (by first | exact oK  | exact hok) | exact vL) ?_
    refine Tr.callB rfl rfl rfl rfl Body53 (all_cutk X.fCuts D.dCuts) (fun w h => Cuts_ext h rfl hW.fCuts) (fun hs1_190 => ?_) (fun hs1_190 => ?_)
    ·
     first | have hs1_19 := of_decide_eq_true hs1_190 | have hs1_19 := of_decide_eq_false hs1_190 | have hs1_19 := Bg hs1_190 | have hs1_19 := Bh hs1_190 | have hs1_19 := hs1_190
     refine Tr.not rfl rfl rfl ?_
     refine Tr.pick rfl rfl rfl rfl rfl rfl ?_
     refine Tr.m rfl rfl rfl ?_
     refine Tr.fld rfl rfl rfl U45 rfl Sz41 dE _ rfl ?_
     refine Tr.load1 rfl rfl rfl U41 rfl mM (by first | exact Kept.get_fCerts (by first | exact oK  | exact hok) | exact vL) ?_
     refine Tr.cV rfl rfl rfl rfl Body39 (in_order X.fCerts D.dCerts) (fun w h => Bt h rfl hW.fCerts) ?_
     refine Tr.not rfl rfl rfl ?_
     refine Tr.pick rfl rfl rfl rfl rfl rfl ?_
     refine Tr.nil (Aa ?_)
     first
      | refine Sat.condP rfl (fun hc0 => ?_) (fun hc0 => ?_)
      | refine Sat.condNP rfl (fun hc0 => ?_) (fun hc0 => ?_)
      | refine Sat.cond rfl (fun hc0 => ?_) (fun hc0 => ?_)
     ·
      refine Sat.seq (Sat.region ?_)
      refine Tr.a rfl rfl rfl ?_
      refine Tr.nil (Aa (Sat.ret (Ao (Ak ?_))))
      refine ⟨_, [], Ae rfl rfl, sP, sP, ?_, rfl⟩
      first
       | (simp only [DKept.check, DKept.good, hs1_2, hs1_7, hs1_13, hs1_19, Bool.and_true, Bool.and_false, Bool.true_and, Bool.false_and, Bool.false_eq_true, if_true, if_false]; done)
       | (simp only [DKept.check, DKept.good, hs1_2, hs1_7, hs1_13, Bool.and_true, Bool.and_false, Bool.true_and, Bool.false_and, Bool.false_eq_true, if_true, if_false]; done)
       | (simp only [DKept.check, DKept.good, hs1_2, hs1_7, Bool.and_true, Bool.and_false, Bool.true_and, Bool.false_and, Bool.false_eq_true, if_true, if_false]; done)
       | (simp only [DKept.check, DKept.good, hs1_2, Bool.and_true, Bool.and_false, Bool.true_and, Bool.false_and, Bool.false_eq_true, if_true, if_false]; done)
       | simp_all [DKept.check, DKept.good]
     ·
      refine Sat.skip (Aa (Sat.seq (Sat.region ?_)))
      refine Tr.a rfl rfl rfl ?_
      refine Tr.nil (Aa (Sat.ret (Ak ?_)))
      refine ⟨_, [], Ae rfl rfl, sP, sP, ?_, rfl⟩
      first
       | (simp only [DKept.check, DKept.good, hs1_2, hs1_7, hs1_13, hs1_19, Bool.and_true, Bool.and_false, Bool.true_and, Bool.false_and, Bool.false_eq_true, if_true, if_false]; done)
       | (simp only [DKept.check, DKept.good, hs1_2, hs1_7, hs1_13, Bool.and_true, Bool.and_false, Bool.true_and, Bool.false_and, Bool.false_eq_true, if_true, if_false]; done)
       | (simp only [DKept.check, DKept.good, hs1_2, hs1_7, Bool.and_true, Bool.and_false, Bool.true_and, Bool.false_and, Bool.false_eq_true, if_true, if_false]; done)
       | (simp only [DKept.check, DKept.good, hs1_2, Bool.and_true, Bool.and_false, Bool.true_and, Bool.false_and, Bool.false_eq_true, if_true, if_false]; done)
       | simp_all [DKept.check, DKept.good]
    ·
     first | have hs1_19 := of_decide_eq_true hs1_190 | have hs1_19 := of_decide_eq_false hs1_190 | have hs1_19 := Bg hs1_190 | have hs1_19 := Bh hs1_190 | have hs1_19 := hs1_190
     refine Tr.not rfl rfl rfl ?_
     refine Tr.pick rfl rfl rfl rfl rfl rfl ?_
     refine Tr.m rfl rfl rfl ?_
     refine Tr.skp rfl rfl ?_
     refine Tr.skp rfl rfl ?_
     refine Tr.skp rfl rfl ?_
     refine Tr.skp rfl rfl ?_
     refine Tr.pick rfl rfl rfl rfl rfl rfl ?_
     refine Tr.nil (Aa ?_)
     refine Sat.cond_t rfl rfl ?_
     refine Sat.seq (Sat.region ?_)
     refine Tr.a rfl rfl rfl ?_
     refine Tr.nil (Aa (Sat.ret (Ao (Ak ?_))))
     refine ⟨_, [], Ae rfl rfl, sP, sP, ?_, rfl⟩
     first
      | (simp only [DKept.check, DKept.good, hs1_2, hs1_7, hs1_13, hs1_19, Bool.and_true, Bool.and_false, Bool.true_and, Bool.false_and, Bool.false_eq_true, if_true, if_false]; done)
      | (simp only [DKept.check, DKept.good, hs1_2, hs1_7, hs1_13, Bool.and_true, Bool.and_false, Bool.true_and, Bool.false_and, Bool.false_eq_true, if_true, if_false]; done)
      | (simp only [DKept.check, DKept.good, hs1_2, hs1_7, Bool.and_true, Bool.and_false, Bool.true_and, Bool.false_and, Bool.false_eq_true, if_true, if_false]; done)
      | (simp only [DKept.check, DKept.good, hs1_2, Bool.and_true, Bool.and_false, Bool.true_and, Bool.false_and, Bool.false_eq_true, if_true, if_false]; done)
      | simp_all [DKept.check, DKept.good]
   ·
    first | have hs1_13 := of_decide_eq_true hs1_130 | have hs1_13 := of_decide_eq_false hs1_130 | have hs1_13 := Bg hs1_130 | have hs1_13 := Bh hs1_130 | have hs1_13 := hs1_130
    refine Tr.not rfl rfl rfl ?_
    refine Tr.pick rfl rfl rfl rfl rfl rfl ?_
    refine Tr.m rfl rfl rfl ?_
    refine Tr.skp rfl rfl ?_
    refine Tr.skp rfl rfl ?_
    refine Tr.skp rfl rfl ?_
    refine Tr.skp rfl rfl ?_
    refine Tr.pick rfl rfl rfl rfl rfl rfl ?_
    refine Tr.m rfl rfl rfl ?_
    refine Tr.skp rfl rfl ?_
    refine Tr.skp rfl rfl ?_
    refine Tr.skp rfl rfl ?_
    refine Tr.skp rfl rfl ?_
    refine Tr.pick rfl rfl rfl rfl rfl rfl ?_
    refine Tr.nil (Aa ?_)
    refine Sat.cond_t rfl rfl ?_
    refine Sat.seq (Sat.region ?_)
    refine Tr.a rfl rfl rfl ?_
    refine Tr.nil (Aa (Sat.ret (Ao (Ak ?_))))
    refine ⟨_, [], Ae rfl rfl, sP, sP, ?_, rfl⟩
    first
     | (simp only [DKept.check, DKept.good, hs1_2, hs1_7, hs1_13, hs1_19, Bool.and_true, Bool.and_false, Bool.true_and, Bool.false_and, Bool.false_eq_true, if_true, if_false]; done)
     | (simp only [DKept.check, DKept.good, hs1_2, hs1_7, hs1_13, Bool.and_true, Bool.and_false, Bool.true_and, Bool.false_and, Bool.false_eq_true, if_true, if_false]; done)
     | (simp only [DKept.check, DKept.good, hs1_2, hs1_7, Bool.and_true, Bool.and_false, Bool.true_and, Bool.false_and, Bool.false_eq_true, if_true, if_false]; done)
     | (simp only [DKept.check, DKept.good, hs1_2, Bool.and_true, Bool.and_false, Bool.true_and, Bool.false_and, Bool.false_eq_true, if_true, if_false]; done)
     | simp_all [DKept.check, DKept.good]
  ·
   first | have hs1_7 := of_decide_eq_true hs1_70 | have hs1_7 := of_decide_eq_false hs1_70 | have hs1_7 := Bg hs1_70 | have hs1_7 := Bh hs1_70 | have hs1_7 := hs1_70
   refine Tr.not rfl rfl rfl ?_
   refine Tr.pick rfl rfl rfl rfl rfl rfl ?_
   refine Tr.m rfl rfl rfl ?_
   refine Tr.skp rfl rfl ?_
   refine Tr.skp rfl rfl ?_
   refine Tr.skp rfl rfl ?_
   refine Tr.skp rfl rfl ?_
   refine Tr.pick rfl rfl rfl rfl rfl rfl ?_
   refine Tr.m rfl rfl rfl ?_
   refine Tr.skp rfl rfl ?_
   refine Tr.skp rfl rfl ?_
   refine Tr.skp rfl rfl ?_
   refine Tr.skp rfl rfl ?_
   refine Tr.pick rfl rfl rfl rfl rfl rfl ?_
   refine Tr.m rfl rfl rfl ?_
   refine Tr.skp rfl rfl ?_
   refine Tr.skp rfl rfl ?_
   refine Tr.skp rfl rfl ?_
   refine Tr.skp rfl rfl ?_
   refine Tr.pick rfl rfl rfl rfl rfl rfl ?_
   refine Tr.nil (Aa ?_)
   refine Sat.cond_t rfl rfl ?_
   refine Sat.seq (Sat.region ?_)
   refine Tr.a rfl rfl rfl ?_
   refine Tr.nil (Aa (Sat.ret (Ao (Ak ?_))))
   refine ⟨_, [], Ae rfl rfl, sP, sP, ?_, rfl⟩
   first
    | (simp only [DKept.check, DKept.good, hs1_2, hs1_7, hs1_13, hs1_19, Bool.and_true, Bool.and_false, Bool.true_and, Bool.false_and, Bool.false_eq_true, if_true, if_false]; done)
    | (simp only [DKept.check, DKept.good, hs1_2, hs1_7, hs1_13, Bool.and_true, Bool.and_false, Bool.true_and, Bool.false_and, Bool.false_eq_true, if_true, if_false]; done)
    | (simp only [DKept.check, DKept.good, hs1_2, hs1_7, Bool.and_true, Bool.and_false, Bool.true_and, Bool.false_and, Bool.false_eq_true, if_true, if_false]; done)
    | (simp only [DKept.check, DKept.good, hs1_2, Bool.and_true, Bool.and_false, Bool.true_and, Bool.false_and, Bool.false_eq_true, if_true, if_false]; done)
    | simp_all [DKept.check, DKept.good]
 ·
  first | have hs1_2 := of_decide_eq_true hs1_20 | have hs1_2 := of_decide_eq_false hs1_20 | have hs1_2 := Bg hs1_20 | have hs1_2 := Bh hs1_20 | have hs1_2 := hs1_20
  refine Tr.not rfl rfl rfl ?_
  refine Tr.m rfl rfl rfl ?_
  refine Tr.skp rfl rfl ?_
  refine Tr.skp rfl rfl ?_
  refine Tr.skp rfl rfl ?_
  refine Tr.skp rfl rfl ?_
  refine Tr.pick rfl rfl rfl rfl rfl rfl ?_
  refine Tr.m rfl rfl rfl ?_
  refine Tr.skp rfl rfl ?_
  refine Tr.skp rfl rfl ?_
  refine Tr.skp rfl rfl ?_
  refine Tr.skp rfl rfl ?_
  refine Tr.pick rfl rfl rfl rfl rfl rfl ?_
  refine Tr.m rfl rfl rfl ?_
  refine Tr.skp rfl rfl ?_
  refine Tr.skp rfl rfl ?_
  refine Tr.skp rfl rfl ?_
  refine Tr.skp rfl rfl ?_
  refine Tr.pick rfl rfl rfl rfl rfl rfl ?_
  refine Tr.m rfl rfl rfl ?_
  refine Tr.skp rfl rfl ?_
  refine Tr.skp rfl rfl ?_
  refine Tr.skp rfl rfl ?_
  refine Tr.skp rfl rfl ?_
  refine Tr.pick rfl rfl rfl rfl rfl rfl ?_
  refine Tr.nil (Aa ?_)
  refine Sat.cond_t rfl rfl ?_
  refine Sat.seq (Sat.region ?_)
  refine Tr.a rfl rfl rfl ?_
  refine Tr.nil (Aa (Sat.ret (Ao (Ak ?_))))
  refine ⟨_, [], Ae rfl rfl, sP, sP, ?_, rfl⟩
  first
   | (simp only [DKept.check, DKept.good, hs1_2, hs1_7, hs1_13, hs1_19, Bool.and_true, Bool.and_false, Bool.true_and, Bool.false_and, Bool.false_eq_true, if_true, if_false]; done)
   | (simp only [DKept.check, DKept.good, hs1_2, hs1_7, hs1_13, Bool.and_true, Bool.and_false, Bool.true_and, Bool.false_and, Bool.false_eq_true, if_true, if_false]; done)
   | (simp only [DKept.check, DKept.good, hs1_2, hs1_7, Bool.and_true, Bool.and_false, Bool.true_and, Bool.false_and, Bool.false_eq_true, if_true, if_false]; done)
   | (simp only [DKept.check, DKept.good, hs1_2, Bool.and_true, Bool.and_false, Bool.true_and, Bool.false_and, Bool.false_eq_true, if_true, if_false]; done)
   | simp_all [DKept.check, DKept.good]

end Go.Proofs.YtkfhpmidcbmofaaGreat
end

section
namespace Go.Proofs.YtkfhpmidcbmofaaGreat
open Go Hw

def LenR (k : Nat) (v : Value) (out : List Blk) : Prop := ∃ s : Sl, v = s.v ∧ s.n = k
theorem LenR.loose (k : Nat) : Loose (LenR k) := fun l hl => ⟨(⟨none, k, 0⟩ : Sl).v, [], ⟨_, rfl, rfl⟩, hl⟩
end Go.Proofs.YtkfhpmidcbmofaaGreat
end

section
namespace Go.Proofs.YtkfhpmidcbmofaaGreat
open Go Hw

def putE {D : Type} (f : D → DRecord × Int) : List D → Int
  | [] => 0
  | d :: l => if (f d).2 = 0 then putE f l else (f d).2
def putD {D : Type} (f : D → DRecord × Int) (ds : List D) : List DRecord := ds.map fun d => (f d).1
theorem putE_step {D : Type} (f : D → DRecord × Int) : ∀ (ds : List D) (k : Nat) (d : D), ds[k]? = some d → putE f (ds.take k) = 0 → (f d).2 = 0 → putE f (ds.take (k + 1)) = 0
  | [], k, d, h, _, _ => by simp at h
  | x :: l, 0, d, h, _, h2 => by
    obtain rfl : x = d := by simpa using h
    simp [putE, h2]
  | x :: l, k + 1, d, h, h1, h2 => by
    rw [List.take_succ_cons, putE] at h1
    rw [List.take_succ_cons, putE]
    by_cases hx : (f x).2 = 0
    · rw [if_pos hx] at h1 ⊢
      exact putE_step f l k d (by simpa using h) h1 h2
    · rw [if_neg hx] at h1; exact absurd h1 hx
theorem putE_fail {D : Type} (f : D → DRecord × Int) : ∀ (ds : List D) (k : Nat) (d : D), ds[k]? = some d → putE f (ds.take k) = 0 → ¬ (f d).2 = 0 → putE f ds = (f d).2
  | [], k, d, h, _, _ => by simp at h
  | x :: l, 0, d, h, _, h2 => by
    obtain rfl : x = d := by simpa using h
    rw [putE, if_neg h2]
  | x :: l, k + 1, d, h, h1, h2 => by
    rw [List.take_succ_cons, putE] at h1
    rw [putE]
    by_cases hx : (f x).2 = 0
    · rw [if_pos hx] at h1 ⊢
      exact putE_fail f l k d (by simpa using h) h1 h2
    · rw [if_neg hx] at h1; exact absurd h1 hx
theorem putD_step {D : Type} (f : D → DRecord × Int) {ds : List D} {k : Nat} {d : D} (h : ds[k]? = some d) : putD f (ds.take (k + 1)) = putD f (ds.take k) ++ [(f d).1] := by
  rw [putD, take_snoc h, List.map_append]; rfl
def Stay (L : List Nat) (W : World) (F : World → Prop) : Prop := ∀ W2, Keeps L W W2 → F W2
theorem seq_sees {R D : Type} {cells : R → List Value} {k : Nat} {Is : World → R → D → Prop} {w : World} {s : Sl} {rs : List R} {ds : List D} (h : SeqIs cells k Is w s rs ds) (hk : 0 < k) {i b o : Nat} {r : R} {d : D} (hp : s.p = some ⟨b, o, none⟩) (hr : rs[i]? = some r) (hd : ds[i]? = some d) : Sees w b (o + i * k) (cells r) ∧ Is w r d := by
  have hi : i < s.n := by rw [← h.nr]; exact (List.getElem?_eq_some_iff.1 hr).1
  obtain ⟨b', o', r', d', hp', hr', hd', hi', hl', hs'⟩ := h.at hk hi
  rw [hp] at hp'; cases hp'
  rw [hr] at hr'; cases hr'
  rw [hd] at hd'; cases hd'
  exact ⟨hs', hi'⟩
theorem put_hrep {P : Program} {W : World} {N m size : Nat} {s : Sl} {bl : List Blk} {cells : List Value} {E : TypeId} (h : Hw.Acc s bl cells E m size) (hl : Lies bl W) : HRep ⟨P, W, N, bl.map (·.n), [], []⟩ (bl ++ []) W := by
  rw [List.append_nil]
  exact Acc.hrep (P := P) (N := N) h hl
def PutR {D : Type} (f : D → DRecord × Int) (ds : List D) (m n : Nat) (o0 : List Blk) (dr : List DRecord) (v : Value) (out : List Blk) : Prop := ∃ (s2 : Sl) (b2 o2 : List Blk) (rs2 : List Record), v = .tuple #[s2.v, i64 (putE f ds)] ∧ out = b2 ++ (o2 ++ []) ∧ (putE f ds = 0 → OwnSeq Record.cells 2 RecordIs 32 s2 b2 (o2 ++ o0) rs2 (dr ++ putD f ds) (m + n)) ∧ (¬ putE f ds = 0 → s2 = Sl.nil ∧ b2 = [] ∧ o2 = [])

theorem put_snoc {D : Type} {f : D → DRecord × Int} {ds : List D} {k m : Nat} {d : D} {s s2 : Sl} {b b2 o o0 out : List Blk} {rs : List Record} {dr : List DRecord} {X : Record} (h : OwnSeq Record.cells 2 RecordIs 32 s b (o ++ o0) rs (dr ++ putD f (ds.take k)) (m + k)) (hd : ds[k]? = some d) (ha : Hw.Acc s2 b2 ((rs.map Record.cells).flatten ++ X.cells) 32 (m + k + 1) 2) (ok : X.ok) (hX : ∀ W2, Lies out W2 → RecordIs W2 X (f d).1) :
    OwnSeq Record.cells 2 RecordIs 32 s2 b2 ((out ++ o) ++ o0) (rs ++ [X]) (dr ++ putD f (ds.take (k + 1))) (m + (k + 1)) := by
  rw [putD_step f hd, ← List.append_assoc, List.append_assoc out]
  exact h.snoc ha (Record.length ok) hX

theorem kput_vote (s : Sl) (bl o0 : List Blk) (rs : List Record) (dr : List DRecord) (m : Nat) (hq : OwnSeq Record.cells 2 RecordIs 32 s bl o0 rs dr m) (hm : m ≤ 100000) (t : Sl) (rt : List Vote) (ds : List Vote) (hsn : t.n ≤ 1000) (hsz : ∀ d ∈ ds, (Be d).length ≤ 40000) : Meets Tryz.prog 72 [s.v, t.v, .func (.func 6) #[] #[]] (bl.map (·.n)) (fun W => Lies bl W ∧ Stay (bl.map (·.n)) W (fun W2 => SeqIs Vote.cells 132 VoteIs W2 t rt ds)) (PutR (fun X : Vote => Bu 3 (Be X) (Bp X)) ds m t.n o0 dr) := by
 intro W hW
 have hs := hW.2 W (Keeps.refl _ _)
 have hnd := hs.nd
 refine A3 (hp0 := (bl ++ [])) Tryz.func72 rfl 33 Tryz.ntmps72 rfl (put_hrep hq.acc hW.1) ?_
 refine Sat.seq (Sat.region ?_)
 refine Tr.a rfl rfl rfl ?_
 refine Tr.a rfl rfl rfl ?_
 refine Tr.nil (Aa (Sat.seq (Sat.seq (Sat.region ?_))))
 refine Tr.m rfl rfl rfl ?_
 refine Tr.lenSl rfl rfl rfl U42 ?_
 refine Tr.m rfl rfl rfl ?_
 refine Tr.nil (Aa (Sat.block ?_))
 refine Sat.loop (ι := Nat × Sl × List Blk × List Blk × List Record) (fun p => ⟨[(0, p.2.1.v), (2, .func (.func 6) #[] #[]), (12, t.v), (13, i64 (t.n : Int)), (14, i64 (p.1 : Int))], (p.2.2.1 ++ (p.2.2.2.1 ++ []))⟩) (fun p => p.1 ≤ t.n ∧ putE (fun X : Vote => Bu 3 (Be X) (Bp X)) (ds.take p.1) = 0 ∧ OwnSeq Record.cells 2 RecordIs 32 p.2.1 p.2.2.1 (p.2.2.2.1 ++ o0) p.2.2.2.2 (dr ++ putD (fun X : Vote => Bu 3 (Be X) (Bp X)) (ds.take p.1)) (m + p.1)) (fun p => t.n - p.1) ((0, s, bl, [], rs)) ?_ ?_ ?_
 · exact ⟨Nat.zero_le _, rfl, by simpa [putD] using hq⟩
 · exact Ah (wk1 rfl (wk1 rfl (wk1 rfl (wk1 rfl (wk1 rfl wk0))))) (Ac sG (pm_none Af))
 ·
  rintro p ⟨hp1, hp2, hp3⟩
  refine Sat.seq (Sat.region ?_)
  refine Tr.lss rfl rfl rfl rfl rfl ?_
  refine Tr.nil (Aa (Sat.seq ?_))
  first
   | refine Sat.condP rfl (fun hc0 => ?_) (fun hc0 => ?_)
   | refine Sat.condNP rfl (fun hc0 => ?_) (fun hc0 => ?_)
   | refine Sat.cond rfl (fun hc0 => ?_) (fun hc0 => ?_)
  ·
   have hk2 : p.1 < t.n := by omega
   obtain ⟨b, o, r, d, hsp, hr, hd, his, hlen, hsee⟩ := hs.at dE hk2
   have okr : r.ok := his.ok
   refine Sat.skip (Aa (Sat.seq (Sat.block (Sat.seq (Sat.region ?_)))))
   refine Tr.idxSlP 132 rfl rfl rfl hsp rfl U42 Bw p.1 rfl oM ?_
   refine Tr.loadAny rfl rfl rfl (v := agg r.cells) (fun w h => by
    have := run_row (P := Tryz.prog) (w := w) hlen ((seq_sees (hW.2 w h.keeps) dE hsp hr hd).1)
    simp [loadVar, run_isAgg_arr U29 rfl, run_sz Bw, this]) ?_
   refine Tr.alloc (cs := Vote.zero.cells) rfl Vote.zr rfl ?_
   intro n9 hn9 hf9
   refine Tr.sA rfl rfl rfl rfl (Vote.isCell (by first | exact oK  | exact hro | exact ok21 | exact okr)) Bw (Vote.length (by first | exact oK  | exact hro | exact ok21 | exact okr)) mM (Vote.length (by first | exact oK  | exact hro | exact ok21 | exact okr)) uU ?_
   refine Tr.nil (Aa (Sat.seq (Sat.region ?_)))
   refine Tr.m rfl rfl rfl ?_
   refine Tr.lA rfl rfl rfl U29 rfl Bw mM (Vote.length (by first | exact oK  | exact hro | exact ok21 | exact okr)) ?_
   refine Tr.call4 rfl rfl rfl rfl rfl Body6 (keep_vote r d (hsz d (List.mem_of_getElem? hd))) (fun w h => (seq_sees (hW.2 w h.keeps) dE hsp hr hd).2) ?_
   rintro v21 out21 ⟨X21, ok21, rfl, k21, h21⟩
   refine Tr.m rfl rfl rfl ?_
   refine Tr.eX rfl rfl rfl rfl ?_
   refine Tr.eX rfl rfl rfl rfl ?_
   refine Tr.alloc (cs := Record.zero.cells) rfl Record.zr rfl ?_
   intro n10 hn10 hf10
   refine Tr.sA rfl rfl rfl rfl (Record.isCell (by first | exact oK  | exact hro | exact ok21 | exact okr)) B1 (Record.length (by first | exact oK  | exact hro | exact ok21 | exact okr)) mM (Record.length (by first | exact oK  | exact hro | exact ok21 | exact okr)) uU ?_
   refine Tr.a rfl rfl rfl ?_
   refine Tr.nil (Aa (Sat.seq (Sat.seq (Sat.region ?_))))
   refine Tr.m rfl rfl rfl ?_
   refine Tr.nei rfl rfl rfl rfl rfl ?_
   refine Tr.nil (Aa ?_)
   first
    | refine Sat.condP rfl (fun hc1 => ?_) (fun hc1 => ?_)
    | refine Sat.condNP rfl (fun hc1 => ?_) (fun hc1 => ?_)
    | refine Sat.cond rfl (fun hc1 => ?_) (fun hc1 => ?_)
   ·
    have he1 : ¬ ((fun X : Vote => Bu 3 (Be X) (Bp X)) d).2 = 0 := by omega
    refine Sat.seq (Sat.region ?_)
    refine Tr.m rfl rfl rfl ?_
    refine Tr.a rfl rfl rfl ?_
    refine Tr.a rfl rfl rfl ?_
    refine Tr.nil (Aa (Sat.ret (Ao (B8 (Ao (Ao (B8 (Ao (Ak ?_)))))))))
    refine Aj (out := []) (Bj rfl rfl rfl) Af ?_
    exact ⟨Sl.nil, [], [], [], by rw [putE_fail _ _ _ _ hd hp2 he1]; rfl, rfl, fun e => absurd (by rw [putE_fail _ _ _ _ hd hp2 he1] at e; exact e) he1, fun _ => ⟨rfl, rfl, rfl⟩⟩
   ·
    have he0 : ((fun X : Vote => Bu 3 (Be X) (Bp X)) d).2 = 0 := by omega
    refine Sat.skip (Aa (Sat.region ?_))
    refine Tr.m rfl rfl rfl ?_
    refine Tr.lA rfl rfl rfl U32 rfl B1 mM (Record.length (by first | exact oK  | exact hro | exact ok21 | exact okr)) ?_
    refine Tr.mkRow2 (z := agg Record.zero.cells) [agg X21.cells] X21.cells rfl rfl U48 B1 Record.zr rfl rfl (by intro v hv; rw [List.mem_singleton.1 hv]; exact Record.length ok21) dE (by simp [Value.cells]) ?_
    intro q29
    refine Tr.appendAcc (z := agg Record.zero.cells) (by' := 32) (X21.cells) rfl rfl rfl rfl rfl U48 U48 B1 Record.zr (by unfold By; kernel_rfl) rfl hp3.acc sG (fun w h => SeesP.of (As h mM)) (fun e => by cases e) (Record.isCell ok21) oM oM (by rw [Record.length ok21]) ?_
    intro s30 bl30 hac30
    refine Tr.a rfl rfl rfl ?_
    refine Tr.nil (Bs (Aa (Sat.region ?_)))
    refine Tr.aI rfl rfl rfl rfl oM ?_
    refine Tr.m rfl rfl rfl ?_
    refine Tr.nil (Aa ?_)
    exact ⟨(p.1 + 1, s30, bl30, out21 ++ p.2.2.2.1, p.2.2.2.2 ++ [X21]), ⟨by simp only []; omega, putE_step _ _ _ _ hd hp2 he0, put_snoc hp3 hd hac30 ok21 h21⟩, by simp only []; omega, Ah (wk1 rfl (wk1 rfl (wk1 rfl (wk1 rfl (wk1 (by rw [Int.natCast_add]; rfl) wk0))))) (Ac sG (B5 (Ac sG (Ac sG Af))))⟩
  ·
   have hpe : p.1 = t.n := by omega
   refine Sat.exit (A7 (A7 (bl_h (Aa (Sat.seq (Sat.region ?_))))))
   refine Tr.m rfl rfl rfl ?_
   refine Tr.a rfl rfl rfl ?_
   refine Tr.a rfl rfl rfl ?_
   refine Tr.nil (Aa (Sat.ret (Ak ?_)))
   refine Aj (out := (p.2.2.1 ++ (p.2.2.2.1 ++ []))) (Bj rfl rfl rfl) (Ac sG (Ac sG Af)) ?_
   rw [List.take_of_length_le oM] at hp2
   rw [List.take_of_length_le oM, hpe] at hp3
   exact ⟨p.2.1, p.2.2.1, p.2.2.2.1, p.2.2.2.2, by rw [hp2], rfl, fun _ => hp3, fun e => absurd hp2 e⟩

theorem kput_cut (s : Sl) (bl o0 : List Blk) (rs : List Record) (dr : List DRecord) (m : Nat) (hq : OwnSeq Record.cells 2 RecordIs 32 s bl o0 rs dr m) (hm : m ≤ 100000) (t : Sl) (rt : List Cut) (ds : List DCut) (hsn : t.n ≤ 1000) (hsz : ∀ d ∈ ds, (cutR d).length ≤ 40000) : Meets Tryz.prog 71 [s.v, t.v, .func (.func 7) #[] #[]] (bl.map (·.n)) (fun W => Lies bl W ∧ Stay (bl.map (·.n)) W (fun W2 => SeqIs Cut.cells 34 CutIs W2 t rt ds)) (PutR (fun X : DCut => Bu 4 (cutR X) (DCut.check X)) ds m t.n o0 dr) := by
 intro W hW
 have hs := hW.2 W (Keeps.refl _ _)
 have hnd := hs.nd
 refine A3 (hp0 := (bl ++ [])) Tryz.func71 rfl 33 Tryz.ntmps71 rfl (put_hrep hq.acc hW.1) ?_
 refine Sat.seq (Sat.region ?_)
 refine Tr.a rfl rfl rfl ?_
 refine Tr.a rfl rfl rfl ?_
 refine Tr.nil (Aa (Sat.seq (Sat.seq (Sat.region ?_))))
 refine Tr.m rfl rfl rfl ?_
 refine Tr.lenSl rfl rfl rfl U43 ?_
 refine Tr.m rfl rfl rfl ?_
 refine Tr.nil (Aa (Sat.block ?_))
 refine Sat.loop (ι := Nat × Sl × List Blk × List Blk × List Record) (fun p => ⟨[(0, p.2.1.v), (2, .func (.func 7) #[] #[]), (12, t.v), (13, i64 (t.n : Int)), (14, i64 (p.1 : Int))], (p.2.2.1 ++ (p.2.2.2.1 ++ []))⟩) (fun p => p.1 ≤ t.n ∧ putE (fun X : DCut => Bu 4 (cutR X) (DCut.check X)) (ds.take p.1) = 0 ∧ OwnSeq Record.cells 2 RecordIs 32 p.2.1 p.2.2.1 (p.2.2.2.1 ++ o0) p.2.2.2.2 (dr ++ putD (fun X : DCut => Bu 4 (cutR X) (DCut.check X)) (ds.take p.1)) (m + p.1)) (fun p => t.n - p.1) ((0, s, bl, [], rs)) ?_ ?_ ?_
 · exact ⟨Nat.zero_le _, rfl, by simpa [putD] using hq⟩
 · exact Ah (wk1 rfl (wk1 rfl (wk1 rfl (wk1 rfl (wk1 rfl wk0))))) (Ac sG (pm_none Af))
 ·
  rintro p ⟨hp1, hp2, hp3⟩
  refine Sat.seq (Sat.region ?_)
  refine Tr.lss rfl rfl rfl rfl rfl ?_
  refine Tr.nil (Aa (Sat.seq ?_))
  first
   | refine Sat.condP rfl (fun hc0 => ?_) (fun hc0 => ?_)
   | refine Sat.condNP rfl (fun hc0 => ?_) (fun hc0 => ?_)
   | refine Sat.cond rfl (fun hc0 => ?_) (fun hc0 => ?_)
  ·
   have hk2 : p.1 < t.n := by omega
   obtain ⟨b, o, r, d, hsp, hr, hd, his, hlen, hsee⟩ := hs.at dE hk2
   have okr : r.ok := his.ok
   refine Sat.skip (Aa (Sat.seq (Sat.block (Sat.seq (Sat.region ?_)))))
   refine Tr.idxSlP 34 rfl rfl rfl hsp rfl U43 B0 p.1 rfl oM ?_
   refine Tr.loadAny rfl rfl rfl (v := agg r.cells) (fun w h => by
    have := run_row (P := Tryz.prog) (w := w) hlen ((seq_sees (hW.2 w h.keeps) dE hsp hr hd).1)
    simp [loadVar, run_isAgg_arr U39 rfl, run_sz B0, this]) ?_
   refine Tr.alloc (cs := Cut.zero.cells) rfl Cut.zr rfl ?_
   intro n9 hn9 hf9
   refine Tr.sA rfl rfl rfl rfl (Cut.isCell (by first | exact oK  | exact hro | exact ok21 | exact okr)) B0 (Cut.length (by first | exact oK  | exact hro | exact ok21 | exact okr)) mM (Cut.length (by first | exact oK  | exact hro | exact ok21 | exact okr)) uU ?_
   refine Tr.nil (Aa (Sat.seq (Sat.region ?_)))
   refine Tr.m rfl rfl rfl ?_
   refine Tr.lA rfl rfl rfl U39 rfl B0 mM (Cut.length (by first | exact oK  | exact hro | exact ok21 | exact okr)) ?_
   refine Tr.call4 rfl rfl rfl rfl rfl Body7 (keep_cut r d (hsz d (List.mem_of_getElem? hd))) (fun w h => (seq_sees (hW.2 w h.keeps) dE hsp hr hd).2) ?_
   rintro v21 out21 ⟨X21, ok21, rfl, k21, h21⟩
   refine Tr.m rfl rfl rfl ?_
   refine Tr.eX rfl rfl rfl rfl ?_
   refine Tr.eX rfl rfl rfl rfl ?_
   refine Tr.alloc (cs := Record.zero.cells) rfl Record.zr rfl ?_
   intro n10 hn10 hf10
   refine Tr.sA rfl rfl rfl rfl (Record.isCell (by first | exact oK  | exact hro | exact ok21 | exact okr)) B1 (Record.length (by first | exact oK  | exact hro | exact ok21 | exact okr)) mM (Record.length (by first | exact oK  | exact hro | exact ok21 | exact okr)) uU ?_
   refine Tr.a rfl rfl rfl ?_
   refine Tr.nil (Aa (Sat.seq (Sat.seq (Sat.region ?_))))
   refine Tr.m rfl rfl rfl ?_
   refine Tr.nei rfl rfl rfl rfl rfl ?_
   refine Tr.nil (Aa ?_)
   first
    | refine Sat.condP rfl (fun hc1 => ?_) (fun hc1 => ?_)
    | refine Sat.condNP rfl (fun hc1 => ?_) (fun hc1 => ?_)
    | refine Sat.cond rfl (fun hc1 => ?_) (fun hc1 => ?_)
   ·
    have he1 : ¬ ((fun X : DCut => Bu 4 (cutR X) (DCut.check X)) d).2 = 0 := by omega
    refine Sat.seq (Sat.region ?_)
    refine Tr.m rfl rfl rfl ?_
    refine Tr.a rfl rfl rfl ?_
    refine Tr.a rfl rfl rfl ?_
    refine Tr.nil (Aa (Sat.ret (Ao (B8 (Ao (Ao (B8 (Ao (Ak ?_)))))))))
    refine Aj (out := []) (Bj rfl rfl rfl) Af ?_
    exact ⟨Sl.nil, [], [], [], by rw [putE_fail _ _ _ _ hd hp2 he1]; rfl, rfl, fun e => absurd (by rw [putE_fail _ _ _ _ hd hp2 he1] at e; exact e) he1, fun _ => ⟨rfl, rfl, rfl⟩⟩
   ·
    have he0 : ((fun X : DCut => Bu 4 (cutR X) (DCut.check X)) d).2 = 0 := by omega
    refine Sat.skip (Aa (Sat.region ?_))
    refine Tr.m rfl rfl rfl ?_
    refine Tr.lA rfl rfl rfl U32 rfl B1 mM (Record.length (by first | exact oK  | exact hro | exact ok21 | exact okr)) ?_
    refine Tr.mkRow2 (z := agg Record.zero.cells) [agg X21.cells] X21.cells rfl rfl U48 B1 Record.zr rfl rfl (by intro v hv; rw [List.mem_singleton.1 hv]; exact Record.length ok21) dE (by simp [Value.cells]) ?_
    intro q29
    refine Tr.appendAcc (z := agg Record.zero.cells) (by' := 32) (X21.cells) rfl rfl rfl rfl rfl U48 U48 B1 Record.zr (by unfold By; kernel_rfl) rfl hp3.acc sG (fun w h => SeesP.of (As h mM)) (fun e => by cases e) (Record.isCell ok21) oM oM (by rw [Record.length ok21]) ?_
    intro s30 bl30 hac30
    refine Tr.a rfl rfl rfl ?_
    refine Tr.nil (Bs (Aa (Sat.region ?_)))
    refine Tr.aI rfl rfl rfl rfl oM ?_
    refine Tr.m rfl rfl rfl ?_
    refine Tr.nil (Aa ?_)
    exact ⟨(p.1 + 1, s30, bl30, out21 ++ p.2.2.2.1, p.2.2.2.2 ++ [X21]), ⟨by simp only []; omega, putE_step _ _ _ _ hd hp2 he0, put_snoc hp3 hd hac30 ok21 h21⟩, by simp only []; omega, Ah (wk1 rfl (wk1 rfl (wk1 rfl (wk1 rfl (wk1 (by rw [Int.natCast_add]; rfl) wk0))))) (Ac sG (B5 (Ac sG (Ac sG Af))))⟩
  ·
   have hpe : p.1 = t.n := by omega
   refine Sat.exit (A7 (A7 (bl_h (Aa (Sat.seq (Sat.region ?_))))))
   refine Tr.m rfl rfl rfl ?_
   refine Tr.a rfl rfl rfl ?_
   refine Tr.a rfl rfl rfl ?_
   refine Tr.nil (Aa (Sat.ret (Ak ?_)))
   refine Aj (out := (p.2.2.1 ++ (p.2.2.2.1 ++ []))) (Bj rfl rfl rfl) (Ac sG (Ac sG Af)) ?_
   rw [List.take_of_length_le oM] at hp2
   rw [List.take_of_length_le oM, hpe] at hp3
   exact ⟨p.2.1, p.2.2.1, p.2.2.2.1, p.2.2.2.2, by rw [hp2], rfl, fun _ => hp3, fun e => absurd hp2 e⟩

theorem kput_cert (s : Sl) (bl o0 : List Blk) (rs : List Record) (dr : List DRecord) (m : Nat) (hq : OwnSeq Record.cells 2 RecordIs 32 s bl o0 rs dr m) (hm : m ≤ 100000) (t : Sl) (rt : List Cert) (ds : List DCert) (hsn : t.n ≤ 1000) (hsz : ∀ d ∈ ds, (certBy d).length ≤ 40000) : Meets Tryz.prog 69 [s.v, t.v, .func (.func 45) #[] #[]] (bl.map (·.n)) (fun W => Lies bl W ∧ Stay (bl.map (·.n)) W (fun W2 => SeqIs Cert.cells 35 CertIs W2 t rt ds)) (PutR (fun X : DCert => Bu 2 (certBy X) (DCert.check X)) ds m t.n o0 dr) := by
 intro W hW
 have hs := hW.2 W (Keeps.refl _ _)
 have hnd := hs.nd
 refine A3 (hp0 := (bl ++ [])) Tryz.func69 rfl 33 Tryz.ntmps69 rfl (put_hrep hq.acc hW.1) ?_
 refine Sat.seq (Sat.region ?_)
 refine Tr.a rfl rfl rfl ?_
 refine Tr.a rfl rfl rfl ?_
 refine Tr.nil (Aa (Sat.seq (Sat.seq (Sat.region ?_))))
 refine Tr.m rfl rfl rfl ?_
 refine Tr.lenSl rfl rfl rfl U41 ?_
 refine Tr.m rfl rfl rfl ?_
 refine Tr.nil (Aa (Sat.block ?_))
 refine Sat.loop (ι := Nat × Sl × List Blk × List Blk × List Record) (fun p => ⟨[(0, p.2.1.v), (2, .func (.func 45) #[] #[]), (12, t.v), (13, i64 (t.n : Int)), (14, i64 (p.1 : Int))], (p.2.2.1 ++ (p.2.2.2.1 ++ []))⟩) (fun p => p.1 ≤ t.n ∧ putE (fun X : DCert => Bu 2 (certBy X) (DCert.check X)) (ds.take p.1) = 0 ∧ OwnSeq Record.cells 2 RecordIs 32 p.2.1 p.2.2.1 (p.2.2.2.1 ++ o0) p.2.2.2.2 (dr ++ putD (fun X : DCert => Bu 2 (certBy X) (DCert.check X)) (ds.take p.1)) (m + p.1)) (fun p => t.n - p.1) ((0, s, bl, [], rs)) ?_ ?_ ?_
 · exact ⟨Nat.zero_le _, rfl, by simpa [putD] using hq⟩
 · exact Ah (wk1 rfl (wk1 rfl (wk1 rfl (wk1 rfl (wk1 rfl wk0))))) (Ac sG (pm_none Af))
 ·
  rintro p ⟨hp1, hp2, hp3⟩
  refine Sat.seq (Sat.region ?_)
  refine Tr.lss rfl rfl rfl rfl rfl ?_
  refine Tr.nil (Aa (Sat.seq ?_))
  first
   | refine Sat.condP rfl (fun hc0 => ?_) (fun hc0 => ?_)
   | refine Sat.condNP rfl (fun hc0 => ?_) (fun hc0 => ?_)
   | refine Sat.cond rfl (fun hc0 => ?_) (fun hc0 => ?_)
  ·
   have hk2 : p.1 < t.n := by omega
   obtain ⟨b, o, r, d, hsp, hr, hd, his, hlen, hsee⟩ := hs.at dE hk2
   have okr : r.ok := his.ok
   refine Sat.skip (Aa (Sat.seq (Sat.block (Sat.seq (Sat.region ?_)))))
   refine Tr.idxSlP 35 rfl rfl rfl hsp rfl U41 Sz80 p.1 rfl oM ?_
   refine Tr.loadAny rfl rfl rfl (v := agg r.cells) (fun w h => by
    have := run_row (P := Tryz.prog) (w := w) hlen ((seq_sees (hW.2 w h.keeps) dE hsp hr hd).1)
    simp [loadVar, run_isAgg_arr U80 rfl, run_sz Sz80, this]) ?_
   refine Tr.alloc (cs := Cert.zero.cells) rfl Cert.zr rfl ?_
   intro n9 hn9 hf9
   refine Tr.sA rfl rfl rfl rfl (Cert.isCell (by first | exact oK  | exact hro | exact ok21 | exact okr)) Sz80 (Cert.length (by first | exact oK  | exact hro | exact ok21 | exact okr)) mM (Cert.length (by first | exact oK  | exact hro | exact ok21 | exact okr)) uU ?_
   refine Tr.nil (Aa (Sat.seq (Sat.region ?_)))
   refine Tr.m rfl rfl rfl ?_
   refine Tr.lA rfl rfl rfl U80 rfl Sz80 mM (Cert.length (by first | exact oK  | exact hro | exact ok21 | exact okr)) ?_
   refine Tr.call4 rfl rfl rfl rfl rfl Body45 (keep_cert r d (hsz d (List.mem_of_getElem? hd))) (fun w h => (seq_sees (hW.2 w h.keeps) dE hsp hr hd).2) ?_
   rintro v21 out21 ⟨X21, ok21, rfl, k21, h21⟩
   refine Tr.m rfl rfl rfl ?_
   refine Tr.eX rfl rfl rfl rfl ?_
   refine Tr.eX rfl rfl rfl rfl ?_
   refine Tr.alloc (cs := Record.zero.cells) rfl Record.zr rfl ?_
   intro n10 hn10 hf10
   refine Tr.sA rfl rfl rfl rfl (Record.isCell (by first | exact oK  | exact hro | exact ok21 | exact okr)) B1 (Record.length (by first | exact oK  | exact hro | exact ok21 | exact okr)) mM (Record.length (by first | exact oK  | exact hro | exact ok21 | exact okr)) uU ?_
   refine Tr.a rfl rfl rfl ?_
   refine Tr.nil (Aa (Sat.seq (Sat.seq (Sat.region ?_))))
   refine Tr.m rfl rfl rfl ?_
   refine Tr.nei rfl rfl rfl rfl rfl ?_
   refine Tr.nil (Aa ?_)
   first
    | refine Sat.condP rfl (fun hc1 => ?_) (fun hc1 => ?_)
    | refine Sat.condNP rfl (fun hc1 => ?_) (fun hc1 => ?_)
    | refine Sat.cond rfl (fun hc1 => ?_) (fun hc1 => ?_)
   ·
    have he1 : ¬ ((fun X : DCert => Bu 2 (certBy X) (DCert.check X)) d).2 = 0 := by omega
    refine Sat.seq (Sat.region ?_)
    refine Tr.m rfl rfl rfl ?_
    refine Tr.a rfl rfl rfl ?_
    refine Tr.a rfl rfl rfl ?_
    refine Tr.nil (Aa (Sat.ret (Ao (B8 (Ao (Ao (B8 (Ao (Ak ?_)))))))))
    refine Aj (out := []) (Bj rfl rfl rfl) Af ?_
    exact ⟨Sl.nil, [], [], [], by rw [putE_fail _ _ _ _ hd hp2 he1]; rfl, rfl, fun e => absurd (by rw [putE_fail _ _ _ _ hd hp2 he1] at e; exact e) he1, fun _ => ⟨rfl, rfl, rfl⟩⟩
   ·
    have he0 : ((fun X : DCert => Bu 2 (certBy X) (DCert.check X)) d).2 = 0 := by omega
    refine Sat.skip (Aa (Sat.region ?_))
    refine Tr.m rfl rfl rfl ?_
    refine Tr.lA rfl rfl rfl U32 rfl B1 mM (Record.length (by first | exact oK  | exact hro | exact ok21 | exact okr)) ?_
    refine Tr.mkRow2 (z := agg Record.zero.cells) [agg X21.cells] X21.cells rfl rfl U48 B1 Record.zr rfl rfl (by intro v hv; rw [List.mem_singleton.1 hv]; exact Record.length ok21) dE (by simp [Value.cells]) ?_
    intro q29
    refine Tr.appendAcc (z := agg Record.zero.cells) (by' := 32) (X21.cells) rfl rfl rfl rfl rfl U48 U48 B1 Record.zr (by unfold By; kernel_rfl) rfl hp3.acc sG (fun w h => SeesP.of (As h mM)) (fun e => by cases e) (Record.isCell ok21) oM oM (by rw [Record.length ok21]) ?_
    intro s30 bl30 hac30
    refine Tr.a rfl rfl rfl ?_
    refine Tr.nil (Bs (Aa (Sat.region ?_)))
    refine Tr.aI rfl rfl rfl rfl oM ?_
    refine Tr.m rfl rfl rfl ?_
    refine Tr.nil (Aa ?_)
    exact ⟨(p.1 + 1, s30, bl30, out21 ++ p.2.2.2.1, p.2.2.2.2 ++ [X21]), ⟨by simp only []; omega, putE_step _ _ _ _ hd hp2 he0, put_snoc hp3 hd hac30 ok21 h21⟩, by simp only []; omega, Ah (wk1 rfl (wk1 rfl (wk1 rfl (wk1 rfl (wk1 (by rw [Int.natCast_add]; rfl) wk0))))) (Ac sG (B5 (Ac sG (Ac sG Af))))⟩
  ·
   have hpe : p.1 = t.n := by omega
   refine Sat.exit (A7 (A7 (bl_h (Aa (Sat.seq (Sat.region ?_))))))
   refine Tr.m rfl rfl rfl ?_
   refine Tr.a rfl rfl rfl ?_
   refine Tr.a rfl rfl rfl ?_
   refine Tr.nil (Aa (Sat.ret (Ak ?_)))
   refine Aj (out := (p.2.2.1 ++ (p.2.2.2.1 ++ []))) (Bj rfl rfl rfl) (Ac sG (Ac sG Af)) ?_
   rw [List.take_of_length_le oM] at hp2
   rw [List.take_of_length_le oM, hpe] at hp3
   exact ⟨p.2.1, p.2.2.1, p.2.2.2.1, p.2.2.2.2, by rw [hp2], rfl, fun _ => hp3, fun e => absurd hp2 e⟩

theorem kput_block (s : Sl) (bl o0 : List Blk) (rs : List Record) (dr : List DRecord) (m : Nat) (hq : OwnSeq Record.cells 2 RecordIs 32 s bl o0 rs dr m) (hm : m ≤ 100000) (t : Sl) (rt : List Block) (ds : List DB) (hsn : t.n ≤ 1000) (hsz : ∀ d ∈ ds, (blockBy d).length ≤ 40000) : Meets Tryz.prog 70 [s.v, t.v, .func (.func 10) #[] #[]] (bl.map (·.n)) (fun W => Lies bl W ∧ Stay (bl.map (·.n)) W (fun W2 => SeqIs Block.cells 131 BlockIs W2 t rt ds)) (PutR (fun X : DB => Bu 1 (blockBy X) (DB.check X)) ds m t.n o0 dr) := by
 intro W hW
 have hs := hW.2 W (Keeps.refl _ _)
 have hnd := hs.nd
 refine A3 (hp0 := (bl ++ [])) Tryz.func70 rfl 33 Tryz.ntmps70 rfl (put_hrep hq.acc hW.1) ?_
 refine Sat.seq (Sat.region ?_)
 refine Tr.a rfl rfl rfl ?_
 refine Tr.a rfl rfl rfl ?_
 refine Tr.nil (Aa (Sat.seq (Sat.seq (Sat.region ?_))))
 refine Tr.m rfl rfl rfl ?_
 refine Tr.lenSl rfl rfl rfl U40 ?_
 refine Tr.m rfl rfl rfl ?_
 refine Tr.nil (Aa (Sat.block ?_))
 refine Sat.loop (ι := Nat × Sl × List Blk × List Blk × List Record) (fun p => ⟨[(0, p.2.1.v), (2, .func (.func 10) #[] #[]), (12, t.v), (13, i64 (t.n : Int)), (14, i64 (p.1 : Int))], (p.2.2.1 ++ (p.2.2.2.1 ++ []))⟩) (fun p => p.1 ≤ t.n ∧ putE (fun X : DB => Bu 1 (blockBy X) (DB.check X)) (ds.take p.1) = 0 ∧ OwnSeq Record.cells 2 RecordIs 32 p.2.1 p.2.2.1 (p.2.2.2.1 ++ o0) p.2.2.2.2 (dr ++ putD (fun X : DB => Bu 1 (blockBy X) (DB.check X)) (ds.take p.1)) (m + p.1)) (fun p => t.n - p.1) ((0, s, bl, [], rs)) ?_ ?_ ?_
 · exact ⟨Nat.zero_le _, rfl, by simpa [putD] using hq⟩
 · exact Ah (wk1 rfl (wk1 rfl (wk1 rfl (wk1 rfl (wk1 rfl wk0))))) (Ac sG (pm_none Af))
 ·
  rintro p ⟨hp1, hp2, hp3⟩
  refine Sat.seq (Sat.region ?_)
  refine Tr.lss rfl rfl rfl rfl rfl ?_
  refine Tr.nil (Aa (Sat.seq ?_))
  first
   | refine Sat.condP rfl (fun hc0 => ?_) (fun hc0 => ?_)
   | refine Sat.condNP rfl (fun hc0 => ?_) (fun hc0 => ?_)
   | refine Sat.cond rfl (fun hc0 => ?_) (fun hc0 => ?_)
  ·
   have hk2 : p.1 < t.n := by omega
   obtain ⟨b, o, r, d, hsp, hr, hd, his, hlen, hsee⟩ := hs.at dE hk2
   have okr : r.ok := his.ok
   refine Sat.skip (Aa (Sat.seq (Sat.block (Sat.seq (Sat.region ?_)))))
   refine Tr.idxSlP 131 rfl rfl rfl hsp rfl U40 Sz52 p.1 rfl oM ?_
   refine Tr.loadAny rfl rfl rfl (v := agg r.cells) (fun w h => by
    have := run_row (P := Tryz.prog) (w := w) hlen ((seq_sees (hW.2 w h.keeps) dE hsp hr hd).1)
    simp [loadVar, run_isAgg_arr U52 rfl, run_sz Sz52, this]) ?_
   refine Tr.alloc (cs := Block.zero.cells) rfl Block.zr rfl ?_
   intro n9 hn9 hf9
   refine Tr.sA rfl rfl rfl rfl (Block.isCell (by first | exact oK  | exact hro | exact ok21 | exact okr)) Sz52 (Block.length (by first | exact oK  | exact hro | exact ok21 | exact okr)) mM (Block.length (by first | exact oK  | exact hro | exact ok21 | exact okr)) uU ?_
   refine Tr.nil (Aa (Sat.seq (Sat.region ?_)))
   refine Tr.m rfl rfl rfl ?_
   refine Tr.lA rfl rfl rfl U52 rfl Sz52 mM (Block.length (by first | exact oK  | exact hro | exact ok21 | exact okr)) ?_
   refine Tr.call4 rfl rfl rfl rfl rfl Body10 (keep_block r d (hsz d (List.mem_of_getElem? hd))) (fun w h => (seq_sees (hW.2 w h.keeps) dE hsp hr hd).2) ?_
   rintro v21 out21 ⟨X21, ok21, rfl, k21, h21⟩
   refine Tr.m rfl rfl rfl ?_
   refine Tr.eX rfl rfl rfl rfl ?_
   refine Tr.eX rfl rfl rfl rfl ?_
   refine Tr.alloc (cs := Record.zero.cells) rfl Record.zr rfl ?_
   intro n10 hn10 hf10
   refine Tr.sA rfl rfl rfl rfl (Record.isCell (by first | exact oK  | exact hro | exact ok21 | exact okr)) B1 (Record.length (by first | exact oK  | exact hro | exact ok21 | exact okr)) mM (Record.length (by first | exact oK  | exact hro | exact ok21 | exact okr)) uU ?_
   refine Tr.a rfl rfl rfl ?_
   refine Tr.nil (Aa (Sat.seq (Sat.seq (Sat.region ?_))))
   refine Tr.m rfl rfl rfl ?_
   refine Tr.nei rfl rfl rfl rfl rfl ?_
   refine Tr.nil (Aa ?_)
   first
    | refine Sat.condP rfl (fun hc1 => ?_) (fun hc1 => ?_)
    | refine Sat.condNP rfl (fun hc1 => ?_) (fun hc1 => ?_)
    | refine Sat.cond rfl (fun hc1 => ?_) (fun hc1 => ?_)
   ·
    have he1 : ¬ ((fun X : DB => Bu 1 (blockBy X) (DB.check X)) d).2 = 0 := by omega
    refine Sat.seq (Sat.region ?_)
    refine Tr.m rfl rfl rfl ?_
    refine Tr.a rfl rfl rfl ?_
    refine Tr.a rfl rfl rfl ?_
    refine Tr.nil (Aa (Sat.ret (Ao (B8 (Ao (Ao (B8 (Ao (Ak ?_)))))))))
    refine Aj (out := []) (Bj rfl rfl rfl) Af ?_
    exact ⟨Sl.nil, [], [], [], by rw [putE_fail _ _ _ _ hd hp2 he1]; rfl, rfl, fun e => absurd (by rw [putE_fail _ _ _ _ hd hp2 he1] at e; exact e) he1, fun _ => ⟨rfl, rfl, rfl⟩⟩
   ·
    have he0 : ((fun X : DB => Bu 1 (blockBy X) (DB.check X)) d).2 = 0 := by omega
    refine Sat.skip (Aa (Sat.region ?_))
    refine Tr.m rfl rfl rfl ?_
    refine Tr.lA rfl rfl rfl U32 rfl B1 mM (Record.length (by first | exact oK  | exact hro | exact ok21 | exact okr)) ?_
    refine Tr.mkRow2 (z := agg Record.zero.cells) [agg X21.cells] X21.cells rfl rfl U48 B1 Record.zr rfl rfl (by intro v hv; rw [List.mem_singleton.1 hv]; exact Record.length ok21) dE (by simp [Value.cells]) ?_
    intro q29
    refine Tr.appendAcc (z := agg Record.zero.cells) (by' := 32) (X21.cells) rfl rfl rfl rfl rfl U48 U48 B1 Record.zr (by unfold By; kernel_rfl) rfl hp3.acc sG (fun w h => SeesP.of (As h mM)) (fun e => by cases e) (Record.isCell ok21) oM oM (by rw [Record.length ok21]) ?_
    intro s30 bl30 hac30
    refine Tr.a rfl rfl rfl ?_
    refine Tr.nil (Bs (Aa (Sat.region ?_)))
    refine Tr.aI rfl rfl rfl rfl oM ?_
    refine Tr.m rfl rfl rfl ?_
    refine Tr.nil (Aa ?_)
    exact ⟨(p.1 + 1, s30, bl30, out21 ++ p.2.2.2.1, p.2.2.2.2 ++ [X21]), ⟨by simp only []; omega, putE_step _ _ _ _ hd hp2 he0, put_snoc hp3 hd hac30 ok21 h21⟩, by simp only []; omega, Ah (wk1 rfl (wk1 rfl (wk1 rfl (wk1 rfl (wk1 (by rw [Int.natCast_add]; rfl) wk0))))) (Ac sG (B5 (Ac sG (Ac sG Af))))⟩
  ·
   have hpe : p.1 = t.n := by omega
   refine Sat.exit (A7 (A7 (bl_h (Aa (Sat.seq (Sat.region ?_))))))
   refine Tr.m rfl rfl rfl ?_
   refine Tr.a rfl rfl rfl ?_
   refine Tr.a rfl rfl rfl ?_
   refine Tr.nil (Aa (Sat.ret (Ak ?_)))
   refine Aj (out := (p.2.2.1 ++ (p.2.2.2.1 ++ []))) (Bj rfl rfl rfl) (Ac sG (Ac sG Af)) ?_
   rw [List.take_of_length_le oM] at hp2
   rw [List.take_of_length_le oM, hpe] at hp3
   exact ⟨p.2.1, p.2.2.1, p.2.2.2.1, p.2.2.2.2, by rw [hp2], rfl, fun _ => hp3, fun e => absurd hp2 e⟩

end Go.Proofs.YtkfhpmidcbmofaaGreat
end
