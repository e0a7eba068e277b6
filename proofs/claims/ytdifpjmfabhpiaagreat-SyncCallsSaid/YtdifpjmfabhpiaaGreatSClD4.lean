/- Contracts of functions of the loaded program, and the lemmas that they need (part 4). It proves no statement by itself; it has no conditions. -/
import Derived.WalkKit
import Derived.Orders
import Derived.Deep.LoopGhost
import Derived.IntWalk
import Derived.Laws.StructEq
import Derived.ArgAppend
import Derived.Deep.AppendSrc
import Derived.Lib.Bytealg
import Derived.Lib.BytesEntry
import Derived.Laws.IdiomStrings
import Derived.WideKeyArr2
import Derived.ProofKit
import Derived.OpenShut
import Derived.Deep.Slices
import Derived.Laws.Pointers
import Derived.Laws.Cover3
import Derived.LaidEqlPtr
import Derived.LoopN
import Derived.RangeFuncLeaves
import Derived.RangeFuncSeq
import Derived.OrdersIn
import Derived.Test.YtdifpjmfabhpiaaGreatRows
import Derived.KernelRfl
import Derived.Laws.Externs
import Derived.Defers
import Derived.Laws.MathBits
import Derived.ChangeOld
import Derived.Below
import Derived.Test.YtdifpjmfabhpiaaGreatSClD3
set_option maxRecDepth 100000
set_option maxHeartbeats 8000000
set_option linter.unusedVariables false
set_option linter.unusedSimpArgs false
section
namespace Go.Proofs.YtdifpjmfabhpiaaGreat
open Go Hw

def DCert.bytes (D : DCert) : List UInt8 := blkB (Br D.dCut) ++ Ap (UInt64.ofNat D.dVotes.length) ++ Av A4 D.dVotes
noncomputable def Bg (D : DCert) : List UInt8 := if D.check = 0 then D.bytes else []
theorem seqv_ok {W : World} {s : Sl} {rs ds : List Vote} (h : SeqIs Vote.cells 132 VoteIs W s rs ds) : ∀ d ∈ ds, d.ok := by
  intro d hd
  obtain ⟨j, hj, rfl⟩ := List.getElem_of_mem hd
  have hj2 : j < rs.length := by rw [h.nr, ← h.nd]; exact hj
  have := h.is j _ _ (List.getElem?_eq_getElem hj2) (List.getElem?_eq_getElem hj)
  rw [← this.eq]; exact this.ok
theorem voteBy_le {V : Vote} (h : V.ok) : (A4 V).length ≤ 164 := by
  unfold A4
  split
  · have := voteN_le V
    rw [List.length_append, voteT_length h, h.l_fSig]; omega
  · simp
theorem DCert.facts {D : DCert} (h : D.check = 0) : D.dCut.check = 0 ∧ 1 ≤ D.dVotes.length ∧ D.dVotes.length ≤ 16 := by
  have h1 : ¬ D.head = true := fun e => by rw [B7 e] at h; cases h
  simp only [DCert.head, Bool.or_eq_true, Bool.not_eq_true', decide_eq_true_eq, decide_eq_false_iff_not] at h1
  omega
theorem cutR_le {C : Cut} {D : DCut} {W : World} (h : CutIs W C D) : (Br D).length ≤ 2000 := by
  unfold Br
  split
  · rename_i h1
    exact D.bytes_small h1 (h.fPrev ▸ h.ok.l_fPrev) h.fHeads.row
  · simp

theorem cert_bytes (C : Cert) (D : DCert) : Meets Tryz.prog 30 [agg C.cells] [] (fun W => CertIs W C D) (fun v out => ∃ s, v = .tuple #[s.v, i64 D.check] ∧ Hw.Acc s out (Aa (Bg D)) 5 (Bg D).length 1) := by
 intro W hW
 obtain ⟨rs, hvs⟩ := hW.fVotes
 have hcl := cutR_le hW.fCut
 have hvok := seqv_ok hvs
 have hvn := hvs.nd
 have hz := A2 (Br D.dCut).length
 refine Ak Tryz.func30 J 24 Tryz.ntmps30 J (G3 ?_)
 intro n1 hn1 hf1
 refine G7 ?_
 refine .lA J J J Y55.h J Sz55 Z0 (Cert.length (by exact hW.ok)) ?_
 refine .cV J J J J Body31 (cert_check C D) (fun w h => hW.ext h J) (G9 ?_)
 refine .condNP J (fun hc0 => ?_) (fun hc0 => ?_)
 ·
  refine G10 ?_
  refine Ai (out := []) (A7 J J J) Ad ?_
  exact ⟨Sl.nil, rfl, by rw [show Bg D = [] from if_neg hc0]; exact Acc.none⟩
 have hck : D.check = 0 := by omega
 obtain ⟨hk1, hk2, hk3⟩ := DCert.facts hck
 refine G5 ?_
 refine .lN (Cut.cells _) J J J Y53.h J Sz53 Z0 (Cert.row_fCut (by exact hW.ok)) (Cert.rl_fCut (by exact hW.ok)) ?_
 refine .call4 J J J J J Body117 (cut_bytes C.fCut D.dCut) (fun w h => hW.fCut.ext h J) ?_
 rintro v15 out15 ⟨s15, rfl, hac15⟩
 have hn15 := hac15.num
 refine G8 ?_
 refine .withK (sp_x (sp_k sp_n)) J (.draw [(0, 0), (0, 2), (0, 3), (4, 1), (4, 4), (4, 5), (0, 6), (0, 7)] Be zK (G2 ?_))
 refine .kload1 J J J Y24.h J Z0 (by exact Cert.get_fVotes (by exact hW.ok)) ?_
 refine .call4 J J J J J Body121 (oct_Block none s15.p 0 0 s15.n s15.c [] (Br D.dCut) J hn15.symm (fun _ => rfl) (fun e => hac15.nil e) dE oM) (fun w h => ⟨SeesP.nil, hac15.see (Lies.of h (by repeat (exact Ar)))⟩) ?_
 rintro v19 out19 ⟨q19, c19, rfl, hc19, rfl⟩
 have hb19 : [] ++ Ap (UInt64.ofNat s15.n) ++ Br D.dCut = blkB (Br D.dCut) := by rw [blkB, hn15]; rfl
 rw [hb19]
 refine .call4 J J J J J Body113 (mk_blk_vote) tV ?_
 rintro v22 out22 ⟨c22, rfl, rfl⟩
 refine .call4 J J J J J Body112 (put_votes (some ⟨q19, 0, none⟩) (0 + szN s15.n + s15.n) c19 (blkB (Br D.dCut)) C.fVotes D.dVotes c22 164 (by rw [blkB_length oM, hn15]; omega) (fun e => by cases e) dE (fun d hd => voteBy_le (hvok d hd)) oM (by rw [hn15]; have : C.fVotes.n * (164 + 9) ≤ 16 * 173 := Nat.mul_le_mul oM (Nat.le_refl _); omega)) (fun w h => ⟨SeesP.of (Ah (cs := Aa (blkB (Br D.dCut))) h Z1), Cn h J ⟨rs, hvs⟩, (Af (B := ⟨c22, _, _, _⟩) h Z0).cell (o := 0) J⟩) ?_
 rintro v23 out23 ⟨q23, c23, rfl, hc23, rfl⟩
 refine G6 ?_
 simp only [List.cons_append, List.nil_append, List.append_nil]
 refine Ai (out := (⟨q23, Aa (blkB (Br D.dCut) ++ Ap (UInt64.ofNat C.fVotes.n) ++ Av A4 D.dVotes), 5, c23 * 1⟩ :: [])) (A7 J J J) (Ab rM Ad) ?_
 refine ⟨⟨some ⟨q23, 0, none⟩, (blkB (Br D.dCut) ++ Ap (UInt64.ofNat C.fVotes.n) ++ Av A4 D.dVotes).length, c23⟩, (by rw [hck]; try rfl), ?_⟩
 rw [show Bg D = D.bytes from if_pos hck, DCert.bytes, hvn]
 exact Acc.some hc23 (by rw [Aa, List.length_map, Nat.mul_one])

theorem rdblk_loose (n q N cp a1 : Nat) (e1 : Int) (ys : List UInt8) : LooseL [n] (fun v out => ∃ s bl, v = Sl.v s ∧ Hw.Acc s bl (Aa ys) 5 ys.length 1 ∧ out = bl ++ [RB n q N cp a1 e1]) := fun l h1 h2 => by
  obtain ⟨n0, _, hn0⟩ := fresh_is (n + 1) l
  refine ⟨_, _, ⟨⟨some ⟨n0, 0, none⟩, ys.length, ys.length⟩, [⟨n0, Aa ys, 5, ys.length * 1⟩], rfl, Acc.some (Nat.le_refl _) (by simp [Aa]), rfl⟩, ?_⟩
  simp only [List.cons_append, List.nil_append, List.map_cons, List.nodup_cons, List.mem_cons, RB]
  refine ⟨?_, ?_, h1⟩
  · rintro (h | h)
    · omega
    · obtain ⟨b, hb, e⟩ := List.mem_map.1 h
      exact hn0 b hb e
  · intro h
    obtain ⟨b, hb, e⟩ := List.mem_map.1 h
    exact h2 b hb (by rw [e]; exact List.mem_cons_self)

theorem item_vote (n q N cp at' : Nat) (e : Int) (c : Nat) (xs : List UInt8) (hx : xs.length = N) (hat : at' ≤ N) (hN : N ≤ cp) (hbig : N ≤ 90000) (hcn : c ≠ n) (o : Option (List UInt8)) (a1 : Nat) (e1 : Int) (h1 : blkR xs at' e = (o, a1, e1)) (hvk : (Bi (o.getD [])).1.ok) : Meets Tryz.prog 194 [ptr n 0, ptr c 0] [n] (fun W => BlkOk W (RB n q N cp at' e) ∧ Bs W q 0 (Aa xs) ∧ q ≠ n ∧ W.cell? ⟨c, 0, none⟩ = some (.func (.func 77) #[] #[])) (fun v out => v = .tuple #[agg (Bi (o.getD [])).1.cells, .bool (decide ((Bi (o.getD [])).2 = 0))] ∧ out = [RB n q N cp a1 e1]) := by
 intro W hW
 have hb1 := blkE_le h1 hx hat
 refine A3 (hp0 := [RB n q N cp at' e]) Tryz.func194 J 17 Tryz.ntmps194 J (HRep.one hW.1) (G2 ?_)
 refine .alloc (cs := Vote.zero.cells) J Vote.zr J ?_
 intro n3 hn3 hf3
 refine G4 ?_
 refine .withK (sp_v (sp_v sp_n)) J (.draw [(0, 0), (0, 1), (5, 2), (3, 3), (0, 4), (0, 5), (0, 6), (2, 7), (4, 8), (0, 9)] Be zK (.kloadE J J J Tryz.underlying114 J (by (simp [Cx.with]; omega)) (hW.2.2.2) ?_))
 refine G1 ?_
 refine .callL5 (L := [RB n q N cp at' e]) J J J J J Body120 (rd_BlockE n q N cp at' e xs hx hat hN hbig o a1 e1 h1) (rdblk_loose n q N cp a1 e1 (o.getD [])) (Ab rM Ad) (Au J) (fun w h => ⟨Af h Z1, Ba h (by simp [Cx.with]; exact hW.2.2.1) hW.2.1, hW.2.2.1⟩) ?_
 rintro v10 out10 ⟨s10, bl10, rfl, hac10, rfl⟩
 simp only [List.append_assoc, List.cons_append, List.nil_append]
 refine .cV J J J J Body77 (vote_read s10.p s10.n s10.c (o.getD []) hac10.num.symm (fun e => hac10.nil e) (by rw [hac10.num]; omega)) (fun w h => hac10.see (Lies.of h (by repeat (exact Ar)))) ?_
 refine G3 ?_
 refine .alloc (cs := Vote.zero.cells) J Vote.zr J ?_
 intro n5 hn5 hf5
 refine G6 ?_
 simp only [List.cons_append, List.nil_append, List.append_nil, List.append_assoc]
 refine G9 ?_
 refine Ai (out := (RB n q N cp a1 e1 :: [])) (Aw J J J Y81.h J Sz81 mR (by exact Vote.length zA)) (Ab rM Ad) ?_
 exact ⟨rfl, rfl⟩

theorem pm_one {hp l R : List Blk} {x : Blk} (h : hp.Perm ((x :: l) ++ R)) : hp.Perm (([x] ++ l) ++ R) := h
def votesR (xs : List UInt8) : Nat → Nat → Int → Option (List Vote × Nat × Int)
  | 0, a, e => some ([], a, e)
  | k + 1, a, e => (votesR xs k a e).bind fun r => if (Bi ((blkR xs r.2.1 r.2.2).1.getD [])).2 = 0 ∧ (blkR xs r.2.1 r.2.2).2.2 = 0 then some (r.1 ++ [(Bi ((blkR xs r.2.1 r.2.2).1.getD [])).1], (blkR xs r.2.1 r.2.2).2) else none
def readVL (xs : List UInt8) (M a : Nat) (e : Int) : Option (List Vote × Nat × Int) :=
  if (A0 xs a e).2.2 = 0 ∧ (A0 xs a e).1.toNat ≤ M then votesR xs (A0 xs a e).1.toNat (A0 xs a e).2.1 (A0 xs a e).2.2 else none
theorem votesR_step {xs : List UInt8} {k a : Nat} {e : Int} {vs : List Vote} {a2 a3 : Nat} {e2 e3 : Int} {o : Option (List UInt8)} (h : votesR xs k a e = some (vs, a2, e2)) (hb : blkR xs a2 e2 = (o, a3, e3)) (h1 : (Bi (o.getD [])).2 = 0) (h2 : e3 = 0) : votesR xs (k + 1) a e = some (vs ++ [(Bi (o.getD [])).1], a3, e3) := by
  rw [votesR, h, Option.bind_some]
  simp only [hb]
  rw [if_pos ⟨h1, h2⟩]
theorem votesR_stop {xs : List UInt8} {k a : Nat} {e : Int} {vs : List Vote} {a2 a3 : Nat} {e2 e3 : Int} {o : Option (List UInt8)} (h : votesR xs k a e = some (vs, a2, e2)) (hb : blkR xs a2 e2 = (o, a3, e3)) (h1 : ¬ ((Bi (o.getD [])).2 = 0 ∧ e3 = 0)) : ∀ m, k < m → votesR xs m a e = none
  | 0, hm => absurd hm oM
  | m + 1, hm => by
    rcases Nat.lt_succ_iff_lt_or_eq.1 hm with h3 | rfl
    · rw [votesR, votesR_stop h hb h1 m h3]; rfl
    · rw [votesR, h, Option.bind_some]
      simp only [hb]
      rw [if_neg h1]
theorem voteRd_vok (xs : List UInt8) : (Bi xs).1.ok := by
  unfold Bi
  split
  · obtain ⟨x1, r1, h1⟩ : ∃ l r, A0 xs 0 0 = (l, r) := ⟨_, _, rfl⟩
    obtain ⟨a1, e1⟩ := r1
    obtain ⟨x2, r2, h2⟩ : ∃ l r, A0 xs a1 e1 = (l, r) := ⟨_, _, rfl⟩
    obtain ⟨a2, e2⟩ := r2
    obtain ⟨x3, r3, h3⟩ : ∃ l r, A0 xs a2 e2 = (l, r) := ⟨_, _, rfl⟩
    obtain ⟨a3, e3⟩ := r3
    obtain ⟨l4, r4, h4⟩ : ∃ l r, Cl xs a3 e3 = (l, r) := ⟨_, _, rfl⟩
    obtain ⟨a4, e4⟩ := r4
    obtain ⟨x5, r5, h5⟩ : ∃ l r, A0 xs a4 e4 = (l, r) := ⟨_, _, rfl⟩
    obtain ⟨a5, e5⟩ := r5
    obtain ⟨l6, r6, h6⟩ : ∃ l r, Cl xs a5 e5 = (l, r) := ⟨_, _, rfl⟩
    obtain ⟨a6, e6⟩ := r6
    obtain ⟨l7, r7, h7⟩ : ∃ l r, takR xs 64 a6 e6 = (l, r) := ⟨_, _, rfl⟩
    obtain ⟨a7, e7⟩ := r7
    have hd1 := Bc h1 rfl (Nat.zero_le _)
    have hd2 := Bc h2 rfl hd1
    have hd3 := Bc h3 rfl hd2
    have hd4 := Ci h4 rfl hd3
    have hd5 := Bc h5 rfl hd4.1
    have hd6 := Ci h6 rfl hd5
    have hd7 := takE_le h7 rfl hd6.1
    have hvp : (voteP xs).1 = (⟨x1, x2, ((min x3.toNat 4 : Nat) : Int), l4, x5, l6, l7 ++ (List.replicate 64 0).drop l7.length⟩ : Vote) := by simp only [voteP, h1, h2, h3, h4, h5, h6, h7]
    show (voteP xs).1.ok
    rw [hvp]
    exact ⟨hd4.2, hd6.2, by rcases hd7.2 with h | h <;> simp [h]⟩
  · exact Vote.zero_ok
theorem wf_small {x : Int} (h0 : 0 ≤ x) (h4 : x ≤ 4) : (Lit.int .i64 x).wf = true := by
  have e1 : IntKind.i64.min = -9223372036854775808 := rfl
  have e2 : IntKind.i64.max = 9223372036854775807 := rfl
  simp [Lit.wf]
  omega
structure Vgood (V : Vote) : Prop where
  ok : V.ok
  wf : (Lit.int .i64 V.fPhase).wf = true
theorem voteRd_good (xs : List UInt8) : Vgood (Bi xs).1 := ⟨voteRd_vok xs, by
  unfold Bi
  split
  · refine wf_small ?_ ?_ <;> simp only [voteP] <;> omega
  · exact wf_small dE dE⟩
def VotesRead (xs : List UInt8) (M a : Nat) (e : Int) (n q N cp : Nat) (v : Value) (out : List Blk) : Prop :=
  ∃ s bl a1 e1, a1 ≤ N ∧ out = bl ++ [RB n q N cp a1 e1] ∧ v = .tuple #[Sl.v s, .bool (readVL xs M a e).isSome] ∧ (∀ vs a2 e2, readVL xs M a e = some (vs, a2, e2) → a1 = a2 ∧ e1 = e2 ∧ vs.length ≤ M ∧ (∀ V ∈ vs, Vgood V) ∧ Hw.Acc s bl (vs.map Vote.cells).flatten 81 vs.length 132)
theorem votes_none {xs : List UInt8} {M a : Nat} {e : Int} {n q N cp a1 : Nat} {e1 : Int} (h : readVL xs M a e = none) (ha : a1 ≤ N) : VotesRead xs M a e n q N cp (.tuple #[.slice none 0 0, .bool false]) (RB n q N cp a1 e1 :: []) :=
  ⟨Sl.nil, [], a1, e1, ha, rfl, by rw [h]; rfl, fun vs a2 e2 h2 => by rw [h] at h2; cases h2⟩
structure VSt where
  k : Nat
  s : Sl
  bl : List Blk
  vs : List Vote
  a : Nat
  e : Int

theorem read_votes (n q N cp at' : Nat) (e : Int) (c M : Nat) (xs : List UInt8) (hx : xs.length = N) (hat : at' ≤ N) (hN : N ≤ cp) (hbig : N ≤ 90000) (hcn : c ≠ n) (hM : M ≤ 1000) : Meets Tryz.prog 99 [ptr n 0, i64 (M : Int), .func (.func 194) #[] #[ptr c 0]] [n] (fun W => BlkOk W (RB n q N cp at' e) ∧ Bs W q 0 (Aa xs) ∧ q ≠ n ∧ W.cell? ⟨c, 0, none⟩ = some (.func (.func 77) #[] #[])) (VotesRead xs M at' e n q N cp) := by
 intro W hW
 obtain ⟨x1, r1, h1⟩ : ∃ l r, A0 xs at' e = (l, r) := ⟨_, _, rfl⟩
 obtain ⟨a1, e1⟩ := r1
 have hd1 := Bc h1 hx hat
 have hMw : (UInt64.ofNat M).toNat = M := A6 oM
 have hrv : readVL xs M at' e = if e1 = 0 ∧ x1.toNat ≤ M then votesR xs x1.toNat a1 e1 else none := by simp only [readVL, h1]
 refine A3 (hp0 := [RB n q N cp at' e]) Tryz.func99 J 47 Tryz.ntmps99 J (HRep.one hW.1) (G9 ?_)
 refine .callL (L := [RB n q N cp at' e]) J J J J J Body94 (rd_NumberE n q N cp at' e xs hx hat hN oM x1 a1 e1 h1) (Ab rM Ad) (Au J) (fun w h => ⟨Af h Z0, Ba h (by simp; exact hW.2.2.1) hW.2.1, hW.2.2.1⟩) ?_
 rintro v13 out13 ⟨rfl, rfl⟩
 refine G7 ?_
 refine .cV J J J J Body192 (rd_Err n q N cp a1 e1) (fun w h => Af h Z0) ?_
 refine two (fun r hr k => Tr.nei J J J J hr k) (fun hs2_20 => ?_) (fun hs2_20 => ?_)
 ·
  have hs2_2 := nd_t hs2_20
  refine G8 ?_
  refine .cond_t J J (G9 ?_)
  refine Ai (out := (RB n q N cp a1 e1 :: [])) (A7 J J J) (Ab rM Ad) ?_
  exact votes_none (by rw [hrv]; exact if_neg (fun h => by omega)) oM
 have hs2_2 := nd_f hs2_20
 refine G4 ?_
 rw [Cf (n := M) oM]
 refine G4 ?_
 refine .condP J (fun hc0 => ?_) (fun hc0 => ?_)
 ·
  have hno : ¬ (e1 = 0 ∧ x1.toNat ≤ M) := by omega
  refine G9 ?_
  refine Ai (out := (RB n q N cp a1 e1 :: [])) (A7 J J J) (Ab rM Ad) ?_
  exact votes_none (by rw [hrv]; exact if_neg (fun h => by omega)) oM
 have hyes : e1 = 0 ∧ x1.toNat ≤ M := by omega
 have hx64 : x1 = UInt64.ofNat x1.toNat := by simp
 refine G5 ?_
 refine .mkRoomN (z := agg Vote.zero.cells) (by' := 160) x1.toNat J J J J J Y24.h Sz81 Vote.zr (by unfold By; kernel_rfl) oM oM ?_
 intro q9
 refine G11 ?_
 refine .loop (ι := VSt) (fun p => ⟨[(0, ptr n 0), (2, .func (.func 194) #[] #[ptr c 0]), (9, p.s.v), (25, u64 x1), (26, u64 (UInt64.ofNat p.k))], (RB n q N cp p.a p.e :: (p.bl ++ []))⟩) (fun p => p.k ≤ x1.toNat ∧ votesR xs p.k a1 e1 = some (p.vs, p.a, p.e) ∧ p.a ≤ N ∧ Hw.Acc p.s p.bl (p.vs.map Vote.cells).flatten 81 p.k 132 ∧ p.vs.length = p.k ∧ ∀ V ∈ p.vs, Vgood V) (fun p => x1.toNat - p.k) (⟨0, ⟨some ⟨q9, 0, none⟩, 0, x1.toNat⟩, [⟨q9, [], 81, x1.toNat * 132⟩], [], a1, e1⟩) ?_ ?_ ?_
 · exact ⟨Nat.zero_le _, rfl, hd1, Acc.some (Nat.zero_le _) sP, rfl, fun V h => (by cases h)⟩
 · exact Ae (wk1 rfl (wk1 rfl (wk1 rfl (wk1 rfl (wk1 rfl wk0))))) (Ab rM (pm_one (Ab rM Ad)))
 rintro p hp
 obtain ⟨k, s, bl, vs, a2, e2⟩ := p
 obtain ⟨hk, hvr, ha2, hac, hvl, hvo⟩ := hp
 dsimp only at hk hvr ha2 hac hvl hvo ⊢
 obtain ⟨o, r3, hb3⟩ : ∃ l r, blkR xs a2 e2 = (l, r) := ⟨_, _, rfl⟩
 obtain ⟨a3, e3⟩ := r3
 have hd3 := blkE_le hb3 hx ha2
 refine G6 ?_
 refine .condP J (fun hc1 => ?_) (fun hc1 => ?_)
 ·
  have hk64 : (UInt64.ofNat k).toNat = k := A6 oM
  have hk2 : k < x1.toNat := by omega
  refine G8 ?_
  refine .callCL (L := [RB n q N cp a2 e2]) J J J J J J Body194 (item_vote n q N cp a2 e2 c xs hx ha2 hN hbig hcn o a3 e3 hb3 (voteRd_vok _)) (Ab rM Ad) (Au J) (fun w h => ⟨Af h Z0, Ba h (by simp; exact hW.2.2.1) hW.2.1, hW.2.2.1, h.keeps.cell (by simp; exact hcn) hW.2.2.2⟩) ?_
  rintro v31 out31 ⟨rfl, rfl⟩
  refine G2 ?_
  refine .extractB J J J J (fun hs7_50 => ?_) (fun hs7_50 => ?_)
  ·
   have hs7_5 := of_decide_eq_true hs7_50
   refine .alloc (cs := Vote.zero.cells) J Vote.zr J ?_
   intro n10 hn10 hf10
   refine .sA J J J J (Vote.isCell (by exact voteRd_vok _)) Sz81 (Vote.length (by exact voteRd_vok _)) Z0 (Vote.length zT) zU ?_
   refine G10 ?_
   refine .cV J J J J Body192 (rd_Err n q N cp a3 e3) (fun w h => Af h Z1) ?_
   refine G4 ?_
   refine .condNP J (fun hc2 => ?_) (fun hc2 => ?_)
   ·
    refine G14 ?_
    refine Ai (out := (RB n q N cp a3 e3 :: [])) (A7 J J J) (Ab rM Ad) ?_
    exact votes_none (by rw [hrv, if_pos hyes]; exact votesR_stop hvr hb3 oM _ hk2) hd3.1
   refine G4 ?_
   refine .lA J J J Y81.h J Sz81 Z0 (Vote.length (by exact voteRd_vok _)) ?_
   refine .mkRow (z := agg Vote.zero.cells) [agg (Bi (o.getD [])).1.cells] (Bi (o.getD [])).1.cells J J J Y24.h Sz81 Vote.zr J J (by intro v hv; rw [List.mem_singleton.1 hv]; exact Vote.length (voteRd_vok _)) dE (by simp [Value.cells]) ?_
   intro q43
   refine .appendAcc (z := agg Vote.zero.cells) (by' := 160) ((Bi (o.getD [])).1.cells) J J J J J Y24.h Y24.h Sz81 Zr81 (by unfold By; kernel_rfl) J hac sG (fun w h => SeesP.of (Ah h Z0)) (fun e => by cases e) (Vote.isCell (voteRd_vok _)) oM oM (by rw [Vote.length (voteRd_vok _)]) ?_
   intro s44 bl44 hac44
   refine G5 ?_
   refine .add_u64 J J J (show Al _ _ = some (u64 1) from rfl) (G3 ?_)
   refine ⟨⟨k + 1, s44, bl44, vs ++ [(Bi (o.getD [])).1], a3, e3⟩, ⟨by simp only []; omega, votesR_step hvr hb3 hs7_5 oM, hd3.1, by simpa using hac44, by simp [hvl], fun V hV => ?_⟩, by simp only []; omega, Ae (wk1 J (wk1 J (wk1 J (wk1 J (wk1 (congrArg (fun z => some (u64 z)) (ofNat_step _)) wk0))))) (Ab rM (Aj sG Ad))⟩
   rcases List.mem_append.1 hV with h | h
   · exact hvo V h
   · rw [List.mem_singleton.1 h]; exact voteRd_good _
  have hs7_5 := of_decide_eq_false hs7_50
  refine .alloc (cs := Vote.zero.cells) J Vote.zr J ?_
  intro n10 hn10 hf10
  refine .sA J J J J (Vote.isCell (by exact voteRd_vok _)) Sz81 (Vote.length (by exact voteRd_vok _)) Z0 (Vote.length zT) zU ?_
  refine G15 ?_
  refine .cond_t J J (G14 ?_)
  refine Ai (out := (RB n q N cp a3 e3 :: [])) (A7 J J J) (Ab rM Ad) ?_
  exact votes_none (by rw [hrv, if_pos hyes]; exact votesR_stop hvr hb3 oM _ hk2) hd3.1
 have hk64 : (UInt64.ofNat k).toNat = k := A6 oM
 have hke : k = x1.toNat := by omega
 refine G14 ?_
 refine Ai (out := (bl ++ (RB n q N cp a2 e2 :: []))) (A7 J J J) (Aj sG (Ab rM Ad)) ?_
 have hfin : readVL xs M at' e = some (vs, a2, e2) := by rw [hrv, if_pos hyes, ← hke]; exact hvr
 exact ⟨s, bl, a2, e2, ha2, by simp, by rw [hfin]; rfl, fun vs2 a4 e4 h4 => by rw [hfin] at h4; cases h4; exact ⟨rfl, rfl, by omega, hvo, by rw [hvl]; exact hac⟩⟩

def dcertz : DCert := ⟨DCut.zero, []⟩
noncomputable def Bv (xs : List UInt8) : DCert × Int :=
  if (B8 ((blkR xs 0 0).1.getD [])).2 = 0 then
    match readVL xs 16 (blkR xs 0 0).2.1 (blkR xs 0 0).2.2 with
    | some (vs, a, e) => if endR xs.length a e = 0 ∧ (⟨(B8 ((blkR xs 0 0).1.getD [])).1, vs⟩ : DCert).check = 0 then (⟨(B8 ((blkR xs 0 0).1.getD [])).1, vs⟩, 0) else (dcertz, 4)
    | none => (dcertz, 4)
  else (dcertz, 4)
theorem certz_is (W : World) : CertIs W Cert.zero dcertz := ⟨Cert.zero_ok, cutz_is W, ⟨[], SeqIs.none⟩⟩
def CertRead (xs : List UInt8) (v : Value) (out : List Blk) : Prop := ∃ C : Cert, C.ok ∧ v = .tuple #[agg C.cells, i64 (Bv xs).2] ∧ ∀ W2, Lies out W2 → CertIs W2 C (Bv xs).1
theorem cert_bad {xs : List UInt8} {out : List Blk} (h : Bv xs = (dcertz, 4)) : CertRead xs (.tuple #[agg Cert.zero.cells, i64 4]) out := by
  refine ⟨Cert.zero, Cert.zero_ok, ?_, fun W2 _ => ?_⟩ <;> rw [h]
  exact certz_is W2
theorem cert_okR {xs : List UInt8} {out : List Blk} {C : Cert} {D : DCert} (h : Bv xs = (D, 0)) (hok : C.ok) (hC : ∀ W2, Lies out W2 → CertIs W2 C D) : CertRead xs (.tuple #[agg C.cells, i64 0]) out := by
  refine ⟨C, hok, ?_, fun W2 h2 => ?_⟩ <;> rw [h]
  exact hC W2 h2
theorem upd_cut {C : Cert} (h : C.ok) {X : Cut} (hx : X.ok) : upd C.cells (0 + 0) X.cells = ({ C with fCut := X } : Cert).cells := by
  have h1 := Cut.length h.o_fCut
  have h2 := Cut.length hx
  simp only [upd, Cert.cells, Nat.zero_add, List.take_zero, List.nil_append, h2]
  congr 1
  rw [← h1, List.drop_left]

theorem owned_vs {s : Sl} {bl : List Blk} {vs : List Vote} (hv : ∀ V ∈ vs, Vgood V) (h : Hw.Acc s bl (vs.map Vote.cells).flatten 81 vs.length 132) (hm : vs.length ≤ 1000000) : ∀ W2, Lies bl W2 → VotesAt W2 s vs := fun W2 hl => ⟨vs, acc_seq h hl rfl rfl (fun r hr => Vote.length (hv r hr).ok) hm fun i r d hr hd => (by
  rw [hr] at hd
  obtain rfl := Option.some.inj hd
  exact ⟨(hv r (List.mem_of_getElem? hr)).ok, rfl, (hv r (List.mem_of_getElem? hr)).wf⟩)⟩

theorem mk_item_vote  : Meets Tryz.prog 100 [.func (.func 77) #[] #[]] [] (fun _ => True) (fun v out => ∃ c, v = .func (.func 194) #[] #[ptr c 0] ∧ out = [⟨c, [.func (.func 77) #[] #[]], 114, 1⟩]) := by
 intro W hW
 refine Ak Tryz.func100 J 4 Tryz.ntmps100 J (G2 ?_)
 refine .box1 J J J ?_
 intro n1 hn1 hf1
 refine G11 ?_
 refine Ai (out := (⟨n1, [.func (.func 77) #[] #[]], 114, 1⟩ :: [])) (Ac J J) (Ab rM Ad) ?_
 exact ⟨n1, rfl, by simp⟩

theorem cert_read (a : Option Addr) (n c : Nat) (xs : List UInt8) (hl : xs.length = n) (hp : a = none → n = 0) (hn : n ≤ 90000) : Meets Tryz.prog 29 [.slice a n c] [] (fun W => SeesP W a (Aa xs)) (CertRead xs) := by
 intro W hW
 obtain ⟨o, r1, h1⟩ : ∃ l r, blkR xs 0 0 = (l, r) := ⟨_, _, rfl⟩
 obtain ⟨a1, e1⟩ := r1
 have hd1 := blkE_le h1 hl (Nat.zero_le _)
 have hcr : Bv xs = if (B8 (o.getD [])).2 = 0 then (match readVL xs 16 a1 e1 with | some (vs, a, e) => if endR xs.length a e = 0 ∧ (⟨(B8 (o.getD [])).1, vs⟩ : DCert).check = 0 then ((⟨(B8 (o.getD [])).1, vs⟩ : DCert), (0 : Int)) else (dcertz, (4 : Int)) | none => (dcertz, (4 : Int))) else (dcertz, (4 : Int)) := by simp only [Bv, h1]
 refine Ak Tryz.func29 J 40 Tryz.ntmps29 J (.sr (.alloc (cs := Cert.zero.cells) J Cert.zr J ?_))
 intro n2 hn2 hf2
 refine .a J J J (.nsr (.m J J J (.call4 J J J J J Body91 (oct_Read a n c xs hl hp hn) (fun w h => Ao h J hW) ?_)))
 rintro v7 out7 ⟨n7, q7, cp7, rfl, hcp7, rfl⟩
 refine .nd (fun hnd => ?_)
 have hne : q7 ≠ n7 := by intro e; simp [RB, e] at hnd
 clear hnd
 refine .a J J J (.nsr (.alloc (cs := Cert.zero.cells) J Cert.zr J ?_))
 intro n5 hn5 hf5
 refine .nsr (.a J J J (.na (.seq (.sr (.m J J J (.callL (L := [RB n7 q7 n cp7 0 0]) J J J J J Body120 (rd_BlockE n7 q7 n cp7 0 0 xs hl (Nat.zero_le _) hcp7 hn o a1 e1 h1) (Ab rM Ad) (Au J) (fun w h => ⟨Af h Z1, Ah h Z2, hne⟩) ?_))))))
 rintro v12 out12 ⟨s12, bl12, rfl, hac12, rfl⟩
 simp only [List.append_assoc, List.cons_append, List.nil_append]
 refine .call4 J J J J J Body79 (cut_read s12.p s12.n s12.c (o.getD []) hac12.num.symm (fun e => hac12.nil e) (by rw [hac12.num]; omega)) (fun w h => hac12.see (Lies.of h (by repeat (exact Ar)))) ?_
 rintro v13 out13 ⟨C13, okC, rfl, hC13⟩
 refine .m J J J (.eX J J J J (.eX J J J J (.fld J J J Y55.h J Sz53 dE _ J (.storeN C13.cells J J J J J (Cut.isCell okC) Sz53 (Cut.length okC) mR (by rw [Cert.length Cert.zero_ok, Cut.length okC]; decide) (upd_cut Cert.zero_ok okC) uU ?_))))
 refine .a J J J (.nsr (.m J J J (.nei J J J J J (.na (.condNP J (fun hc0 => ?_) (fun hc0 => ?_))))))
 ·
  refine .sr (.build (cs := Cert.zero.cells) J J J (fun w => by kernel_rfl) ?_)
  refine .sA J J J J (Cert.isCell (by exact Cert.zero_ok)) Sz55 (Cert.length (by exact Cert.zero_ok)) mR (Cert.length (by exact Cert.zero_ok)) uU ?_
  refine .a J J J (.na (.ret (at_r (en_r (Ai (out := []) (Aw J J J Y55.h J Sz55 mR (by exact Cert.length (by exact Cert.zero_ok))) Ad ?_)))))
  exact cert_bad (by rw [hcr]; exact if_neg oM)
 have hc13 : (B8 (o.getD [])).2 = 0 := by omega
 refine .skip (at_n (.sr (.a J J J (.na (.seq (.sr (.m J J J (.call4 J J J J J Body100 (mk_item_vote) tV ?_))))))))
 rintro v22 out22 ⟨c22, rfl, rfl⟩
 refine .nd (fun hnd => ?_)
 have hcn : c22 ≠ n7 := by intro e; simp [RB, e] at hnd
 clear hnd
 simp only [List.append_assoc, List.cons_append, List.nil_append]
 refine .callL (L := [RB n7 q7 n cp7 a1 e1]) J J J J J Body99 (read_votes n7 q7 n cp7 a1 e1 c22 16 xs hl hd1.1 hcp7 hn hcn dE) (Ab rM Ad) (Au J) (fun w h => ⟨Af h mR, Ah h mR, hne, (Af (B := ⟨c22, _, _, _⟩) h Z0).cell (o := 0) J⟩) ?_
 rintro v23 out23 ⟨s23, bl23, a2, e2, ha2, rfl, rfl, hv23⟩
 simp only [List.append_assoc, List.cons_append, List.nil_append]
 refine .m J J J (.eX J J J J (.extractB J J J J (fun hs8_50 => ?_) (fun hs8_50 => ?_)))
 ·
  have hs8_5 := hs8_50
  obtain ⟨r23, hr23⟩ := Option.isSome_iff_exists.1 hs8_5
  obtain ⟨vs, a4, e4⟩ := r23
  obtain ⟨rfl, rfl, hvn, hvo, hvac⟩ := hv23 vs a4 e4 hr23
  refine .fld J J J Y55.h J Sz24 dE _ J (.s1 J J J J J Sz24 mR (by rw [Cert.length (by exact ⟨okC⟩)]; decide) (by exact Cert.set_fVotes (by exact ⟨okC⟩) _) uU ?_)
  refine .a J J J (.nsr (.m J J J (.not J J J (.na (.cond_f J J (.skip (at_n (.seq (.sr (.m J J J (.cV J J J J Body105 (rd_End n7 q7 n cp7 a2 e2 ha2 oM) (fun w h => Af h mR) ?_)))))))))))
  refine two (fun r hr k => Tr.nei J J J J hr k) (fun hs11_20 => ?_) (fun hs11_20 => ?_)
  ·
   have hs11_2 := nd_t hs11_20
   refine .m J J J (.skp J J (.skp J J (.skp J J (.pick J J J J J J (.na (.cond_t J J (.sr (.build (cs := Cert.zero.cells) J J J (fun w => by kernel_rfl) ?_))))))))
   refine .sA J J J J (Cert.isCell (by exact Cert.zero_ok)) Sz55 (Cert.length (by exact Cert.zero_ok)) mR (Cert.length (by exact Cert.zero_ok)) uU ?_
   refine .a J J J (.na (.ret (at_r (en_r (Ai (out := []) (Aw J J J Y55.h J Sz55 mR (by exact Cert.length (by exact Cert.zero_ok))) Ad ?_)))))
   exact cert_bad (by rw [hcr, if_pos hc13, hr23]; dsimp only; rw [hl]; exact if_neg (fun h => by have := h.1; omega))
  have hs11_2 := nd_f hs11_20
  refine .m J J J (.lA J J J Y55.h J Sz55 mR (Cert.length (by exact ⟨okC⟩)) ?_)
  refine .cV J J J J Body31 (cert_check ({ Cert.zero with fCut := C13, fVotes := s23 } : Cert) ⟨(B8 (o.getD [])).1, vs⟩) (fun w h => ⟨⟨okC⟩, hC13 w (Lies.of h (by repeat (first | exact Ar | refine B0 ?_ | refine Bn ?_))), owned_vs hvo hvac oM w (Lies.of h (by repeat (exact Ar)))⟩) ?_
  refine .nei J J J J J (.pick J J J J J J (.na (.condNP J (fun hc2 => ?_) (fun hc2 => ?_))))
  ·
   refine .sr (.build (cs := Cert.zero.cells) J J J (fun w => by kernel_rfl) ?_)
   refine .sA J J J J (Cert.isCell (by exact Cert.zero_ok)) Sz55 (Cert.length (by exact Cert.zero_ok)) mR (Cert.length (by exact Cert.zero_ok)) uU ?_
   refine .a J J J (.na (.ret (at_r (en_r (Ai (out := []) (Aw J J J Y55.h J Sz55 mR (by exact Cert.length (by exact Cert.zero_ok))) Ad ?_)))))
   exact cert_bad (by rw [hcr, if_pos hc13, hr23]; dsimp only; rw [hl]; exact if_neg (fun h => by have := h.2; omega))
  refine .skip (at_n (.sr (.lA J J J Y55.h J Sz55 mR (Cert.length (by exact ⟨okC⟩)) ?_)))
  refine .sA J J J J (Cert.isCell (by exact ⟨okC⟩)) Sz55 (Cert.length (by exact ⟨okC⟩)) mR (Cert.length (by exact Cert.zero_ok)) uU ?_
  refine .a J J J (.na (.ret (en_r (Ai (out := (out13 ++ (bl23 ++ []))) (Aw J J J Y55.h J Sz55 mR (by exact Cert.length (by exact ⟨okC⟩))) (Aj sG (Aj sG Ad)) ?_))))
  exact cert_okR (D := ⟨(B8 (o.getD [])).1, vs⟩) (by rw [hcr, if_pos hc13, hr23]; dsimp only; rw [hl]; exact if_pos ⟨by omega, by omega⟩) ⟨okC⟩ (fun W2 h2 => ⟨⟨okC⟩, hC13 W2 (h2.sub (by repeat (exact Ar))), owned_vs hvo hvac oM W2 (h2.sub (by repeat (first | exact Ar | refine Bn ?_)))⟩)
 have hs8_5 := hs8_50
 have hr23 : readVL xs 16 a1 e1 = none := by simpa using hs8_5
 refine .fld J J J Y55.h J Sz24 dE _ J (.s1 J J J J J Sz24 mR (by rw [Cert.length (by exact ⟨okC⟩)]; decide) (by exact Cert.set_fVotes (by exact ⟨okC⟩) _) uU ?_)
 refine .a J J J (.nsr (.m J J J (.not J J J (.na (.cond_t J J (.sr (.build (cs := Cert.zero.cells) J J J (fun w => by kernel_rfl) ?_)))))))
 refine .sA J J J J (Cert.isCell (by exact Cert.zero_ok)) Sz55 (Cert.length (by exact Cert.zero_ok)) mR (Cert.length (by exact Cert.zero_ok)) uU ?_
 refine .a J J J (.na (.ret (at_r (en_r (Ai (out := []) (Aw J J J Y55.h J Sz55 mR (by exact Cert.length (by exact Cert.zero_ok))) Ad ?_)))))
 exact cert_bad (by rw [hcr, if_pos hc13, hr23])

theorem drop_cons {xs l : List UInt8} {a : Nat} {f : UInt8} (h : xs.drop a = f :: l) : a < xs.length ∧ xs.getD a 0 = f ∧ xs.drop (a + 1) = l := by
  have hlt : a < xs.length := by
    rcases Nat.lt_or_ge a xs.length with h1 | h1
    · exact h1
    · rw [List.drop_eq_nil_of_le h1] at h; cases h
  rw [List.drop_eq_getElem_cons hlt] at h
  injection h with h1 h2
  exact ⟨hlt, by rw [List.getD_eq_getElem?_getD, List.getElem?_eq_getElem hlt]; exact h1, h2⟩
theorem drop_split {xs p t : List UInt8} {a : Nat} (h : xs.drop a = p ++ t) (hp : 0 < p.length) : a + p.length ≤ xs.length ∧ (xs.drop a).take p.length = p ∧ xs.drop (a + p.length) = t := by
  have h1 := congrArg List.length h
  rw [List.length_drop, List.length_append] at h1
  refine ⟨by omega, by rw [h]; simp, ?_⟩
  rw [← List.drop_drop, h]; simp
theorem dig_fwd {xs d t : List UInt8} {a : Nat} (h : xs.drop a = d ++ t) (hd : d.length = 32) : Cl xs a 0 = (d, a + 32, 0) ∧ xs.drop (a + 32) = t := by
  obtain ⟨h1, h2, h3⟩ := drop_split h oM
  rw [hd] at h1 h2 h3
  unfold Cl
  rw [if_neg sP, if_neg oM, h2]
  exact ⟨rfl, h3⟩
theorem num_fwd {xs t : List UInt8} {a : Nat} {x : UInt64} (h : xs.drop a = Ap x ++ t) : A0 xs a 0 = (x, a + szN x.toNat, 0) ∧ xs.drop (a + szN x.toNat) = t := by
  have hp := A2 x.toNat
  have hl := Am x
  obtain ⟨h1, h2, h3⟩ := drop_split h oM
  rw [hl] at h1 h2 h3
  rw [Ap, List.cons_append] at h
  obtain ⟨g1, g2, g3⟩ := drop_cons h
  obtain ⟨n1, n2⟩ := num_back x
  have hv : numV xs a = x := by
    rw [numV, g2, g3, n1, List.take_left' (tailB_length x _)]
    exact n2
  unfold A0
  rw [if_neg sP, if_neg oM, hv, g2, n1, if_neg oM, if_pos rfl]
  exact ⟨rfl, h3⟩
theorem blk_fwd {xs ds t : List UInt8} {a : Nat} (hn : ds.length ≤ 1000000) (h : xs.drop a = Ap (UInt64.ofNat ds.length) ++ ds ++ t) : blkR xs a 0 = (some ds, a + szN ds.length + ds.length, 0) ∧ xs.drop (a + szN ds.length + ds.length) = t := by
  rw [List.append_assoc] at h
  have hx : (UInt64.ofNat ds.length).toNat = ds.length := A6 hn
  obtain ⟨h1, h2⟩ := num_fwd h
  rw [hx] at h1 h2
  unfold blkR
  rw [h1]
  simp only [hx]
  rw [if_neg sP]
  have hl := congrArg List.length h2
  rw [List.length_drop, List.length_append] at hl
  have hz := A2 ds.length
  have hle : a + szN ds.length ≤ xs.length := by
    have := congrArg List.length h
    rw [List.length_drop, List.length_append, Am, hx] at this
    omega
  rw [if_neg oM, h2]
  refine ⟨by simp, ?_⟩
  rw [← List.drop_drop, h2]; simp
theorem tak_fwd {xs d t : List UInt8} {a m : Nat} (h : xs.drop a = d ++ t) (hd : d.length = m) (hm : 0 < m) : takR xs m a 0 = (d, a + m, 0) ∧ xs.drop (a + m) = t := by
  obtain ⟨h1, h2, h3⟩ := drop_split h oM
  rw [hd] at h1 h2 h3
  unfold takR
  rw [if_neg sP, if_neg oM, h2]
  exact ⟨rfl, h3⟩
theorem digs_fwd {xs t : List UInt8} {ls : List (List UInt8)} {a : Nat} (hls : ∀ l ∈ ls, l.length = 32) (h : xs.drop a = ls.flatten ++ t) : ∀ j, j ≤ ls.length → As xs j a 0 = (ls.take j, a + 32 * j, 0) ∧ xs.drop (a + 32 * j) = (ls.drop j).flatten ++ t
  | 0, _ => ⟨rfl, by simpa using h⟩
  | j + 1, hj => by
    obtain ⟨h1, h2⟩ := digs_fwd hls h j oM
    rw [List.drop_eq_getElem_cons (l := ls) (i := j) oM, List.flatten_cons, List.append_assoc] at h2
    obtain ⟨h3, h4⟩ := dig_fwd h2 (hls _ (List.getElem_mem oM))
    refine ⟨?_, by rw [show a + 32 * (j + 1) = a + 32 * j + 32 by omega]; exact h4⟩
    rw [As, h1]
    simp only [h3]
    rw [List.take_succ_eq_append_getElem oM]
    rfl
theorem dig_bwd {xs d : List UInt8} {a a1 : Nat} {e : Int} (h : Cl xs a e = (d, a1, 0)) : e = 0 ∧ a1 = a + 32 ∧ a + 32 ≤ xs.length ∧ xs.drop a = d ++ xs.drop a1 := by
  unfold Cl at h
  by_cases he : e = 0
  · rw [if_neg (by simp [he])] at h
    by_cases h1 : xs.length < a + 32
    · rw [if_pos h1] at h; simp at h
    · rw [if_neg h1] at h
      obtain ⟨rfl, rfl⟩ : (xs.drop a).take 32 = d ∧ a + 32 = a1 := by simpa using h
      exact ⟨he, rfl, by omega, by rw [← List.drop_drop, List.take_append_drop]⟩
  · rw [if_pos he] at h
    simp at h; exact absurd h.2.2 he
theorem digs_bwd {xs : List UInt8} {a : Nat} {e : Int} : ∀ (j : Nat) (ls : List (List UInt8)) (a1 : Nat), As xs j a e = (ls, a1, 0) → e = 0 ∧ ls.length = j ∧ xs.drop a = ls.flatten ++ xs.drop a1
  | 0, ls, a1, h => by
    obtain ⟨rfl, rfl, rfl⟩ : [] = ls ∧ a = a1 ∧ e = 0 := by simpa [As] using h
    exact ⟨rfl, rfl, rfl⟩
  | j + 1, ls, a1, h => by
    rw [As] at h
    obtain ⟨h1, h2⟩ : (As xs j a e).1 ++ [(Cl xs (As xs j a e).2.1 (As xs j a e).2.2).1] = ls ∧ (Cl xs (As xs j a e).2.1 (As xs j a e).2.2).2 = (a1, 0) := by simpa using h
    obtain ⟨g1, g2, g3, g4⟩ := dig_bwd (xs := xs) (d := (Cl xs (As xs j a e).2.1 (As xs j a e).2.2).1) (a := (As xs j a e).2.1) (a1 := a1) (e := (As xs j a e).2.2) (by rw [← h2])
    obtain ⟨k1, k2, k3⟩ := digs_bwd j (As xs j a e).1 (As xs j a e).2.1 (by rw [← g1])
    refine ⟨k1, by rw [← h1, List.length_append, k2]; rfl, ?_⟩
    rw [← h1, List.flatten_append, k3, g4]
    simp
theorem readP_bytes {D : DB} (h : D.ok) (hc : D.check = 0) (t : List UInt8) : readP (D.bytes ++ t) = (D, D.bytes.length, 0) := by
  have hs := D.head_small hc
  have hl1 : (UInt64.ofNat D.ls.length).toNat = D.ls.length := A6 oM
  obtain ⟨xs, hxs⟩ : ∃ xs, D.bytes ++ t = xs := ⟨_, rfl⟩
  rw [hxs]
  have h0 : xs.drop 0 = D.w ++ (Ap D.seq ++ (D.prev ++ (Ap (UInt64.ofNat D.ls.length) ++ (D.ls.flatten ++ (Ap (UInt64.ofNat D.ds.length) ++ D.ds ++ (D.sg ++ t)))))) := by
    rw [List.drop_zero, ← hxs]
    simp only [DB.bytes, DB.body, List.append_assoc]
  obtain ⟨r1, h1⟩ := dig_fwd h0 h.w
  obtain ⟨r2, h2⟩ := num_fwd h1
  obtain ⟨r3, h3⟩ := dig_fwd h2 h.prev
  obtain ⟨r4, h4⟩ := num_fwd h3
  rw [hl1] at r4 h4
  obtain ⟨r5, h5⟩ := digs_fwd h.ls h4 D.ls.length (Nat.le_refl _)
  rw [List.take_length] at r5
  rw [List.drop_length, List.flatten_nil, List.nil_append] at h5
  obtain ⟨r6, h6⟩ := blk_fwd oM h5
  obtain ⟨r7, h7⟩ := tak_fwd h6 h.sg dE
  have hk : min (UInt64.ofNat D.ls.length).toNat 17 = D.ls.length := by omega
  have hlen : D.bytes.length = 0 + 32 + szN D.seq.toNat + 32 + szN D.ls.length + 32 * D.ls.length + szN D.ds.length + D.ds.length + 64 := by
    have hfl := Bf h.ls (Nat.le_refl D.ls.length)
    rw [List.take_length] at hfl
    simp only [DB.bytes, DB.body, List.length_append, Am, h.w, h.prev, h.sg, hfl, hl1, A6 (n := D.ds.length) oM]
    omega
  simp only [readP, r1, r2, r3, r4, hk, r5, r6, r7, Option.getD_some]
  rw [h.sg, hlen, List.drop_of_length_le sP, List.append_nil]
theorem readD_bytes {D : DB} (h : D.ok) (hc : D.check = 0) : readD D.bytes = (D, 0) := by
  have hr := readP_bytes h hc []
  rw [List.append_nil] at hr
  rw [readD_ok (by rw [hr]; exact ⟨by simp [endR], hc⟩), hr]
theorem bytes_inj {D E : DB} (hD : D.ok) (hE : E.ok) (cD : D.check = 0) (cE : E.check = 0) : D.bytes = E.bytes ↔ D = E := by
  constructor
  · intro h
    have h1 := readD_bytes hD cD
    rw [h, readD_bytes hE cE] at h1
    exact (congrArg Prod.fst h1).symm
  · intro h; rw [h]

theorem vcheck_phase {V : Vote} (h : A5 V = 0) : 1 ≤ V.fPhase ∧ V.fPhase ≤ 3 := by
  have h2 : vokB V = true := by
    cases e : vokB V
    · unfold A5 at h
      rw [e] at h
      split at h <;> cases h
    · rfl
  unfold vokB at h2
  by_cases h3 : V.fPhase = 1
  · omega
  · rw [if_neg h3] at h2
    by_cases h4 : V.fPhase = 2 ∨ V.fPhase = 3
    · omega
    · rw [if_neg h4] at h2; cases h2

def DRecord.check (D : DRecord) : Int := if D.dKind = 0 ∨ (8192 : Int) < (D.dData.length : Int) then 2 else 0

def inOrd (ds : List DCert) : Bool := (List.range ds.length).all fun k => decide ((ds.getD k dcertz).dCut.dHeight.toNat = k + 1)

def drecz : DRecord := ⟨0, []⟩
def recOf (K : UInt8) (bs : List UInt8) (chk : Int) : DRecord × Int := if chk = 0 then (if (⟨K, bs⟩ : DRecord).check = 0 then (⟨K, bs⟩, 0) else (drecz, 2)) else (drecz, chk)
def A9 (D : DB) : List UInt8 := if D.check = 0 then D.bytes else []
theorem block_bytes (X : Block) (D : DB) : Meets Tryz.prog 111 [agg X.cells] [] (fun W => BlockIs W X D) (fun v out => ∃ s : Sl, v = .tuple #[s.v, i64 D.check] ∧ Hw.Acc s out (Aa (A9 D)) 5 (A9 D).length 1) := by
  intro W hW
  have hbc : bcheck X D.ls = D.check := hW.check
  by_cases hc : D.check = 0
  · refine (bytes_ok X hW.ok D.ls D.ds (by rw [hbc]; exact hc) W ⟨hW.ls, hW.ds⟩).mono fun e W' ⟨v, out, h1, h2, h4⟩ => ⟨v, out, h1, ?_, h4⟩
    clear h1 h4
    obtain ⟨q, c, N, hN, hN2, rfl, hNc, rfl⟩ := h2
    have e : bytesB X D.ls D.ds = A9 D := by rw [A9, if_pos hc]; exact hW.bytes
    rw [e] at hN ⊢
    subst hN
    exact ⟨⟨some ⟨q, 0, none⟩, (A9 D).length, c⟩, by rw [hc]; rfl, .inr ⟨q, c, rfl, hNc, by simp [Aa], rfl⟩⟩
  · refine (bytes_bad X hW.ok D.ls D.ds (by rw [hbc]; exact hc) W ⟨hW.ls, hW.ds⟩).mono fun e W' ⟨v, out, h1, h2, h4⟩ => ⟨v, out, h1, ?_, h4⟩
    clear h1 h4
    obtain ⟨rfl, rfl⟩ := h2
    rw [A9, if_neg hc, hbc]
    exact ⟨Sl.nil, rfl, .inl ⟨rfl, rfl, rfl, rfl⟩⟩


def dkz : DKept := ⟨[], [], [], []⟩
noncomputable def keepStep (D : DKept) (r : DRecord) : Option DKept :=
  if r.dKind = 1 then (if (readD r.dData).2 = 0 then some { D with dBlocks := D.dBlocks ++ [(readD r.dData).1] } else none)
  else if r.dKind = 2 then (if (Bv r.dData).2 = 0 then some { D with dCerts := D.dCerts ++ [(Bv r.dData).1] } else none)
  else if r.dKind = 3 then (if (Bi r.dData).2 = 0 then some { D with dVotes := D.dVotes ++ [(Bi r.dData).1] } else none)
  else if r.dKind = 4 then (if (B8 r.dData).2 = 0 then some { D with dCuts := D.dCuts ++ [(B8 r.dData).1] } else none)
  else none
noncomputable def keepR (ds : List DRecord) : Option DKept := ds.foldl (fun o r => o.bind fun D => keepStep D r) (some dkz)
theorem keepR_snoc (l : List DRecord) (d : DRecord) : keepR (l ++ [d]) = (keepR l).bind fun D => keepStep D d := by simp [keepR, List.foldl_append]
theorem fold_none (l : List DRecord) : l.foldl (fun o r => o.bind fun D => keepStep D r) none = none := by
  induction l with
  | nil => rfl
  | cons a l ih => exact ih
theorem keepR_none {ds : List DRecord} {j : Nat} (h : keepR (ds.take j) = none) : keepR ds = none := by
  have e : keepR ds = keepR (ds.take j ++ ds.drop j) := by rw [List.take_append_drop]
  rw [e, keepR, List.foldl_append]
  have h' : (ds.take j).foldl (fun o r => o.bind fun D => keepStep D r) (some dkz) = none := h
  rw [h', fold_none]
theorem keepR_step {ds : List DRecord} {k : Nat} {d : DRecord} (h : ds[k]? = some d) {D : DKept} (hD : keepR (ds.take k) = some D) : keepR (ds.take (k + 1)) = keepStep D d := by
  rw [take_snoc h, keepR_snoc, hD]; rfl
structure KSt where
  i : Nat
  K : Kept
  D : DKept
  m1 : Nat
  m2 : Nat
  m3 : Nat
  m4 : Nat
  b1 : List Blk
  o1 : List Blk
  r1 : List Block
  b2 : List Blk
  o2 : List Blk
  r2 : List Cert
  b3 : List Blk
  r3 : List Vote
  b4 : List Blk
  o4 : List Blk
  r4 : List Cut
structure KInv (ds : List DRecord) (p : KSt) : Prop where
  fold : keepR (ds.take p.i) = some p.D
  ok : p.K.ok
  q1 : OwnSeq Block.cells 131 BlockIs 79 p.K.fBlocks p.b1 p.o1 p.r1 p.D.dBlocks p.m1
  q2 : OwnSeq Cert.cells 35 CertIs 55 p.K.fCerts p.b2 p.o2 p.r2 p.D.dCerts p.m2
  q3 : OwnSeq Vote.cells 132 VoteIs 81 p.K.fVotes p.b3 [] p.r3 p.D.dVotes p.m3
  q4 : OwnSeq Cut.cells 34 CutIs 53 p.K.fCuts p.b4 p.o4 p.r4 p.D.dCuts p.m4
  le : p.m1 ≤ p.i ∧ p.m2 ≤ p.i ∧ p.m3 ≤ p.i ∧ p.m4 ≤ p.i
def ks0 : KSt := ⟨0, Kept.zero, dkz, 0, 0, 0, 0, [], [], [], [], [], [], [], [], [], [], []⟩
theorem KInv.first (ds : List DRecord) : KInv ds ks0 := ⟨rfl, Kept.zero_ok, OwnSeq.none, OwnSeq.none, OwnSeq.none, OwnSeq.none, ⟨Nat.le_refl _, Nat.le_refl _, Nat.le_refl _, Nat.le_refl _⟩⟩
def JI (ds : List DRecord) (i : Nat) (pb : Bool × KSt) : Prop := (pb.1 = true → KInv ds pb.2 ∧ pb.2.i = i + 1) ∧ (pb.1 = false → keepR ds = none)
theorem KInv.fail {ds : List DRecord} {p : KSt} {d : DRecord} (h : KInv ds p) (hd : ds[p.i]? = some d) (h1 : d.dKind = 1 → ¬ (readD d.dData).2 = 0) (h2 : d.dKind = 2 → ¬ (Bv d.dData).2 = 0) (h3 : d.dKind = 3 → ¬ (Bi d.dData).2 = 0) (h4 : d.dKind = 4 → ¬ (B8 d.dData).2 = 0) : keepR ds = none := by
  refine keepR_none (j := p.i + 1) ?_
  rw [keepR_step hd h.fold, keepStep]
  split
  · rename_i e; rw [if_neg (h1 e)]
  · split
    · rename_i e; rw [if_neg (h2 e)]
    · split
      · rename_i e; rw [if_neg (h3 e)]
      · split
        · rename_i e; rw [if_neg (h4 e)]
        · rfl
theorem KInv.skip {ds : List DRecord} {p : KSt} {d : DRecord} (h : KInv ds p) (hd : ds[p.i]? = some d) (h1 : ¬ d.dKind = 1) (h2 : ¬ d.dKind = 2) (h3 : ¬ d.dKind = 3) (h4 : ¬ d.dKind = 4) : JI ds p.i (false, p) :=
  ⟨fun e => (by cases e), fun _ => h.fail hd (fun e => absurd e h1) (fun e => absurd e h2) (fun e => absurd e h3) (fun e => absurd e h4)⟩


def sameC (a b : DCut) : Bool := decide ((a.dHeight.toNat : Int) = (b.dHeight.toNat : Int)) && (decide (a.dPrev = b.dPrev) && decide (a.dHeads = b.dHeads))

theorem kit_cut (A B : Cut) (a b : DCut) (hn : A.fHeads.n ≤ 1000000) : Meets Tryz.prog 90 [agg A.cells, agg B.cells] [] (fun W => CutIs W A a ∧ CutIs W B b) (fun v out => v = .bool (sameC a b) ∧ out = []) := by
 intro W hW
 have hA := hW.1.ok
 have hB := hW.2.ok
 have e1 := hW.1.fHeight
 have e2 := hW.2.fHeight
 have e3 := hW.1.fPrev
 have e4 := hW.2.fPrev
 refine Ak Tryz.func90 J 24 Tryz.ntmps90 J (G3 ?_)
 intro n2 hn2 hf2
 refine G1 ?_
 intro n3 hn3 hf3
 refine G9 ?_
 refine two (fun r hr k => Tr.eqi J J J J hr k) (fun hs1_40 => ?_) (fun hs1_40 => ?_)
 ·
  have hs1_4 := of_decide_eq_true hs1_40
  refine G2 ?_
  refine .lN (Aa _) J J J Y50.h J Sz50 Z1 (Cut.row_fPrev zA) (Cut.rl_fPrev zA) ?_
  refine G1 ?_
  refine .lN (Aa _) J J J Y50.h J Sz50 Z0 (Cut.row_fPrev zA) (Cut.rl_fPrev zA) ?_
  refine two (fun r hr k => Tr.eql_bytes J J J J Tryz.eqGuardType50 Y50.h Y5.h Sz5 (by (simp [hA.l_fPrev]; done)) (by (simp [hB.l_fPrev]; done)) hr k) (fun hs1_100 => ?_) (fun hs1_100 => ?_)
  ·
   have hs1_10 := of_decide_eq_true hs1_100
   refine G6 ?_
   refine .cV J J J J Body130 (digests_any2 _ _ _ _ _ _ a.dHeads b.dHeads hW.1.fHeads.row hW.2.fHeads.row hW.1.fHeads.len hW.2.fHeads.len hn) (fun w h => ⟨Ao h J hW.1.fHeads.see, Ao h J hW.2.fHeads.see⟩) (G6 ?_)
   refine ⟨_, [], Ac J J, sP, sP, ?_, rfl⟩
   unfold sameC
   simp_all
  have hs1_10 := of_decide_eq_false hs1_100
  refine G13 ?_
  refine ⟨_, [], Ac J J, sP, sP, ?_, rfl⟩
  unfold sameC
  simp_all
 have hs1_4 := of_decide_eq_false hs1_40
 refine G19 ?_
 refine ⟨_, [], Ac J J, sP, sP, ?_, rfl⟩
 unfold sameC
 simp_all
def sameL {D : Type} (f : D → D → Bool) (xs ys : List D) : Bool := decide (xs.length = ys.length) && (xs.zip ys).all fun p => f p.1 p.2
theorem sameL_yes {D : Type} {f : D → D → Bool} {xs ys : List D} (hl : xs.length = ys.length) (h : ∀ (j : Nat) (a b : D), j < xs.length → xs[j]? = some a → ys[j]? = some b → f a b = true) : sameL f xs ys = true := by
  have e : ((xs.zip ys).all fun p => f p.1 p.2) = true := by
    rw [List.all_eq_true]
    rintro ⟨a, b⟩ hm
    obtain ⟨j, hj⟩ := List.getElem?_of_mem hm
    obtain ⟨h1, h2⟩ := List.getElem?_zip_eq_some.1 hj
    exact h j a b (List.getElem?_eq_some_iff.1 h1).1 h1 h2
  rw [sameL, e, decide_eq_true hl]; rfl
theorem sameL_no {D : Type} {f : D → D → Bool} {xs ys : List D} {k : Nat} {a b : D} (ha : xs[k]? = some a) (hb : ys[k]? = some b) (h : f a b = false) : sameL f xs ys = false := by
  have e : ((xs.zip ys).all fun p => f p.1 p.2) = false := by
    rw [List.all_eq_false]
    exact ⟨(a, b), List.mem_of_getElem? (List.getElem?_zip_eq_some.2 ⟨ha, hb⟩), by rw [h]; simp⟩
  rw [sameL, e, Bool.and_false]
theorem sameL_len {D : Type} {f : D → D → Bool} {xs ys : List D} (h : ¬ xs.length = ys.length) : sameL f xs ys = false := by rw [sameL, decide_eq_false h]; rfl

theorem kit_cuts (s u : Sl) (xs ys : List DCut) (hsm : ∀ d ∈ xs, d.dHeads.length ≤ 1000000) : Meets Tryz.prog 22 [s.v, u.v] [] (fun W => CutsAt W s xs ∧ CutsAt W u ys) (fun v out => v = .bool (sameL sameC xs ys) ∧ out = []) := by
 intro W hW
 obtain ⟨⟨rs, hs⟩, ⟨ru, hu⟩⟩ := hW
 have hnd := hs.nd
 have hnu := hu.nd
 have hmax := hs.max
 have hmaxu := hu.max
 simp only [maxLen] at hmax hmaxu
 refine Ak Tryz.func22 J 27 Tryz.ntmps22 J (G15 ?_)
 refine .condNP J (fun hc0 => ?_) (fun hc0 => ?_)
 ·
  refine G8 ?_
  refine ⟨_, [], Ac J J, sP, sP, ?_, rfl⟩
  exact congrArg Value.bool (sameL_len (by rw [hnd, hnu]; omega)).symm
 refine G9 ?_
 refine .loop (ι := Nat) (fun k => ⟨[(0, s.v), (1, u.v), (5, i64 (k : Int))], []⟩) (fun k => k ≤ s.n ∧ s.n = u.n ∧ ∀ (j : Nat) (a b : DCut), j < k → xs[j]? = some a → ys[j]? = some b → sameC a b = true) (fun k => s.n - k) (0) ?_ ?_ ?_
 · exact ⟨by omega, by omega, fun j a b hj => by omega⟩
 · exact Ag (wk1 rfl (wk1 rfl (wk1 rfl wk0))) wh0 nD
 rintro k ⟨hk, hsu, hg⟩
 refine G9 ?_
 refine .condP J (fun hc1 => ?_) (fun hc1 => ?_)
 ·
  have hk2 : k < s.n := by omega
  obtain ⟨b, o, r, d, hsp, hr, hd, his, hlen, hsee⟩ := hs.at dE hk2
  obtain ⟨b2, o2, r2, d2, hspu, hru, hdu, hiu, hlenu, hseeu⟩ := hu.at dE (show k < u.n by omega)
  refine G5 ?_
  refine .draw [(0, 0), (0, 1), (0, 2), (1, 3), (0, 4), (0, 5), (0, 6), (1, 7), (3, 8), (0, 9)] Be zK (G2 ?_)
  refine .idxSlP 34 J J J hsp J Y25.h Sz53 k J oM (.loadEN r.cells J J J Y53.h J Sz53 sP hlen hsee (G2 ?_))
  refine .idxSlP 34 J J J hspu J Y25.h Sz53 k J oM (.loadEN r2.cells J J J Y53.h J Sz53 sP hlenu hseeu (.cV J J J J Body90 (kit_cut r r2 d d2 (by rw [← his.fHeads.len]; exact hsm d (List.mem_of_getElem? hd))) (fun w h => ⟨his.ext h J, hiu.ext h J⟩) ?_))
  refine G3 ?_
  refine .cond J (fun hc2 => ?_) (fun hc2 => ?_)
  ·
   refine G12 ?_
   refine ⟨_, [], Ac J J, sP, sP, ?_, rfl⟩
   exact congrArg Value.bool (sameL_no hd hdu (by simp_all; done)).symm
  refine G9 ?_
  exact ⟨k + 1, ⟨by omega, hsu, fun j a b hj ha hb => by rcases Nat.lt_succ_iff_lt_or_eq.1 hj with h | rfl; exact hg j a b h ha hb; exact (by rw [hd] at ha; rw [hdu] at hb; cases ha; cases hb; simp_all)⟩, by omega, Ag (wk1 rfl (wk1 rfl (wk1 rfl wk0))) wh0 nD⟩
 obtain rfl : k = s.n := by omega
 refine G12 ?_
 refine ⟨_, [], Ac J J, sP, sP, ?_, rfl⟩
 exact congrArg Value.bool (sameL_yes (by rw [hnd, hnu]; omega) (by rw [hnd]; exact hg)).symm
open Classical in
noncomputable def sameV (a b : Vote) : Bool := decide (a = b)
theorem sameV_eq {a b : Vote} (h : a = b) : sameV a b = true := by unfold sameV; simp [h]
theorem sameV_ne {a b : Vote} (h : ¬ a = b) : sameV a b = false := by unfold sameV; simp [h]

theorem kit_votes (s u : Sl) (xs ys : List Vote) : Meets Tryz.prog 21 [s.v, u.v] [] (fun W => VotesAt W s xs ∧ VotesAt W u ys) (fun v out => v = .bool (sameL sameV xs ys) ∧ out = []) := by
 intro W hW
 obtain ⟨⟨rs, hs⟩, ⟨ru, hu⟩⟩ := hW
 have hnd := hs.nd
 have hnu := hu.nd
 have hmax := hs.max
 have hmaxu := hu.max
 simp only [maxLen] at hmax hmaxu
 refine Ak Tryz.func21 J 26 Tryz.ntmps21 J (G15 ?_)
 refine .condNP J (fun hc0 => ?_) (fun hc0 => ?_)
 ·
  refine G8 ?_
  refine ⟨_, [], Ac J J, sP, sP, ?_, rfl⟩
  exact congrArg Value.bool (sameL_len (by rw [hnd, hnu]; omega)).symm
 refine G9 ?_
 refine .loop (ι := Nat) (fun k => ⟨[(0, s.v), (1, u.v), (5, i64 (k : Int))], []⟩) (fun k => k ≤ s.n ∧ s.n = u.n ∧ ∀ (j : Nat) (a b : Vote), j < k → xs[j]? = some a → ys[j]? = some b → sameV a b = true) (fun k => s.n - k) (0) ?_ ?_ ?_
 · exact ⟨by omega, by omega, fun j a b hj => by omega⟩
 · exact Ag (wk1 rfl (wk1 rfl (wk1 rfl wk0))) wh0 nD
 rintro k ⟨hk, hsu, hg⟩
 refine G9 ?_
 refine .condP J (fun hc1 => ?_) (fun hc1 => ?_)
 ·
  have hk2 : k < s.n := by omega
  obtain ⟨b, o, r, d, hsp, hr, hd, his, hlen, hsee⟩ := hs.at dE hk2
  obtain ⟨b2, o2, r2, d2, hspu, hru, hdu, hiu, hlenu, hseeu⟩ := hu.at dE (show k < u.n by omega)
  obtain rfl := his.eq
  obtain rfl := hiu.eq
  refine G5 ?_
  refine .draw [(0, 0), (0, 1), (0, 2), (1, 3), (0, 4), (0, 5), (0, 6), (1, 7), (0, 8)] Be zK (G2 ?_)
  refine .idxSlP 132 J J J hsp J Y24.h Sz81 k J oM (.loadEN r.cells J J J Y81.h J Sz81 sP hlen hsee (G2 ?_))
  refine .idxSlP 132 J J J hspu J Y24.h Sz81 k J oM (.loadEN r2.cells J J J Y81.h J Sz81 sP hlenu hseeu (.neq_rec J J J J Vote.eg (fun w => Vote.eq_runC (by exact his.ok) (by exact hiu.ok) w) J ?_))
  refine G2 ?_
  refine .cond J (fun hc2 => ?_) (fun hc2 => ?_)
  ·
   refine G12 ?_
   refine ⟨_, [], Ac J J, sP, sP, ?_, rfl⟩
   exact congrArg Value.bool (sameL_no hd hdu (sameV_ne (by (intro h9; simp_all; done)))).symm
  refine G9 ?_
  exact ⟨k + 1, ⟨by omega, hsu, fun j a b hj ha hb => by rcases Nat.lt_succ_iff_lt_or_eq.1 hj with h | rfl; exact hg j a b h ha hb; exact (by rw [hd] at ha; rw [hdu] at hb; cases ha; cases hb; exact sameV_eq (by (simp_all; done)))⟩, by omega, Ag (wk1 rfl (wk1 rfl (wk1 rfl wk0))) wh0 nD⟩
 obtain rfl : k = s.n := by omega
 refine G12 ?_
 refine ⟨_, [], Ac J J, sP, sP, ?_, rfl⟩
 exact congrArg Value.bool (sameL_yes (by rw [hnd, hnu]; omega) (by rw [hnd]; exact hg)).symm
noncomputable def sameE (a b : DCert) : Bool := sameC a.dCut b.dCut && sameL sameV a.dVotes b.dVotes

theorem kit_cert (A B : Cert) (a b : DCert) (hn : A.fCut.fHeads.n ≤ 1000000) : Meets Tryz.prog 32 [agg A.cells, agg B.cells] [] (fun W => CertIs W A a ∧ CertIs W B b) (fun v out => v = .bool (sameE a b) ∧ out = []) := by
 intro W hW
 have hA := hW.1.ok
 have hB := hW.2.ok
 refine Ak Tryz.func32 J 17 Tryz.ntmps32 J (G3 ?_)
 intro n2 hn2 hf2
 refine G1 ?_
 intro n3 hn3 hf3
 refine G6 ?_
 refine .lN (Cut.cells _) J J J Y53.h J Sz53 Z1 (Cert.row_fCut zA) (Cert.rl_fCut zA) ?_
 refine G1 ?_
 refine .lN (Cut.cells _) J J J Y53.h J Sz53 Z0 (Cert.row_fCut zA) (Cert.rl_fCut zA) ?_
 refine .callB J J J J Body90 (kit_cut A.fCut B.fCut a.dCut b.dCut hn) (fun w h => ⟨hW.1.fCut.ext h J, hW.2.fCut.ext h J⟩) (fun hs1_40 => ?_) (fun hs1_40 => ?_)
 ·
  have hs1_4 := hs1_40
  refine G5 ?_
  refine .cV J J J J Body21 (kit_votes A.fVotes B.fVotes a.dVotes b.dVotes) (fun w h => ⟨Cn h J hW.1.fVotes, Cn h J hW.2.fVotes⟩) (G6 ?_)
  refine ⟨_, [], Ac J J, sP, sP, ?_, rfl⟩
  simp_all [sameE]
 have hs1_4 := hs1_40
 refine G12 ?_
 refine ⟨_, [], Ac J J, sP, sP, ?_, rfl⟩
 simp_all [sameE]
theorem kit_certs (s u : Sl) (xs ys : List DCert) (hsm : ∀ d ∈ xs, d.dCut.dHeads.length ≤ 1000000) : Meets Tryz.prog 20 [s.v, u.v] [] (fun W => CertsAt W s xs ∧ CertsAt W u ys) (fun v out => v = .bool (sameL sameE xs ys) ∧ out = []) := by
 intro W hW
 obtain ⟨⟨rs, hs⟩, ⟨ru, hu⟩⟩ := hW
 have hnd := hs.nd
 have hnu := hu.nd
 have hmax := hs.max
 have hmaxu := hu.max
 simp only [maxLen] at hmax hmaxu
 refine Ak Tryz.func20 J 27 Tryz.ntmps20 J (G15 ?_)
 refine .condNP J (fun hc0 => ?_) (fun hc0 => ?_)
 ·
  refine G8 ?_
  refine ⟨_, [], Ac J J, sP, sP, ?_, rfl⟩
  exact congrArg Value.bool (sameL_len (by rw [hnd, hnu]; omega)).symm
 refine G9 ?_
 refine .loop (ι := Nat) (fun k => ⟨[(0, s.v), (1, u.v), (5, i64 (k : Int))], []⟩) (fun k => k ≤ s.n ∧ s.n = u.n ∧ ∀ (j : Nat) (a b : DCert), j < k → xs[j]? = some a → ys[j]? = some b → sameE a b = true) (fun k => s.n - k) (0) ?_ ?_ ?_
 · exact ⟨by omega, by omega, fun j a b hj => by omega⟩
 · exact Ag (wk1 rfl (wk1 rfl (wk1 rfl wk0))) wh0 nD
 rintro k ⟨hk, hsu, hg⟩
 refine G9 ?_
 refine .condP J (fun hc1 => ?_) (fun hc1 => ?_)
 ·
  have hk2 : k < s.n := by omega
  obtain ⟨b, o, r, d, hsp, hr, hd, his, hlen, hsee⟩ := hs.at dE hk2
  obtain ⟨b2, o2, r2, d2, hspu, hru, hdu, hiu, hlenu, hseeu⟩ := hu.at dE (show k < u.n by omega)
  refine G5 ?_
  refine .draw [(0, 0), (0, 1), (0, 2), (1, 3), (0, 4), (0, 5), (0, 6), (1, 7), (3, 8), (0, 9)] Be zK (G2 ?_)
  refine .idxSlP 35 J J J hsp J Y23.h Sz55 k J oM (.loadEN r.cells J J J Y55.h J Sz55 sP hlen hsee (G2 ?_))
  refine .idxSlP 35 J J J hspu J Y23.h Sz55 k J oM (.loadEN r2.cells J J J Y55.h J Sz55 sP hlenu hseeu (.cV J J J J Body32 (kit_cert r r2 d d2 (by rw [← his.fCut.fHeads.len]; exact hsm d (List.mem_of_getElem? hd))) (fun w h => ⟨his.ext h J, hiu.ext h J⟩) ?_))
  refine G3 ?_
  refine .cond J (fun hc2 => ?_) (fun hc2 => ?_)
  ·
   refine G12 ?_
   refine ⟨_, [], Ac J J, sP, sP, ?_, rfl⟩
   exact congrArg Value.bool (sameL_no hd hdu (by simp_all; done)).symm
  refine G9 ?_
  exact ⟨k + 1, ⟨by omega, hsu, fun j a b hj ha hb => by rcases Nat.lt_succ_iff_lt_or_eq.1 hj with h | rfl; exact hg j a b h ha hb; exact (by rw [hd] at ha; rw [hdu] at hb; cases ha; cases hb; simp_all)⟩, by omega, Ag (wk1 rfl (wk1 rfl (wk1 rfl wk0))) wh0 nD⟩
 obtain rfl : k = s.n := by omega
 refine G12 ?_
 refine ⟨_, [], Ac J J, sP, sP, ?_, rfl⟩
 exact congrArg Value.bool (sameL_yes (by rw [hnd, hnu]; omega) (by rw [hnd]; exact hg)).symm
def sameBk (a b : DB) : Bool := decide (a.w = b.w) && (decide ((a.seq.toNat : Int) = (b.seq.toNat : Int)) && (decide (a.prev = b.prev) && (decide (a.ls = b.ls) && (decide (a.ds = b.ds) && decide (a.sg = b.sg)))))
theorem sameB_Bk {W : World} {A B : Block} {a b : DB} (h1 : BlockIs W A a) (h2 : BlockIs W B b) : sameB A B a.ls b.ls a.ds b.ds = sameBk a b := by
  simp only [sameB, sameBk, h1.w, h2.w, h1.seq, h2.seq, h1.prev, h2.prev, h1.sg, h2.sg]
theorem kit_blockD (A B : Block) (a b : DB) (hn : A.fLinks.n ≤ 1000000) : Meets Tryz.prog 89 [agg A.cells, agg B.cells] [] (fun W => BlockIs W A a ∧ BlockIs W B b) (fun v out => v = .bool (sameBk a b) ∧ out = []) := fun W hW => by
  rw [← sameB_Bk hW.1 hW.2]
  exact kit_block A B hW.1.ok hW.2.ok a.ls b.ls a.ds b.ds hn W ⟨⟨hW.1.ls, hW.1.ds⟩, ⟨hW.2.ls, hW.2.ds⟩⟩

theorem kit_blocks (s u : Sl) (xs ys : List DB) (hsm : ∀ d ∈ xs, d.ls.length ≤ 1000000) : Meets Tryz.prog 19 [s.v, u.v] [] (fun W => BlocksAt W s xs ∧ BlocksAt W u ys) (fun v out => v = .bool (sameL sameBk xs ys) ∧ out = []) := by
 intro W hW
 obtain ⟨⟨rs, hs⟩, ⟨ru, hu⟩⟩ := hW
 have hnd := hs.nd
 have hnu := hu.nd
 have hmax := hs.max
 have hmaxu := hu.max
 simp only [maxLen] at hmax hmaxu
 refine Ak Tryz.func19 J 27 Tryz.ntmps19 J (G15 ?_)
 refine .condNP J (fun hc0 => ?_) (fun hc0 => ?_)
 ·
  refine G8 ?_
  refine ⟨_, [], Ac J J, sP, sP, ?_, rfl⟩
  exact congrArg Value.bool (sameL_len (by rw [hnd, hnu]; omega)).symm
 refine G9 ?_
 refine .loop (ι := Nat) (fun k => ⟨[(0, s.v), (1, u.v), (5, i64 (k : Int))], []⟩) (fun k => k ≤ s.n ∧ s.n = u.n ∧ ∀ (j : Nat) (a b : DB), j < k → xs[j]? = some a → ys[j]? = some b → sameBk a b = true) (fun k => s.n - k) (0) ?_ ?_ ?_
 · exact ⟨by omega, by omega, fun j a b hj => by omega⟩
 · exact Ag (wk1 rfl (wk1 rfl (wk1 rfl wk0))) wh0 nD
 rintro k ⟨hk, hsu, hg⟩
 refine G9 ?_
 refine .condP J (fun hc1 => ?_) (fun hc1 => ?_)
 ·
  have hk2 : k < s.n := by omega
  obtain ⟨b, o, r, d, hsp, hr, hd, his, hlen, hsee⟩ := hs.at dE hk2
  obtain ⟨b2, o2, r2, d2, hspu, hru, hdu, hiu, hlenu, hseeu⟩ := hu.at dE (show k < u.n by omega)
  refine G5 ?_
  refine .draw [(0, 0), (0, 1), (0, 2), (1, 3), (0, 4), (0, 5), (0, 6), (1, 7), (3, 8), (0, 9)] Be zK (G2 ?_)
  refine .idxSlP 131 J J J hsp J Y22.h Sz79 k J oM (.loadEN r.cells J J J Y79.h J Sz79 sP hlen hsee (G2 ?_))
  refine .idxSlP 131 J J J hspu J Y22.h Sz79 k J oM (.loadEN r2.cells J J J Y79.h J Sz79 sP hlenu hseeu (.cV J J J J Body89 (kit_blockD r r2 d d2 (by rw [← his.ls.len]; exact hsm d (List.mem_of_getElem? hd))) (fun w h => ⟨his.ext h J, hiu.ext h J⟩) ?_))
  refine G3 ?_
  refine .cond J (fun hc2 => ?_) (fun hc2 => ?_)
  ·
   refine G12 ?_
   refine ⟨_, [], Ac J J, sP, sP, ?_, rfl⟩
   exact congrArg Value.bool (sameL_no hd hdu (by simp_all; done)).symm
  refine G9 ?_
  exact ⟨k + 1, ⟨by omega, hsu, fun j a b hj ha hb => by rcases Nat.lt_succ_iff_lt_or_eq.1 hj with h | rfl; exact hg j a b h ha hb; exact (by rw [hd] at ha; rw [hdu] at hb; cases ha; cases hb; simp_all)⟩, by omega, Ag (wk1 rfl (wk1 rfl (wk1 rfl wk0))) wh0 nD⟩
 obtain rfl : k = s.n := by omega
 refine G12 ?_
 refine ⟨_, [], Ac J J, sP, sP, ?_, rfl⟩
 exact congrArg Value.bool (sameL_yes (by rw [hnd, hnu]; omega) (by rw [hnd]; exact hg)).symm
def DKept.small (a : DKept) : Prop := (∀ d ∈ a.dBlocks, d.ls.length ≤ 1000000) ∧ (∀ d ∈ a.dCerts, d.dCut.dHeads.length ≤ 1000000) ∧ ∀ d ∈ a.dCuts, d.dHeads.length ≤ 1000000

end Go.Proofs.YtdifpjmfabhpiaaGreat
end

section
namespace Go.Proofs.YtdifpjmfabhpiaaGreat
open Go Hw

theorem sameC_self (a : DCut) : sameC a a = true := by simp [sameC]
theorem sameV_self (a : Vote) : sameV a a = true := sameV_eq rfl
theorem sameL_self {D : Type} {f : D → D → Bool} (h : ∀ a, f a a = true) (l : List D) : sameL f l l = true := sameL_yes rfl fun j a b _ ha hb => by rw [ha] at hb; cases hb; exact h a
theorem sameE_self (a : DCert) : sameE a a = true := by simp only [sameE, sameC_self, sameL_self sameV_self, Bool.and_self]
theorem sameBk_self (a : DB) : sameBk a a = true := by simp [sameBk]

noncomputable def DKept.good (D : DKept) : Bool := (D.dBlocks.all fun d => decide (d.check = 0)) && ((D.dCerts.all fun d => decide (d.check = 0)) && ((D.dVotes.all fun d => decide (A5 d = 0)) && ((D.dCuts.all fun d => decide (d.check = 0)) && inOrd D.dCerts)))
noncomputable def DKept.check (D : DKept) : Int := if D.good = true then 0 else 2


def LenR (k : Nat) (v : Value) (out : List Blk) : Prop := ∃ s : Sl, v = s.v ∧ s.n = k
theorem LenR.loose (k : Nat) : Loose (LenR k) := fun l hl => ⟨(⟨none, k, 0⟩ : Sl).v, [], ⟨_, rfl, rfl⟩, hl⟩

theorem rolW_64 (x : UInt64) (n : Nat) (h : n ≤ 64) : B5 x n ||| shl64 x (64 - n) = rolW x (64 - n) := by
  rw [rolW, show 64 - (64 - n) = n by omega, UInt64.or_comm]
theorem W8.of_l {st : List UInt64} (h : st.length = 8) : (W8.of st).l = st := by
  match st, h with
  | [a, b, c, d, e, f, g, i], _ => rfl
theorem addUp_gets (st xs : List UInt64) : ∀ i j, i ≤ st.length → j < st.length → (addUp st xs i).getD j 0 = if j < i then st.getD j 0 + xs.getD j 0 else st.getD j 0
  | 0, j, _, hj => by rw [if_neg oM]; rfl
  | i + 1, j, hi, hj => by
    have hl := Bx st xs i
    rw [addUp, List.getD_eq_getElem?_getD, List.getElem?_set]
    split
    · rename_i e
      subst e
      rw [if_pos oM, if_pos oM, Option.getD_some, addUp_get st xs i i (Nat.le_refl _)]
    · rename_i e
      rw [← List.getD_eq_getElem?_getD, addUp_gets st xs i j oM hj]
      by_cases h : j < i
      · rw [if_pos h, if_pos oM]
      · rw [if_neg h, if_neg oM]
theorem addUp_comm {st xs : List UInt64} (h : st.length = 8) (hx : xs.length = 8) : addUp xs st 8 = addUp st xs 8 := by
  have h1 := Bx xs st 8
  have h2 := Bx st xs 8
  apply List.ext_getElem oM
  intro j ha hb
  have e1 := addUp_gets xs st 8 j oM oM
  have e2 := addUp_gets st xs 8 j oM oM
  rw [if_pos oM] at e1 e2
  rw [List.getD_eq_getElem?_getD, List.getElem?_eq_getElem ha, Option.getD_some] at e1
  rw [List.getD_eq_getElem?_getD, List.getElem?_eq_getElem hb, Option.getD_some] at e2
  rw [e1, e2, UInt64.add_comm]
def schT (p : List UInt8) (A : List UInt64) (t : Nat) : List UInt64 := if t ≤ 16 then schA p (8 * t) else schB A (t - 16)
theorem schT_lo {p : List UInt8} {A : List UInt64} {t : Nat} (h : t ≤ 16) : schT p A t = schA p (8 * t) := if_pos h
theorem schT_hi {p : List UInt8} {A : List UInt64} {t : Nat} (hA : schA p 128 = A) (h : 16 ≤ t) : schT p A t = schB A (t - 16) := by
  unfold schT
  split
  · obtain rfl : t = 16 := by omega
    exact hA
  · rfl
theorem schT_step {p : List UInt8} {A : List UInt64} {j : Nat} (hA : schA p 128 = A) : schT p A (16 + j + 1) = (schB A j).set (16 + j) ((schB A j).getD j 0 + sig0 ((schB A j).getD (j + 1) 0) + (schB A j).getD (j + 9) 0 + sig1 ((schB A j).getD (j + 14) 0)) := by
  rw [schT_hi hA oM, show 16 + j + 1 - 16 = j + 1 by omega]; rfl
theorem schA_step (p : List UInt8) (t i : Nat) (hi : i < 8) : schA p (8 * t + (i + 1)) = (schA p (8 * t + i)).set t (shl64 ((schA p (8 * t + i)).getD t 0) 8 ||| (p.getD (8 * t + i) 0).toUInt64) := by
  have e : (8 * t + i) / 8 = t := by omega
  show schA p ((8 * t + i) + 1) = _
  rw [schA, e]

theorem r2_K (k : List UInt64) (hk : Hid (kW = k)) : Meets Tryz.prog 255 [] [] (fun _ => True) (fun v out => v = agg (Az k) ∧ out = []) := by
 intro W hW
 rw [← hk.out]
 refine Ak Tryz.func255 J 2 Tryz.ntmps255 J (G2 ?_)
 refine .alloc (cs := (Az (List.replicate 80 0))) J Zr267 J ?_
 intro n0 hn0 hf0
 refine G4 ?_
 refine .build (cs := Az kW) J J J (fun w => by kernel_rfl) ?_
 refine .sA J J J J zB Sz267 (by (simp [kW]; done)) Z0 sP zU ?_
 refine G4 ?_
 refine ⟨_, [], B2 J J Y267 J Sz267 Z0 (by simp [kW]), sP, sP, ?_, rfl⟩
 rfl

theorem r2_Start (k : List UInt64) (hk : Hid (startW = k)) : Meets Tryz.prog 249 [] [] (fun _ => True) (fun v out => v = agg (Az k) ∧ out = []) := by
 intro W hW
 rw [← hk.out]
 refine Ak Tryz.func249 J 2 Tryz.ntmps249 J (G2 ?_)
 refine .alloc (cs := (Az (List.replicate 8 0))) J Zr252 J ?_
 intro n0 hn0 hf0
 refine G4 ?_
 refine .build (cs := Az startW) J J J (fun w => by kernel_rfl) ?_
 refine .sA J J J J zB Sz252 (by (simp [startW]; done)) Z0 sP zU ?_
 refine G4 ?_
 refine ⟨_, [], B2 J J Y252 J Sz252 Z0 (by simp [startW]), sP, sP, ?_, rfl⟩
 rfl

theorem r2_rot (x : UInt64) (n : Nat) (hn : n ≤ 63) : Meets Tryz.prog 256 [u64 x, i64 (n : Int)] [] (fun _ => True) (fun v out => v = u64 (rolW x (64 - n)) ∧ out = []) := by
 intro W hW
 refine Ak Tryz.func256 J 15 Tryz.ntmps256 J (G2 ?_)
 refine .a J J (show Al _ _ = some (u64 0) from rfl) (G7 ?_)
 refine .shr_u64 J J J J n (by rw [wordOf_id _ oM]) oM ?_
 refine G2 ?_
 refine .subN 64 n J J J J oM (G1 ?_)
 refine .shl_u64 J J J J (64 - n) (by rw [wordOf_id _ oM]) oM ?_
 refine G6 ?_
 refine ⟨_, [], Ac J J, sP, sP, ?_, rfl⟩
 rw [rolW_64 x n oM]

theorem r2_piece (st : List UInt64) (hst : st.length = 8) (p : List UInt8) (hp : p.length = 128) (q o c : Nat) (A w k : List UInt64) (R : W8) (hA : Hid (schA p 128 = A)) (hwp : Hid (schB A 64 = w)) (hk : Hid (kW = k)) (hk80 : k.length = 80) (hR : Hid (rnds k w (W8.of st) 80 = R)) : Meets Tryz.prog 248 [agg (Az st), .slice (some ⟨q, o, none⟩) 128 c] [] (fun W => Bs W q o (Aa p)) (fun v out => v = agg (Az (addUp st R.l 8)) ∧ out = []) := by
 intro W hW
 have hA80 : A.length = 80 := by rw [← hA.out]; exact schA_length p 128
 have hw80 : w.length = 80 := by rw [← hwp.out, schB_length]; exact hA80
 have hRl := W8.l_length R
 have hlw := hw80
 have hcm := addUp_comm hst hRl
 refine Ak Tryz.func248 J 176 Tryz.ntmps248 J (G3 ?_)
 intro n2 hn2 hf2
 refine .alloc (cs := (Az (List.replicate 8 0))) J Zr252 J ?_
 intro n4 hn4 hf4
 refine G4 ?_
 refine .cV J J J J Body255 (r2_K k hk) tV (.alloc (cs := (Az (List.replicate 80 0))) J Zr267 J ?_)
 intro n5 hn5 hf5
 refine .sA J J J J zB Sz267 (by (simp [hk80]; done)) Z0 sP zU ?_
 refine G4 ?_
 refine .alloc (cs := (Az (List.replicate 80 0))) J Zr267 J ?_
 intro n6 hn6 hf6
 refine G9 ?_
 refine .loop (ι := Nat) (fun t => ⟨[(1, .slice (some ⟨q, o, none⟩) 128 c), (2, ptr n2 0), (4, ptr n4 0), (5, ptr n5 0), (6, ptr n6 0), (7, i64 (t : Int))], [⟨n6, Az (schT p A t), 267, 80⟩, ⟨n5, Az k, 267, 80⟩, ⟨n4, Az (List.replicate 8 0), 252, 8⟩, ⟨n2, Az st, 252, (Az st).length⟩]⟩) (fun t => t ≤ 80) (fun t => 80 - t) (0) ?_ ?_ ?_
 · omega
 · exact Ag (wk1 rfl (wk1 rfl (wk1 rfl (wk1 rfl (wk1 rfl (wk1 rfl wk0)))))) (wh1 (by rw [schT_lo oM]; exact Bw) (wh1 Z1 (wh1 Z2 (wh1 Z3 wh0)))) nD
 rintro t ht
 refine G7 ?_
 refine .condP J (fun hc0 => ?_) (fun hc0 => ?_)
 ·
  refine G11 ?_
  refine .condP J (fun hc1 => ?_) (fun hc1 => ?_)
  ·
   refine G7 ?_
   refine .loop (ι := Nat) (fun i => ⟨[(1, .slice (some ⟨q, o, none⟩) 128 c), (2, ptr n2 0), (4, ptr n4 0), (5, ptr n5 0), (6, ptr n6 0), (7, i64 (t : Int)), (8, i64 (i : Int))], [⟨n6, Az (schA p (8 * t + i)), 267, 80⟩, ⟨n5, Az k, 267, 80⟩, ⟨n4, Az (List.replicate 8 0), 252, 8⟩, ⟨n2, Az st, 252, (Az st).length⟩]⟩) (fun i => i ≤ 8) (fun i => 8 - i) (0) ?_ ?_ ?_
   · omega
   · exact Ag (wk1 rfl (wk1 rfl (wk1 rfl (wk1 rfl (wk1 rfl (wk1 rfl (wk1 rfl wk0))))))) (wh1 (by rw [Nat.add_zero, ← schT_lo (p := p) (A := A) (by omega : t ≤ 16)]; exact Bw) (wh1 Z1 (wh1 Z2 (wh1 Z3 wh0)))) nD
   rintro i hi
   have hlw := schA_length p (8 * t + i)
   refine G7 ?_
   refine .condP J (fun hc2 => ?_) (fun hc2 => ?_)
   ·
    refine G4 ?_
    refine .draw [(0, 0), (0, 1), (0, 2), (1, 3), (0, 4), (0, 5), (0, 6), (0, 7), (0, 8), (0, 9), (0, 10), (1, 11), (0, 12), (0, 13), (0, 14), (4, 15)] Be zK (G2 ?_)
    refine .i1 J J J J Y267 Sz48 _ J oM (G1 ?_)
    refine .shl_u64 J J J J 8 J dE (G2 ?_)
    refine .mulN 8 t J J J J oM (G1 ?_)
    refine .addN (8 * t) i J J J J oM (.idxSlO J J J J Y58.h Sz5 (8 * t + i) oM oM (.loadE J J J Y5.h J sP (hW (8 * t + i) _ (Ca oM)) (G2 ?_)))
    refine .i1 J J J J Y267 Sz48 _ J oM (.s1 J J J J J Sz48 Z0 (by (simp [hlw]; omega)) (by exact set_words _ _ _) zU ?_)
    refine G9 ?_
    exact ⟨i + 1, by omega, by omega, Ag (wk1 rfl (wk1 rfl (wk1 rfl (wk1 rfl (wk1 rfl (wk1 rfl (wk1 rfl wk0))))))) (wh1 (by rw [schA_step p t i oM]; exact Bw) (wh1 Z1 (wh1 Z2 (wh1 Z3 wh0)))) nD⟩
   refine G15 ?_
   exact ⟨t + 1, by omega, by omega, Ag (wk1 rfl (wk1 rfl (wk1 rfl (wk1 rfl (wk1 rfl (wk1 rfl wk0)))))) (wh1 (by (rw [schT_lo (by omega : t + 1 ≤ 16), show 8 * (t + 1) = 8 * t + i by omega]; exact Bw)) (wh1 Z1 (wh1 Z2 (wh1 Z3 wh0)))) nD⟩
  obtain ⟨j, rfl⟩ : ∃ j, t = 16 + j := ⟨t - 16, by omega⟩
  rw [schT_hi hA.out (show 16 ≤ 16 + j by omega), show 16 + j - 16 = j by omega]
  have hlw : (schB A j).length = 80 := by rw [schB_length]; exact hA80
  refine G3 ?_
  refine .draw [(0, 0), (0, 1), (0, 2), (1, 3), (0, 4), (0, 5), (0, 6), (1, 7), (0, 8), (0, 9)] Be zK (G2 ?_)
  refine .i1 J J J J Y267 Sz48 (j + 1) oM oM (G3 ?_)
  refine .i1 J J J J Y267 Sz48 (j + 14) oM oM (G5 ?_)
  refine .draw [(0, 0), (0, 1), (0, 2), (0, 3), (1, 4), (0, 5), (0, 7), (0, 10), (0, 11), (0, 14), (0, 15), (0, 16), (1, 17), (0, 19), (0, 21), (0, 24), (0, 25), (3, 6), (3, 8), (0, 9), (0, 12), (0, 13), (0, 18), (3, 20), (3, 22), (0, 23), (0, 26), (0, 27), (0, 28), (4, 29)] Be zK (G3 ?_)
  refine .i1 J J J J Y267 Sz48 j oM oM (G4 ?_)
  refine .shr_u64 J J J J 7 J dE (G2 ?_)
  refine .i1 J J J J Y267 Sz48 (j + 9) oM oM (G4 ?_)
  refine .shr_u64 J J J J 6 J dE (.cV J J J J Body256 (r2_rot _ 1 dE) tV (.cV J J J J Body256 (r2_rot _ 8 dE) tV (G4 ?_)))
  refine .cV J J J J Body256 (r2_rot _ 19 dE) tV (.cV J J J J Body256 (r2_rot _ 61 dE) tV (G3 ?_))
  refine .i1 J J J J Y267 Sz48 (16 + j) oM oM (.s1 J J J J J Sz48 Z0 (by (simp [hlw]; omega)) (by exact set_words _ _ _) zU ?_)
  refine G9 ?_
  exact ⟨16 + j + 1, by omega, by omega, Ag (wk1 rfl (wk1 rfl (wk1 rfl (wk1 rfl (wk1 rfl (wk1 rfl wk0)))))) (wh1 (by (rw [schT_step hA.out]; exact Bw)) (wh1 Z1 (wh1 Z2 (wh1 Z3 wh0)))) nD⟩
 obtain rfl : t = 80 := by omega
 rw [show schT p A 80 = w from by rw [schT_hi hA.out dE]; exact hwp.out]
 refine G7 ?_
 refine .lA J J J Y252 J Sz252 Z3 (by (simp [hst]; done)) ?_
 refine .alloc (cs := (Az (List.replicate 8 0))) J Zr252 J ?_
 intro n11 hn11 hf11
 refine .sA J J J J zB Sz252 (by (simp [hst]; done)) Z0 sP zU ?_
 refine G9 ?_
 refine .loop (ι := Nat) (fun t => ⟨[(2, ptr n2 0), (4, ptr n4 0), (5, ptr n5 0), (6, ptr n6 0), (11, ptr n11 0), (12, i64 (t : Int))], [⟨n11, Az (rnds k w (W8.of st) t).l, 252, 8⟩, ⟨n6, Az w, 267, 80⟩, ⟨n5, Az k, 267, 80⟩, ⟨n4, Az (List.replicate 8 0), 252, 8⟩, ⟨n2, Az st, 252, (Az st).length⟩]⟩) (fun t => t ≤ 80) (fun t => 80 - t) (0) ?_ ?_ ?_
 · omega
 · exact Ag (wk1 rfl (wk1 rfl (wk1 rfl (wk1 rfl (wk1 rfl (wk1 rfl wk0)))))) (wh1 (by rw [show (rnds k w (W8.of st) 0).l = st from W8.of_l hst]; exact Bw) (wh1 Z1 (wh1 Z2 (wh1 Z3 (wh1 Z4 wh0))))) nD
 rintro t ht
 have hlr := W8.l_length (rnds k w (W8.of st) t)
 refine G7 ?_
 refine .condP J (fun hc3 => ?_) (fun hc3 => ?_)
 ·
  refine G5 ?_
  refine .draw [(0, 0), (1, 1), (0, 2), (1, 3), (0, 4), (0, 5)] Be zK (.i1 J J J J Y252 Sz48 0 J dE (G1 ?_))
  refine .i1 J J J J Y252 Sz48 4 J dE (G6 ?_)
  refine .draw [(0, 0), (1, 1), (0, 2), (0, 4), (0, 7), (0, 11), (0, 12), (1, 13), (0, 14), (0, 15), (0, 16), (0, 17), (1, 18), (0, 19), (0, 20), (0, 22), (0, 23), (1, 24), (0, 26), (0, 27), (1, 28), (3, 3), (3, 5), (0, 6), (3, 8), (0, 9), (0, 10), (0, 21), (0, 25), (0, 29), (0, 30)] Be zK (.i1 J J J J Y252 Sz48 7 J dE (G5 ?_))
  refine .i1 J J J J Y252 Sz48 5 J dE (G3 ?_)
  refine .not_u64 J J J (.i1 J J J J Y252 Sz48 6 J dE (G4 ?_))
  refine .i1 J J J J Y267 Sz48 _ J oM (G2 ?_)
  refine .i1 J J J J Y267 Sz48 _ J oM (G1 ?_)
  refine .cV J J J J Body256 (r2_rot _ 14 dE) tV (.cV J J J J Body256 (r2_rot _ 18 dE) tV (G1 ?_))
  refine .cV J J J J Body256 (r2_rot _ 41 dE) tV (G9 ?_)
  refine .draw [(0, 0), (0, 2), (0, 5), (0, 8), (0, 9), (1, 10), (0, 11), (0, 12), (0, 13), (1, 14), (0, 15), (0, 16), (0, 17), (1, 18), (0, 19), (1, 20), (0, 21), (0, 22), (3, 1), (3, 3), (0, 4), (3, 6), (0, 7), (0, 23), (0, 24)] Be zK (G4 ?_)
  refine .i1 J J J J Y252 Sz48 1 J dE (G3 ?_)
  refine .i1 J J J J Y252 Sz48 2 J dE (G3 ?_)
  refine .i1 J J J J Y252 Sz48 1 J dE (G1 ?_)
  refine .i1 J J J J Y252 Sz48 2 J dE (G3 ?_)
  refine .cV J J J J Body256 (r2_rot _ 28 dE) tV (.cV J J J J Body256 (r2_rot _ 34 dE) tV (G1 ?_))
  refine .cV J J J J Body256 (r2_rot _ 39 dE) tV (G10 ?_)
  refine .i1 J J J J Y252 Sz48 1 J dE (G1 ?_)
  refine .i1 J J J J Y252 Sz48 2 J dE (G1 ?_)
  refine .i1 J J J J Y252 Sz48 3 J dE (G4 ?_)
  refine .i1 J J J J Y252 Sz48 5 J dE (G1 ?_)
  refine .i1 J J J J Y252 Sz48 6 J dE (G1 ?_)
  refine .build (cs := Az (rnd1 (rnds k w (W8.of st) t) (k.getD t 0) (w.getD t 0)).l) J J J (fun w => by kernel_rfl) ?_
  refine .sA J J J J zB Sz252 (by (simp [W8.l_length]; done)) Z0 (by (simp [W8.l_length]; done)) zU ?_
  refine G9 ?_
  exact ⟨t + 1, by omega, by omega, Ag (wk1 rfl (wk1 rfl (wk1 rfl (wk1 rfl (wk1 rfl (wk1 rfl wk0)))))) (wh1 Z0 (wh1 Z1 (wh1 Z2 (wh1 Z3 (wh1 Z4 wh0))))) nD⟩
 obtain rfl : t = 80 := by omega
 rw [hR.out]
 refine G12 ?_
 refine .loop (ι := Nat) (fun i => ⟨[(2, ptr n2 0), (4, ptr n4 0), (11, ptr n11 0), (17, i64 (i : Int))], [⟨n11, Az (addUp R.l st i), 252, 8⟩, ⟨n4, Az (List.replicate 8 0), 252, 8⟩, ⟨n2, Az st, 252, (Az st).length⟩]⟩) (fun i => i ≤ 8) (fun i => 8 - i) (0) ?_ ?_ ?_
 · omega
 · exact Ag (wk1 rfl (wk1 rfl (wk1 rfl (wk1 rfl wk0)))) (wh1 Z0 (wh1 Z3 (wh1 Z4 wh0))) nD
 rintro i hi
 have hlu := Bx R.l st i
 refine G7 ?_
 refine .condP J (fun hc4 => ?_) (fun hc4 => ?_)
 ·
  refine G4 ?_
  refine .draw [(0, 0), (0, 1), (0, 2), (1, 3), (0, 4), (0, 5), (1, 6), (0, 7), (0, 8), (4, 9)] Be zK (G2 ?_)
  refine .i1 J J J J Y252 Sz48 _ J oM (G2 ?_)
  refine .i1 J J J J Y252 Sz48 _ J oM (G2 ?_)
  refine .i1 J J J J Y252 Sz48 _ J oM (.s1 J J J J J Sz48 Z0 (by (simp [hRl, Bx]; omega)) (by exact set_words _ _ _) zU ?_)
  refine G9 ?_
  exact ⟨i + 1, by omega, by omega, Ag (wk1 rfl (wk1 rfl (wk1 rfl (wk1 rfl wk0)))) (wh1 Z0 (wh1 Z1 (wh1 Z2 wh0))) nD⟩
 obtain rfl : i = 8 := by omega
 rw [hcm]
 refine G7 ?_
 refine .lA J J J Y252 J Sz252 Z0 (by (simp [hst, Bx]; done)) ?_
 refine .sA J J J J zB Sz252 (by (simp [hst, Bx]; done)) Z1 sP zV ?_
 refine G4 ?_
 refine ⟨_, [], B2 J J Y252 J Sz252 Z1 (by simp [hst, Bx]), sP, sP, ?_, rfl⟩
 rfl
theorem r2_bytes (st : List UInt64) (hst : st.length = 8) (s : List UInt8) (hs : Hid (sumUp st 64 = s)) : Meets Tryz.prog 238 [agg (Az st)] [] (fun _ => True) (fun v out => v = agg (Aa s) ∧ out = []) := by
 intro W hW
 have hs64 : s.length = 64 := by rw [← hs.out]; exact Co st 64
 refine Ak Tryz.func238 J 23 Tryz.ntmps238 J (G3 ?_)
 intro n1 hn1 hf1
 refine .alloc (cs := (Aa (List.replicate 64 0))) J Zr76 J ?_
 intro n2 hn2 hf2
 refine G4 ?_
 refine .alloc (cs := (Aa (List.replicate 64 0))) J Zr76 J ?_
 intro n3 hn3 hf3
 refine G9 ?_
 refine .loop (ι := Nat) (fun k => ⟨[(1, ptr n1 0), (2, ptr n2 0), (3, ptr n3 0), (4, i64 (k : Int))], [⟨n3, Aa (sumUp st k), 76, 64⟩, ⟨n2, Aa (List.replicate 64 0), 76, 64⟩, ⟨n1, Az st, 252, (Az st).length⟩]⟩) (fun k => k ≤ 64) (fun k => 64 - k) (0) ?_ ?_ ?_
 · omega
 · exact Ag (wk1 rfl (wk1 rfl (wk1 rfl (wk1 rfl wk0)))) (wh1 Z0 (wh1 Z1 (wh1 Z2 wh0))) nD
 rintro k hi
 have hlk := Co st k
 refine G7 ?_
 refine .condP J (fun hc0 => ?_) (fun hc0 => ?_)
 ·
  refine G7 ?_
  refine .quo_i64 J J J J oM (.i1 J J J J Y252 Sz48 (k / 8) oM oM (G2 ?_))
  refine .remN k 8 J J J J dE (.mulN 8 (k % 8) J J J J oM (.subN 56 (8 * (k % 8)) J J J J oM (G1 ?_)))
  refine .shr_u64 J J J J (56 - 8 * (k % 8)) (by rw [wordOf_id _ oM]) oM ?_
  refine G1 ?_
  refine .i1 J J J J Y76 Sz5 _ J oM (.s1 J J J J J Sz5 Z0 (by (simp [Co]; omega)) (by exact set_bytes _ _ _) zU ?_)
  refine G9 ?_
  exact ⟨k + 1, by omega, by omega, Ag (wk1 rfl (wk1 rfl (wk1 rfl (wk1 rfl wk0)))) (wh1 Z0 (wh1 Z1 (wh1 Z2 wh0))) nD⟩
 obtain rfl : k = 64 := by omega
 rw [hs.out]
 clear hlk
 refine G7 ?_
 refine .lA J J J Y76 J Sz76 Z0 (by (simp [hs64]; done)) ?_
 refine .sA J J J J zE Sz76 (by (simp [hs64]; done)) Z1 sP zV ?_
 refine G4 ?_
 refine ⟨_, [], B2 J J Y76 J Sz76 Z1 (by simp [hs64]), sP, sP, ?_, rfl⟩
 rfl
theorem r2_join (p : Option Addr) (n c : Nat) (ss : List Sl) (ls : List (List UInt8)) (hss : ss.length = n) (hls : ls.length = n) (hsl : ∀ j, j < n → (ss.getD j Sl.nil).n = (ls.getD j []).length ∧ ((ss.getD j Sl.nil).p = none → (ss.getD j Sl.nil).n = 0)) (F : List UInt8) (hF : ls.flatten = F) (htot : F.length ≤ 90000) (hn : n ≤ 1000000)  : Meets Tryz.prog 241 [.slice p n c] [] (fun W => SeesP W p (ss.map Sl.v) ∧ ∀ j, j < n → SeesP W (ss.getD j Sl.nil).p (Aa (ls.getD j []))) (fun v out => ∃ s, v = s.v ∧ Acc s out (Aa F) 5 F.length 1) := by
 intro W hW
 have hle := take_flat_le ls
 rw [hF] at hle
 refine Ak Tryz.func241 J 18 Tryz.ntmps241 J (G17 ?_)
 refine .loop (ι := Nat × Sl × List Blk) (fun x => ⟨[(0, .slice p n c), (3, x.2.1.v), (4, i64 (x.1 : Int))], (x.2.2 ++ [])⟩) (fun x => x.1 ≤ n ∧ Acc x.2.1 x.2.2 (Aa (ls.take x.1).flatten) 5 (ls.take x.1).flatten.length 1) (fun x => n - x.1) ((0, Sl.nil, [])) ?_ ?_ ?_
 · exact ⟨Nat.zero_le _, Acc.none⟩
 · exact Ae (wk1 rfl (wk1 rfl (wk1 rfl wk0))) (Cd Ad)
 rintro x ⟨hx, hax⟩
 refine G9 ?_
 refine .condP J (fun hc0 => ?_) (fun hc0 => ?_)
 ·
  have hx3 : x.1 < n := by omega
  obtain ⟨b, o, hbp, hbs⟩ := hW.1.at (by rw [List.length_map]; omega)
  have hv : W.cell? ⟨b, o + x.1 * 1, none⟩ = some (ss.getD x.1 Sl.nil).v := by rw [Nat.mul_one]; exact hbs x.1 _ (sl_get oM)
  have hstep := hle (x.1 + 1)
  rw [take_flat oM, List.length_append, ← (hsl x.1 oM).1] at hstep
  refine G8 ?_
  refine .idxSlP 1 J J J hbp J Y250.h Sz58 x.1 J oM (.loadE J J J Y58.h J sP (hv) (.appendAcc (z := u8 0) (by' := 1) (Aa (ls.getD x.1 [])) J J J J J Y58.h Y58.h Sz5 Zr5 (by unfold By; kernel_rfl) J hax sG (fun w h => Ao h J (hW.2 x.1 oM)) (hsl x.1 oM).2 (Ay _) oM oM (by rw [Aa, List.length_map, Nat.mul_one]; exact (hsl x.1 oM).1.symm) ?_))
  intro s16 bl16 hac16
  refine G10 ?_
  refine ⟨(x.1 + 1, s16, bl16), ⟨by simp only []; omega, ?_⟩, by simp only []; omega, Ae (wk1 J (wk1 J (wk1 J wk0))) (Aj sG Ad)⟩
  rw [take_flat oM, List.length_append, ← (hsl x.1 oM).1]
  simpa [Aa] using hac16
 have hx3 : x.1 = n := by omega
 rw [hx3, List.take_of_length_le oM, hF] at hax
 refine G13 ?_
 refine Ai (out := (x.2.2 ++ [])) (Ac J J) (Aj sG Ad) ?_
 exact ⟨x.2.1, rfl, by rw [List.append_nil]; exact hax⟩
theorem pad_acc (F : List UInt8) {q c : Nat} (x : UInt64) (h : F.length + 1 + padZ F.length + 8 ≤ c) : Acc ⟨some ⟨q, 0, none⟩, F.length + 1 + padZ F.length + 8, c⟩ [⟨q, Aa (F ++ [128] ++ List.replicate (padZ F.length) 0) ++ List.replicate 8 (u8 0), 5, c⟩] (Aa (F ++ [128] ++ List.replicate (padZ F.length) 0 ++ beUp 0 8 ++ beUp x 0)) 5 (F.length + 1 + padZ F.length + 8 + 0) 1 := by
  have e : Aa (F ++ [128] ++ List.replicate (padZ F.length) 0) ++ List.replicate 8 (u8 0) = Aa (F ++ [128] ++ List.replicate (padZ F.length) 0 ++ beUp 0 8 ++ beUp x 0) := by
    rw [show beUp x 0 = [] from rfl, List.append_nil, B1 (b := beUp 0 8)]
    rfl
  have h2 : (Aa (F ++ [128] ++ List.replicate (padZ F.length) 0 ++ beUp 0 8 ++ beUp x 0)).length = (F.length + 1 + padZ F.length + 8) * 1 := by
    simp [Aa, beUp_length]; omega
  have h3 := Acc.some (q := q) (E := 5) (size := 1) h h2
  rw [Nat.mul_one] at h3
  rw [e]
  exact h3

theorem r2_Pad (s : Sl) (F : List UInt8) (hsl : s.n = F.length) (hsn : s.p = none → s.n = 0) (htot : F.length ≤ 90000) : Meets Tryz.prog 247 [s.v] [] (fun W => SeesP W s.p (Aa F)) (fun v out => ∃ s, v = s.v ∧ Acc s out (Aa (padB F)) 5 (padB F).length 1) := by
 intro W hW
 have hz := padZ_lt F.length
 refine Ak Tryz.func247 J 38 Tryz.ntmps247 J (G7 ?_)
 refine .mkRow (z := u8 0) [] ([]) J J J Y58.h Sz5 Zr5 J J (by intro v hv; cases hv) dE J ?_
 intro q6
 refine G1 ?_
 refine .appendSl (z := u8 0) (by' := 1) (Aa F) J J J J J Y58.h Y58.h Sz5 Zr5 (by unfold By; kernel_rfl) J (fun w h => Ao h J hW) hsn (Ay _) rM J J oM oM oM (by rw [Aa, List.length_map]; omega) ?_
 intro q8 c8 hq8
 refine .mkRow (z := u8 0) [u8 (128)] (Aa [128]) J J J Y58.h Sz5 Zr5 J J (by intro v hv; rw [List.mem_singleton.1 hv]; rfl) dE J ?_
 intro q9
 refine .appendSl (z := u8 0) (by' := 1) (Aa [128]) J J J J J Y58.h Y58.h Sz5 Zr5 (by unfold By; kernel_rfl) J (fun w h => SeesP.of (Ah h Z0)) (fun e => by cases e) (Ay _) rM J (by rw [List.nil_append, Aa, List.length_map]; omega) oM oM oM (by rfl) ?_
 intro q10 c10 hq10
 refine G5 ?_
 refine .loop (ι := Nat × Sl × List Blk) (fun z => ⟨[(0, s.v), (3, z.2.1.v)], (z.2.2 ++ [])⟩) (fun z => z.1 ≤ padZ F.length ∧ Acc z.2.1 z.2.2 (Aa (F ++ [128] ++ List.replicate z.1 0)) 5 (F.length + 1 + z.1) 1) (fun z => padZ F.length - z.1) ((0, ⟨some ⟨q10, 0, none⟩, 0 + s.n + 1, c10⟩, [⟨q10, [] ++ Aa F ++ Aa [128], 5, c10 * 1⟩])) ?_ ?_ ?_
 · exact ⟨Nat.zero_le _, by rw [show [] ++ Aa F ++ Aa [128] = Aa (F ++ [128] ++ List.replicate 0 0) from by simp [Aa], show 0 + s.n + 1 = F.length + 1 + 0 by omega]; exact Acc.some oM (by simp [Aa])⟩
 · exact Ae (wk1 rfl (wk1 rfl wk0)) (Cg rM rfl rfl Ad)
 rintro ⟨j, sz, blz⟩ ⟨hz1, haz⟩
 simp only [] at hz1 haz
 have hzn := haz.num
 have hpz := padZ_at F.length j hz1
 refine G5 ?_
 refine .rem_i64 J J J J oM (G3 ?_)
 refine .condNP J (fun hc0 => ?_) (fun hc0 => ?_)
 ·
  simp only [] at hc0
  have hz3 : j < padZ F.length := by omega
  refine G5 ?_
  refine .mkRow (z := u8 0) [u8 (0)] (Aa [0]) J J J Y58.h Sz5 Zr5 J J (by intro v hv; rw [List.mem_singleton.1 hv]; rfl) dE J ?_
  intro q16
  refine .appendAcc (z := u8 0) (by' := 1) (Aa [0]) J J J J J Y58.h Y58.h Sz5 Zr5 (by unfold By; kernel_rfl) J haz sG (fun w h => SeesP.of (Ah h Z0)) (fun e => by cases e) (Ay _) oM oM (by rfl) ?_
  intro s17 bl17 hac17
  refine G4 ?_
  refine ⟨(j + 1, s17, bl17), ⟨by simp only []; omega, ?_⟩, by simp only []; omega, Ae (wk1 J (wk1 J wk0)) (Aj sG Ad)⟩
  rw [List.replicate_succ', ← List.append_assoc]
  simpa [Aa, Nat.add_assoc] using hac17
 simp only [] at hc0
 have hz3 : j = padZ F.length := by omega
 rw [hz3] at haz
 obtain ⟨qz, cz, rfl, hcz, rfl⟩ := acc_pos haz oM
 refine G8 ?_
 refine .appendMade (n := F.length + 1 + padZ F.length) (m := 8) (z := u8 0) (by' := 1) J J J J J J Y58.h Y3.h Sz5 Zr5 (by unfold By; kernel_rfl) J J rM (Nat.mul_one _) (by rw [Aa, List.length_map]; simp; omega) hcz oM dE ?_
 intro q19 c19 hq19
 refine G8 ?_
 rw [Cf (n := s.n) oM]
 refine .mul_u64 J J J (show Al _ _ = some (u64 8) from rfl) ?_
 rw [hsl]
 refine G10 ?_
 refine .loop (ι := Nat × Sl × List Blk) (fun y => ⟨[(3, y.2.1.v), (4, u64 (UInt64.ofNat F.length * 8)), (5, i64 (7 - (y.1 : Int)))], (y.2.2 ++ [])⟩) (fun y => y.1 ≤ 8 ∧ Acc y.2.1 y.2.2 (Aa (F ++ [128] ++ List.replicate (padZ F.length) 0 ++ beUp 0 8 ++ beUp (UInt64.ofNat F.length * 8) y.1)) 5 (F.length + 1 + padZ F.length + 8 + y.1) 1) (fun y => 8 - y.1) ((0, ⟨some ⟨q19, 0, none⟩, F.length + 1 + padZ F.length + 8, c19⟩, [⟨q19, Aa (F ++ [128] ++ List.replicate (padZ F.length) 0) ++ List.replicate 8 (u8 0), 5, c19⟩])) ?_ ?_ ?_
 · exact ⟨Nat.zero_le _, pad_acc F _ hq19⟩
 · exact Ae (wk1 rfl (wk1 rfl (wk1 rfl wk0))) (Cg rM rfl rfl Ad)
 rintro y ⟨hy, hay⟩
 refine G7 ?_
 refine .condP J (fun hc1 => ?_) (fun hc1 => ?_)
 ·
  have hy3 : y.1 ≤ 7 := by omega
  refine G8 ?_
  refine .mul_i64 J J J J oM (G1 ?_)
  refine .shr_u64 J J J J (56 - 8 * y.1) (by rw [wordOf_id _ oM]; omega) oM ?_
  refine G1 ?_
  refine .mkRow (z := u8 0) [u8 ((B5 (UInt64.ofNat F.length * 8) (56 - 8 * y.1)).toUInt8)] (Aa [(B5 (UInt64.ofNat F.length * 8) (56 - 8 * y.1)).toUInt8]) J J J Y58.h Sz5 Zr5 J J (by intro v hv; rw [List.mem_singleton.1 hv]; rfl) dE J ?_
  intro q35
  refine .appendAcc (z := u8 0) (by' := 1) (Aa [(B5 (UInt64.ofNat F.length * 8) (56 - 8 * y.1)).toUInt8]) J J J J J Y58.h Y58.h Sz5 Zr5 (by unfold By; kernel_rfl) J hay sG (fun w h => SeesP.of (Ah h Z0)) (fun e => by cases e) (Ay _) oM oM (by rfl) ?_
  intro s36 bl36 hac36
  refine G10 ?_
  refine ⟨(y.1 + 1, s36, bl36), ⟨by simp only []; omega, ?_⟩, by simp only []; omega, Ae (wk1 J (wk1 J (wk1 (congrArg (fun z => some (i64 z)) oM) wk0))) (Aj sG Ad)⟩
  rw [show beUp (UInt64.ofNat F.length * 8) (y.1 + 1) = beUp (UInt64.ofNat F.length * 8) y.1 ++ [(B5 (UInt64.ofNat F.length * 8) (56 - 8 * y.1)).toUInt8] from rfl, ← List.append_assoc, B1]
  exact hac36
 have hy3 : y.1 = 8 := by omega
 rw [hy3] at hay
 refine G13 ?_
 refine Ai (out := (y.2.2 ++ [])) (Ac J J) (Aj sG Ad) ?_
 refine ⟨y.2.1, rfl, ?_⟩
 have e8 : UInt64.ofNat F.length * 8 = UInt64.ofNat (8 * F.length) := by
  apply UInt64.toNat_inj.1
  rw [mul8_nat (by rw [A6 oM]; omega), A6 oM, A6 oM]; omega
 rw [e8] at hay
 rw [padB_length, padB]
 simpa [Nat.add_assoc, Nat.add_comm, Nat.add_left_comm] using hay
theorem take_len2 {xs : List UInt8} {i K : Nat} (h : xs.length = 128 * K) (hi : i < K) : ((xs.drop (128 * i)).take 128).length = 128 := by simp; omega
theorem sees_chunk {w : World} {q i : Nat} {l : List UInt8} (h : Bs w q 0 (Aa l)) : Bs w q (128 * i) (Aa ((l.drop (128 * i)).take 128)) := fun j v hj => by
  have e : (Aa l)[128 * i + j]? = some v := by
    rw [Aa, List.map_take, List.map_drop, List.getElem?_take] at hj
    split at hj
    · rwa [List.getElem?_drop] at hj
    · cases hj
  have h1 := h _ v e
  rwa [Nat.zero_add] at h1
theorem cut_chunk (q c i : Nat) (h : 128 * i < c) : (.slice (some ⟨q, if c = 128 * i then 0 else 0 + 128 * i * 1, none⟩) (128 * i + 128 - 128 * i) (c - 128 * i) : Value) = .slice (some ⟨q, 128 * i, none⟩) 128 (c - 128 * i) := by
  rw [if_neg oM, show 128 * i + 128 - 128 * i = 128 by omega, show 0 + 128 * i * 1 = 128 * i by omega]

theorem r2_run (st : List UInt64) (hst : st.length = 8) (k : List UInt64) (hk : Hid (kW = k)) (hk80 : k.length = 80) (s : Sl) (F : List UInt8) (hsl : s.n = F.length) (hsn : s.p = none → s.n = 0) (htot : F.length ≤ 90000) : Meets Tryz.prog 239 [agg (Az st), s.v] [] (fun W => SeesP W s.p (Aa F)) (fun v out => v = agg (Az (allW k st F)) ∧ out = []) := by
 intro W hW
 have hpl := padB_length F
 have hpz := padZ_lt F.length
 have hpm := padB_mod F
 obtain ⟨K, hK⟩ : ∃ K, (padB F).length / 128 = K := ⟨_, rfl⟩
 rw [hK] at hpm
 obtain ⟨U, hU⟩ : ∃ U, Hid (allW k st F = U) := ⟨_, ⟨rfl⟩⟩
 have hst2 : U.length = 8 := by rw [← hU.out, allW_length]; exact hst
 rw [hU.out]
 have hrl := hst2
 refine Ak Tryz.func239 J 23 Tryz.ntmps239 J (G3 ?_)
 intro n2 hn2 hf2
 refine .alloc (cs := (Az (List.replicate 8 0))) J Zr252 J ?_
 intro n4 hn4 hf4
 refine G5 ?_
 refine .call4 J J J J J Body247 (r2_Pad s F hsl hsn htot) (fun w h => Ao h J hW) ?_
 rintro v8 out8 ⟨s7, rfl, hac7⟩
 obtain ⟨q7, c7, rfl, hc7, rfl⟩ := acc_pos hac7 oM
 refine G10 ?_
 refine .loop (ι := Nat) (fun i => ⟨[(2, ptr n2 0), (4, ptr n4 0), (5, .slice (some ⟨q7, 0, none⟩) (padB F).length c7), (6, i64 ((128 * i : Nat) : Int))], [⟨q7, Aa (padB F), 5, c7 * 1⟩, ⟨n4, Az (List.replicate 8 0), 252, 8⟩, ⟨n2, Az (runW k st (padB F) i), 252, (Az st).length⟩]⟩) (fun i => i ≤ K) (fun i => K - i) (0) ?_ ?_ ?_
 · exact Nat.zero_le _
 · exact Ae (wk1 rfl (wk1 rfl (wk1 rfl (wk1 rfl wk0)))) (Ab rM (Ab rM (Ab rM Ad)))
 rintro i hi
 have hrl : (runW k st (padB F) i).length = 8 := by rw [runW_length]; exact hst
 refine G9 ?_
 refine .condP J (fun hc0 => ?_) (fun hc0 => ?_)
 ·
  have hi3 : i < K := by omega
  obtain ⟨A, hA⟩ : ∃ A, Hid (schA ((padB F).drop (128 * i) |>.take 128) 128 = A) := ⟨_, ⟨rfl⟩⟩
  obtain ⟨w, hwp⟩ : ∃ w, Hid (schB A 64 = w) := ⟨_, ⟨rfl⟩⟩
  obtain ⟨R, hR⟩ : ∃ R, Hid (rnds k w (W8.of (runW k st (padB F) i)) 80 = R) := ⟨_, ⟨rfl⟩⟩
  have e1 : addUp (runW k st (padB F) i) R.l 8 = runW k st (padB F) (i + 1) := by rw [runW, pieceW, schW, hA.out, hwp.out, hR.out]
  have hrl2 : (runW k st (padB F) (i + 1)).length = 8 := by rw [runW_length]; exact hst
  refine G4 ?_
  refine .draw [(1, 0), (0, 1), (0, 2), (0, 3), (0, 4), (0, 5), (3, 6), (4, 7)] Be zK (.lA J J J Y252 J Sz252 Z2 (by (simp [hrl]; done)) ?_)
  refine G4 ?_
  refine .sliceLoHiN (128*i) (128*i+128) J J J J J oM oM oM oM Y58.h Sz5 ?_
  rw [cut_chunk q7 c7 i oM]
  refine .cV J J J J Body248 (r2_piece (runW k st (padB F) i) hrl ((padB F).drop (128 * i) |>.take 128) (take_len2 hpm hi3) q7 (128 * i) (c7 - 128 * i) A w k R hA hwp hk hk80 hR) (fun w h => sees_chunk (Ah h Z0)) ?_
  rw [e1]
  refine .sA J J J J zB Sz252 (by (simp [hst, runW_length]; done)) Z2 (by (simp [hrl]; done)) (by exact upd2) ?_
  refine G9 ?_
  exact ⟨i + 1, by omega, by omega, Ae (wk1 rfl (wk1 rfl (wk1 rfl (wk1 (congrArg (fun z => some (i64 z)) oM) wk0)))) (Ab rM (Ab rM (Ab rM Ad)))⟩
 rw [show (runW k st (padB F) i) = U from by rw [show i = K by omega, ← hU.out, allW, hK]]
 refine G7 ?_
 refine .lA J J J Y252 J Sz252 Z2 (by (simp [hst2]; done)) ?_
 refine .sA J J J J zB Sz252 (by (simp [hst2]; done)) Z1 sP zV ?_
 refine G4 ?_
 refine ⟨_, [], B2 J J Y252 J Sz252 Z1 (by simp [hst2]), sP, sP, ?_, rfl⟩
 rfl

theorem room_go {x : UInt64} {k : Nat} (hk : 1 ≤ k) (h9 : k < 9) (h : ¬ ((B5 x (7 * k)).toNat : Int) = 0) : k + 1 ≤ szN x.toNat := by
  rcases Nat.lt_or_ge k (szN x.toNat) with h1 | h1
  · exact h1
  · exact absurd (show ((B5 x (7 * k)).toNat : Int) = 0 by rw [shr64_toNat, Nat.div_eq_of_lt ((szN_le hk oM).1 h1)]; rfl) h
theorem room_end {x : UInt64} {k : Nat} (hk : 1 ≤ k) (h9 : k < 9) (h : ((B5 x (7 * k)).toNat : Int) = 0) : szN x.toNat ≤ k := by
  refine (szN_le hk oM).2 ?_
  rw [shr64_toNat] at h
  rcases Nat.div_eq_zero_iff.1 (show x.toNat / 2 ^ (7 * k) = 0 by omega) with h1 | h1
  · exact absurd h1 (Nat.ne_of_gt (Nat.pow_pos dE))
  · exact h1
theorem head_or : ∀ r, r < 9 → 1 ≤ r → ∀ y, y < 2 ^ (8 - r) → UInt8.ofNat (256 - 2 ^ (9 - r)) + UInt8.ofNat y = shl8 255 (9 - r) ||| UInt8.ofNat y := by decide
theorem head_9 : shl8 255 0 = 255 := by decide
theorem headB_9 {x : UInt64} (h : szN x.toNat = 9) : headB x = 255 := by
  rw [headB, h, head_9]
  have : ∀ y : UInt8, 255 ||| y = 255 := by
    intro y
    have hh : ∀ n, n < 256 → (255 : UInt8) ||| UInt8.ofNat n = 255 := by decide
    have := hh y.toNat y.toNat_lt
    rwa [UInt8.ofNat_toNat] at this
  exact this _
theorem headB_lt {x : UInt64} (h : szN x.toNat < 9) : ((256 : UInt64) - shl64 1 (9 - szN x.toNat)).toUInt8 + (B5 x (8 * (szN x.toNat - 1))).toUInt8 = headB x := by
  have hp := A2 x.toNat
  have hy : (B5 x (8 * (szN x.toNat - 1))).toNat < 2 ^ (8 - szN x.toNat) := by
    rw [shr64_toNat, Nat.div_lt_iff_lt_mul (Nat.pow_pos dE), ← Nat.pow_add, show 8 - szN x.toNat + 8 * (szN x.toNat - 1) = 7 * szN x.toNat by omega]
    exact szN_hi oM
  have h1 : ((256 : UInt64) - shl64 1 (9 - szN x.toNat)).toUInt8 = UInt8.ofNat (256 - 2 ^ (9 - szN x.toNat)) := by
    have : ∀ r, r < 9 → 1 ≤ r → ((256 : UInt64) - shl64 1 (9 - r)).toUInt8 = UInt8.ofNat (256 - 2 ^ (9 - r)) := by decide
    exact this _ h hp.1
  have h2 : (B5 x (8 * (szN x.toNat - 1))).toUInt8 = UInt8.ofNat (B5 x (8 * (szN x.toNat - 1))).toNat := rfl
  rw [h1, headB, h2]
  exact head_or _ h hp.1 _ hy

theorem r1_room (x : UInt64) : Meets Tryz.prog 213 [u64 x] [] (fun _ => True) (fun v out => v = i64 ((szN x.toNat : Nat) : Int) ∧ out = []) := by
 intro W hW
 have hz := A2 x.toNat
 refine Ak Tryz.func213 J 17 Tryz.ntmps213 J (G12 ?_)
 refine .loop (ι := Nat) (fun k => ⟨[(0, u64 x), (3, i64 (k : Int))], []⟩) (fun k => 1 ≤ k ∧ k ≤ szN x.toNat) (fun k => 9 - k) (1) ?_ ?_ ?_
 · exact ⟨Nat.le_refl _, hz.1⟩
 · exact Ag (wk1 rfl (wk1 rfl wk0)) wh0 nD
 rintro k ⟨hk1, hk2⟩
 refine G4 ?_
 refine two (fun r hr k => Tr.lss J J J J hr k) (fun hs2_10 => ?_) (fun hs2_10 => ?_)
 ·
  have hs2_1 := of_decide_eq_true hs2_10
  refine G3 ?_
  refine .mul_i64 J J J J oM (G1 ?_)
  refine .shr_u64 J J J J (7 * k) (by rw [show (7 : Int) * (k : Int) = ((7 * k : Nat) : Int) by omega, wordOf_id _ oM]) oM ?_
  refine G4 ?_
  refine .condNP J (fun hc0 => ?_) (fun hc0 => ?_)
  ·
   refine G10 ?_
   exact ⟨k + 1, ⟨by omega, room_go hk1 oM zA⟩, by omega, Ag (wk1 rfl (wk1 (by rw [Int.natCast_add]; rfl) wk0)) wh0 nD⟩
  refine G13 ?_
  refine ⟨_, [], Ac J J, sP, sP, ?_, rfl⟩
  (have := room_end hk1 oM zA; congr 1; omega)
 have hs2_1 := of_decide_eq_false hs2_10
 refine G10 ?_
 refine .cond_f J J (G13 ?_)
 refine ⟨_, [], Ac J J, sP, sP, ?_, rfl⟩
 (congr 1; omega)
theorem Cr (p0 : Option Addr) (n c : Nat) (l : List UInt8) (x : UInt64) (hl : l.length = n) (hp0 : p0 = none → n = 0) (hn : n ≤ 90000) : Meets Tryz.prog 132 [.slice p0 n c, u64 x] [] (fun W => SeesP W p0 (Aa l)) (fun v out => FreshRow v out (Aa (l ++ Ap x)) 5 (n + szN x.toNat) 1) := by
 intro W hW
 have hz := A2 x.toNat
 refine Ak Tryz.func132 J 51 Tryz.ntmps132 J (G7 ?_)
 refine .mkRow2 (z := u8 0) [] [] rfl J Y58.h Sz5 Zr5 J J (by intro v hv; cases hv) dE J ?_
 intro q8
 refine G1 ?_
 refine .appendSl (z := u8 0) (by' := 1) (Aa l) J J J J J Y58.h Y58.h Sz5 Zr5 (by unfold By; kernel_rfl) J (fun w h => Ao h J hW) hp0 (by simp [Aa, isCell, u8]) Aq J J oM oM oM (by simp [Aa, hl]) ?_
 intro q10 c10 hq10
 rw [Nat.zero_add n] at hq10 ⊢
 refine G6 ?_
 refine .cV J J J J Body213 (r1_room _) tV (G3 ?_)
 refine .join (ι := Nat × Nat) (fun p => ⟨[(1, u64 x), (5, .slice (some ⟨p.1, 0, none⟩) (n + 1) p.2), (6, i64 ((szN x.toNat : Nat) : Int))], [⟨p.1, Aa (l ++ [headB x]), 5, p.2 * 1⟩]⟩) (fun p => n + 1 ≤ p.2) ?_ ?_
 ·
  refine G6 ?_
  refine .condP J (fun hc0 => ?_) (fun hc0 => ?_)
  ·
   refine G2 ?_
   refine .mkRow (z := u8 0) [u8 (255)] (Aa [255]) J J J Y58.h Sz5 Zr5 J J (by intro v hv; rw [List.mem_singleton.1 hv]; rfl) dE J ?_
   intro q16
   refine .appendSl (z := u8 0) (by' := 1) (Aa [255]) J J J J J Y58.h Y58.h Sz5 Zr5 (by unfold By; kernel_rfl) J (fun w h => SeesP.of (Ah h Bw)) (fun e => by cases e) (by simp [Aa, isCell, u8]) (rem_there Aq) J (by simp [Aa, hl]) oM oM oM (by rfl) ?_
   intro q17 c17 hq17
   refine G3 ?_
   exact ⟨(q17, c17), hq17, Ag (wk1 rfl (wk1 rfl (wk1 rfl wk0))) (wh1 (by (rw [headB_9 (x := x) oM]; simp only [Aa, List.map_append]; exact Bw)) wh0) nD⟩
  refine G5 ?_
  refine .shl_u64 J J (show Al _ _ = some (u64 1) from rfl) J (9 - szN x.toNat) (by rw [show (9 : Int) - ((szN x.toNat : Nat) : Int) = ((9 - szN x.toNat : Nat) : Int) by omega, wordOf_id _ oM]) oM ?_
  refine .sub_u64 J J (show Al _ _ = some (u64 256) from rfl) J (G4 ?_)
  refine .mul_i64 J J J J oM (G1 ?_)
  refine .shr_u64 J J J J (8 * (szN x.toNat - 1)) (by rw [show (8 : Int) * (((szN x.toNat : Nat) : Int) - 1) = ((8 * (szN x.toNat - 1) : Nat) : Int) by omega, wordOf_id _ oM]) oM ?_
  refine G1 ?_
  refine .add_u8 J J J J ?_
  rw [headB_lt (x := x) oM]
  refine .mkRow (z := u8 0) [u8 (headB x)] (Aa [headB x]) J J J Y58.h Sz5 Zr5 J J (by intro v hv; rw [List.mem_singleton.1 hv]; rfl) dE J ?_
  intro q33
  refine .appendSl (z := u8 0) (by' := 1) (Aa [headB x]) J J J J J Y58.h Y58.h Sz5 Zr5 (by unfold By; kernel_rfl) J (fun w h => SeesP.of (Ah h Bw)) (fun e => by cases e) (by simp [Aa, isCell, u8]) (rem_there Aq) J (by simp [Aa, hl]) oM oM oM (by rfl) ?_
  intro q17 c17 hq17
  refine G3 ?_
  exact ⟨(q17, c17), hq17, Ag (wk1 rfl (wk1 rfl (wk1 rfl wk0))) (wh1 (by (simp only [Aa, List.map_append]; exact Bw)) wh0) nD⟩
 intro p hj
 have hjp := hj
 refine G9 ?_
 refine .loop (ι := Nat × Nat × Nat) (fun r => ⟨[(1, u64 x), (5, .slice (some ⟨r.2.1, 0, none⟩) (n + 1 + r.1) r.2.2), (7, i64 (((szN x.toNat : Nat) : Int) - 2 - (r.1 : Int)))], [⟨r.2.1, Aa (l ++ numUp x r.1), 5, r.2.2 * 1⟩]⟩) (fun r => r.1 ≤ szN x.toNat - 1 ∧ n + 1 + r.1 ≤ r.2.2) (fun r => szN x.toNat - 1 - r.1) ((0, p.1, p.2)) ?_ ?_ ?_
 · exact ⟨Nat.zero_le _, hjp⟩
 · exact Ag (wk1 rfl (wk1 rfl (wk1 (by rw [show (((szN x.toNat : Nat) : Int) - 2 - ((0 : Nat) : Int)) = ((szN x.toNat : Nat) : Int) - 2 by omega]; rfl) wk0))) (wh1 (by rw [numUp_zero]; exact Bw) wh0) nD
 rintro r ⟨hp1, hp2⟩
 refine G7 ?_
 refine .condP J (fun hc1 => ?_) (fun hc1 => ?_)
 ·
  have hp3 : r.1 < szN x.toNat - 1 := by omega
  refine G8 ?_
  refine .mul_i64 J J J J oM (G1 ?_)
  refine .shr_u64 J J J J (8 * (szN x.toNat - 2 - r.1)) (by rw [show (8 : Int) * (((szN x.toNat : Nat) : Int) - 2 - (r.1 : Int)) = ((8 * (szN x.toNat - 2 - r.1) : Nat) : Int) by omega, wordOf_id _ oM]) oM ?_
  refine G1 ?_
  refine .mkRow (z := u8 0) [u8 ((B5 x (8 * (szN x.toNat - 2 - r.1))).toUInt8)] (Aa [(B5 x (8 * (szN x.toNat - 2 - r.1))).toUInt8]) J J J Y58.h Sz5 Zr5 J J (by intro v hv; rw [List.mem_singleton.1 hv]; rfl) dE J ?_
  intro q48
  refine .appendSl (z := u8 0) (by' := 1) (Aa [(B5 x (8 * (szN x.toNat - 2 - r.1))).toUInt8]) J J J J J Y58.h Y58.h Sz5 Zr5 (by unfold By; kernel_rfl) J (fun w h => SeesP.of (Ah h Bw)) (fun e => by cases e) (by simp [Aa, isCell, u8]) (rem_there Aq) J (by rw [Aa, List.length_map, List.length_append, hl, numUp_length x r.1 oM]; omega) oM oM oM (by rfl) ?_
  intro q2 c2 hq2
  refine G10 ?_
  exact ⟨(r.1 + 1, q2, c2), ⟨by simp only []; omega, by simp only []; omega⟩, by simp only []; omega, Ag (wk1 rfl (wk1 (by rw [show n + 1 + (r.1 + 1) = n + 1 + r.1 + 1 by omega]; rfl) (wk1 (by rw [show (((szN x.toNat : Nat) : Int) - 2 - ((r.1 + 1 : Nat) : Int)) = ((szN x.toNat : Nat) : Int) - 2 - (r.1 : Int) - 1 by omega]; rfl) wk0))) (wh1 (by rw [numUp_step x r.1 oM, ← List.append_assoc]; simp only [Aa, List.map_append]; exact Bw) wh0) nD⟩
 have hp3 : r.1 = szN x.toNat - 1 := by omega
 refine G13 ?_
 refine ⟨_, [⟨r.2.1, Aa (l ++ Ap x), 5, r.2.2 * 1⟩], Ac J J, (by intro b hb; rw [List.mem_singleton.1 hb, ← numUp_all, ← hp3]; exact Bw), Bu, ⟨r.2.1, r.2.2, by rw [show n + 1 + r.1 = n + szN x.toNat by omega], by omega, rfl⟩⟩


theorem vcheck_2 {V : Vote} (h : ¬ A5 V = 0) : A5 V = 2 := by
  unfold A5 at h ⊢
  by_cases h1 : Bj V = true
  · rw [if_pos h1]
  · rw [if_neg h1] at h ⊢
    by_cases h2 : vokB V = true
    · rw [if_pos h2] at h; exact absurd rfl h
    · rw [if_neg h2]

theorem r20_body (V : Vote) (hV : V.ok) : Meets Tryz.prog 214 [agg V.cells] [] (fun _ => True) (fun v out => FreshRow v out (Aa (voteT V)) 5 (voteN V) 1) := by
 intro W hW
 have z1 := A2 V.fHeight.toNat
 have z2 := A2 V.fRound.toNat
 have z3 := A2 (Hw.Ax V.fPhase).toUInt64.toNat
 have z4 := A2 V.fProof.toNat
 refine Ak Tryz.func214 J 29 Tryz.ntmps214 J (G3 ?_)
 intro n1 hn1 hf1
 refine G7 ?_
 refine .call4 J J J J J Body132 (Cr none 0 0 [] V.fHeight J (fun _ => rfl) oM) (fun _ _ => SeesP.nil) ?_
 rintro v6 out6 ⟨q6, c6, rfl, hc6, rfl⟩
 simp only [Nat.zero_add, List.nil_append, List.cons_append] at hc6 ⊢
 refine G8 ?_
 refine .call4 J J J J J Body132 (Cr (some ⟨q6, 0, none⟩) (szN V.fHeight.toNat) c6 (Ap V.fHeight) (V.fRound) (by simp only [List.length_append, Am, hV.l_fValue]) (fun e => by cases e) oM) (fun w h => SeesP.of (Ah (cs := Aa (Ap V.fHeight)) h Z0)) ?_
 rintro v10 out10 ⟨q10, c10, rfl, hc10, rfl⟩
 refine G10 ?_
 refine .call4 J J J J J Body132 (Cr (some ⟨q10, 0, none⟩) (szN V.fHeight.toNat + szN V.fRound.toNat) c10 (Ap V.fHeight ++ Ap V.fRound) ((Hw.Ax V.fPhase).toUInt64) (by simp only [List.length_append, Am, hV.l_fValue]) (fun e => by cases e) oM) (fun w h => SeesP.of (Ah (cs := Aa (Ap V.fHeight ++ Ap V.fRound)) h Z0)) ?_
 rintro v16 out16 ⟨q16, c16, rfl, hc16, rfl⟩
 refine G8 ?_
 refine .appendSl (z := u8 0) (by' := 1) (Aa V.fValue) J J J J J Y58.h Y58.h Sz5 Zr5 (by unfold By; kernel_rfl) J (fun w h => SeesP.of (sees_part h Z3 (Vote.see_fValue hV))) (fun e => by cases e) (Ay _) rM J (by rw [Aa, List.length_map]; simp only [List.length_append, Am, hV.l_fValue]; omega) oM oM oM (by simp [hV.l_fValue]) ?_
 intro q20 c20 hq20
 rw [← B1]
 refine G8 ?_
 refine .call4 J J J J J Body132 (Cr (some ⟨q20, 0, none⟩) (szN V.fHeight.toNat + szN V.fRound.toNat + szN (Hw.Ax V.fPhase).toUInt64.toNat + 32) c20 (Ap V.fHeight ++ Ap V.fRound ++ Ap (Hw.Ax V.fPhase).toUInt64 ++ V.fValue) (V.fProof) (by simp only [List.length_append, Am, hV.l_fValue]) (fun e => by cases e) oM) (fun w h => SeesP.of (Ah (cs := Aa (Ap V.fHeight ++ Ap V.fRound ++ Ap (Hw.Ax V.fPhase).toUInt64 ++ V.fValue)) h Z0)) ?_
 rintro v24 out24 ⟨q24, c24, rfl, hc24, rfl⟩
 refine G8 ?_
 refine .appendSl (z := u8 0) (by' := 1) (Aa V.fVoter) J J J J J Y58.h Y58.h Sz5 Zr5 (by unfold By; kernel_rfl) J (fun w h => SeesP.of (sees_part h Z4 (Vote.see_fVoter hV))) (fun e => by cases e) (Ay _) rM J (by rw [Aa, List.length_map]; simp only [List.length_append, Am, hV.l_fValue]; omega) oM oM oM (by simp [hV.l_fVoter]) ?_
 intro q28 c28 hq28
 rw [← B1]
 refine G5 ?_
 refine Ai (out := (⟨q28, Aa (Ap V.fHeight ++ Ap V.fRound ++ Ap (Hw.Ax V.fPhase).toUInt64 ++ V.fValue ++ Ap V.fProof ++ V.fVoter), 5, c28 * 1⟩ :: [])) (Ac J J) (Ab rM Ad) ?_
 exact ⟨q28, c28, rfl, by unfold voteN; omega, rfl⟩

theorem r20_Check (V : Vote) (hV : V.ok) : Meets Tryz.prog 143 [agg V.cells] [] (fun _ => True) (fun v out => v = i64 (A5 V) ∧ out = []) := by
  intro W hW
  refine Ak Tryz.func143 J 53 Tryz.ntmps143 J (G3 ?_)
  intro n1 hn1 hf1
  refine G5 ?_
  refine .alloc (cs := (Aa (List.replicate 32 0))) J Zr50 J ?_
  intro n3 hn3 hf3
  refine G7 ?_
  refine two (fun r hr k => Tr.lss J J J J hr k) (fun hs2_20 => ?_) (fun hs2_20 => ?_)
  ·
    have hs2_2 := of_decide_eq_true hs2_20
    refine G22 ?_
    refine .cond_t J J (G8 ?_)
    refine ⟨_, [], Ac J J, sP, sP, ?_, rfl⟩
    first
      | (unfold A5 Bj vokB; simp_all; done)
      | (have e1 : ¬ V.fPhase = 1 := by omega
         have e2 : ¬ V.fPhase = 2 := by omega
         have e3 : ¬ V.fPhase = 3 := by omega
         unfold A5 Bj vokB; simp_all; done)
      | (unfold A5 Bj vokB; simp_all; omega)
  have hs2_2 := of_decide_eq_false hs2_20
  refine G3 ?_
  refine two (fun r hr k => Tr.geq J J J J hr k) (fun hs2_60 => ?_) (fun hs2_60 => ?_)
  ·
    have hs2_6 := of_decide_eq_true hs2_60
    refine G18 ?_
    refine .cond_t J J (G8 ?_)
    refine ⟨_, [], Ac J J, sP, sP, ?_, rfl⟩
    first
      | (unfold A5 Bj vokB; simp_all; done)
      | (have e1 : ¬ V.fPhase = 1 := by omega
         have e2 : ¬ V.fPhase = 2 := by omega
         have e3 : ¬ V.fPhase = 3 := by omega
         unfold A5 Bj vokB; simp_all; done)
      | (unfold A5 Bj vokB; simp_all; omega)
  have hs2_6 := of_decide_eq_false hs2_60
  refine G4 ?_
  refine two (fun r hr k => Tr.gtr J J J J hr k) (fun hs2_110 => ?_) (fun hs2_110 => ?_)
  ·
    have hs2_11 := of_decide_eq_true hs2_110
    refine G13 ?_
    refine .cond_t J J (G8 ?_)
    refine ⟨_, [], Ac J J, sP, sP, ?_, rfl⟩
    first
      | (unfold A5 Bj vokB; simp_all; done)
      | (have e1 : ¬ V.fPhase = 1 := by omega
         have e2 : ¬ V.fPhase = 2 := by omega
         have e3 : ¬ V.fPhase = 3 := by omega
         unfold A5 Bj vokB; simp_all; done)
      | (unfold A5 Bj vokB; simp_all; omega)
  have hs2_11 := of_decide_eq_false hs2_110
  refine G4 ?_
  refine two (fun r hr k => Tr.lss J J J J hr k) (fun hs2_160 => ?_) (fun hs2_160 => ?_)
  ·
    have hs2_16 := of_decide_eq_true hs2_160
    refine G8 ?_
    refine .cond_t J J (G8 ?_)
    refine ⟨_, [], Ac J J, sP, sP, ?_, rfl⟩
    first
      | (unfold A5 Bj vokB; simp_all; done)
      | (have e1 : ¬ V.fPhase = 1 := by omega
         have e2 : ¬ V.fPhase = 2 := by omega
         have e3 : ¬ V.fPhase = 3 := by omega
         unfold A5 Bj vokB; simp_all; done)
      | (unfold A5 Bj vokB; simp_all; omega)
  have hs2_16 := of_decide_eq_false hs2_160
  refine G8 ?_
  refine .condP J (fun hc0 => ?_) (fun hc0 => ?_)
  ·
    refine G8 ?_
    refine ⟨_, [], Ac J J, sP, sP, ?_, rfl⟩
    first
      | (unfold A5 Bj vokB; simp_all; done)
      | (have e1 : ¬ V.fPhase = 1 := by omega
         have e2 : ¬ V.fPhase = 2 := by omega
         have e3 : ¬ V.fPhase = 3 := by omega
         unfold A5 Bj vokB; simp_all; done)
      | (unfold A5 Bj vokB; simp_all; omega)
  refine G7 ?_
  refine two (fun r hr k => Tr.eqi J J J J hr k) (fun hs4_20 => ?_) (fun hs4_20 => ?_)
  ·
    have hs4_2 := of_decide_eq_true hs4_20
    refine G2 ?_
    refine .lN (Aa _) J J J Y50.h J Sz50 Z1 (Vote.row_fValue zA) (Vote.rl_fValue zA) ?_
    refine .lA J J J Y50.h J Sz50 Z0 sP ?_
    refine two (fun r hr k => Tr.eql_bytes J J J J Tryz.eqGuardType50 Y50.h Y5.h Sz5 (by (simp [hV.l_fValue]; done)) sP hr k) (fun hs4_70 => ?_) (fun hs4_70 => ?_)
    ·
      have hs4_7 := of_decide_eq_true hs4_70
      refine G20 ?_
      refine .cond_t J J (G8 ?_)
      refine ⟨_, [], Ac J J, sP, sP, ?_, rfl⟩
      first
        | (unfold A5 Bj vokB; simp_all; done)
        | (have e1 : ¬ V.fPhase = 1 := by omega
           have e2 : ¬ V.fPhase = 2 := by omega
           have e3 : ¬ V.fPhase = 3 := by omega
           unfold A5 Bj vokB; simp_all; done)
        | (unfold A5 Bj vokB; simp_all; omega)
    have hs4_7 := of_decide_eq_false hs4_70
    refine G5 ?_
    refine two (fun r hr k => Tr.gtr J J J J hr k) (fun hs4_130 => ?_) (fun hs4_130 => ?_)
    ·
      have hs4_13 := of_decide_eq_true hs4_130
      refine G14 ?_
      refine .cond_t J J (G8 ?_)
      refine ⟨_, [], Ac J J, sP, sP, ?_, rfl⟩
      first
        | (unfold A5 Bj vokB; simp_all; done)
        | (have e1 : ¬ V.fPhase = 1 := by omega
           have e2 : ¬ V.fPhase = 2 := by omega
           have e3 : ¬ V.fPhase = 3 := by omega
           unfold A5 Bj vokB; simp_all; done)
        | (unfold A5 Bj vokB; simp_all; omega)
    have hs4_13 := of_decide_eq_false hs4_130
    refine G5 ?_
    refine two (fun r hr k => Tr.nei J J J J hr k) (fun hs4_190 => ?_) (fun hs4_190 => ?_)
    ·
      have hs4_19 := nd_t hs4_190
      refine G8 ?_
      refine .condNP J (fun hc1 => ?_) (fun hc1 => ?_)
      ·
        refine G8 ?_
        refine ⟨_, [], Ac J J, sP, sP, ?_, rfl⟩
        first
          | (unfold A5 Bj vokB; simp_all; done)
          | (have e1 : ¬ V.fPhase = 1 := by omega
             have e2 : ¬ V.fPhase = 2 := by omega
             have e3 : ¬ V.fPhase = 3 := by omega
             unfold A5 Bj vokB; simp_all; done)
          | (unfold A5 Bj vokB; simp_all; omega)
      refine G9 ?_
      refine ⟨_, [], Ac J J, sP, sP, ?_, rfl⟩
      first
        | (unfold A5 Bj vokB; simp_all; done)
        | (have e1 : ¬ V.fPhase = 1 := by omega
           have e2 : ¬ V.fPhase = 2 := by omega
           have e3 : ¬ V.fPhase = 3 := by omega
           unfold A5 Bj vokB; simp_all; done)
        | (unfold A5 Bj vokB; simp_all; omega)
    have hs4_19 := nd_f hs4_190
    refine G8 ?_
    refine .cond_f J J (G9 ?_)
    refine ⟨_, [], Ac J J, sP, sP, ?_, rfl⟩
    first
      | (unfold A5 Bj vokB; simp_all; done)
      | (have e1 : ¬ V.fPhase = 1 := by omega
         have e2 : ¬ V.fPhase = 2 := by omega
         have e3 : ¬ V.fPhase = 3 := by omega
         unfold A5 Bj vokB; simp_all; done)
      | (unfold A5 Bj vokB; simp_all; omega)
  have hs4_2 := of_decide_eq_false hs4_20
  refine G16 ?_
  refine two (fun r hr k => Tr.nei J J J J hr k) (fun hs4_190 => ?_) (fun hs4_190 => ?_)
  ·
    have hs4_19 := nd_t hs4_190
    refine G8 ?_
    refine .condNP J (fun hc1 => ?_) (fun hc1 => ?_)
    ·
      refine G8 ?_
      refine ⟨_, [], Ac J J, sP, sP, ?_, rfl⟩
      first
        | (unfold A5 Bj vokB; simp_all; done)
        | (have e1 : ¬ V.fPhase = 1 := by omega
           have e2 : ¬ V.fPhase = 2 := by omega
           have e3 : ¬ V.fPhase = 3 := by omega
           unfold A5 Bj vokB; simp_all; done)
        | (unfold A5 Bj vokB; simp_all; omega)
    refine G9 ?_
    refine ⟨_, [], Ac J J, sP, sP, ?_, rfl⟩
    first
      | (unfold A5 Bj vokB; simp_all; done)
      | (have e1 : ¬ V.fPhase = 1 := by omega
         have e2 : ¬ V.fPhase = 2 := by omega
         have e3 : ¬ V.fPhase = 3 := by omega
         unfold A5 Bj vokB; simp_all; done)
      | (unfold A5 Bj vokB; simp_all; omega)
  have hs4_19 := nd_f hs4_190
  refine G8 ?_
  refine .cond_f J J (G9 ?_)
  refine ⟨_, [], Ac J J, sP, sP, ?_, rfl⟩
  first
    | (unfold A5 Bj vokB; simp_all; done)
    | (have e1 : ¬ V.fPhase = 1 := by omega
       have e2 : ¬ V.fPhase = 2 := by omega
       have e3 : ¬ V.fPhase = 3 := by omega
       unfold A5 Bj vokB; simp_all; done)
    | (unfold A5 Bj vokB; simp_all; omega)
end Go.Proofs.YtdifpjmfabhpiaaGreat
end

section
namespace Go.Proofs.YtdifpjmfabhpiaaGreat
open Go Hw


theorem r20_Bytes (V : Vote) (hV : V.ok) : Meets Tryz.prog 134 [agg V.cells] [] (fun _ => True) (fun v out => ∃ s, v = .tuple #[s.v, i64 (A5 V)] ∧ Hw.Acc s out (Aa (A4 V)) 5 (A4 V).length 1) := by
 intro W hW
 have hvl := voteT_length hV
 have hvn := voteN_le V
 have hsl := hV.l_fSig
 refine Ak Tryz.func134 J 12 Tryz.ntmps134 J (G3 ?_)
 intro n1 hn1 hf1
 refine G8 ?_
 refine .cV J J J J Body143 (r20_Check V hV) tV (G3 ?_)
 refine .condNP J (fun hc0 => ?_) (fun hc0 => ?_)
 ·
  refine G9 ?_
  refine Ai (out := []) (A7 J J J) Ad ?_
  exact ⟨Sl.nil, by rw [vcheck_2 hc0]; rfl, by rw [show A4 V = [] from if_neg hc0]; exact Acc.none⟩
 refine G3 ?_
 refine .drawK (sp_k sp_n) J [(0, 0), (0, 2), (0, 3), (4, 1)] [(4, 4), (0, 5), (0, 6)] Be zK zK (.kloadAll J J J Y81.h J Sz81 Z0 (Vote.length zA) ?_)
 refine G2 ?_
 refine .call4 J J J J J Body214 (r20_body V hV) tV ?_
 rintro v8 out8 ⟨q8, c8, rfl, hc8, rfl⟩
 refine .nil (.appendSl (z := u8 0) (by' := 1) (Aa V.fSig) J J J J J Y58.h Y58.h Sz5 Zr5 (by unfold By; kernel_rfl) J (fun w h => SeesP.of (sees_part h Z0 (Vote.see_fSig hV))) (fun e => by cases e) (Ay _) rM J (by rw [Aa, List.length_map]; omega) oM oM oM (by simp [hV.l_fSig]) ?_)
 intro q11 c11 hq11
 rw [← B1]
 refine G6 ?_
 simp only [List.cons_append, List.nil_append, List.append_nil]
 refine Ai (out := (⟨q11, Aa (voteT V ++ V.fSig), 5, c11 * 1⟩ :: [])) (A7 J J J) (Ab rM Ad) ?_
 have hc : A5 V = 0 := by omega
 refine ⟨⟨some ⟨q11, 0, none⟩, voteN V + 64, c11⟩, by rw [hc]; rfl, ?_⟩
 rw [show A4 V = voteT V ++ V.fSig from if_pos hc, show (voteT V ++ V.fSig).length = voteN V + 64 by rw [List.length_append, hvl, hsl]]
 exact Acc.some hq11 (by rw [Aa, List.length_map, List.length_append, hvl, hsl, Nat.mul_one])
theorem cmpB_same (x : UInt8) (a b : List UInt8) : cmpB (x :: a) (x :: b) = cmpB a b := by simp [cmpB, Go.Lib.compareBytes]
theorem cmpB_other {x y : UInt8} (h : x ≠ y) (a b : List UInt8) : cmpB (x :: a) (y :: b) = cmpI (x.toNat : Int) (y.toNat : Int) := by
  have h2 : x.toNat ≠ y.toNat := fun e => h (UInt8.toNat_inj.1 e)
  simp only [cmpB, Go.Lib.compareBytes, UInt8.lt_iff_toNat_lt]
  unfold cmpI
  (repeat' split) <;> first | rfl | omega
theorem cmpB_at : ∀ (k : Nat) (a b : List UInt8), a.length = b.length → (∀ j, j < k → a.getD j 0 = b.getD j 0) → k < a.length → a.getD k 0 ≠ b.getD k 0 → cmpB a b = cmpI ((a.getD k 0).toNat : Int) ((b.getD k 0).toNat : Int)
  | k, [], b, hl, hs, hk, hd => absurd hk (Nat.not_lt_zero _)
  | k, x :: a, [], hl, hs, hk, hd => by cases hl
  | 0, x :: a, y :: b, hl, hs, hk, hd => cmpB_other hd a b
  | k + 1, x :: a, y :: b, hl, hs, hk, hd => by
    have e : x = y := hs 0 (Nat.succ_pos k)
    subst e
    rw [cmpB_same]
    exact cmpB_at k a b (Nat.succ.inj hl) (fun j hj => hs (j + 1) (Nat.succ_lt_succ hj)) (Nat.lt_of_succ_lt_succ hk) hd
theorem cmpB_all {a b : List UInt8} (ha : a.length = 32) (hb : b.length = 32) (h : ∀ j, j < 32 → a.getD j 0 = b.getD j 0) : cmpB a b = 0 := by
  refine (cmpB_zero a b).2 (List.ext_getElem oM (fun i h1 h2 => ?_))
  have := h i oM
  simpa [List.getD, h1, h2] using this

end Go.Proofs.YtdifpjmfabhpiaaGreat
end

section
namespace Go.Proofs.YtdifpjmfabhpiaaGreat
open Go Hw

theorem Tr.rem_u64 {C : Cx} {ops : Array Oper} {rest : List (Nat × Oper)} {sl : List (Nat × Value)} {hp : List Blk} {Q : St → Prop} {c d : Nat} {ty : TypeId} {pos : String} {af : Array Edge} {g : Option (Nat × Bool)} {xT yT : TypeId} {x y : Operand} {b : Int} {p : UInt64} (hg : An ops sl g = true) (hk : okD c d C.N = true) (hx : Al sl x = some (u64 p)) (hy : Al sl y = some (.int .u64 b)) (n : Nat) (hn : b = n) (h0 : 0 < n)
    (k : Tr C ops rest ⟨(d, u64 (UInt64.ofNat (p.toNat % n))) :: sl, hp⟩ Q) : Tr C ops ((c, ⟨some d, .binOp .rem xT x y yT, ty, pos, af, g⟩) :: rest) ⟨sl, hp⟩ Q :=
  .bin hg hk hx hy (fun w => by
    subst hn
    simp [binOp, Op.intDiv, show ¬ n = 0 by omega]
    have := p.toNat_lt
    have h2 : p.toNat % n ≤ p.toNat := Nat.mod_le _ _
    rw [Int.tmod_eq_emod_of_nonneg (Int.natCast_nonneg _), ← Int.natCast_emod]
    omega) k
theorem one_all : ∀ n, n < 256 → ∀ k, k < 9 → 1 ≤ k → k ≤ Bo (UInt8.ofNat n) → (((UInt8.ofNat ((shr8 (UInt8.ofNat n) (8 - k)).toNat % 2)).toNat : Int) = 1 ↔ k < Bo (UInt8.ofNat n)) := by decide +kernel
theorem one_iff (f : UInt8) (k : Nat) (h1 : 1 ≤ k) (h9 : k < 9) (hc : k ≤ Bo f) : ((UInt8.ofNat ((shr8 f (8 - k)).toNat % 2)).toNat : Int) = 1 ↔ k < Bo f := by
  have h := one_all f.toNat f.toNat_lt k h9 h1
  rw [UInt8.ofNat_toNat] at h
  exact h hc
theorem hrem_all : ∀ n, n < 256 → Bo (UInt8.ofNat n) < 9 → UInt64.ofNat ((UInt8.ofNat n).toUInt64.toNat % (shl64 1 (8 - Bo (UInt8.ofNat n))).toNat) = headV (UInt8.ofNat n) := by decide +kernel
theorem head_rem (f : UInt8) (h : Bo f < 9) : UInt64.ofNat (f.toUInt64.toNat % (shl64 1 (8 - Bo f)).toNat) = headV f := by
  have h2 := hrem_all f.toNat f.toNat_lt
  rw [UInt8.ofNat_toNat] at h2
  exact h2 h
theorem head_nine (f : UInt8) (h : Bo f = 9) : (0 : UInt64) = headV f := UInt64.toNat_inj.1 ((head_of f).2.2.2.1 h).symm
theorem shl_pos {k : Nat} (h : k < 64) : 0 < (shl64 1 k).toNat := by
  have h2 : 2 ^ k < 2 ^ 64 := Nat.pow_lt_pow_right dE h
  rw [shl64, UInt64.toNat_ofNat', Nat.mod_eq_of_lt (by simpa using h2)]
  simpa using Nat.pow_pos dE
theorem fold_or (v : UInt64) (b : UInt8) : v * 256 + b.toUInt64 = shl64 v 8 ||| b.toUInt64 := by
  apply UInt64.toNat_inj.1
  have hb := b.toNat_lt
  have hv := v.toNat_lt
  have e1 : (shl64 v 8).toNat = 256 * (v.toNat % 2 ^ 56) := by
    rw [shl64, UInt64.toNat_ofNat']; omega
  rw [UInt64.toNat_or, UInt64.toNat_add, UInt64.toNat_mul, e1]
  show (v.toNat * 256 % 2 ^ 64 + b.toNat) % 2 ^ 64 = 2 ^ 8 * (v.toNat % 2 ^ 56) ||| b.toNat
  rw [← Nat.two_pow_add_eq_or_of_lt (i := 8) hb]
  omega
def rd1 (q o N cp at' : Nat) (e : Int) : Rdr := ⟨⟨some ⟨q, o, none⟩, N - at', cp - at'⟩, e⟩
theorem rd1_ok (q o N cp at' : Nat) (e : Int) : (rd1 q o N cp at' e).ok := ⟨trivial⟩
def R1B (n q o N cp at' : Nat) (e : Int) : Blk := ⟨n, (rd1 q o N cp at' e).cells, 183, 2⟩
theorem r1b_move (n q o N cp a k : Nat) (e : Int) : R1B n q o N cp (a + k) e = ⟨n, ({ fB := ⟨some ⟨q, o, none⟩, N - a - k, cp - a - k⟩, fE := e } : Rdr).cells, 183, 2⟩ := by rw [R1B, rd1, Nat.sub_sub, Nat.sub_sub]

theorem r1n_err (n q N cp at' : Nat) (o : Nat) (e : Int) (xs : List UInt8) (hx : xs.length = N) (hat : at' ≤ N) (hN : N ≤ cp) (hbig : N ≤ 90000) (he : ¬ e = 0) : Meets Tryz.prog 138 [ptr n 0] [n] (fun W => BlkOk W (R1B n q (o) N cp (at') (e)) ∧ Bs W q 0 (Aa xs) ∧ q ≠ n) (fun v out => v = u64 0 ∧ out = [R1B n q (o) N cp (at') (e)]) := by
 intro W hW
 have hfn : (rd1 q o N cp at' e).fB.n = N - at' := rfl
 have hfc : (rd1 q o N cp at' e).fB.c = cp - at' := rfl
 have hfe : (rd1 q o N cp at' e).fE = e := rfl
 refine A3 (hp0 := [R1B n q (o) N cp (at') (e)]) Tryz.func138 J 95 Tryz.ntmps138 J (HRep.one hW.1) (G2 ?_)
 refine .a J J (show Al _ _ = some (u64 0) from rfl) (G9 ?_)
 refine .nei J J J J (show (!decide _) = true from congrArg not (decide_eq_false (he))) (G2 ?_)
 refine .cond_t J (rfl) (G2 ?_)
 refine .a J J (show Al _ _ = some (u64 0) from rfl) (G5 ?_)
 refine ⟨_, [R1B n q (o) N cp (at') (e)], Ac J J, (by intro b hb; rw [List.mem_singleton.1 hb]; exact Bw), Bu, ?_⟩
 exact ⟨rfl, rfl⟩

theorem r1n_end (n q N cp at' : Nat) (o : Nat) (xs : List UInt8) (hx : xs.length = N) (hat : at' ≤ N) (hN : N ≤ cp) (hbig : N ≤ 90000) (hk : N ≤ at') : Meets Tryz.prog 138 [ptr n 0] [n] (fun W => BlkOk W (R1B n q (o) N cp (at') (0)) ∧ Bs W q 0 (Aa xs) ∧ q ≠ n) (fun v out => v = u64 0 ∧ out = [R1B n q (o) N cp (at') (5)]) := by
 intro W hW
 have hfn : (rd1 q o N cp at' 0).fB.n = N - at' := rfl
 have hfc : (rd1 q o N cp at' 0).fB.c = cp - at' := rfl
 have hfe : (rd1 q o N cp at' 0).fE = 0 := rfl
 refine A3 (hp0 := [R1B n q (o) N cp (at') (0)]) Tryz.func138 J 95 Tryz.ntmps138 J (HRep.one hW.1) (G2 ?_)
 refine .a J J (show Al _ _ = some (u64 0) from rfl) (G9 ?_)
 refine .nei J J J J (show (!decide _) = false from congrArg not (decide_eq_true (rfl))) (G2 ?_)
 refine .cond_f J (rfl) (G10 ?_)
 refine .eqi J J J J (decide_eq_true oM) (G2 ?_)
 refine .cond_t J (rfl) (G10 ?_)
 refine .a J J (show Al _ _ = some (u64 0) from rfl) (G5 ?_)
 refine ⟨_, [R1B n q (o) N cp (at') (5)], Ac J J, (by intro b hb; rw [List.mem_singleton.1 hb]; exact Bw), Bu, ?_⟩
 exact ⟨rfl, rfl⟩

theorem r1n_short (n q N cp at' : Nat) (xs : List UInt8) (hx : xs.length = N) (hat : at' ≤ N) (hN : N ≤ cp) (hbig : N ≤ 90000) (hk : at' < N) (hk2 : N < at' + (Bo (xs.getD at' 0))) : Meets Tryz.prog 138 [ptr n 0] [n] (fun W => BlkOk W (R1B n q (at') N cp (at') (0)) ∧ Bs W q 0 (Aa xs) ∧ q ≠ n) (fun v out => v = u64 0 ∧ out = [R1B n q (at') N cp (at') (5)]) := by
 intro W hW
 have hfn : (rd1 q at' N cp at' 0).fB.n = N - at' := rfl
 have hfc : (rd1 q at' N cp at' 0).fB.c = cp - at' := rfl
 have hfe : (rd1 q at' N cp at' 0).fE = 0 := rfl
 have hcp := head_of (xs.getD at' 0)
 have hc1 : 1 ≤ (Bo (xs.getD at' 0)) := hcp.1
 have hc9 : (Bo (xs.getD at' 0)) ≤ 9 := hcp.2.1
 clear hcp
 refine A3 (hp0 := [R1B n q (at') N cp (at') (0)]) Tryz.func138 J 95 Tryz.ntmps138 J (HRep.one hW.1) (G2 ?_)
 refine .a J J (show Al _ _ = some (u64 0) from rfl) (G9 ?_)
 refine .nei J J J J (show (!decide _) = false from congrArg not (decide_eq_true (rfl))) (G2 ?_)
 refine .cond_f J (rfl) (G10 ?_)
 refine .eqi J J J J (decide_eq_false oM) (G2 ?_)
 refine .cond_f J (rfl) (G7 ?_)
 refine .join (ι := Unit) (fun _u => ⟨[(0, ptr n 0), (3, i64 (((Bo (xs.getD at' 0)) : Nat) : Int))], [⟨n, (rd1 q at' N cp at' 0).cells, 183, 2⟩]⟩) (fun _u => True) ?_ ?_
 ·
  refine .block (.loop (ι := Nat) (fun k => ⟨[(0, ptr n 0), (3, i64 (k : Int))], [⟨n, (rd1 q at' N cp at' 0).cells, 183, 2⟩]⟩) (fun k => 1 ≤ k ∧ k ≤ (Bo (xs.getD at' 0))) (fun k => 9 - k) (1) ?_ ?_ ?_)
  · exact ⟨Nat.le_refl _, hc1⟩
  · exact Ag (wk1 rfl (wk1 rfl wk0)) (wh1 Z0 wh0) nD
  rintro k ⟨hk3, hk4⟩
  refine G4 ?_
  refine two (fun r hr k => Tr.lss J J J J hr k) (fun hs7_10 => ?_) (fun hs7_10 => ?_)
  ·
   have hs7_1 := of_decide_eq_true hs7_10
   refine G5 ?_
   refine .idxSlO J J J J Y58.h Sz5 0 J oM (.loadE J J J Y5.h J (by (simp; exact hW.2.2)) ((by have := hW.2.1 at' _ (Ca oM); rwa [Nat.zero_add] at this)) ?_)
   refine G3 ?_
   refine .shr_u8 J J J J (8 - k) (by rw [show (8 : Int) - (k : Int) = ((8 - k : Nat) : Int) by omega, wordOf_id _ oM]) oM ?_
   refine .rem_u8 J J J J 2 J dE (G4 ?_)
   refine .condP J (fun hc2 => ?_) (fun hc2 => ?_)
   ·
    refine G10 ?_
    exact ⟨k + 1, ⟨by omega, (one_iff _ k hk3 oM hk4).1 zA⟩, by omega, Ag (wk1 rfl (wk1 (by rw [Int.natCast_add]; rfl) wk0)) (wh1 Z0 wh0) nD⟩
   refine G5 ?_
   exact ⟨(), trivial, Ag (wk1 rfl (wk1 (congrArg (fun z => some (i64 z)) (by (have h5 := one_iff (xs.getD at' 0) k hk3 oM hk4; have h6 : ¬ k < (Bo (xs.getD at' 0)) := fun h => hc2 (h5.2 h); omega))) wk0)) (wh1 Z0 wh0) nD⟩
  have hs7_1 := of_decide_eq_false hs7_10
  refine G16 ?_
  refine .cond_f J J (G5 ?_)
  exact ⟨(), trivial, Ag (wk1 rfl (wk1 (congrArg (fun z => some (i64 z)) oM) wk0)) (wh1 Z0 wh0) nD⟩
 intro _u hj
 skip
 refine G9 ?_
 refine .lss J J J J (decide_eq_true oM) (G2 ?_)
 refine .cond_t J (rfl) (G10 ?_)
 refine .a J J (show Al _ _ = some (u64 0) from rfl) (G5 ?_)
 refine ⟨_, [R1B n q (at') N cp (at') (5)], Ac J J, (by intro b hb; rw [List.mem_singleton.1 hb]; exact Bw), Bu, ?_⟩
 exact ⟨rfl, rfl⟩
theorem r1n_bad (n q N cp at' : Nat) (xs : List UInt8) (hx : xs.length = N) (hat : at' ≤ N) (hN : N ≤ cp) (hbig : N ≤ 90000) (hk : at' < N) (hk2 : at' + (Bo (xs.getD at' 0)) ≤ N) (hz : ¬ szN (numV xs at').toNat = (Bo (xs.getD at' 0))) : Meets Tryz.prog 138 [ptr n 0] [n] (fun W => BlkOk W (R1B n q (at') N cp (at') (0)) ∧ Bs W q 0 (Aa xs) ∧ q ≠ n) (fun v out => v = u64 0 ∧ out = [R1B n q (at') N cp (at') (4)]) := by
 intro W hW
 have hfn : (rd1 q at' N cp at' 0).fB.n = N - at' := rfl
 have hfc : (rd1 q at' N cp at' 0).fB.c = cp - at' := rfl
 have hfe : (rd1 q at' N cp at' 0).fE = 0 := rfl
 have hcp := head_of (xs.getD at' 0)
 have hc1 : 1 ≤ (Bo (xs.getD at' 0)) := hcp.1
 have hc9 : (Bo (xs.getD at' 0)) ≤ 9 := hcp.2.1
 clear hcp
 refine A3 (hp0 := [R1B n q (at') N cp (at') (0)]) Tryz.func138 J 95 Tryz.ntmps138 J (HRep.one hW.1) (G2 ?_)
 refine .a J J (show Al _ _ = some (u64 0) from rfl) (G9 ?_)
 refine .nei J J J J (show (!decide _) = false from congrArg not (decide_eq_true (rfl))) (G2 ?_)
 refine .cond_f J (rfl) (G10 ?_)
 refine .eqi J J J J (decide_eq_false oM) (G2 ?_)
 refine .cond_f J (rfl) (G7 ?_)
 refine .join (ι := Unit) (fun _u => ⟨[(0, ptr n 0), (3, i64 (((Bo (xs.getD at' 0)) : Nat) : Int))], [⟨n, (rd1 q at' N cp at' 0).cells, 183, 2⟩]⟩) (fun _u => True) ?_ ?_
 ·
  refine .block (.loop (ι := Nat) (fun k => ⟨[(0, ptr n 0), (3, i64 (k : Int))], [⟨n, (rd1 q at' N cp at' 0).cells, 183, 2⟩]⟩) (fun k => 1 ≤ k ∧ k ≤ (Bo (xs.getD at' 0))) (fun k => 9 - k) (1) ?_ ?_ ?_)
  · exact ⟨Nat.le_refl _, hc1⟩
  · exact Ag (wk1 rfl (wk1 rfl wk0)) (wh1 Z0 wh0) nD
  rintro k ⟨hk3, hk4⟩
  refine G4 ?_
  refine two (fun r hr k => Tr.lss J J J J hr k) (fun hs7_10 => ?_) (fun hs7_10 => ?_)
  ·
   have hs7_1 := of_decide_eq_true hs7_10
   refine G5 ?_
   refine .idxSlO J J J J Y58.h Sz5 0 J oM (.loadE J J J Y5.h J (by (simp; exact hW.2.2)) ((by have := hW.2.1 at' _ (Ca oM); rwa [Nat.zero_add] at this)) ?_)
   refine G3 ?_
   refine .shr_u8 J J J J (8 - k) (by rw [show (8 : Int) - (k : Int) = ((8 - k : Nat) : Int) by omega, wordOf_id _ oM]) oM ?_
   refine .rem_u8 J J J J 2 J dE (G4 ?_)
   refine .condP J (fun hc2 => ?_) (fun hc2 => ?_)
   ·
    refine G10 ?_
    exact ⟨k + 1, ⟨by omega, (one_iff _ k hk3 oM hk4).1 zA⟩, by omega, Ag (wk1 rfl (wk1 (by rw [Int.natCast_add]; rfl) wk0)) (wh1 Z0 wh0) nD⟩
   refine G5 ?_
   exact ⟨(), trivial, Ag (wk1 rfl (wk1 (congrArg (fun z => some (i64 z)) (by (have h5 := one_iff (xs.getD at' 0) k hk3 oM hk4; have h6 : ¬ k < (Bo (xs.getD at' 0)) := fun h => hc2 (h5.2 h); omega))) wk0)) (wh1 Z0 wh0) nD⟩
  have hs7_1 := of_decide_eq_false hs7_10
  refine G16 ?_
  refine .cond_f J J (G5 ?_)
  exact ⟨(), trivial, Ag (wk1 rfl (wk1 (congrArg (fun z => some (i64 z)) oM) wk0)) (wh1 Z0 wh0) nD⟩
 intro _u hj
 skip
 refine G9 ?_
 refine .lss J J J J (decide_eq_false oM) (G2 ?_)
 refine .cond_f J (rfl) (G4 ?_)
 refine .a J J (show Al _ _ = some (u64 0) from rfl) (G2 ?_)
 refine .join (ι := Unit) (fun _u => ⟨[(0, ptr n 0), (3, i64 (((Bo (xs.getD at' 0)) : Nat) : Int)), (4, u64 (headV (xs.getD at' 0)))], [⟨n, (rd1 q at' N cp at' 0).cells, 183, 2⟩]⟩) (fun _u => True) ?_ ?_
 ·
  refine G6 ?_
  refine .condP J (fun hc4 => ?_) (fun hc4 => ?_)
  ·
   refine G5 ?_
   refine .idxSlO J J J J Y58.h Sz5 0 J oM (.loadE J J J Y5.h J (by (simp; exact hW.2.2)) ((by have := hW.2.1 at' _ (Ca oM); rwa [Nat.zero_add] at this)) ?_)
   refine G4 ?_
   refine .shl_u64 J J (show Al _ _ = some (u64 1) from rfl) J (8 - (Bo (xs.getD at' 0))) (by rw [show (8 : Int) - (((Bo (xs.getD at' 0)) : Nat) : Int) = ((8 - (Bo (xs.getD at' 0)) : Nat) : Int) by omega, wordOf_id _ oM]) oM ?_
   refine Tr.rem_u64 J J J J (shl64 1 (8 - (Bo (xs.getD at' 0)))).toNat J (shl_pos oM) (G3 ?_)
   exact ⟨(), trivial, Ag (wk1 rfl (wk1 rfl (wk1 (congrArg (fun z => some (u64 z)) (by exact head_rem _ oM)) wk0))) (wh1 Z0 wh0) nD⟩
  refine G2 ?_
  exact ⟨(), trivial, Ag (wk1 rfl (wk1 rfl (wk1 (congrArg (fun z => some (u64 z)) (by exact head_nine _ oM)) wk0))) (wh1 Z0 wh0) nD⟩
 intro _u hj
 skip
 refine G7 ?_
 refine .loop (ι := Nat) (fun j => ⟨[(0, ptr n 0), (3, i64 (((Bo (xs.getD at' 0)) : Nat) : Int)), (4, u64 (foldB (headV (xs.getD at' 0)) ((xs.drop (at' + 1)).take j))), (5, i64 ((j : Int) + 1))], [⟨n, (rd1 q at' N cp at' 0).cells, 183, 2⟩]⟩) (fun j => j ≤ (Bo (xs.getD at' 0)) - 1) (fun j => (Bo (xs.getD at' 0)) - 1 - j) (0) ?_ ?_ ?_
 · exact Nat.zero_le _
 · exact Ag (wk1 rfl (wk1 rfl (wk1 rfl (wk1 rfl wk0)))) (wh1 Z0 wh0) nD
 rintro j hj
 refine G8 ?_
 refine .condP J (fun hc5 => ?_) (fun hc5 => ?_)
 ·
  have hj2 : j < (Bo (xs.getD at' 0)) - 1 := by omega
  refine G6 ?_
  refine .mul_u64 J J J (show Al _ _ = some (u64 256) from rfl) (G5 ?_)
  refine .idxSlO J J J J Y58.h Sz5 (j + 1) oM oM (.loadE J J J Y5.h J (by (simp; exact hW.2.2)) ((by have h9 := hW.2.1 (at' + (j + 1)) _ (Ca oM); rwa [Nat.zero_add] at h9)) ?_)
  refine G12 ?_
  exact ⟨j + 1, by omega, by omega, Ag (wk1 rfl (wk1 rfl (wk1 (congrArg (fun z => some (u64 z)) (by rw [foldB_step xs (at' + 1) j _ oM, show at' + 1 + j = at' + (j + 1) by omega, fold_or])) (wk1 (congrArg (fun z => some (i64 z)) oM) wk0)))) (wh1 Z0 wh0) nD⟩
 have hj2 : j = (Bo (xs.getD at' 0)) - 1 := by omega
 refine G8 ?_
 have hnv : numV xs at' = foldB (headV (xs.getD at' 0)) ((xs.drop (at' + 1)).take j) := by rw [numV, hj2]
 refine G1 ?_
 refine .cV J J J J Body213 (r1_room _) tV (G1 ?_)
 refine .nei J J J J (show (!decide _) = true from congrArg not (decide_eq_false (by rw [← hnv]; omega))) ?_
 refine G2 ?_
 refine .cond_t J (rfl) (G10 ?_)
 refine .a J J (show Al _ _ = some (u64 0) from rfl) (G5 ?_)
 refine ⟨_, [R1B n q (at') N cp (at') (4)], Ac J J, (by intro b hb; rw [List.mem_singleton.1 hb]; exact Bw), Bu, ?_⟩
 exact ⟨rfl, rfl⟩
theorem r1n_ok (n q N cp at' : Nat) (xs : List UInt8) (hx : xs.length = N) (hat : at' ≤ N) (hN : N ≤ cp) (hbig : N ≤ 90000) (hk : at' < N) (hk2 : at' + (Bo (xs.getD at' 0)) ≤ N) (hz : szN (numV xs at').toNat = (Bo (xs.getD at' 0))) : Meets Tryz.prog 138 [ptr n 0] [n] (fun W => BlkOk W (R1B n q (at') N cp (at') (0)) ∧ Bs W q 0 (Aa xs) ∧ q ≠ n) (fun v out => v = u64 (numV xs at') ∧ out = [R1B n q (if cp - at' = (Bo (xs.getD at' 0)) then at' else at' + (Bo (xs.getD at' 0)) * 1) N cp (at' + (Bo (xs.getD at' 0))) (0)]) := by
 intro W hW
 have hfn : (rd1 q at' N cp at' 0).fB.n = N - at' := rfl
 have hfc : (rd1 q at' N cp at' 0).fB.c = cp - at' := rfl
 have hfe : (rd1 q at' N cp at' 0).fE = 0 := rfl
 have hcp := head_of (xs.getD at' 0)
 have hc1 : 1 ≤ (Bo (xs.getD at' 0)) := hcp.1
 have hc9 : (Bo (xs.getD at' 0)) ≤ 9 := hcp.2.1
 clear hcp
 refine A3 (hp0 := [R1B n q (at') N cp (at') (0)]) Tryz.func138 J 95 Tryz.ntmps138 J (HRep.one hW.1) (G2 ?_)
 refine .a J J (show Al _ _ = some (u64 0) from rfl) (G9 ?_)
 refine .nei J J J J (show (!decide _) = false from congrArg not (decide_eq_true (rfl))) (G2 ?_)
 refine .cond_f J (rfl) (G10 ?_)
 refine .eqi J J J J (decide_eq_false oM) (G2 ?_)
 refine .cond_f J (rfl) (G7 ?_)
 refine .join (ι := Unit) (fun _u => ⟨[(0, ptr n 0), (3, i64 (((Bo (xs.getD at' 0)) : Nat) : Int))], [⟨n, (rd1 q at' N cp at' 0).cells, 183, 2⟩]⟩) (fun _u => True) ?_ ?_
 ·
  refine .block (.loop (ι := Nat) (fun k => ⟨[(0, ptr n 0), (3, i64 (k : Int))], [⟨n, (rd1 q at' N cp at' 0).cells, 183, 2⟩]⟩) (fun k => 1 ≤ k ∧ k ≤ (Bo (xs.getD at' 0))) (fun k => 9 - k) (1) ?_ ?_ ?_)
  · exact ⟨Nat.le_refl _, hc1⟩
  · exact Ag (wk1 rfl (wk1 rfl wk0)) (wh1 Z0 wh0) nD
  rintro k ⟨hk3, hk4⟩
  refine G4 ?_
  refine two (fun r hr k => Tr.lss J J J J hr k) (fun hs7_10 => ?_) (fun hs7_10 => ?_)
  ·
   have hs7_1 := of_decide_eq_true hs7_10
   refine G5 ?_
   refine .idxSlO J J J J Y58.h Sz5 0 J oM (.loadE J J J Y5.h J (by (simp; exact hW.2.2)) ((by have := hW.2.1 at' _ (Ca oM); rwa [Nat.zero_add] at this)) ?_)
   refine G3 ?_
   refine .shr_u8 J J J J (8 - k) (by rw [show (8 : Int) - (k : Int) = ((8 - k : Nat) : Int) by omega, wordOf_id _ oM]) oM ?_
   refine .rem_u8 J J J J 2 J dE (G4 ?_)
   refine .condP J (fun hc2 => ?_) (fun hc2 => ?_)
   ·
    refine G10 ?_
    exact ⟨k + 1, ⟨by omega, (one_iff _ k hk3 oM hk4).1 zA⟩, by omega, Ag (wk1 rfl (wk1 (by rw [Int.natCast_add]; rfl) wk0)) (wh1 Z0 wh0) nD⟩
   refine G5 ?_
   exact ⟨(), trivial, Ag (wk1 rfl (wk1 (congrArg (fun z => some (i64 z)) (by (have h5 := one_iff (xs.getD at' 0) k hk3 oM hk4; have h6 : ¬ k < (Bo (xs.getD at' 0)) := fun h => hc2 (h5.2 h); omega))) wk0)) (wh1 Z0 wh0) nD⟩
  have hs7_1 := of_decide_eq_false hs7_10
  refine G16 ?_
  refine .cond_f J J (G5 ?_)
  exact ⟨(), trivial, Ag (wk1 rfl (wk1 (congrArg (fun z => some (i64 z)) oM) wk0)) (wh1 Z0 wh0) nD⟩
 intro _u hj
 skip
 refine G9 ?_
 refine .lss J J J J (decide_eq_false oM) (G2 ?_)
 refine .cond_f J (rfl) (G4 ?_)
 refine .a J J (show Al _ _ = some (u64 0) from rfl) (G2 ?_)
 refine .join (ι := Unit) (fun _u => ⟨[(0, ptr n 0), (3, i64 (((Bo (xs.getD at' 0)) : Nat) : Int)), (4, u64 (headV (xs.getD at' 0)))], [⟨n, (rd1 q at' N cp at' 0).cells, 183, 2⟩]⟩) (fun _u => True) ?_ ?_
 ·
  refine G6 ?_
  refine .condP J (fun hc4 => ?_) (fun hc4 => ?_)
  ·
   refine G5 ?_
   refine .idxSlO J J J J Y58.h Sz5 0 J oM (.loadE J J J Y5.h J (by (simp; exact hW.2.2)) ((by have := hW.2.1 at' _ (Ca oM); rwa [Nat.zero_add] at this)) ?_)
   refine G4 ?_
   refine .shl_u64 J J (show Al _ _ = some (u64 1) from rfl) J (8 - (Bo (xs.getD at' 0))) (by rw [show (8 : Int) - (((Bo (xs.getD at' 0)) : Nat) : Int) = ((8 - (Bo (xs.getD at' 0)) : Nat) : Int) by omega, wordOf_id _ oM]) oM ?_
   refine Tr.rem_u64 J J J J (shl64 1 (8 - (Bo (xs.getD at' 0)))).toNat J (shl_pos oM) (G3 ?_)
   exact ⟨(), trivial, Ag (wk1 rfl (wk1 rfl (wk1 (congrArg (fun z => some (u64 z)) (by exact head_rem _ oM)) wk0))) (wh1 Z0 wh0) nD⟩
  refine G2 ?_
  exact ⟨(), trivial, Ag (wk1 rfl (wk1 rfl (wk1 (congrArg (fun z => some (u64 z)) (by exact head_nine _ oM)) wk0))) (wh1 Z0 wh0) nD⟩
 intro _u hj
 skip
 refine G7 ?_
 refine .loop (ι := Nat) (fun j => ⟨[(0, ptr n 0), (3, i64 (((Bo (xs.getD at' 0)) : Nat) : Int)), (4, u64 (foldB (headV (xs.getD at' 0)) ((xs.drop (at' + 1)).take j))), (5, i64 ((j : Int) + 1))], [⟨n, (rd1 q at' N cp at' 0).cells, 183, 2⟩]⟩) (fun j => j ≤ (Bo (xs.getD at' 0)) - 1) (fun j => (Bo (xs.getD at' 0)) - 1 - j) (0) ?_ ?_ ?_
 · exact Nat.zero_le _
 · exact Ag (wk1 rfl (wk1 rfl (wk1 rfl (wk1 rfl wk0)))) (wh1 Z0 wh0) nD
 rintro j hj
 refine G8 ?_
 refine .condP J (fun hc5 => ?_) (fun hc5 => ?_)
 ·
  have hj2 : j < (Bo (xs.getD at' 0)) - 1 := by omega
  refine G6 ?_
  refine .mul_u64 J J J (show Al _ _ = some (u64 256) from rfl) (G5 ?_)
  refine .idxSlO J J J J Y58.h Sz5 (j + 1) oM oM (.loadE J J J Y5.h J (by (simp; exact hW.2.2)) ((by have h9 := hW.2.1 (at' + (j + 1)) _ (Ca oM); rwa [Nat.zero_add] at h9)) ?_)
  refine G12 ?_
  exact ⟨j + 1, by omega, by omega, Ag (wk1 rfl (wk1 rfl (wk1 (congrArg (fun z => some (u64 z)) (by rw [foldB_step xs (at' + 1) j _ oM, show at' + 1 + j = at' + (j + 1) by omega, fold_or])) (wk1 (congrArg (fun z => some (i64 z)) oM) wk0)))) (wh1 Z0 wh0) nD⟩
 have hj2 : j = (Bo (xs.getD at' 0)) - 1 := by omega
 refine G8 ?_
 have hnv : numV xs at' = foldB (headV (xs.getD at' 0)) ((xs.drop (at' + 1)).take j) := by rw [numV, hj2]
 refine G1 ?_
 refine .cV J J J J Body213 (r1_room _) tV (G1 ?_)
 refine .nei J J J J (show (!decide _) = false from congrArg not (decide_eq_true (by rw [← hnv, hz]))) ?_
 refine G2 ?_
 refine .cond_f J (rfl) (G10 ?_)
 refine .sliceLoN (Bo (xs.getD at' 0)) J J J J J oM oM Y58.h Sz5 (G2 ?_)
 refine .s1 J J J J J Sz58 Z0 (by rw [Rdr.length (by exact rd1_ok _ _ _ _ _ _)]; decide) (by exact Rdr.setS_fB (by exact rd1_ok _ _ _ _ _ _) _ _ _) zU ?_
 refine G10 ?_
 refine ⟨_, [R1B n q (if cp - at' = (Bo (xs.getD at' 0)) then at' else at' + (Bo (xs.getD at' 0)) * 1) N cp (at' + (Bo (xs.getD at' 0))) (0)], Ac J J, (by intro b hb; rw [List.mem_singleton.1 hb, r1b_move]; exact Bw), Bu, ?_⟩
 exact ⟨by rw [hnv], rfl⟩
def At1 (cp a o : Nat) : Prop := a < cp → o = a
theorem at1_move {cp a k : Nat} (h : a < cp) : At1 cp (a + k) (if cp - a = k then a else a + k * 1) := fun h2 => by rw [if_neg oM]; omega
theorem B4 (n q o N cp at' : Nat) (e : Int) (xs : List UInt8) (hx : xs.length = N) (hat : at' ≤ N) (hN : N ≤ cp) (hbig : N ≤ 90000) (ho : At1 cp at' o) (x : UInt64) (a1 : Nat) (e1 : Int) (h : A0 xs at' e = (x, a1, e1)) : Meets Tryz.prog 138 [ptr n 0] [n] (fun W => BlkOk W (R1B n q o N cp at' e) ∧ Bs W q 0 (Aa xs) ∧ q ≠ n)
    (fun v out => ∃ o1, At1 cp a1 o1 ∧ v = u64 x ∧ out = [R1B n q o1 N cp a1 e1]) := by
  unfold A0 at h
  by_cases he : e = 0
  · subst he
    rw [if_neg sP] at h
    by_cases h1 : xs.length ≤ at'
    · rw [if_pos h1] at h
      obtain ⟨rfl, rfl, rfl⟩ : (0 : UInt64) = x ∧ at' = a1 ∧ (5 : Int) = e1 := by simpa using h
      exact (r1n_end n q N cp at' o xs hx hat hN hbig oM).imp (fun w h => h) fun v out ⟨h1, h2⟩ => ⟨o, ho, h1, h2⟩
    · rw [if_neg h1] at h
      obtain rfl : o = at' := ho oM
      by_cases h2 : xs.length < o + Bo (xs.getD o 0)
      · rw [if_pos h2] at h
        obtain ⟨rfl, rfl, rfl⟩ : (0 : UInt64) = x ∧ o = a1 ∧ (5 : Int) = e1 := by simpa using h
        exact (r1n_short n q N cp o xs hx hat hN hbig oM oM).imp (fun w h => h) fun v out ⟨h1, h2⟩ => ⟨o, ho, h1, h2⟩
      · rw [if_neg h2] at h
        by_cases h3 : szN (numV xs o).toNat = Bo (xs.getD o 0)
        · rw [if_pos h3] at h
          obtain ⟨rfl, rfl, rfl⟩ : numV xs o = x ∧ o + Bo (xs.getD o 0) = a1 ∧ (0 : Int) = e1 := by simpa using h
          exact (r1n_ok n q N cp o xs hx hat hN hbig oM oM h3).imp (fun w h => h) fun v out ⟨h1, h2⟩ => ⟨_, at1_move oM, h1, h2⟩
        · rw [if_neg h3] at h
          obtain ⟨rfl, rfl, rfl⟩ : (0 : UInt64) = x ∧ o = a1 ∧ (4 : Int) = e1 := by simpa using h
          exact (r1n_bad n q N cp o xs hx hat hN hbig oM oM h3).imp (fun w h => h) fun v out ⟨h1, h2⟩ => ⟨o, ho, h1, h2⟩
  · rw [if_pos he] at h
    obtain ⟨rfl, rfl, rfl⟩ : (0 : UInt64) = x ∧ at' = a1 ∧ e = e1 := by simpa using h
    exact (r1n_err n q N cp at' o e xs hx hat hN hbig he).imp (fun w h => h) fun v out ⟨h1, h2⟩ => ⟨o, ho, h1, h2⟩

theorem r1t_err (n q N cp at' : Nat) (o : Nat) (e : Int) (m : Nat) (hm0 : 0 < m) (hm : m ≤ 90000) (xs : List UInt8) (hx : xs.length = N) (hat : at' ≤ N) (hN : N ≤ cp) (hbig : N ≤ 90000) (he : ¬ e = 0) : Meets Tryz.prog 216 [ptr n 0, i64 (m : Int)] [n] (fun W => BlkOk W (R1B n q (o) N cp (at') (e)) ∧ Bs W q 0 (Aa xs) ∧ q ≠ n) (fun v out => v = .slice none 0 0 ∧ out = [R1B n q (o) N cp (at') (e)]) := by
 intro W hW
 have hfn : (rd1 q o N cp at' e).fB.n = N - at' := rfl
 have hfc : (rd1 q o N cp at' e).fB.c = cp - at' := rfl
 have hfe : (rd1 q o N cp at' e).fE = e := rfl
 refine A3 (hp0 := [R1B n q (o) N cp (at') (e)]) Tryz.func216 J 48 Tryz.ntmps216 J (HRep.one hW.1) (G8 ?_)
 refine .max2 J J J J (show Value.int .i64 (if (0 : Int) > (m : Int) then 0 else (m : Int)) = i64 (m : Int) by rw [if_neg oM]) ?_
 refine G10 ?_
 refine .eqi J J J J (decide_eq_false (he)) (G11 ?_)
 refine .cond_f J (rfl) (G9 ?_)
 refine .nei J J J J (show (!decide _) = true from congrArg not (decide_eq_false (he))) (G2 ?_)
 refine .cond_t J (rfl) (G8 ?_)
 refine ⟨_, [R1B n q (o) N cp (at') (e)], Ac J J, (by intro b hb; rw [List.mem_singleton.1 hb]; exact Bw), Bu, ?_⟩
 exact ⟨rfl, rfl⟩

theorem r1t_more (n q N cp at' : Nat) (o : Nat) (m : Nat) (hm0 : 0 < m) (hm : m ≤ 90000) (xs : List UInt8) (hx : xs.length = N) (hat : at' ≤ N) (hN : N ≤ cp) (hbig : N ≤ 90000) (hk : N < at' + m) : Meets Tryz.prog 216 [ptr n 0, i64 (m : Int)] [n] (fun W => BlkOk W (R1B n q (o) N cp (at') (0)) ∧ Bs W q 0 (Aa xs) ∧ q ≠ n) (fun v out => v = .slice none 0 0 ∧ out = [R1B n q (o) N cp (at') (5)]) := by
 intro W hW
 have hfn : (rd1 q o N cp at' 0).fB.n = N - at' := rfl
 have hfc : (rd1 q o N cp at' 0).fB.c = cp - at' := rfl
 have hfe : (rd1 q o N cp at' 0).fE = 0 := rfl
 refine A3 (hp0 := [R1B n q (o) N cp (at') (0)]) Tryz.func216 J 48 Tryz.ntmps216 J (HRep.one hW.1) (G8 ?_)
 refine .max2 J J J J (show Value.int .i64 (if (0 : Int) > (m : Int) then 0 else (m : Int)) = i64 (m : Int) by rw [if_neg oM]) ?_
 refine G10 ?_
 refine .eqi J J J J (decide_eq_true (rfl)) (G7 ?_)
 refine .lss J J J J (decide_eq_true oM) (G3 ?_)
 refine .cond_t J (rfl) (G14 ?_)
 refine .nei J J J J (show (!decide _) = true from congrArg not (decide_eq_false (by show ¬ ((5 : Int) = 0); decide))) ?_
 refine G2 ?_
 refine .cond_t J (rfl) (G8 ?_)
 refine ⟨_, [R1B n q (o) N cp (at') (5)], Ac J J, (by intro b hb; rw [List.mem_singleton.1 hb]; exact Bw), Bu, ?_⟩
 exact ⟨rfl, rfl⟩

theorem r1t_ok (n q N cp at' : Nat) (m : Nat) (hm0 : 0 < m) (hm : m ≤ 90000) (xs : List UInt8) (hx : xs.length = N) (hat : at' ≤ N) (hN : N ≤ cp) (hbig : N ≤ 90000) (hk : at' + m ≤ N) : Meets Tryz.prog 216 [ptr n 0, i64 (m : Int)] [n] (fun W => BlkOk W (R1B n q (at') N cp (at') (0)) ∧ Bs W q 0 (Aa xs) ∧ q ≠ n) (fun v out => ∃ q1 c1, v = .slice (some ⟨q1, 0, none⟩) m c1 ∧ m ≤ c1 ∧ out = [⟨q1, Aa ((xs.drop at').take m), 5, c1 * 1⟩, R1B n q (if cp - at' = m then at' else at' + m * 1) N cp (at' + m) (0)]) := by
 intro W hW
 have hfn : (rd1 q at' N cp at' 0).fB.n = N - at' := rfl
 have hfc : (rd1 q at' N cp at' 0).fB.c = cp - at' := rfl
 have hfe : (rd1 q at' N cp at' 0).fE = 0 := rfl
 refine A3 (hp0 := [R1B n q (at') N cp (at') (0)]) Tryz.func216 J 48 Tryz.ntmps216 J (HRep.one hW.1) (G8 ?_)
 refine .max2 J J J J (show Value.int .i64 (if (0 : Int) > (m : Int) then 0 else (m : Int)) = i64 (m : Int) by rw [if_neg oM]) ?_
 refine G10 ?_
 refine .eqi J J J J (decide_eq_true (rfl)) (G7 ?_)
 refine .lss J J J J (decide_eq_false oM) (G3 ?_)
 refine .cond_f J (rfl) (G9 ?_)
 refine .nei J J J J (show (!decide _) = false from congrArg not (decide_eq_true (rfl))) (G2 ?_)
 refine .cond_f J (rfl) (G9 ?_)
 refine .sliceHi m J J J J J oM Y58.h Sz5 (G11 ?_)
 refine .sliceLoN m J J J J J oM oM Y58.h Sz5 (G2 ?_)
 refine .s1 J J J J J Sz58 Z0 (by rw [Rdr.length (by exact rd1_ok _ _ _ _ _ _)]; decide) (by exact Rdr.setS_fB (by exact rd1_ok _ _ _ _ _ _) _ _ _) zU ?_
 refine G4 ?_
 refine .mkRow2 (z := u8 0) [] [] rfl J Y58.h Sz5 Zr5 J J (by intro v hv; cases hv) dE J ?_
 intro q45
 refine G1 ?_
 refine .appendSl (z := u8 0) (by' := 1) (Aa ((xs.drop at').take m)) J J J J J Y58.h Y58.h Sz5 Zr5 (by unfold By; kernel_rfl) J (fun w h => SeesP.of (Ba h (by simp; exact hW.2.2) (sees_cut hW.2.1 at' m))) (fun e => by cases e) (Ay _) Aq J J oM oM oM (by simp [Aa]; omega) ?_
 intro q47 c47 hq47
 rw [Nat.zero_add m] at hq47 ⊢
 refine G5 ?_
 refine ⟨_, [⟨q47, [] ++ Aa ((xs.drop at').take m), 5, c47 * 1⟩, R1B n q (if cp - at' = m then at' else at' + m * 1) N cp (at' + m) (0)], Ac J J, (by intro b hb; rcases List.mem_cons.1 hb with rfl | hb; exact Bw; rw [List.mem_singleton.1 hb, r1b_move]; exact mem1), (fun h => h.sublist (by simp [R1B])), ?_⟩
 exact ⟨q47, c47, rfl, hq47, rfl⟩

theorem r1_TakeE (n q o N cp a : Nat) (e : Int) (m : Nat) (hm0 : 0 < m) (hm : m ≤ 90000) (xs : List UInt8) (hx : xs.length = N) (hat : a ≤ N) (hN : N ≤ cp) (hbig : N ≤ 90000) (ho : At1 cp a o) (l : List UInt8) (a1 : Nat) (e1 : Int) (h : takR xs m a e = (l, a1, e1)) : Meets Tryz.prog 216 [ptr n 0, i64 (m : Int)] [n] (fun W => BlkOk W (R1B n q o N cp a e) ∧ Bs W q 0 (Aa xs) ∧ q ≠ n)
    (fun v out => ∃ s bl o1, At1 cp a1 o1 ∧ v = s.v ∧ Acc s bl (Aa l) 5 l.length 1 ∧ out = bl ++ [R1B n q o1 N cp a1 e1]) := by
  unfold takR at h
  by_cases he : e = 0
  · subst he
    rw [if_neg sP] at h
    by_cases h1 : xs.length < a + m
    · rw [if_pos h1] at h
      obtain ⟨rfl, rfl, rfl⟩ : [] = l ∧ a = a1 ∧ (5 : Int) = e1 := by simpa using h
      exact (r1t_more n q N cp a o m hm0 hm xs hx hat hN hbig oM).imp (fun w h => h) fun v out ⟨h1, h2⟩ => ⟨Sl.nil, [], o, ho, h1, Acc.none, h2⟩
    · rw [if_neg h1] at h
      obtain rfl : o = a := ho oM
      obtain ⟨rfl, rfl, rfl⟩ : (xs.drop o).take m = l ∧ o + m = a1 ∧ (0 : Int) = e1 := by simpa using h
      refine (r1t_ok n q N cp o m hm0 hm xs hx hat hN hbig oM).imp (fun w h => h) fun v out ⟨q1, c1, h1, h2, h3⟩ => ?_
      have hl : ((xs.drop o).take m).length = m := by simp; omega
      refine ⟨⟨some ⟨q1, 0, none⟩, m, c1⟩, [_], _, at1_move oM, h1, ?_, h3⟩
      rw [hl]
      exact Acc.some h2 (by simp [hl]; omega)
  · rw [if_pos he] at h
    obtain ⟨rfl, rfl, rfl⟩ : [] = l ∧ a = a1 ∧ e = e1 := by simpa using h
    exact (r1t_err n q N cp a o e m hm0 hm xs hx hat hN hbig he).imp (fun w h => h) fun v out ⟨h1, h2⟩ => ⟨Sl.nil, [], o, ho, h1, Acc.none, h2⟩
theorem upd_dig {l : List UInt8} (h : l = [] ∨ l.length = 32) : upd (Aa (List.replicate 32 0)) 0 (Aa l) = Aa (l ++ (List.replicate 32 0).drop l.length) := by
  rcases h with rfl | h
  · exact upd_nil _ _
  · rw [h]; simp [upd, Aa, h]
theorem dig_tak {xs : List UInt8} {a : Nat} {e : Int} {d : List UInt8} {a1 : Nat} {e1 : Int} (h : Cl xs a e = (d, a1, e1)) : ∃ l, takR xs 32 a e = (l, a1, e1) ∧ d = l ++ (List.replicate 32 0).drop l.length := by
  unfold Cl at h
  unfold takR
  by_cases he : e = 0
  · rw [if_neg (by simp [he])] at h ⊢
    by_cases h1 : xs.length < a + 32
    · rw [if_pos h1] at h ⊢
      obtain ⟨rfl, rfl, rfl⟩ : List.replicate 32 0 = d ∧ a = a1 ∧ (5 : Int) = e1 := by simpa using h
      exact ⟨[], rfl, rfl⟩
    · rw [if_neg h1] at h ⊢
      obtain ⟨rfl, rfl, rfl⟩ : (xs.drop a).take 32 = d ∧ a + 32 = a1 ∧ (0 : Int) = e1 := by simpa using h
      refine ⟨_, rfl, ?_⟩
      rw [show ((xs.drop a).take 32).length = 32 by simp; omega]; simp
  · rw [if_pos he] at h ⊢
    obtain ⟨rfl, rfl, rfl⟩ : List.replicate 32 0 = d ∧ a = a1 ∧ e = e1 := by simpa using h
    exact ⟨[], rfl, rfl⟩

theorem r1_DigestT (n q o N cp at' : Nat) (e : Int) (xs : List UInt8) (hx : xs.length = N) (hat : at' ≤ N) (hN : N ≤ cp) (hbig : N ≤ 90000) (ho : At1 cp at' o) (l : List UInt8) (a1 : Nat) (e1 : Int) (h : takR xs 32 at' e = (l, a1, e1)) : Meets Tryz.prog 215 [ptr n 0] [n] (fun W => BlkOk W (R1B n q (o) N cp (at') (e)) ∧ Bs W q 0 (Aa xs) ∧ q ≠ n) (fun v out => ∃ o1, At1 cp a1 o1 ∧ v = agg (Aa (l ++ (List.replicate 32 0).drop l.length)) ∧ out = [R1B n q o1 N cp a1 e1]) := by
 intro W hW
 have hd := takE_le h hx hat
 have hle : l.length ≤ 32 := by rcases hd.2 with h | h <;> simp [h]
 have hle32 : l.length + (32 - l.length) = 32 := by omega
 have hd32 : (l ++ (List.replicate 32 0).drop l.length).length = 32 := by rcases hd.2 with h | h <;> simp [h]
 refine A3 (hp0 := [R1B n q (o) N cp (at') (e)]) Tryz.func215 J 9 Tryz.ntmps215 J (HRep.one hW.1) (G2 ?_)
 refine .alloc (cs := (Aa (List.replicate 32 0))) J Zr50 J ?_
 intro n2 hn2 hf2
 refine G4 ?_
 refine .alloc (cs := (Aa (List.replicate 32 0))) J Zr50 J ?_
 intro n3 hn3 hf3
 refine G3 ?_
 refine .draw [(0, 0), (0, 1), (4, 2), (4, 3)] Be zK (G2 ?_)
 refine .callL (L := [R1B n q (o) N cp (at') (e)]) J J J J J Body216 (r1_TakeE n q o N cp at' e 32 dE dE xs hx hat hN hbig ho l a1 e1 h) (Ab rM Ad) (Au J) (fun w h => ⟨Af h Z2, Ba h (by simp; exact hW.2.2) hW.2.1, hW.2.2⟩) ?_
 rintro v6 out6 ⟨s6, bl6, o1, ho1, rfl, hac6, rfl⟩
 simp only [List.append_assoc, List.cons_append, List.nil_append]
 refine .copyP (Aa l) l.length J J J J J Y58.h Sz5 (fun w h => hac6.see (Lies.of h (by repeat (exact Ar)))) (fun e => hac6.nil e) (by simp [Aa, hac6.num]) (by rw [hac6.num]; omega) (List.take_of_length_le (by simp [Aa])) (Ay _) mR (by simp [Aa]; omega) (upd_dig hd.2) uU ?_
 refine G4 ?_
 refine .lA J J J Y50.h J Sz50 mR (by (simp [hle32]; done)) ?_
 refine .sA J J J J zE Sz50 (by (simp [hle32]; done)) mR sP uU ?_
 refine G4 ?_
 refine Ai (out := (R1B n q o1 N cp a1 e1 :: [])) (B2 J J Y50.h J Sz50 mR (by simp [hle32])) (Ab (by repeat (first | exact Aq | apply Bm)) Ad) ?_
 exact ⟨o1, ho1, rfl, rfl⟩

theorem r1_DigestE (n q o N cp a : Nat) (e : Int) (xs : List UInt8) (hx : xs.length = N) (hat : a ≤ N) (hN : N ≤ cp) (hbig : N ≤ 90000) (ho : At1 cp a o) (d : List UInt8) (a1 : Nat) (e1 : Int) (h : Cl xs a e = (d, a1, e1)) : Meets Tryz.prog 215 [ptr n 0] [n] (fun W => BlkOk W (R1B n q o N cp a e) ∧ Bs W q 0 (Aa xs) ∧ q ≠ n)
    (fun v out => ∃ o1, At1 cp a1 o1 ∧ v = agg (Aa d) ∧ out = [R1B n q o1 N cp a1 e1]) := by
  obtain ⟨l, h1, rfl⟩ := dig_tak h
  exact r1_DigestT n q o N cp a e xs hx hat hN hbig ho l a1 e1 h1

theorem r1_End (n q o N cp at' : Nat) (e : Int) (hat : at' ≤ N) (hbig : N ≤ 90000) : Meets Tryz.prog 140 [ptr n 0] [] (fun W => BlkOk W (R1B n q (o) N cp (at') (e))) (fun v out => v = i64 (endR N at' e) ∧ out = []) := by
 intro W hW
 have hfn : (rd1 q o N cp at' e).fB.n = N - at' := rfl
 have hfc : (rd1 q o N cp at' e).fB.c = cp - at' := rfl
 have hfe : (rd1 q o N cp at' e).fE = e := rfl
 refine Ak Tryz.func140 J 18 Tryz.ntmps140 J (G11 ?_)
 refine .loadE J J J Y32.h J sP (BlkOk.cell0 (o := 1) hW J) (G3 ?_)
 refine .condNP J (fun hc0 => ?_) (fun hc0 => ?_)
 ·
  have hq0 : ¬ e = 0 := by omega
  refine G5 ?_
  refine .loadE J J J Y32.h J sP (BlkOk.cell0 (o := 1) hW J) (G6 ?_)
  refine ⟨_, [], Ac J J, sP, sP, ?_, rfl⟩
  (rw [hfe, endR, if_neg hq0]; done)
 have hq0 : e = 0 := by omega
 refine G8 ?_
 refine .loadE J J J Y58.h J sP (BlkOk.cell0 (o := 0) hW J) (.lenSl (n := N - at') J J J Y58.h (G3 ?_))
 refine .condP J (fun hc1 => ?_) (fun hc1 => ?_)
 ·
  refine G8 ?_
  refine ⟨_, [], Ac J J, sP, sP, ?_, rfl⟩
  (rw [endR, if_pos hq0, if_pos (show (0 : Int) < (N : Int) - (at' : Int) by omega)]; done)
 refine G9 ?_
 refine ⟨_, [], Ac J J, sP, sP, ?_, rfl⟩
 (rw [endR, if_pos hq0, if_neg (show ¬ (0 : Int) < (N : Int) - (at' : Int) by omega)]; done)
def Rd1New (N : Nat) (xs : List UInt8) (v : Value) (out : List Blk) : Prop := ∃ n q cp, v = ptr n 0 ∧ N ≤ cp ∧ out = [R1B n q 0 N cp 0 0, ⟨q, Aa xs, 5, cp * 1⟩]

theorem r1_Read (p : Option Addr) (n c : Nat) (xs : List UInt8) (hl : xs.length = n) (hp : p = none → n = 0) (hn : n ≤ 90000) : Meets Tryz.prog 135 [.slice p n c] [] (fun W => SeesP W p (Aa xs)) (Rd1New n xs) := by
 intro W hW
 refine Ak Tryz.func135 J 8 Tryz.ntmps135 J (G7 ?_)
 refine .mkRow2 (z := u8 0) [] [] rfl J Y58.h Sz5 Zr5 J J (by intro v hv; cases hv) dE J ?_
 intro q3
 refine G1 ?_
 refine .appendSl (z := u8 0) (by' := 1) (Aa xs) J J J J J Y58.h Y58.h Sz5 Zr5 (by unfold By; kernel_rfl) J (fun w h => Ao h J hW) hp (by simp [Aa, isCell, u8]) Aq J J oM oM oM (by simp [Aa, hl]) ?_
 intro q5 c5 hq5
 rw [Nat.zero_add n] at hq5 ⊢
 refine .build (cs := (⟨⟨some ⟨q5, 0, none⟩, n, c5⟩, 0⟩ : Rdr).cells) J J J (fun w => by kernel_rfl) ?_
 refine G1 ?_
 intro n7 hn7 hf7
 refine G5 ?_
 refine ⟨_, [R1B n7 q5 0 n c5 0 0, ⟨q5, Aa xs, 5, c5 * 1⟩], Ac J J, (by intro b hb; rcases List.mem_cons.1 hb with rfl | hb; exact Bw; rw [List.mem_singleton.1 hb]; exact mem1), (fun h => h.sublist (by simp [R1B, blk])), ⟨n7, q5, c5, rfl, hq5, rfl⟩⟩



theorem seesP_tk {w : World} {p : Option Addr} {l : List UInt8} {n : Nat} (h : SeesP w p (Aa l)) : SeesP w p (Aa (l.take n)) := fun j v hj => by
  rw [Aa, List.map_take, List.getElem?_take] at hj
  split at hj
  · exact h j v hj
  · cases hj

theorem r2_StartShort (k s0 i0 : List UInt64) (G : List UInt8) (hk : Hid (kW = k)) (hk80 : k.length = 80) (hs0 : Hid (xorUp 8 = s0)) (hs8 : s0.length = 8) (hG : Hid (shaTag = G)) (hGl : G.length = 11) (hi0 : Hid (allW k s0 G = i0)) (hi8 : i0.length = 8)  : Meets Tryz.prog 240 [] [] (fun _ => True) (fun v out => v = agg (Az i0) ∧ out = []) := by
 intro W hW
 refine Ak Tryz.func240 J 18 Tryz.ntmps240 J (G2 ?_)
 refine .alloc (cs := (Az (List.replicate 8 0))) J Zr252 J ?_
 intro n0 hn0 hf0
 refine G4 ?_
 refine .cV J J J J Body249 (r2_Start startW ⟨rfl⟩) tV (.alloc (cs := (Az (List.replicate 8 0))) J Zr252 J ?_)
 intro n1 hn1 hf1
 refine .sA J J J J zB Sz252 (by (simp [startW_length]; done)) Z0 sP zU ?_
 refine G9 ?_
 refine .loop (ι := Nat) (fun j => ⟨[(0, ptr n0 0), (1, ptr n1 0), (2, i64 (j : Int))], [⟨n1, Az (xorUp j), 252, 8⟩, ⟨n0, Az (List.replicate 8 0), 252, 8⟩]⟩) (fun j => j ≤ 8) (fun j => 8 - j) (0) ?_ ?_ ?_
 · omega
 · exact Ae (wk1 rfl (wk1 rfl (wk1 rfl wk0))) (Ab rM (Ab rM Ad))
 rintro j hi
 have hlj := xorUp_length j
 refine G7 ?_
 refine .condP J (fun hc0 => ?_) (fun hc0 => ?_)
 ·
  refine G7 ?_
  refine .i1 J J J J Y252 Sz48 _ J oM (G1 ?_)
  refine .xor_u64 J J J (show Al _ _ = some (u64 11936128518282651045) from rfl) (.i1 J J J J Y252 Sz48 _ J oM (.s1 J J J J J Sz48 Z0 (by (simp [xorUp_length]; omega)) (by exact set_words _ _ _) zU ?_))
  refine G9 ?_
  exact ⟨j + 1, by omega, by omega, Ae (wk1 rfl (wk1 rfl (wk1 rfl wk0))) (Ab rM (Ab rM Ad))⟩
 obtain rfl : j = 8 := by omega
 rw [hs0.out]
 clear hlj
 refine G7 ?_
 refine .lA J J J Y252 J Sz252 Z0 (by (simp [hs8]; done)) ?_
 refine .mkRow (z := u8 0) [u8 83, u8 72, u8 65, u8 45, u8 53, u8 49, u8 50, u8 47, u8 50, u8 53, u8 54] (Aa shaTag) J J J Y58.h Sz5 Zr5 J J (by intro v hv; simp only [List.mem_cons, List.not_mem_nil, or_false] at hv; rcases hv with rfl | rfl | rfl | rfl | rfl | rfl | rfl | rfl | rfl | rfl | rfl <;> rfl) dE J ?_
 intro q15
 rw [hG.out]
 refine .constB J J J J Y58.h Y5.h Z0 ?_
 refine .cV J J J J Body239 (r2_run s0 hs8 k hk hk80 ⟨some ⟨q15, 0, none⟩, 11, 11⟩ G (by simp [hGl]) (fun e => by cases e) oM) (fun w h => SeesP.of (Ah h Z0)) ?_
 rw [hi0.out]
 refine .sA J J J J zB Sz252 (by (simp [hi8]; done)) Z2 sP (by exact upd2) ?_
 refine G4 ?_
 refine ⟨_, [], B2 J J Y252 J Sz252 Z2 (by simp [hi8]), sP, sP, ?_, rfl⟩
 rfl
theorem r2_Sum (k s0 i0 : List UInt64) (G : List UInt8) (hk : Hid (kW = k)) (hk80 : k.length = 80) (hs0 : Hid (xorUp 8 = s0)) (hs8 : s0.length = 8) (hG : Hid (shaTag = G)) (hGl : G.length = 11) (hi0 : Hid (allW k s0 G = i0)) (hi8 : i0.length = 8) (p : Option Addr) (n c : Nat) (ss : List Sl) (ls : List (List UInt8)) (hss : ss.length = n) (hls : ls.length = n) (hsl : ∀ j, j < n → (ss.getD j Sl.nil).n = (ls.getD j []).length ∧ ((ss.getD j Sl.nil).p = none → (ss.getD j Sl.nil).n = 0)) (F : List UInt8) (hF : ls.flatten = F) (htot : F.length ≤ 90000) (hn : n ≤ 1000000) (r : List UInt64) (hr : Hid (allW k i0 F = r)) (s : List UInt8) (hs : Hid (sumUp r 64 = s))  : Meets Tryz.prog 217 [.slice p n c] [] (fun W => SeesP W p (ss.map Sl.v) ∧ ∀ j, j < n → SeesP W (ss.getD j Sl.nil).p (Aa (ls.getD j []))) (fun v out => v = agg (Aa (s.take 32)) ∧ out = []) := by
 intro W hW
 have hr8 : r.length = 8 := by rw [← hr.out, allW_length]; exact hi8
 have hs64 : s.length = 64 := by rw [← hs.out]; exact Co r 64
 have hs32 : (s.take 32).length = 32 := by rw [List.length_take, hs64]; rfl
 have hrun := fun (x : Sl) (h1 : x.n = F.length) (h2 : x.p = none → x.n = 0) => r2_run i0 hi8 k hk hk80 x F h1 h2 htot
 rw [hr.out] at hrun
 refine Ak Tryz.func217 J 14 Tryz.ntmps217 J (G2 ?_)
 refine .alloc (cs := (Aa (List.replicate 32 0))) J Zr50 J ?_
 intro n2 hn2 hf2
 refine G4 ?_
 refine .cV J J J J Body240 (r2_StartShort k s0 i0 G hk hk80 hs0 hs8 hG hGl hi0 hi8) tV (G1 ?_)
 refine .call4 J J J J J Body241 (r2_join p n c ss ls hss hls hsl F hF htot hn) (fun w h => ⟨Ao h J hW.1, fun j hj => Ao h J (hW.2 j hj)⟩) ?_
 rintro v7 out7 ⟨s7, rfl, hac7⟩
 refine .cV J J J J Body239 (hrun s7 hac7.num hac7.nil) (fun w h => hac7.see (Lies.of h (by repeat (exact Ar)))) ?_
 refine .cV J J J J Body238 (r2_bytes r hr8 s hs) tV (.alloc (cs := (Aa (List.replicate 64 0))) J Zr76 J ?_)
 intro n3 hn3 hf3
 refine .sA J J J J zE Sz76 (by (simp [hs64]; done)) Z0 sP zU ?_
 refine G4 ?_
 refine .alloc (cs := (Aa (List.replicate 32 0))) J Zr50 J ?_
 intro n4 hn4 hf4
 refine G3 ?_
 refine .draw [(0, 0), (0, 1), (4, 2)] Be zK (G1 ?_)
 refine .sliceArrHi 32 J J J J J dE dE Y76 Sz5 (.copyP (Aa (s.take 32)) 32 J J J J J Y58.h Sz5 (fun w h => seesP_tk (SeesP.of (Ah h Z1))) (fun e => by cases e) (by simp [Aa, hs64]) J (List.take_of_length_le (by simp [Aa, hs64])) (Ay _) Z0 (by simp [Aa]) (show upd (Aa (List.replicate 32 0)) 0 (Aa (s.take 32)) = Aa (s.take 32) by simp [upd, Aa, hs64]) zU ?_)
 refine G4 ?_
 refine .lA J J J Y50.h J Sz50 Z0 (by (simp [hs64]; done)) ?_
 refine .sA J J J J zE Sz50 (by (simp [hs64]; done)) mR sP uU ?_
 refine G4 ?_
 refine ⟨_, [], B2 J J Y50.h J Sz50 mR (by simp [hs64]), sP, sP, ?_, rfl⟩
 rfl

theorem vcheck_min (V : Vote) (m : Nat) : (A5 { V with fPhase := ((min m 255 : Nat) : Int) } = 0 ↔ A5 { V with fPhase := ((min m 4 : Nat) : Int) } = 0) ∧ (A5 { V with fPhase := ((min m 255 : Nat) : Int) } = 0 → ({ V with fPhase := ((min m 4 : Nat) : Int) } : Vote) = { V with fPhase := ((min m 255 : Nat) : Int) }) := by
  by_cases h : m ≤ 3
  · rw [show min m 255 = m by omega, show min m 4 = m by omega]
    exact ⟨Iff.rfl, fun _ => rfl⟩
  · have h1 : ¬ A5 { V with fPhase := ((min m 255 : Nat) : Int) } = 0 := fun e => by
      have := vcheck_phase e
      simp only at this
      omega
    have h2 : ¬ A5 { V with fPhase := ((min m 4 : Nat) : Int) } = 0 := fun e => by
      have := vcheck_phase e
      simp only at this
      omega
    exact ⟨⟨fun e => absurd e h1, fun e => absurd e h2⟩, fun e => absurd e h1⟩

theorem vote_same (a b : Vote) (ha : a.ok) (hb : b.ok) : Meets Tryz.prog 147 [agg a.cells, agg b.cells] [] (fun _ => True) (fun v out => v = .bool (@decide (a = b) (Classical.propDecidable _)) ∧ out = []) := by
 intro W hW
 refine Ak Tryz.func147 J 8 Tryz.ntmps147 J (G3 ?_)
 intro n2 hn2 hf2
 refine G1 ?_
 intro n3 hn3 hf3
 refine G7 ?_
 refine .eql_rec J J J J Vote.eg (fun w => Vote.eq_runC zA zA w) J ?_
 refine G5 ?_
 refine ⟨_, [], Ac J J, sP, sP, ?_, rfl⟩
 rfl

theorem r20_Read (a : Option Addr) (n c : Nat) (xs : List UInt8) (hl : xs.length = n) (hp : a = none → n = 0) (hn : n ≤ 90000) : Meets Tryz.prog 139 [.slice a n c] [] (fun W => SeesP W a (Aa xs)) (fun v out => v = .tuple #[agg (Bi xs).1.cells, i64 (Bi xs).2] ∧ out = []) := by
  intro W hW
  obtain ⟨x1, r1, h1⟩ : ∃ l r, A0 xs 0 0 = (l, r) := ⟨_, _, rfl⟩
  obtain ⟨a1, e1⟩ := r1
  obtain ⟨x2, r2, h2⟩ : ∃ l r, A0 xs a1 e1 = (l, r) := ⟨_, _, rfl⟩
  obtain ⟨a2, e2⟩ := r2
  obtain ⟨x3, r3, h3⟩ : ∃ l r, A0 xs a2 e2 = (l, r) := ⟨_, _, rfl⟩
  obtain ⟨a3, e3⟩ := r3
  obtain ⟨l4, r4, h4⟩ : ∃ l r, Cl xs a3 e3 = (l, r) := ⟨_, _, rfl⟩
  obtain ⟨a4, e4⟩ := r4
  obtain ⟨x5, r5, h5⟩ : ∃ l r, A0 xs a4 e4 = (l, r) := ⟨_, _, rfl⟩
  obtain ⟨a5, e5⟩ := r5
  obtain ⟨l6, r6, h6⟩ : ∃ l r, Cl xs a5 e5 = (l, r) := ⟨_, _, rfl⟩
  obtain ⟨a6, e6⟩ := r6
  obtain ⟨l7, r7, h7⟩ : ∃ l r, takR xs 64 a6 e6 = (l, r) := ⟨_, _, rfl⟩
  obtain ⟨a7, e7⟩ := r7
  have hvp : voteP xs = (({ Vote.zero with fHeight := x1, fRound := x2, fPhase := ((min x3.toNat 4 : Nat) : Int), fValue := l4, fProof := x5, fVoter := l6, fSig := l7 ++ Vote.zero.fSig.drop l7.length } : Vote), a7, e7) := by simp only [voteP, h1, h2, h3, h4, h5, h6, h7]; rfl
  have hq := vcheck_min ({ Vote.zero with fHeight := x1, fRound := x2, fPhase := ((min x3.toNat 4 : Nat) : Int), fValue := l4, fProof := x5, fVoter := l6, fSig := l7 ++ Vote.zero.fSig.drop l7.length } : Vote) x3.toNat
  have hd1 := Bc h1 hl (Nat.zero_le _)
  have hd2 := Bc h2 hl hd1
  have hd3 := Bc h3 hl hd2
  have hd4 := Ci h4 hl hd3
  have hd5 := Bc h5 hl hd4.1
  have hd6 := Ci h6 hl hd5
  have hd7 := takE_le h7 hl hd6.1
  have hlen7 : l7.length ≤ 64 := by rcases hd7.2 with h | h <;> simp [h]
  have hs64 : (l7 ++ Vote.zero.fSig.drop l7.length).length = 64 := by rcases hd7.2 with h | h <;> simp [h, Vote.zero]
  have ok2 : ({ Vote.zero with fHeight := x1, fRound := x2 } : Vote).ok := ⟨rfl, rfl, rfl⟩
  have ok3 : ({ Vote.zero with fHeight := x1, fRound := x2, fPhase := ((min x3.toNat 255 : Nat) : Int) } : Vote).ok := ⟨rfl, rfl, rfl⟩
  have ok4 : ({ Vote.zero with fHeight := x1, fRound := x2, fPhase := ((min x3.toNat 255 : Nat) : Int), fValue := l4 } : Vote).ok := ⟨hd4.2, rfl, rfl⟩
  have ok5 : ({ Vote.zero with fHeight := x1, fRound := x2, fPhase := ((min x3.toNat 255 : Nat) : Int), fValue := l4, fProof := x5 } : Vote).ok := ⟨hd4.2, rfl, rfl⟩
  have ok6 : ({ Vote.zero with fHeight := x1, fRound := x2, fPhase := ((min x3.toNat 255 : Nat) : Int), fValue := l4, fProof := x5, fVoter := l6 } : Vote).ok := ⟨hd4.2, hd6.2, rfl⟩
  have okX : ({ Vote.zero with fHeight := x1, fRound := x2, fPhase := ((min x3.toNat 255 : Nat) : Int), fValue := l4, fProof := x5, fVoter := l6, fSig := l7 ++ Vote.zero.fSig.drop l7.length } : Vote).ok := ⟨hd4.2, hd6.2, hs64⟩
  refine Ak Tryz.func139 J 48 Tryz.ntmps139 J (G2 ?_)
  refine .alloc (cs := Vote.zero.cells) J Vote.zr J ?_
  intro n2 hn2 hf2
  refine G6 ?_
  refine .call4 J J J J J Body135 (r1_Read a n c xs hl hp hn) (fun w h => Ao h J hW) ?_
  rintro v10 out10 ⟨n10, q10, cp10, rfl, hcp10, rfl⟩
  refine .nd (fun hnd => ?_)
  have hne : q10 ≠ n10 := by intro e; simp [R1B, e] at hnd
  clear hnd
  refine G6 ?_
  refine .callL (L := [R1B n10 q10 0 n cp10 0 0]) J J J J J Body138 (B4 n10 q10 0 n cp10 0 0 xs hl (Nat.zero_le _) hcp10 oM (fun _ => rfl) x1 a1 e1 h1) (Ab rM Ad) (Au J) (fun w h => ⟨Af h Z0, Ah h Z1, hne⟩) ?_
  rintro v12 out12 ⟨o12, ho12, rfl, rfl⟩
  refine G1 ?_
  refine .callL (L := [R1B n10 q10 o12 n cp10 a1 e1]) J J J J J Body138 (B4 n10 q10 o12 n cp10 a1 e1 xs hl hd1 hcp10 oM ho12 x2 a2 e2 h2) (Ab rM Ad) (Au J) (fun w h => ⟨Af h Z0, Ah h Z1, hne⟩) ?_
  rintro v14 out14 ⟨o14, ho14, rfl, rfl⟩
  refine .build (cs := ({ Vote.zero with fHeight := x1, fRound := x2 } : Vote).cells) J J J (fun w => by kernel_rfl) ?_
  refine .alloc (cs := Vote.zero.cells) J Vote.zr J ?_
  intro n5 hn5 hf5
  refine G6 ?_
  refine .callL (L := [R1B n10 q10 o14 n cp10 a2 e2]) J J J J J Body138 (B4 n10 q10 o14 n cp10 a2 e2 xs hl hd2 hcp10 oM ho14 x3 a3 e3 h3) (Ab rM Ad) (Au J) (fun w h => ⟨Af h Z1, Ah h Z2, hne⟩) ?_
  rintro v17 out17 ⟨o17, ho17, rfl, rfl⟩
  refine G6 ?_
  refine .min2 J J J J (show Value.int .u64 (if (255 : Int) < (x3.toNat : Int) then 255 else (x3.toNat : Int)) = .int .u64 ((min x3.toNat 255 : Nat) : Int) from by congr 1; split <;> omega) ?_
  refine .conv J J J Y48.h Y3.h (show Value.int .i64 (IntKind.i64.wrap ((min x3.toNat 255 : Nat) : Int)) = i64 ((min x3.toNat 255 : Nat) : Int) by rw [i64_wrap oM]) ?_
  refine G7 ?_
  refine .callL (L := [R1B n10 q10 o17 n cp10 a3 e3]) J J J J J Body215 (r1_DigestE n10 q10 o17 n cp10 a3 e3 xs hl hd3 hcp10 oM ho17 l4 a4 e4 h4) (Ab rM Ad) (Au J) (fun w h => ⟨Af h Z0, Ah h Z2, hne⟩) ?_
  rintro v23 out23 ⟨o23, ho23, rfl, rfl⟩
  refine G1 ?_
  refine .storeN (Aa _) J J J J J zE Sz50 (by simp [hd4.2]) Z1 (by rw [Vote.length zA]; simp [hd4.2]) (Vote.upd_fValue zA _ (by simp [hd4.2])) zV ?_
  refine G5 ?_
  refine .callL (L := [R1B n10 q10 o23 n cp10 a4 e4]) J J J J J Body138 (B4 n10 q10 o23 n cp10 a4 e4 xs hl hd4.1 hcp10 oM ho23 x5 a5 e5 h5) (Ab rM Ad) (Au J) (fun w h => ⟨Af h Z0, Ah h Z2, hne⟩) ?_
  rintro v26 out26 ⟨o26, ho26, rfl, rfl⟩
  refine G7 ?_
  refine .callL (L := [R1B n10 q10 o26 n cp10 a5 e5]) J J J J J Body215 (r1_DigestE n10 q10 o26 n cp10 a5 e5 xs hl hd5 hcp10 oM ho26 l6 a6 e6 h6) (Ab rM Ad) (Au J) (fun w h => ⟨Af h Z0, Ah h Z2, hne⟩) ?_
  rintro v29 out29 ⟨o29, ho29, rfl, rfl⟩
  refine .alloc (cs := (Aa (List.replicate 32 0))) J Zr50 J ?_
  intro n7 hn7 hf7
  refine .sA J J J J zE Sz50 (by (simp [hd6.2]; done)) Z0 sP zU ?_
  refine G4 ?_
  refine .lA J J J Y50.h J Sz50 Z0 (by (simp [hd6.2]; done)) ?_
  refine G1 ?_
  refine .storeN (Aa _) J J J J J zE Sz75 (by simp [hd6.2]) Z2 (by rw [Vote.length zA]; simp [hd6.2]) (Vote.upd_fVoter zA _ (by simp [hd6.2])) (by exact upd2) ?_
  refine G5 ?_
  refine .callL (L := [R1B n10 q10 o29 n cp10 a6 e6]) J J J J J Body216 (r1_TakeE n10 q10 o29 n cp10 a6 e6 64 dE dE xs hl hd6.1 hcp10 oM ho29 l7 a7 e7 h7) (Ab rM Ad) (Au J) (fun w h => ⟨Af h Z1, Ah h Z3, hne⟩) ?_
  rintro v33 out33 ⟨s33, bl33, o33, ho33, rfl, hac33, rfl⟩
  simp only [List.append_assoc, List.cons_append, List.nil_append]
  refine G8 ?_
  refine .copyP (Aa l7) l7.length J J J J J Y58.h Sz5 (fun w h => hac33.see (Lies.of h (by repeat (exact Ar)))) (fun e => hac33.nil e) (by simp [Aa, hac33.num]) (by rw [hac33.num]; omega) (List.take_of_length_le (by simp [Aa])) (Ay _) mR (by rw [Vote.length ok6]; show 68 + l7.length ≤ 132; omega) (upd_vsig ok6 hd7.2) uU ?_
  refine G6 ?_
  refine .cV J J J J Body140 (r1_End n10 q10 o33 n cp10 a7 e7 hd7.1 oM) (fun w h => Af h mR) ?_
  refine two (fun r hr k => Tr.nei J J J J hr k) (fun hs11_20 => ?_) (fun hs11_20 => ?_)
  ·
    have hs11_2 := nd_t hs11_20
    refine G7 ?_
    refine .cond_t J J (G2 ?_)
    refine .build (cs := Vote.zero.cells) J J J (fun w => by kernel_rfl) ?_
    refine G7 ?_
    refine Ai (out := []) (Aw J J J Y81.h J Sz81 mR (by exact Vote.length zT)) Ad ?_
    first
      | exact ⟨by rw [voteRd_bad (by rw [hvp, hl]; exact fun h => hs11_2 h.1)], rfl⟩
      | exact ⟨by rw [voteRd_bad (by rw [hvp, hl]; exact fun h => hc0 (hq.1.2 h.2))], rfl⟩
      | (have e9 := hq.2 hc0
         exact ⟨by rw [voteRd_ok (by rw [hvp, hl]; exact ⟨hs11_2, hq.1.1 hc0⟩), hvp]; exact congrArg (fun z : Vote => Value.tuple #[agg z.cells, i64 0]) e9.symm, rfl⟩)
  have hs11_2 := nd_f hs11_20
  refine G2 ?_
  refine .cV J J J J Body143 (r20_Check ({ Vote.zero with fHeight := x1, fRound := x2, fPhase := ((min x3.toNat 255 : Nat) : Int), fValue := l4, fProof := x5, fVoter := l6, fSig := l7 ++ Vote.zero.fSig.drop l7.length } : Vote) okX) tV (G4 ?_)
  refine .condNP J (fun hc0 => ?_) (fun hc0 => ?_)
  ·
    refine G2 ?_
    refine .build (cs := Vote.zero.cells) J J J (fun w => by kernel_rfl) ?_
    refine G7 ?_
    refine Ai (out := []) (Aw J J J Y81.h J Sz81 mR (by exact Vote.length zT)) Ad ?_
    first
      | exact ⟨by rw [voteRd_bad (by rw [hvp, hl]; exact fun h => hs11_2 h.1)], rfl⟩
      | exact ⟨by rw [voteRd_bad (by rw [hvp, hl]; exact fun h => hc0 (hq.1.2 h.2))], rfl⟩
      | (have e9 := hq.2 hc0
         exact ⟨by rw [voteRd_ok (by rw [hvp, hl]; exact ⟨hs11_2, hq.1.1 hc0⟩), hvp]; exact congrArg (fun z : Vote => Value.tuple #[agg z.cells, i64 0]) e9.symm, rfl⟩)
  refine G11 ?_
  refine Ai (out := []) (Aw J J J Y81.h J Sz81 mR (by exact Vote.length zA)) Ad ?_
  first
    | exact ⟨by rw [voteRd_bad (by rw [hvp, hl]; exact fun h => hs11_2 h.1)], rfl⟩
    | exact ⟨by rw [voteRd_bad (by rw [hvp, hl]; exact fun h => hc0 (hq.1.2 h.2))], rfl⟩
    | (have e9 := hq.2 hc0
       exact ⟨by rw [voteRd_ok (by rw [hvp, hl]; exact ⟨hs11_2, hq.1.1 hc0⟩), hvp]; exact congrArg (fun z : Vote => Value.tuple #[agg z.cells, i64 0]) e9.symm, rfl⟩)
end Go.Proofs.YtdifpjmfabhpiaaGreat
end

section
namespace Go.Proofs.YtdifpjmfabhpiaaGreat
open Go Hw

theorem blk_block_1 (a : Option Addr) (n c : Nat) (l : List UInt8) (hl : l.length = n) (hp : a = none → n = 0) (hn : n ≤ 40000) (X : Block) (D : DB) (q : Nat) (hsz : (A9 D).length ≤ 40000) : Meets Tryz.prog 199 [.slice a n c, agg X.cells, ptr q 0] [] (fun W => SeesP W a (Aa l) ∧ BlockIs W X D ∧ W.cell? ⟨q, 0, none⟩ = some (.func (.func 111) #[] #[])) (fun v out => FreshRow v out (Aa (l ++ blkB (A9 D))) 5 (l ++ blkB (A9 D)).length 1) := by
 intro W hW
 have hok := hW.2.1.ok
 refine Ak Tryz.func199 J 17 Tryz.ntmps199 J (G3 ?_)
 intro n4 hn4 hf4
 refine G5 ?_
 refine .loadE J J J Tryz.underlying160 J sP (hW.2.2) (G1 ?_)
 refine .call4 J J J J J Body111 (block_bytes X D) (fun w h => hW.2.1.ext h J) ?_
 rintro v11 out11 ⟨s11, rfl, hac11⟩
 have hnm := hac11.num
 refine G11 ?_
 refine .call4 J J J J J Body121 (oct_Block a s11.p n c s11.n s11.c l (A9 D) hl hnm.symm hp (fun e => hac11.nil e) hn oM) (fun w h => ⟨Ao h J hW.1, hac11.see (Lies.of h (by repeat (exact Ar)))⟩) ?_
 rintro v16 out16 ⟨q16, c16, rfl, hc16, rfl⟩
 have hq16 : n + szN s11.n + s11.n = (l ++ blkB (A9 D)).length := by rw [List.length_append, blkB_length oM, hl, hnm]; omega
 refine G5 ?_
 refine Ai (out := (⟨q16, Aa (l ++ blkB (A9 D)), 5, c16 * 1⟩ :: [])) (Ac J J) (Cg rM (by rw [blkB, hnm, List.append_assoc]) J Ad) ?_
 exact ⟨q16, c16, by rw [hq16], by rw [← hq16]; exact hc16, rfl⟩

theorem mk_blk_block  : Meets Tryz.prog 110 [.func (.func 111) #[] #[]] [] (fun _ => True) (fun v out => ∃ c, v = .func (.func 199) #[] #[ptr c 0] ∧ out = [⟨c, [.func (.func 111) #[] #[]], 160, 1⟩]) := by
 intro W hW
 refine Ak Tryz.func110 J 4 Tryz.ntmps110 J (G2 ?_)
 refine .box1 J J J ?_
 intro n1 hn1 hf1
 refine G11 ?_
 refine Ai (out := (⟨n1, [.func (.func 111) #[] #[]], 160, 1⟩ :: [])) (Ac J J) (Ab rM Ad) ?_
 exact ⟨n1, rfl, by simp⟩

theorem put_blocks (a : Option Addr) (n c : Nat) (l : List UInt8) (s : Sl) (ds : List DB) (q M : Nat) (hl : l.length = n) (hp : a = none → n = 0) (hM : M ≤ 40000) (hsz : ∀ d ∈ ds, (A9 d).length ≤ M) (hs : s.n ≤ 1000) (hN : n + 9 + s.n * (M + 9) ≤ 40000) : Meets Tryz.prog 109 [.slice a n c, s.v, .func (.func 199) #[] #[ptr q 0]] [] (fun W => SeesP W a (Aa l) ∧ BlocksAt W s ds ∧ W.cell? ⟨q, 0, none⟩ = some (.func (.func 111) #[] #[])) (fun v out => FreshRow v out (Aa (l ++ Ap (UInt64.ofNat s.n) ++ Av A9 ds)) 5 (l ++ Ap (UInt64.ofNat s.n) ++ Av A9 ds).length 1) := by
 intro W hW
 obtain ⟨rs, hs1⟩ := hW.2.1
 have hnd := hs1.nd
 have hz := A2 s.n
 have hon := A6 (n := s.n) oM
 have hmul : ds.length * (M + 9) = s.n * (M + 9) := by rw [hnd]
 have hle : ∀ k, (l ++ Ap (UInt64.ofNat s.n) ++ Av A9 (ds.take k)).length ≤ 40000 := fun k => by
  have := listB_take_le A9 M oM ds hsz k
  simp only [List.length_append, Am, hon, hl]
  omega
 refine Ak Tryz.func109 J 26 Tryz.ntmps109 J (G11 ?_)
 rw [Cf (n := s.n) oM]
 refine .call4 J J J J J Body106 (oct_Number a n c l (UInt64.ofNat s.n) hl hp oM) (fun w h => Ao h J hW.1) ?_
 rintro v13 out13 ⟨q1, c1, rfl, hc1, rfl⟩
 have e13 : n + szN (UInt64.ofNat s.n).toNat = (l ++ Ap (UInt64.ofNat s.n) ++ Av A9 (ds.take 0)).length := by simp [Av, Am, hl]
 rw [e13] at hc1 ⊢
 refine G12 ?_
 refine .loop (ι := Nat × Nat × Nat) (fun p => ⟨[(0, .slice (some ⟨p.2.1, 0, none⟩) (l ++ Ap (UInt64.ofNat s.n) ++ Av A9 (ds.take p.1)).length p.2.2), (2, .func (.func 199) #[] #[ptr q 0]), (14, s.v), (15, i64 (s.n : Int)), (16, i64 (p.1 : Int))], [⟨p.2.1, Aa (l ++ Ap (UInt64.ofNat s.n) ++ Av A9 (ds.take p.1)), 5, p.2.2 * 1⟩]⟩) (fun p => p.1 ≤ s.n ∧ (l ++ Ap (UInt64.ofNat s.n) ++ Av A9 (ds.take p.1)).length ≤ p.2.2) (fun p => s.n - p.1) ((0, q1, c1)) ?_ ?_ ?_
 · exact ⟨Nat.zero_le _, hc1⟩
 · exact Ag (wk1 rfl (wk1 rfl (wk1 rfl (wk1 rfl (wk1 rfl wk0))))) (wh1 (by simp only [List.take_zero, Av, List.map_nil, List.flatten_nil, List.append_nil]; exact Bw) wh0) nD
 rintro p ⟨hp1, hp2⟩
 refine G6 ?_
 refine .condP J (fun hc0 => ?_) (fun hc0 => ?_)
 ·
  have hk2 : p.1 < s.n := by omega
  obtain ⟨b, o, r, d, hsp, hr, hd, his, hlen, hsee⟩ := hs1.at dE hk2
  refine G6 ?_
  refine .idxSlP 131 J J J hsp J Y22.h Sz79 p.1 J oM (.loadEN r.cells J J J Y79.h J Sz79 sP hlen hsee (.alloc (cs := Block.zero.cells) J Block.zr J ?_))
  intro n8 hn8 hf8
  refine .sA J J J J (Block.isCell (by exact his.ok)) Sz79 (Block.length (by exact his.ok)) Z0 (Block.length (by exact Block.zero_ok)) zU ?_
  refine G5 ?_
  refine .lA J J J Y79.h J Sz79 Z0 (Block.length (by exact his.ok)) ?_
  refine .call4C J J J J J J Body199 (blk_block_1 (some ⟨p.2.1, 0, none⟩) (l ++ Ap (UInt64.ofNat s.n) ++ Av A9 (ds.take p.1)).length p.2.2 (l ++ Ap (UInt64.ofNat s.n) ++ Av A9 (ds.take p.1)) J (fun e => by cases e) (hle _) r d q (Nat.le_trans (hsz d (List.mem_of_getElem? hd)) hM)) (fun w h => ⟨SeesP.of (Ah h Z1), his.ext h J, h.keeps.cell sP hW.2.2⟩) ?_
  rintro v23 out23 ⟨q2, c2, rfl, hq2, rfl⟩
  rw [show l ++ Ap (UInt64.ofNat s.n) ++ Av A9 (ds.take p.1) ++ blkB (A9 d) = l ++ Ap (UInt64.ofNat s.n) ++ Av A9 (ds.take (p.1 + 1)) by rw [listB_step A9 hd, ← List.append_assoc]] at hq2 ⊢
  refine G9 ?_
  exact ⟨(p.1 + 1, q2, c2), ⟨by simp only []; omega, hq2⟩, by simp only []; omega, Ag (wk1 rfl (wk1 rfl (wk1 rfl (wk1 rfl (wk1 rfl wk0))))) (wh1 Z0 wh0) nD⟩
 have hpe : p.1 = s.n := by omega
 have hds : ds = ds.take p.1 := by rw [List.take_of_length_le oM]
 refine G13 ?_
 refine ⟨_, [⟨p.2.1, Aa (l ++ Ap (UInt64.ofNat s.n) ++ Av A9 ds), 5, p.2.2 * 1⟩], Ac J J, (by intro b hb; rw [List.mem_singleton.1 hb, hds]; simp only [List.take_take, Nat.min_self]; exact Bw), Bu, ⟨p.2.1, p.2.2, by rw [← hds], by rw [← hds] at hp2; exact hp2, rfl⟩⟩
theorem blk_cut_1 (a : Option Addr) (n c : Nat) (l : List UInt8) (hl : l.length = n) (hp : a = none → n = 0) (hn : n ≤ 40000) (X : Cut) (D : DCut) (q : Nat) (hsz : (Br D).length ≤ 40000) : Meets Tryz.prog 204 [.slice a n c, agg X.cells, ptr q 0] [] (fun W => SeesP W a (Aa l) ∧ CutIs W X D ∧ W.cell? ⟨q, 0, none⟩ = some (.func (.func 117) #[] #[])) (fun v out => FreshRow v out (Aa (l ++ blkB (Br D))) 5 (l ++ blkB (Br D)).length 1) := by
 intro W hW
 have hok := hW.2.1.ok
 refine Ak Tryz.func204 J 17 Tryz.ntmps204 J (G3 ?_)
 intro n4 hn4 hf4
 refine G5 ?_
 refine .loadE J J J Tryz.underlying168 J sP (hW.2.2) (G1 ?_)
 refine .call4 J J J J J Body117 (cut_bytes X D) (fun w h => hW.2.1.ext h J) ?_
 rintro v11 out11 ⟨s11, rfl, hac11⟩
 have hnm := hac11.num
 refine G11 ?_
 refine .call4 J J J J J Body121 (oct_Block a s11.p n c s11.n s11.c l (Br D) hl hnm.symm hp (fun e => hac11.nil e) hn oM) (fun w h => ⟨Ao h J hW.1, hac11.see (Lies.of h (by repeat (exact Ar)))⟩) ?_
 rintro v16 out16 ⟨q16, c16, rfl, hc16, rfl⟩
 have hq16 : n + szN s11.n + s11.n = (l ++ blkB (Br D)).length := by rw [List.length_append, blkB_length oM, hl, hnm]; omega
 refine G5 ?_
 refine Ai (out := (⟨q16, Aa (l ++ blkB (Br D)), 5, c16 * 1⟩ :: [])) (Ac J J) (Cg rM (by rw [blkB, hnm, List.append_assoc]) J Ad) ?_
 exact ⟨q16, c16, by rw [hq16], by rw [← hq16]; exact hc16, rfl⟩

theorem mk_blk_cut  : Meets Tryz.prog 116 [.func (.func 117) #[] #[]] [] (fun _ => True) (fun v out => ∃ c, v = .func (.func 204) #[] #[ptr c 0] ∧ out = [⟨c, [.func (.func 117) #[] #[]], 168, 1⟩]) := by
 intro W hW
 refine Ak Tryz.func116 J 4 Tryz.ntmps116 J (G2 ?_)
 refine .box1 J J J ?_
 intro n1 hn1 hf1
 refine G11 ?_
 refine Ai (out := (⟨n1, [.func (.func 117) #[] #[]], 168, 1⟩ :: [])) (Ac J J) (Ab rM Ad) ?_
 exact ⟨n1, rfl, by simp⟩

theorem put_cuts (a : Option Addr) (n c : Nat) (l : List UInt8) (s : Sl) (ds : List DCut) (q M : Nat) (hl : l.length = n) (hp : a = none → n = 0) (hM : M ≤ 40000) (hsz : ∀ d ∈ ds, (Br d).length ≤ M) (hs : s.n ≤ 1000) (hN : n + 9 + s.n * (M + 9) ≤ 40000) : Meets Tryz.prog 115 [.slice a n c, s.v, .func (.func 204) #[] #[ptr q 0]] [] (fun W => SeesP W a (Aa l) ∧ CutsAt W s ds ∧ W.cell? ⟨q, 0, none⟩ = some (.func (.func 117) #[] #[])) (fun v out => FreshRow v out (Aa (l ++ Ap (UInt64.ofNat s.n) ++ Av Br ds)) 5 (l ++ Ap (UInt64.ofNat s.n) ++ Av Br ds).length 1) := by
 intro W hW
 obtain ⟨rs, hs1⟩ := hW.2.1
 have hnd := hs1.nd
 have hz := A2 s.n
 have hon := A6 (n := s.n) oM
 have hmul : ds.length * (M + 9) = s.n * (M + 9) := by rw [hnd]
 have hle : ∀ k, (l ++ Ap (UInt64.ofNat s.n) ++ Av Br (ds.take k)).length ≤ 40000 := fun k => by
  have := listB_take_le Br M oM ds hsz k
  simp only [List.length_append, Am, hon, hl]
  omega
 refine Ak Tryz.func115 J 26 Tryz.ntmps115 J (G11 ?_)
 rw [Cf (n := s.n) oM]
 refine .call4 J J J J J Body106 (oct_Number a n c l (UInt64.ofNat s.n) hl hp oM) (fun w h => Ao h J hW.1) ?_
 rintro v13 out13 ⟨q1, c1, rfl, hc1, rfl⟩
 have e13 : n + szN (UInt64.ofNat s.n).toNat = (l ++ Ap (UInt64.ofNat s.n) ++ Av Br (ds.take 0)).length := by simp [Av, Am, hl]
 rw [e13] at hc1 ⊢
 refine G12 ?_
 refine .loop (ι := Nat × Nat × Nat) (fun p => ⟨[(0, .slice (some ⟨p.2.1, 0, none⟩) (l ++ Ap (UInt64.ofNat s.n) ++ Av Br (ds.take p.1)).length p.2.2), (2, .func (.func 204) #[] #[ptr q 0]), (14, s.v), (15, i64 (s.n : Int)), (16, i64 (p.1 : Int))], [⟨p.2.1, Aa (l ++ Ap (UInt64.ofNat s.n) ++ Av Br (ds.take p.1)), 5, p.2.2 * 1⟩]⟩) (fun p => p.1 ≤ s.n ∧ (l ++ Ap (UInt64.ofNat s.n) ++ Av Br (ds.take p.1)).length ≤ p.2.2) (fun p => s.n - p.1) ((0, q1, c1)) ?_ ?_ ?_
 · exact ⟨Nat.zero_le _, hc1⟩
 · exact Ag (wk1 rfl (wk1 rfl (wk1 rfl (wk1 rfl (wk1 rfl wk0))))) (wh1 (by simp only [List.take_zero, Av, List.map_nil, List.flatten_nil, List.append_nil]; exact Bw) wh0) nD
 rintro p ⟨hp1, hp2⟩
 refine G6 ?_
 refine .condP J (fun hc0 => ?_) (fun hc0 => ?_)
 ·
  have hk2 : p.1 < s.n := by omega
  obtain ⟨b, o, r, d, hsp, hr, hd, his, hlen, hsee⟩ := hs1.at dE hk2
  refine G6 ?_
  refine .idxSlP 34 J J J hsp J Y25.h Sz53 p.1 J oM (.loadEN r.cells J J J Y53.h J Sz53 sP hlen hsee (.alloc (cs := Cut.zero.cells) J Cut.zr J ?_))
  intro n8 hn8 hf8
  refine .sA J J J J (Cut.isCell (by exact his.ok)) Sz53 (Cut.length (by exact his.ok)) Z0 (Cut.length (by exact Cut.zero_ok)) zU ?_
  refine G5 ?_
  refine .lA J J J Y53.h J Sz53 Z0 (Cut.length (by exact his.ok)) ?_
  refine .call4C J J J J J J Body204 (blk_cut_1 (some ⟨p.2.1, 0, none⟩) (l ++ Ap (UInt64.ofNat s.n) ++ Av Br (ds.take p.1)).length p.2.2 (l ++ Ap (UInt64.ofNat s.n) ++ Av Br (ds.take p.1)) J (fun e => by cases e) (hle _) r d q (Nat.le_trans (hsz d (List.mem_of_getElem? hd)) hM)) (fun w h => ⟨SeesP.of (Ah h Z1), his.ext h J, h.keeps.cell sP hW.2.2⟩) ?_
  rintro v23 out23 ⟨q2, c2, rfl, hq2, rfl⟩
  rw [show l ++ Ap (UInt64.ofNat s.n) ++ Av Br (ds.take p.1) ++ blkB (Br d) = l ++ Ap (UInt64.ofNat s.n) ++ Av Br (ds.take (p.1 + 1)) by rw [listB_step Br hd, ← List.append_assoc]] at hq2 ⊢
  refine G9 ?_
  exact ⟨(p.1 + 1, q2, c2), ⟨by simp only []; omega, hq2⟩, by simp only []; omega, Ag (wk1 rfl (wk1 rfl (wk1 rfl (wk1 rfl (wk1 rfl wk0))))) (wh1 Z0 wh0) nD⟩
 have hpe : p.1 = s.n := by omega
 have hds : ds = ds.take p.1 := by rw [List.take_of_length_le oM]
 refine G13 ?_
 refine ⟨_, [⟨p.2.1, Aa (l ++ Ap (UInt64.ofNat s.n) ++ Av Br ds), 5, p.2.2 * 1⟩], Ac J J, (by intro b hb; rw [List.mem_singleton.1 hb, hds]; simp only [List.take_take, Nat.min_self]; exact Bw), Bu, ⟨p.2.1, p.2.2, by rw [← hds], by rw [← hds] at hp2; exact hp2, rfl⟩⟩
theorem blk_cert_1 (a : Option Addr) (n c : Nat) (l : List UInt8) (hl : l.length = n) (hp : a = none → n = 0) (hn : n ≤ 40000) (X : Cert) (D : DCert) (q : Nat) (hsz : (Bg D).length ≤ 40000) : Meets Tryz.prog 205 [.slice a n c, agg X.cells, ptr q 0] [] (fun W => SeesP W a (Aa l) ∧ CertIs W X D ∧ W.cell? ⟨q, 0, none⟩ = some (.func (.func 30) #[] #[])) (fun v out => FreshRow v out (Aa (l ++ blkB (Bg D))) 5 (l ++ blkB (Bg D)).length 1) := by
 intro W hW
 have hok := hW.2.1.ok
 refine Ak Tryz.func205 J 17 Tryz.ntmps205 J (G3 ?_)
 intro n4 hn4 hf4
 refine G5 ?_
 refine .loadE J J J Tryz.underlying68 J sP (hW.2.2) (G1 ?_)
 refine .call4 J J J J J Body30 (cert_bytes X D) (fun w h => hW.2.1.ext h J) ?_
 rintro v11 out11 ⟨s11, rfl, hac11⟩
 have hnm := hac11.num
 refine G11 ?_
 refine .call4 J J J J J Body121 (oct_Block a s11.p n c s11.n s11.c l (Bg D) hl hnm.symm hp (fun e => hac11.nil e) hn oM) (fun w h => ⟨Ao h J hW.1, hac11.see (Lies.of h (by repeat (exact Ar)))⟩) ?_
 rintro v16 out16 ⟨q16, c16, rfl, hc16, rfl⟩
 have hq16 : n + szN s11.n + s11.n = (l ++ blkB (Bg D)).length := by rw [List.length_append, blkB_length oM, hl, hnm]; omega
 refine G5 ?_
 refine Ai (out := (⟨q16, Aa (l ++ blkB (Bg D)), 5, c16 * 1⟩ :: [])) (Ac J J) (Cg rM (by rw [blkB, hnm, List.append_assoc]) J Ad) ?_
 exact ⟨q16, c16, by rw [hq16], by rw [← hq16]; exact hc16, rfl⟩

theorem mk_blk_cert  : Meets Tryz.prog 119 [.func (.func 30) #[] #[]] [] (fun _ => True) (fun v out => ∃ c, v = .func (.func 205) #[] #[ptr c 0] ∧ out = [⟨c, [.func (.func 30) #[] #[]], 68, 1⟩]) := by
 intro W hW
 refine Ak Tryz.func119 J 4 Tryz.ntmps119 J (G2 ?_)
 refine .box1 J J J ?_
 intro n1 hn1 hf1
 refine G11 ?_
 refine Ai (out := (⟨n1, [.func (.func 30) #[] #[]], 68, 1⟩ :: [])) (Ac J J) (Ab rM Ad) ?_
 exact ⟨n1, rfl, by simp⟩

theorem put_certs (a : Option Addr) (n c : Nat) (l : List UInt8) (s : Sl) (ds : List DCert) (q M : Nat) (hl : l.length = n) (hp : a = none → n = 0) (hM : M ≤ 40000) (hsz : ∀ d ∈ ds, (Bg d).length ≤ M) (hs : s.n ≤ 1000) (hN : n + 9 + s.n * (M + 9) ≤ 40000) : Meets Tryz.prog 118 [.slice a n c, s.v, .func (.func 205) #[] #[ptr q 0]] [] (fun W => SeesP W a (Aa l) ∧ CertsAt W s ds ∧ W.cell? ⟨q, 0, none⟩ = some (.func (.func 30) #[] #[])) (fun v out => FreshRow v out (Aa (l ++ Ap (UInt64.ofNat s.n) ++ Av Bg ds)) 5 (l ++ Ap (UInt64.ofNat s.n) ++ Av Bg ds).length 1) := by
 intro W hW
 obtain ⟨rs, hs1⟩ := hW.2.1
 have hnd := hs1.nd
 have hz := A2 s.n
 have hon := A6 (n := s.n) oM
 have hmul : ds.length * (M + 9) = s.n * (M + 9) := by rw [hnd]
 have hle : ∀ k, (l ++ Ap (UInt64.ofNat s.n) ++ Av Bg (ds.take k)).length ≤ 40000 := fun k => by
  have := listB_take_le Bg M oM ds hsz k
  simp only [List.length_append, Am, hon, hl]
  omega
 refine Ak Tryz.func118 J 26 Tryz.ntmps118 J (G11 ?_)
 rw [Cf (n := s.n) oM]
 refine .call4 J J J J J Body106 (oct_Number a n c l (UInt64.ofNat s.n) hl hp oM) (fun w h => Ao h J hW.1) ?_
 rintro v13 out13 ⟨q1, c1, rfl, hc1, rfl⟩
 have e13 : n + szN (UInt64.ofNat s.n).toNat = (l ++ Ap (UInt64.ofNat s.n) ++ Av Bg (ds.take 0)).length := by simp [Av, Am, hl]
 rw [e13] at hc1 ⊢
 refine G12 ?_
 refine .loop (ι := Nat × Nat × Nat) (fun p => ⟨[(0, .slice (some ⟨p.2.1, 0, none⟩) (l ++ Ap (UInt64.ofNat s.n) ++ Av Bg (ds.take p.1)).length p.2.2), (2, .func (.func 205) #[] #[ptr q 0]), (14, s.v), (15, i64 (s.n : Int)), (16, i64 (p.1 : Int))], [⟨p.2.1, Aa (l ++ Ap (UInt64.ofNat s.n) ++ Av Bg (ds.take p.1)), 5, p.2.2 * 1⟩]⟩) (fun p => p.1 ≤ s.n ∧ (l ++ Ap (UInt64.ofNat s.n) ++ Av Bg (ds.take p.1)).length ≤ p.2.2) (fun p => s.n - p.1) ((0, q1, c1)) ?_ ?_ ?_
 · exact ⟨Nat.zero_le _, hc1⟩
 · exact Ag (wk1 rfl (wk1 rfl (wk1 rfl (wk1 rfl (wk1 rfl wk0))))) (wh1 (by simp only [List.take_zero, Av, List.map_nil, List.flatten_nil, List.append_nil]; exact Bw) wh0) nD
 rintro p ⟨hp1, hp2⟩
 refine G6 ?_
 refine .condP J (fun hc0 => ?_) (fun hc0 => ?_)
 ·
  have hk2 : p.1 < s.n := by omega
  obtain ⟨b, o, r, d, hsp, hr, hd, his, hlen, hsee⟩ := hs1.at dE hk2
  refine G6 ?_
  refine .idxSlP 35 J J J hsp J Y23.h Sz55 p.1 J oM (.loadEN r.cells J J J Y55.h J Sz55 sP hlen hsee (.alloc (cs := Cert.zero.cells) J Cert.zr J ?_))
  intro n8 hn8 hf8
  refine .sA J J J J (Cert.isCell (by exact his.ok)) Sz55 (Cert.length (by exact his.ok)) Z0 (Cert.length (by exact Cert.zero_ok)) zU ?_
  refine G5 ?_
  refine .lA J J J Y55.h J Sz55 Z0 (Cert.length (by exact his.ok)) ?_
  refine .call4C J J J J J J Body205 (blk_cert_1 (some ⟨p.2.1, 0, none⟩) (l ++ Ap (UInt64.ofNat s.n) ++ Av Bg (ds.take p.1)).length p.2.2 (l ++ Ap (UInt64.ofNat s.n) ++ Av Bg (ds.take p.1)) J (fun e => by cases e) (hle _) r d q (Nat.le_trans (hsz d (List.mem_of_getElem? hd)) hM)) (fun w h => ⟨SeesP.of (Ah h Z1), his.ext h J, h.keeps.cell sP hW.2.2⟩) ?_
  rintro v23 out23 ⟨q2, c2, rfl, hq2, rfl⟩
  rw [show l ++ Ap (UInt64.ofNat s.n) ++ Av Bg (ds.take p.1) ++ blkB (Bg d) = l ++ Ap (UInt64.ofNat s.n) ++ Av Bg (ds.take (p.1 + 1)) by rw [listB_step Bg hd, ← List.append_assoc]] at hq2 ⊢
  refine G9 ?_
  exact ⟨(p.1 + 1, q2, c2), ⟨by simp only []; omega, hq2⟩, by simp only []; omega, Ag (wk1 rfl (wk1 rfl (wk1 rfl (wk1 rfl (wk1 rfl wk0))))) (wh1 Z0 wh0) nD⟩
 have hpe : p.1 = s.n := by omega
 have hds : ds = ds.take p.1 := by rw [List.take_of_length_le oM]
 refine G13 ?_
 refine ⟨_, [⟨p.2.1, Aa (l ++ Ap (UInt64.ofNat s.n) ++ Av Bg ds), 5, p.2.2 * 1⟩], Ac J J, (by intro b hb; rw [List.mem_singleton.1 hb, hds]; simp only [List.take_take, Nat.min_self]; exact Bw), Bu, ⟨p.2.1, p.2.2, by rw [← hds], by rw [← hds] at hp2; exact hp2, rfl⟩⟩
def DMsg.has (D : DMsg) (k : Int) : Prop := ¬ andI (Bb D.dKind) k = 0
open Classical in
noncomputable def mB1 (D : DMsg) : List UInt8 := if D.has 1 then [Hw.Ax D.dKind] ++ Ap D.dHeight else [Hw.Ax D.dKind]
open Classical in
noncomputable def mB2 (D : DMsg) : List UInt8 := if D.has 2 then mB1 D ++ Ap (UInt64.ofNat D.dHeads.length) ++ D.dHeads.flatten else mB1 D
open Classical in
noncomputable def mB3 (D : DMsg) : List UInt8 := if D.has 4 then mB2 D ++ Ap (UInt64.ofNat D.dWant.length) ++ D.dWant.flatten else mB2 D
open Classical in
noncomputable def mB4 (D : DMsg) : List UInt8 := if D.has 8 then mB3 D ++ Ap (UInt64.ofNat D.dBlocks.length) ++ Av A9 D.dBlocks else mB3 D
open Classical in
noncomputable def mB5 (D : DMsg) : List UInt8 := if D.has 16 then mB4 D ++ Ap (UInt64.ofNat D.dVotes.length) ++ Av A4 D.dVotes else mB4 D
open Classical in
noncomputable def mB6 (D : DMsg) : List UInt8 := if D.has 32 then mB5 D ++ Ap (UInt64.ofNat D.dCuts.length) ++ Av Br D.dCuts else mB5 D
open Classical in
noncomputable def msgB (D : DMsg) : List UInt8 := if D.has 64 then mB6 D ++ Ap (UInt64.ofNat D.dCerts.length) ++ Av Bg D.dCerts else mB6 D
noncomputable def msgR (D : DMsg) : List UInt8 := if D.check = 0 then msgB D else []
structure DMsg.oks (D : DMsg) : Prop where
  h : ∀ l ∈ D.dHeads, l.length = 32
  w : ∀ l ∈ D.dWant, l.length = 32
  b : ∀ d ∈ D.dBlocks, d.ok
  v : ∀ d ∈ D.dVotes, d.ok
  c : ∀ d ∈ D.dCuts, d.dPrev.length = 32 ∧ ∀ l ∈ d.dHeads, l.length = 32
  e : ∀ d ∈ D.dCerts, (d.dCut.dPrev.length = 32 ∧ ∀ l ∈ d.dCut.dHeads, l.length = 32) ∧ ∀ v ∈ d.dVotes, v.ok
theorem seq_all2 {R D : Type} {cells : R → List Value} {k : Nat} {Is : World → R → D → Prop} {W : World} {s : Sl} {rs : List R} {ds : List D} {P : D → Prop} (h : SeqIs cells k Is W s rs ds) (hp : ∀ r d, Is W r d → P d) : ∀ d ∈ ds, P d := fun d hd => by
  obtain ⟨i, hi⟩ := List.getElem?_of_mem hd
  have h1 : i < rs.length := by rw [h.nr, ← h.nd]; exact (List.getElem?_eq_some_iff.1 hi).1
  exact hp _ d (h.is i _ d (List.getElem?_eq_getElem h1) hi)
theorem msg_oks {W : World} {m : Msg} {D : DMsg} (h : MsgIs W m D) : D.oks := by
  obtain ⟨_, hB⟩ := h.fBlocks
  obtain ⟨_, hE⟩ := h.fCerts
  obtain ⟨_, hV⟩ := h.fVotes
  obtain ⟨_, hC⟩ := h.fCuts
  exact ⟨h.fHeads.row, h.fWant.row, seq_all2 hB fun r d h => h.dok, seqv_ok hV, seq_all2 hC fun r d h => ⟨h.fPrev ▸ h.ok.l_fPrev, h.fHeads.row⟩, seq_all2 hE fun r d h => ⟨⟨h.fCut.fPrev ▸ h.fCut.ok.l_fPrev, h.fCut.fHeads.row⟩, by obtain ⟨_, hv⟩ := h.fVotes; exact seqv_ok hv⟩⟩
structure DMsg.Sizes (D : DMsg) : Prop where
  h : D.dHeads.length ≤ 32
  w : D.dWant.length ≤ 32
  b : D.dBlocks.length ≤ 8
  v : D.dVotes.length ≤ 20
  c : D.dCuts.length ≤ 4
  e : D.dCerts.length ≤ 2
  gb : ∀ d ∈ D.dBlocks, d.check = 0
  gv : ∀ d ∈ D.dVotes, A5 d = 0
  gc : ∀ d ∈ D.dCuts, d.check = 0
  ge : ∀ d ∈ D.dCerts, d.check = 0
  height : D.dHeight.toNat ≤ 4294967295
  part : ¬ Bb D.dKind = 0
  fit : andNotI D.used (Bb D.dKind) = 0
  some : ¬ (¬ D.dKind = 1 ∧ ¬ D.dKind = 2 ∧ D.used = 0)
theorem msg_not_bad {D : DMsg} (h : D.check = 0) : ¬ D.bad := fun hb => by rw [Ce hb] at h; cases h
theorem msg_sizes {D : DMsg} (h : D.check = 0) : D.Sizes := by
  have hb := msg_not_bad h
  unfold DMsg.bad at hb
  simp only [not_or, Classical.not_not] at hb
  obtain ⟨a1, a2, a3, a4, a5, a6, a7, a8, a9, a10, b1, b2, b3, b4⟩ := hb
  rw [List.all_eq_true] at b1 b2 b3 b4
  exact ⟨by omega, by omega, by omega, by omega, by omega, by omega, fun d hd => of_decide_eq_true (b1 d hd), fun d hd => of_decide_eq_true (b2 d hd), fun d hd => of_decide_eq_true (b3 d hd), fun d hd => of_decide_eq_true (b4 d hd), by omega, a1, a3, a10⟩
theorem block_tight {D : DB} (h : D.check = 0) (hd : D.ok) : D.bytes.length ≤ 1200 := by
  have hs := D.head_small h
  have hl1 : (UInt64.ofNat D.ls.length).toNat = D.ls.length := A6 oM
  have hfl := Bf hd.ls (Nat.le_refl D.ls.length)
  rw [List.take_length] at hfl
  have z1 := A2 D.seq.toNat
  have z2 := A2 D.ls.length
  have z3 := A2 D.ds.length
  simp only [DB.bytes, DB.body, List.length_append, Am, hd.w, hd.prev, hd.sg, hfl, hl1, A6 (n := D.ds.length) oM]
  omega
theorem blockBy_tight {D : DB} (hd : D.ok) : (A9 D).length ≤ 1200 := by
  unfold A9
  split
  · rename_i h; exact block_tight h hd
  · simp
theorem cutR_tight {D : DCut} (h : D.dPrev.length = 32 ∧ ∀ l ∈ D.dHeads, l.length = 32) : (Br D).length ≤ 2000 := by
  unfold Br
  split
  · rename_i hc; exact D.bytes_small hc h.1 h.2
  · simp
theorem certBy_tight {D : DCert} (h : (D.dCut.dPrev.length = 32 ∧ ∀ l ∈ D.dCut.dHeads, l.length = 32) ∧ ∀ v ∈ D.dVotes, v.ok) : (Bg D).length ≤ 5000 := by
  unfold Bg
  split
  · rename_i hc
    obtain ⟨h1, h2, h3⟩ := DCert.facts hc
    have hcl := cutR_tight h.1
    have h4 := listB_le A4 164 dE D.dVotes (fun d hd => voteBy_le (h.2 d hd))
    have h5 : D.dVotes.length * (164 + 9) ≤ 16 * (164 + 9) := Nat.mul_le_mul_right _ h3
    have hz := A2 (Br D.dCut).length
    have hz2 := A2 (UInt64.ofNat D.dVotes.length).toNat
    rw [DCert.bytes, List.length_append, List.length_append, blkB_length oM, Am]
    omega
  · simp
structure BSz (D : DMsg) : Prop where
  b1 : (mB1 D).length ≤ 10
  b2 : (mB2 D).length ≤ 1043
  b3 : (mB3 D).length ≤ 2076
  b4 : (mB4 D).length ≤ 11757
  b5 : (mB5 D).length ≤ 15226
  b6 : (mB6 D).length ≤ 23271
  b7 : (msgB D).length ≤ 33298
theorem flat32 {ls : List (List UInt8)} (h : ∀ l ∈ ls, l.length = 32) : ls.flatten.length = ls.length * 32 := by
  have := Bf h (Nat.le_refl ls.length)
  rwa [List.take_length] at this
theorem nb_le (n : Nat) (h : n ≤ 1000) : (Ap (UInt64.ofNat n)).length ≤ 9 := by
  rw [Am]; exact (A2 _).2
theorem msg_bsz {D : DMsg} (s : D.Sizes) (o : D.oks) : BSz D := by
  have b1 : (mB1 D).length ≤ 10 := by
    unfold mB1
    have := (A2 D.dHeight.toNat).2
    split <;> simp [Am] <;> omega
  have b2 : (mB2 D).length ≤ 1043 := by
    unfold mB2
    have h1 := nb_le D.dHeads.length (by have := s.h; omega)
    have h2 := flat32 o.h
    have := s.h
    split
    · simp only [List.length_append]; omega
    · omega
  have b3 : (mB3 D).length ≤ 2076 := by
    unfold mB3
    have h1 := nb_le D.dWant.length (by have := s.w; omega)
    have h2 := flat32 o.w
    have := s.w
    split
    · simp only [List.length_append]; omega
    · omega
  have b4 : (mB4 D).length ≤ 11757 := by
    unfold mB4
    have h1 := nb_le D.dBlocks.length (by have := s.b; omega)
    have h2 := listB_le A9 1200 dE D.dBlocks (fun d hd => blockBy_tight (o.b d hd))
    have h3 : D.dBlocks.length * (1200 + 9) ≤ 8 * 1209 := Nat.mul_le_mul_right _ s.b
    split
    · simp only [List.length_append]; omega
    · omega
  have b5 : (mB5 D).length ≤ 15226 := by
    unfold mB5
    have h1 := nb_le D.dVotes.length (by have := s.v; omega)
    have h2 := listB_le A4 164 dE D.dVotes (fun d hd => voteBy_le (o.v d hd))
    have h3 : D.dVotes.length * (164 + 9) ≤ 20 * 173 := Nat.mul_le_mul_right _ s.v
    split
    · simp only [List.length_append]; omega
    · omega
  have b6 : (mB6 D).length ≤ 23271 := by
    unfold mB6
    have h1 := nb_le D.dCuts.length (by have := s.c; omega)
    have h2 := listB_le Br 2000 dE D.dCuts (fun d hd => cutR_tight (o.c d hd))
    have h3 : D.dCuts.length * (2000 + 9) ≤ 4 * 2009 := Nat.mul_le_mul_right _ s.c
    split
    · simp only [List.length_append]; omega
    · omega
  refine ⟨b1, b2, b3, b4, b5, b6, ?_⟩
  unfold msgB
  have h1 := nb_le D.dCerts.length (by have := s.e; omega)
  have h2 := listB_le Bg 5000 dE D.dCerts (fun d hd => certBy_tight (o.e d hd))
  have h3 : D.dCerts.length * (5000 + 9) ≤ 2 * 5009 := Nat.mul_le_mul_right _ s.e
  split
  · simp only [List.length_append]; omega
  · omega

theorem msg_bytes (m : Msg) (D : DMsg) : Meets Tryz.prog 28 [agg m.cells] [] (fun W => MsgIs W m D) (fun v out => ∃ s, v = .tuple #[s.v, i64 D.check] ∧ Hw.Acc s out (Aa (msgR D)) 5 (msgR D).length 1) := by
  intro W hW
  have hok := hW.ok
  have hl := hW.len
  have hoks := msg_oks hW
  refine Ak Tryz.func28 J 73 Tryz.ntmps28 J (G3 ?_)
  intro n1 hn1 hf1
  refine G8 ?_
  refine .cV J J J J Body34 (msg_check m D) (fun w h => hW.ext h J) (G9 ?_)
  refine .condNP J (fun hc0 => ?_) (fun hc0 => ?_)
  ·
    refine G10 ?_
    refine Ai (out := []) (A7 J J J) Ad ?_
    exact ⟨Sl.nil, rfl, by rw [show msgR D = [] from if_neg hc0]; exact Acc.none⟩
  have hz := msg_sizes hc0
  have hbz := msg_bsz hz hoks
  obtain ⟨z1, z2, z3, z4, z5, z6, z7⟩ := hbz
  have y1 := hz.h
  have y2 := hz.w
  have y3 := hz.b
  have y4 := hz.v
  have y5 := hz.c
  have y6 := hz.e
  have k1 := hl.heads
  have k2 := hl.want
  have k3 := hl.blocks
  have k4 := hl.votes
  have k5 := hl.cuts
  have k6 := hl.certs
  refine G6 ?_
  refine .cV J J J J Body93 (sync_parts m.fKind) tV (G8 ?_)
  rw [hW.fKind]
  refine .mkRow (z := u8 0) [u8 (Hw.Ax D.dKind)] (Aa [Hw.Ax D.dKind]) J J J Y58.h Sz5 Zr5 J J (by intro v hv; rw [List.mem_singleton.1 hv]; rfl) dE J ?_
  intro q18
  refine G3 ?_
  refine .join (ι := Nat × Nat) (fun p1 => ⟨[(1, ptr n1 0), (5, i64 (Bb D.dKind)), (6, .slice (some ⟨p1.1, 0, none⟩) (mB1 D).length p1.2)], [⟨n1, m.cells, 57, m.cells.length⟩, ⟨p1.1, Aa (mB1 D), 5, p1.2 * 1⟩]⟩) (fun p1 => (mB1 D).length ≤ p1.2) ?_ ?_
  ·
    refine G7 ?_
    refine .condNP J (fun hc1 => ?_) (fun hc1 => ?_)
    ·
      have hb1 : D.has 1 := hc1
      refine G4 ?_
      refine .call4 J J J J J Body106 (oct_Number (some ⟨q18, 0, none⟩) 1 1 [Hw.Ax D.dKind] m.fHeight J (fun e => by cases e) dE) (fun w h => SeesP.of (Ah h Z0)) ?_
      rintro v25 out25 ⟨q25, c25, rfl, hc25_, rfl⟩
      rw [hW.fHeight] at hc25_ ⊢
      have hE1 : [Hw.Ax D.dKind] ++ Ap D.dHeight = mB1 D := (if_pos hb1).symm
      have hN1 : 1 + szN D.dHeight.toNat = (mB1 D).length := by rw [← hE1]; simp only [List.length_append, Am, List.length_singleton]
      rw [hN1] at hc25_ ⊢
      rw [hE1]
      refine G3 ?_
      first
        | (have hN : mB1 D = [Hw.Ax D.dKind] := if_neg (fun h => h hc1)
           simp only [hN]
           exact ⟨(q18, 1), Nat.le_refl 1, Ae (wk1 rfl (wk1 rfl (wk1 rfl wk0))) (Ab rM (Ab rM Ad))⟩)
        | (try simp only [List.cons_append, List.nil_append, List.append_nil]
           exact ⟨(q25, c25), hc25_, Ae (wk1 rfl (wk1 rfl (wk1 rfl wk0))) (Ab rM (Ab rM Ad))⟩)
    refine G2 ?_
    first
      | (have hN : mB1 D = [Hw.Ax D.dKind] := if_neg (fun h => h hc1)
         simp only [hN]
         exact ⟨(q18, 1), Nat.le_refl 1, Ae (wk1 rfl (wk1 rfl (wk1 rfl wk0))) (Ab rM (Ab rM Ad))⟩)
      | (try simp only [List.cons_append, List.nil_append, List.append_nil]
         exact ⟨(q25, c25), hc25_, Ae (wk1 rfl (wk1 rfl (wk1 rfl wk0))) (Ab rM (Ab rM Ad))⟩)
  intro p1 hj
  have hp1 := hj
  refine .join (ι := Nat × Nat) (fun p2 => ⟨[(1, ptr n1 0), (5, i64 (Bb D.dKind)), (6, .slice (some ⟨p2.1, 0, none⟩) (mB2 D).length p2.2)], [⟨n1, m.cells, 57, m.cells.length⟩, ⟨p2.1, Aa (mB2 D), 5, p2.2 * 1⟩]⟩) (fun p2 => (mB2 D).length ≤ p2.2) ?_ ?_
  ·
    refine G7 ?_
    refine .condNP J (fun hc2 => ?_) (fun hc2 => ?_)
    ·
      have hb2 : D.has 2 := hc2
      refine G4 ?_
      refine .call4 J J J J J Body107 (put_digests (some ⟨p1.1, 0, none⟩) (mB1 D).length p1.2 (mB1 D) m.fHeads D.dHeads J (fun e => by cases e) oM oM) (fun w h => ⟨SeesP.of (Ah h Z1), rows_ext h J hW.fHeads⟩) ?_
      rintro v32 out32 ⟨q32, c32, rfl, hc32_, rfl⟩
      rw [hl.heads] at hc32_ ⊢
      have hE2 : mB1 D ++ Ap (UInt64.ofNat D.dHeads.length) ++ D.dHeads.flatten = mB2 D := (if_pos hb2).symm
      have hN2 : (mB1 D).length + szN D.dHeads.length + D.dHeads.length * 32 = (mB2 D).length := by rw [← hE2]; simp only [List.length_append, Am, flat32 hoks.h, A6 (n := D.dHeads.length) oM]
      rw [hN2] at hc32_ ⊢
      rw [hE2]
      refine G3 ?_
      first
        | (have hN : mB2 D = mB1 D := if_neg (fun h => h hc2)
           simp only [hN]
           exact ⟨p1, hp1, Ae (wk1 rfl (wk1 rfl (wk1 rfl wk0))) (Ab rM (Ab rM Ad))⟩)
        | (try simp only [List.cons_append, List.nil_append, List.append_nil]
           exact ⟨(q32, c32), hc32_, Ae (wk1 rfl (wk1 rfl (wk1 rfl wk0))) (Ab rM (Ab rM Ad))⟩)
    refine G2 ?_
    first
      | (have hN : mB2 D = mB1 D := if_neg (fun h => h hc2)
         simp only [hN]
         exact ⟨p1, hp1, Ae (wk1 rfl (wk1 rfl (wk1 rfl wk0))) (Ab rM (Ab rM Ad))⟩)
      | (try simp only [List.cons_append, List.nil_append, List.append_nil]
         exact ⟨(q32, c32), hc32_, Ae (wk1 rfl (wk1 rfl (wk1 rfl wk0))) (Ab rM (Ab rM Ad))⟩)
  intro p2 hj
  have hp2 := hj
  refine .join (ι := Nat × Nat) (fun p3 => ⟨[(1, ptr n1 0), (5, i64 (Bb D.dKind)), (6, .slice (some ⟨p3.1, 0, none⟩) (mB3 D).length p3.2)], [⟨n1, m.cells, 57, m.cells.length⟩, ⟨p3.1, Aa (mB3 D), 5, p3.2 * 1⟩]⟩) (fun p3 => (mB3 D).length ≤ p3.2) ?_ ?_
  ·
    refine G7 ?_
    refine .condNP J (fun hc3 => ?_) (fun hc3 => ?_)
    ·
      have hb3 : D.has 4 := hc3
      refine G4 ?_
      refine .call4 J J J J J Body107 (put_digests (some ⟨p2.1, 0, none⟩) (mB2 D).length p2.2 (mB2 D) m.fWant D.dWant J (fun e => by cases e) oM oM) (fun w h => ⟨SeesP.of (Ah h Z1), rows_ext h J hW.fWant⟩) ?_
      rintro v39 out39 ⟨q39, c39, rfl, hc39_, rfl⟩
      rw [hl.want] at hc39_ ⊢
      have hE3 : mB2 D ++ Ap (UInt64.ofNat D.dWant.length) ++ D.dWant.flatten = mB3 D := (if_pos hb3).symm
      have hN3 : (mB2 D).length + szN D.dWant.length + D.dWant.length * 32 = (mB3 D).length := by rw [← hE3]; simp only [List.length_append, Am, flat32 hoks.w, A6 (n := D.dWant.length) oM]
      rw [hN3] at hc39_ ⊢
      rw [hE3]
      refine G3 ?_
      first
        | (have hN : mB3 D = mB2 D := if_neg (fun h => h hc3)
           simp only [hN]
           exact ⟨p2, hp2, Ae (wk1 rfl (wk1 rfl (wk1 rfl wk0))) (Ab rM (Ab rM Ad))⟩)
        | (try simp only [List.cons_append, List.nil_append, List.append_nil]
           exact ⟨(q39, c39), hc39_, Ae (wk1 rfl (wk1 rfl (wk1 rfl wk0))) (Ab rM (Ab rM Ad))⟩)
    refine G2 ?_
    first
      | (have hN : mB3 D = mB2 D := if_neg (fun h => h hc3)
         simp only [hN]
         exact ⟨p2, hp2, Ae (wk1 rfl (wk1 rfl (wk1 rfl wk0))) (Ab rM (Ab rM Ad))⟩)
      | (try simp only [List.cons_append, List.nil_append, List.append_nil]
         exact ⟨(q39, c39), hc39_, Ae (wk1 rfl (wk1 rfl (wk1 rfl wk0))) (Ab rM (Ab rM Ad))⟩)
  intro p3 hj
  have hp3 := hj
  refine .join (ι := Nat × Nat) (fun p4 => ⟨[(1, ptr n1 0), (5, i64 (Bb D.dKind)), (6, .slice (some ⟨p4.1, 0, none⟩) (mB4 D).length p4.2)], [⟨n1, m.cells, 57, m.cells.length⟩, ⟨p4.1, Aa (mB4 D), 5, p4.2 * 1⟩]⟩) (fun p4 => (mB4 D).length ≤ p4.2) ?_ ?_
  ·
    refine G7 ?_
    refine .condNP J (fun hc4 => ?_) (fun hc4 => ?_)
    ·
      have hb4 : D.has 8 := hc4
      refine .withK (sp_k (sp_v sp_n)) J (.draw [(0, 0), (0, 1), (0, 2), (4, 3), (4, 4), (0, 5)] Be zK (G2 ?_))
      refine .kload1 J J J Y22.h J Z0 (by exact Msg.get_fBlocks zA) ?_
      refine .call4 J J J J J Body110 (mk_blk_block) tV ?_
      rintro v46 out46 ⟨c46, rfl, rfl⟩
      refine .call4 J J J J J Body109 (put_blocks (some ⟨p3.1, 0, none⟩) (mB3 D).length p3.2 (mB3 D) m.fBlocks D.dBlocks c46 1200 J (fun e => by cases e) dE (fun d hd => blockBy_tight (hoks.b d hd)) oM oM) (fun w h => ⟨SeesP.of (Ah (cs := Aa (mB3 D)) h Z1), Blocks_ext h J hW.fBlocks, (Af (B := ⟨c46, _, _, _⟩) h Z0).cell (o := 0) J⟩) ?_
      rintro v47 out47 ⟨q47, c47, rfl, hc47_, rfl⟩
      rw [hl.blocks] at hc47_ ⊢
      have hE4 : mB3 D ++ Ap (UInt64.ofNat D.dBlocks.length) ++ Av A9 D.dBlocks = mB4 D := (if_pos hb4).symm
      rw [hE4] at hc47_ ⊢
      refine G3 ?_
      first
        | (have hN : mB4 D = mB3 D := if_neg (fun h => h hc4)
           simp only [hN]
           exact ⟨p3, hp3, Ae (wk1 rfl (wk1 rfl (wk1 rfl wk0))) (Ab rM (Ab rM Ad))⟩)
        | (try simp only [List.cons_append, List.nil_append, List.append_nil]
           exact ⟨(q47, c47), hc47_, Ae (wk1 rfl (wk1 rfl (wk1 rfl wk0))) (Ab rM (Ab rM Ad))⟩)
    refine G2 ?_
    first
      | (have hN : mB4 D = mB3 D := if_neg (fun h => h hc4)
         simp only [hN]
         exact ⟨p3, hp3, Ae (wk1 rfl (wk1 rfl (wk1 rfl wk0))) (Ab rM (Ab rM Ad))⟩)
      | (try simp only [List.cons_append, List.nil_append, List.append_nil]
         exact ⟨(q47, c47), hc47_, Ae (wk1 rfl (wk1 rfl (wk1 rfl wk0))) (Ab rM (Ab rM Ad))⟩)
  intro p4 hj
  have hp4 := hj
  refine .join (ι := Nat × Nat) (fun p5 => ⟨[(1, ptr n1 0), (5, i64 (Bb D.dKind)), (6, .slice (some ⟨p5.1, 0, none⟩) (mB5 D).length p5.2)], [⟨n1, m.cells, 57, m.cells.length⟩, ⟨p5.1, Aa (mB5 D), 5, p5.2 * 1⟩]⟩) (fun p5 => (mB5 D).length ≤ p5.2) ?_ ?_
  ·
    refine G7 ?_
    refine .condNP J (fun hc5 => ?_) (fun hc5 => ?_)
    ·
      have hb5 : D.has 16 := hc5
      refine .withK (sp_k (sp_v sp_n)) J (.draw [(0, 0), (0, 1), (0, 2), (4, 3), (4, 4), (0, 5)] Be zK (G2 ?_))
      refine .kload1 J J J Y24.h J Z0 (by exact Msg.get_fVotes zA) ?_
      refine .call4 J J J J J Body113 (mk_blk_vote) tV ?_
      rintro v54 out54 ⟨c54, rfl, rfl⟩
      refine .call4 J J J J J Body112 (put_votes (some ⟨p4.1, 0, none⟩) (mB4 D).length p4.2 (mB4 D) m.fVotes D.dVotes c54 164 J (fun e => by cases e) dE (fun d hd => voteBy_le (hoks.v d hd)) oM oM) (fun w h => ⟨SeesP.of (Ah (cs := Aa (mB4 D)) h Z1), Cn h J hW.fVotes, (Af (B := ⟨c54, _, _, _⟩) h Z0).cell (o := 0) J⟩) ?_
      rintro v55 out55 ⟨q55, c55, rfl, hc55_, rfl⟩
      rw [hl.votes] at hc55_ ⊢
      have hE5 : mB4 D ++ Ap (UInt64.ofNat D.dVotes.length) ++ Av A4 D.dVotes = mB5 D := (if_pos hb5).symm
      rw [hE5] at hc55_ ⊢
      refine G3 ?_
      first
        | (have hN : mB5 D = mB4 D := if_neg (fun h => h hc5)
           simp only [hN]
           exact ⟨p4, hp4, Ae (wk1 rfl (wk1 rfl (wk1 rfl wk0))) (Ab rM (Ab rM Ad))⟩)
        | (try simp only [List.cons_append, List.nil_append, List.append_nil]
           exact ⟨(q55, c55), hc55_, Ae (wk1 rfl (wk1 rfl (wk1 rfl wk0))) (Ab rM (Ab rM Ad))⟩)
    refine G2 ?_
    first
      | (have hN : mB5 D = mB4 D := if_neg (fun h => h hc5)
         simp only [hN]
         exact ⟨p4, hp4, Ae (wk1 rfl (wk1 rfl (wk1 rfl wk0))) (Ab rM (Ab rM Ad))⟩)
      | (try simp only [List.cons_append, List.nil_append, List.append_nil]
         exact ⟨(q55, c55), hc55_, Ae (wk1 rfl (wk1 rfl (wk1 rfl wk0))) (Ab rM (Ab rM Ad))⟩)
  intro p5 hj
  have hp5 := hj
  refine .join (ι := Nat × Nat) (fun p6 => ⟨[(1, ptr n1 0), (5, i64 (Bb D.dKind)), (6, .slice (some ⟨p6.1, 0, none⟩) (mB6 D).length p6.2)], [⟨n1, m.cells, 57, m.cells.length⟩, ⟨p6.1, Aa (mB6 D), 5, p6.2 * 1⟩]⟩) (fun p6 => (mB6 D).length ≤ p6.2) ?_ ?_
  ·
    refine G7 ?_
    refine .condNP J (fun hc6 => ?_) (fun hc6 => ?_)
    ·
      have hb6 : D.has 32 := hc6
      refine .withK (sp_k (sp_v sp_n)) J (.draw [(0, 0), (0, 1), (0, 2), (4, 3), (4, 4), (0, 5)] Be zK (G2 ?_))
      refine .kload1 J J J Y25.h J Z0 (by exact Msg.get_fCuts zA) ?_
      refine .call4 J J J J J Body116 (mk_blk_cut) tV ?_
      rintro v62 out62 ⟨c62, rfl, rfl⟩
      refine .call4 J J J J J Body115 (put_cuts (some ⟨p5.1, 0, none⟩) (mB5 D).length p5.2 (mB5 D) m.fCuts D.dCuts c62 2000 J (fun e => by cases e) dE (fun d hd => cutR_tight (hoks.c d hd)) oM oM) (fun w h => ⟨SeesP.of (Ah (cs := Aa (mB5 D)) h Z1), Cuts_ext h J hW.fCuts, (Af (B := ⟨c62, _, _, _⟩) h Z0).cell (o := 0) J⟩) ?_
      rintro v63 out63 ⟨q63, c63, rfl, hc63_, rfl⟩
      rw [hl.cuts] at hc63_ ⊢
      have hE6 : mB5 D ++ Ap (UInt64.ofNat D.dCuts.length) ++ Av Br D.dCuts = mB6 D := (if_pos hb6).symm
      rw [hE6] at hc63_ ⊢
      refine G3 ?_
      first
        | (have hN : mB6 D = mB5 D := if_neg (fun h => h hc6)
           simp only [hN]
           exact ⟨p5, hp5, Ae (wk1 rfl (wk1 rfl (wk1 rfl wk0))) (Ab rM (Ab rM Ad))⟩)
        | (try simp only [List.cons_append, List.nil_append, List.append_nil]
           exact ⟨(q63, c63), hc63_, Ae (wk1 rfl (wk1 rfl (wk1 rfl wk0))) (Ab rM (Ab rM Ad))⟩)
    refine G2 ?_
    first
      | (have hN : mB6 D = mB5 D := if_neg (fun h => h hc6)
         simp only [hN]
         exact ⟨p5, hp5, Ae (wk1 rfl (wk1 rfl (wk1 rfl wk0))) (Ab rM (Ab rM Ad))⟩)
      | (try simp only [List.cons_append, List.nil_append, List.append_nil]
         exact ⟨(q63, c63), hc63_, Ae (wk1 rfl (wk1 rfl (wk1 rfl wk0))) (Ab rM (Ab rM Ad))⟩)
  intro p6 hj
  have hp6 := hj
  refine .join (ι := Nat × Nat) (fun p7 => ⟨[(1, ptr n1 0), (5, i64 (Bb D.dKind)), (6, .slice (some ⟨p7.1, 0, none⟩) (msgB D).length p7.2)], [⟨n1, m.cells, 57, m.cells.length⟩, ⟨p7.1, Aa (msgB D), 5, p7.2 * 1⟩]⟩) (fun p7 => (msgB D).length ≤ p7.2) ?_ ?_
  ·
    refine G7 ?_
    refine .condNP J (fun hc7 => ?_) (fun hc7 => ?_)
    ·
      have hb7 : D.has 64 := hc7
      refine .withK (sp_k (sp_v sp_n)) J (.draw [(0, 0), (0, 1), (0, 2), (4, 3), (4, 4), (0, 5)] Be zK (G2 ?_))
      refine .kload1 J J J Y23.h J Z0 (by exact Msg.get_fCerts zA) ?_
      refine .call4 J J J J J Body119 (mk_blk_cert) tV ?_
      rintro v70 out70 ⟨c70, rfl, rfl⟩
      refine .call4 J J J J J Body118 (put_certs (some ⟨p6.1, 0, none⟩) (mB6 D).length p6.2 (mB6 D) m.fCerts D.dCerts c70 5000 J (fun e => by cases e) dE (fun d hd => certBy_tight (hoks.e d hd)) oM oM) (fun w h => ⟨SeesP.of (Ah (cs := Aa (mB6 D)) h Z1), Certs_ext h J hW.fCerts, (Af (B := ⟨c70, _, _, _⟩) h Z0).cell (o := 0) J⟩) ?_
      rintro v71 out71 ⟨q71, c71, rfl, hc71_, rfl⟩
      rw [hl.certs] at hc71_ ⊢
      have hE7 : mB6 D ++ Ap (UInt64.ofNat D.dCerts.length) ++ Av Bg D.dCerts = msgB D := (if_pos hb7).symm
      rw [hE7] at hc71_ ⊢
      refine G3 ?_
      first
        | (have hN : msgB D = mB6 D := if_neg (fun h => h hc7)
           simp only [hN]
           exact ⟨p6, hp6, Ae (wk1 rfl (wk1 rfl (wk1 rfl wk0))) (Ab rM (Ab rM Ad))⟩)
        | (try simp only [List.cons_append, List.nil_append, List.append_nil]
           exact ⟨(q71, c71), hc71_, Ae (wk1 rfl (wk1 rfl (wk1 rfl wk0))) (Ab rM (Ab rM Ad))⟩)
    refine G2 ?_
    first
      | (have hN : msgB D = mB6 D := if_neg (fun h => h hc7)
         simp only [hN]
         exact ⟨p6, hp6, Ae (wk1 rfl (wk1 rfl (wk1 rfl wk0))) (Ab rM (Ab rM Ad))⟩)
      | (try simp only [List.cons_append, List.nil_append, List.append_nil]
         exact ⟨(q71, c71), hc71_, Ae (wk1 rfl (wk1 rfl (wk1 rfl wk0))) (Ab rM (Ab rM Ad))⟩)
  intro p7 hj
  have hp7 := hj
  refine G9 ?_
  refine Ai (out := (⟨p7.1, Aa (msgB D), 5, p7.2 * 1⟩ :: [])) (A7 J J J) (Ab rM Ad) ?_
  refine ⟨⟨some ⟨p7.1, 0, none⟩, (msgB D).length, p7.2⟩, (by rw [hc0]; try rfl), ?_⟩
  rw [show msgR D = msgB D from if_pos hc0]
  exact Acc.some hp7 (by rw [Aa, List.length_map, Nat.mul_one])
end Go.Proofs.YtdifpjmfabhpiaaGreat
end

section
namespace Go.Proofs.YtdifpjmfabhpiaaGreat
open Go Hw

theorem oct_clamp1  : Meets Tryz.prog 188 [i64 1] [] (fun _ => True) (fun v out => v = i64 1 ∧ out = []) := by
 intro W hW
 refine Ak Tryz.func188 J 6 Tryz.ntmps188 J (G8 ?_)
 refine .min2 J J J J (rfl) (.max2 J J J J (rfl) (G5 ?_))
 refine ⟨_, [], Ac J J, sP, sP, ?_, rfl⟩
 rfl

def wordR (xs : List UInt8) (a : Nat) (e : Int) : UInt64 × Nat × Int :=
  if ¬ e = 0 then (0, a, e) else if xs.length < a + 1 then (0, a, 5) else ((xs.getD a 0).toUInt64, a + 1, 0)
theorem shl_none (x : UInt64) : 0 ||| shl64 x 0 = x := by
  apply UInt64.toNat_inj.1
  rw [UInt64.toNat_or]
  simp [shl64]

theorem rd_word_err (n q N cp at' : Nat) (e : Int) (xs : List UInt8) (hx : xs.length = N) (hat : at' ≤ N) (hN : N ≤ cp) (hbig : N ≤ 1000000) (he : ¬ e = 0) : Meets Tryz.prog 92 [ptr n 0, i64 1] [n] (fun W => BlkOk W (RB n q N cp (at') (e)) ∧ Bs W q 0 (Aa xs) ∧ q ≠ n) (fun v out => v = u64 0 ∧ out = [RB n q N cp (at') (e)]) := by
 intro W hW
 refine A3 (hp0 := [RB n q N cp (at') (e)]) Tryz.func92 J 36 Tryz.ntmps92 J (HRep.one hW.1) (G2 ?_)
 refine .a J J (show Al _ _ = some (u64 0) from rfl) (G6 ?_)
 refine .cV J J J J Body188 (oct_clamp1) tV (G1 ?_)
 rw [show Bd 1 = 1 from rfl]
 refine .callL (L := [RB n q N cp (at') (e)]) J J J J J Body187 (rd_take_err n q N cp at' e 1 hat hN hbig he) Aq lO (fun w h => Af h Z0) ?_
 rintro v2 out2 ⟨rfl, rfl⟩
 refine G14 ?_
 refine .cond_t J (rfl) (G2 ?_)
 refine .a J J (show Al _ _ = some (u64 0) from rfl) (G5 ?_)
 refine ⟨_, [RB n q N cp (at') (e)], Ac J J, (by intro b hb; rw [List.mem_singleton.1 hb]; exact Bw), Bu, ?_⟩
 exact ⟨rfl, rfl⟩

theorem rd_word_more (n q N cp at' : Nat) (xs : List UInt8) (hx : xs.length = N) (hat : at' ≤ N) (hN : N ≤ cp) (hbig : N ≤ 1000000) (hk : N < at' + 1) : Meets Tryz.prog 92 [ptr n 0, i64 1] [n] (fun W => BlkOk W (RB n q N cp (at') (0)) ∧ Bs W q 0 (Aa xs) ∧ q ≠ n) (fun v out => v = u64 0 ∧ out = [RB n q N cp (at') (5)]) := by
 intro W hW
 refine A3 (hp0 := [RB n q N cp (at') (0)]) Tryz.func92 J 36 Tryz.ntmps92 J (HRep.one hW.1) (G2 ?_)
 refine .a J J (show Al _ _ = some (u64 0) from rfl) (G6 ?_)
 refine .cV J J J J Body188 (oct_clamp1) tV (G1 ?_)
 rw [show Bd 1 = 1 from rfl]
 refine .callL (L := [RB n q N cp (at') (0)]) J J J J J Body187 (rd_take_more n q N cp at' 1 hat hN hbig hk) Aq lO (fun w h => Af h Z0) ?_
 rintro v2 out2 ⟨rfl, rfl⟩
 refine G14 ?_
 refine .cond_t J (rfl) (G2 ?_)
 refine .a J J (show Al _ _ = some (u64 0) from rfl) (G5 ?_)
 refine ⟨_, [RB n q N cp (at') (5)], Ac J J, (by intro b hb; rw [List.mem_singleton.1 hb]; exact Bw), Bu, ?_⟩
 exact ⟨rfl, rfl⟩

theorem rd_word_ok (n q N cp at' : Nat) (xs : List UInt8) (hx : xs.length = N) (hat : at' ≤ N) (hN : N ≤ cp) (hbig : N ≤ 1000000) (hk : at' + 1 ≤ N) : Meets Tryz.prog 92 [ptr n 0, i64 1] [n] (fun W => BlkOk W (RB n q N cp (at') (0)) ∧ Bs W q 0 (Aa xs) ∧ q ≠ n) (fun v out => v = u64 (xs.getD at' 0).toUInt64 ∧ out = [RB n q N cp (at' + 1) (0)]) := by
 intro W hW
 refine A3 (hp0 := [RB n q N cp (at') (0)]) Tryz.func92 J 36 Tryz.ntmps92 J (HRep.one hW.1) (G2 ?_)
 refine .a J J (show Al _ _ = some (u64 0) from rfl) (G6 ?_)
 refine .cV J J J J Body188 (oct_clamp1) tV (G1 ?_)
 rw [show Bd 1 = 1 from rfl]
 refine .callL (L := [RB n q N cp (at') (0)]) J J J J J Body187 (rd_take_pos n q N cp at' 1 hN hbig hk dE) Aq lO (fun w h => Af h Z0) ?_
 rintro v2 out2 ⟨rfl, rfl⟩
 refine G14 ?_
 refine .cond_f J (rfl) (G4 ?_)
 refine .a J J (show Al _ _ = some (u64 0) from rfl) (G11 ?_)
 refine .rounds 2 (SRounds.more (G6 ?_))
 refine .cond_t J dE (G7 ?_)
 refine .idxSlP 1 J J J J J Y58.h Sz5 0 J dE (.loadE J J J Y5.h J (by (simp; exact hW.2.2)) ((by have h9 := hW.2.1 at' _ (Ca oM); rw [Nat.zero_add] at h9; exact h9)) ?_)
 refine G9 ?_
 refine .mul_i64 J J J J oM (.shl_u64 J J J J 0 J dE (G9 ?_))
 refine at_n (SRounds.more (G6 ?_))
 refine .cond_f J dE (G13 ?_)
 refine ⟨_, [RB n q N cp (at' + 1) (0)], Ac J J, (by intro b hb; rw [List.mem_singleton.1 hb]; exact Bw), Bu, ?_⟩
 exact ⟨congrArg u64 (shl_none _), rfl⟩


def itR {D : Type} (f : List UInt8 → D × Int) (xs : List UInt8) : Nat → Nat → Int → Option (List D × Nat × Int)
  | 0, a, e => some ([], a, e)
  | k + 1, a, e => (itR f xs k a e).bind fun r => if (f ((blkR xs r.2.1 r.2.2).1.getD [])).2 = 0 ∧ (blkR xs r.2.1 r.2.2).2.2 = 0 then some (r.1 ++ [(f ((blkR xs r.2.1 r.2.2).1.getD [])).1], (blkR xs r.2.1 r.2.2).2) else none
def Cs {D : Type} (f : List UInt8 → D × Int) (xs : List UInt8) (M a : Nat) (e : Int) : Option (List D × Nat × Int) :=
  if (A0 xs a e).2.2 = 0 ∧ (A0 xs a e).1.toNat ≤ M then itR f xs (A0 xs a e).1.toNat (A0 xs a e).2.1 (A0 xs a e).2.2 else none
theorem itR_step {D : Type} {f : List UInt8 → D × Int} {xs : List UInt8} {k a : Nat} {e : Int} {vs : List D} {a2 a3 : Nat} {e2 e3 : Int} {o : Option (List UInt8)} (h : itR f xs k a e = some (vs, a2, e2)) (hb : blkR xs a2 e2 = (o, a3, e3)) (h1 : (f (o.getD [])).2 = 0) (h2 : e3 = 0) : itR f xs (k + 1) a e = some (vs ++ [(f (o.getD [])).1], a3, e3) := by
  rw [itR, h, Option.bind_some]
  simp only [hb]
  rw [if_pos ⟨h1, h2⟩]
theorem itR_stop {D : Type} {f : List UInt8 → D × Int} {xs : List UInt8} {k a : Nat} {e : Int} {vs : List D} {a2 a3 : Nat} {e2 e3 : Int} {o : Option (List UInt8)} (h : itR f xs k a e = some (vs, a2, e2)) (hb : blkR xs a2 e2 = (o, a3, e3)) (h1 : ¬ ((f (o.getD [])).2 = 0 ∧ e3 = 0)) : ∀ m, k < m → itR f xs m a e = none
  | 0, hm => absurd hm oM
  | m + 1, hm => by
    rcases Nat.lt_succ_iff_lt_or_eq.1 hm with h3 | rfl
    · rw [itR, itR_stop h hb h1 m h3]; rfl
    · rw [itR, h, Option.bind_some]
      simp only [hb]
      rw [if_neg h1]
theorem votesR_it {xs : List UInt8} {a : Nat} {e : Int} : ∀ k, votesR xs k a e = itR Bi xs k a e
  | 0 => rfl
  | k + 1 => by rw [votesR, itR, votesR_it k]
theorem readVL_is (xs : List UInt8) (M a : Nat) (e : Int) : readVL xs M a e = Cs Bi xs M a e := by
  unfold readVL Cs
  rw [votesR_it]
def dgR (xs : List UInt8) : Nat → Nat → Int → Option (List (List UInt8) × Nat × Int)
  | 0, a, e => some ([], a, e)
  | k + 1, a, e => (dgR xs k a e).bind fun r => if (Cl xs r.2.1 r.2.2).2.2 = 0 then some (r.1 ++ [(Cl xs r.2.1 r.2.2).1], (Cl xs r.2.1 r.2.2).2) else none
def B9 (xs : List UInt8) (M a : Nat) (e : Int) : Option (List (List UInt8) × Nat × Int) :=
  if (A0 xs a e).2.2 = 0 ∧ (A0 xs a e).1.toNat ≤ M then dgR xs (A0 xs a e).1.toNat (A0 xs a e).2.1 (A0 xs a e).2.2 else none
theorem dgR_step {xs : List UInt8} {k a : Nat} {e : Int} {vs : List (List UInt8)} {a2 a3 : Nat} {e2 e3 : Int} {l : List UInt8} (h : dgR xs k a e = some (vs, a2, e2)) (hb : Cl xs a2 e2 = (l, a3, e3)) (h2 : e3 = 0) : dgR xs (k + 1) a e = some (vs ++ [l], a3, e3) := by
  rw [dgR, h, Option.bind_some]
  simp only [hb]
  rw [if_pos h2]
theorem dgR_stop {xs : List UInt8} {k a : Nat} {e : Int} {vs : List (List UInt8)} {a2 a3 : Nat} {e2 e3 : Int} {l : List UInt8} (h : dgR xs k a e = some (vs, a2, e2)) (hb : Cl xs a2 e2 = (l, a3, e3)) (h1 : ¬ e3 = 0) : ∀ m, k < m → dgR xs m a e = none
  | 0, hm => absurd hm oM
  | m + 1, hm => by
    rcases Nat.lt_succ_iff_lt_or_eq.1 hm with h3 | rfl
    · rw [dgR, dgR_stop h hb h1 m h3]; rfl
    · rw [dgR, h, Option.bind_some]
      simp only [hb]
      rw [if_neg h1]
theorem no_lie1 {n : Nat} {v : Value} {T : TypeId} {W : World} (h : Lies [⟨n, [v], T, 0⟩] W) : False := by
  obtain ⟨full, fr, hb⟩ := h _ (List.mem_singleton.2 rfl)
  have h1 := hb.pre.length_le
  have h2 := hb.size
  simp at h1
  simp only at h2
  omega
theorem made_loose {R : Type} {F : World → R → Prop} {ok : R → Prop} {g : R → Value} (X0 : R) (h0 : ok X0) : Loose (fun v out => ∃ X : R, ok X ∧ v = g X ∧ ∀ W2, Lies out W2 → F W2 X) := fun l hl => by
  obtain ⟨q, _, hq⟩ := fresh_is 0 l
  refine ⟨_, [⟨q, [undef], 0, 0⟩], ⟨X0, h0, rfl, fun W2 h => (no_lie1 h).elim⟩, ?_⟩
  simp only [List.cons_append, List.nil_append, List.map_cons, List.nodup_cons, List.mem_map]
  exact ⟨fun ⟨b, hb, e⟩ => hq b hb e, hl⟩
def ListRead {R D : Type} (cells : R → List Value) (k : Nat) (Is : World → R → D → Prop) (E : TypeId) (f : List UInt8 → D × Int) (xs : List UInt8) (M a : Nat) (e : Int) (n q N cp : Nat) (v : Value) (out : List Blk) : Prop :=
  ∃ s bl o rs a1 e1, a1 ≤ N ∧ out = bl ++ (o ++ [RB n q N cp a1 e1]) ∧ v = .tuple #[Sl.v s, .bool (Cs f xs M a e).isSome] ∧ (∀ vs a2 e2, Cs f xs M a e = some (vs, a2, e2) → a1 = a2 ∧ e1 = e2 ∧ vs.length ≤ M ∧ OwnSeq cells k Is E s bl o rs vs vs.length)
theorem listr_none {R D : Type} {cells : R → List Value} {k : Nat} {Is : World → R → D → Prop} {E : TypeId} {f : List UInt8 → D × Int} {xs : List UInt8} {M a : Nat} {e : Int} {n q N cp a1 : Nat} {e1 : Int} (h : Cs f xs M a e = none) (ha : a1 ≤ N) : ListRead cells k Is E f xs M a e n q N cp (.tuple #[.slice none 0 0, .bool false]) (RB n q N cp a1 e1 :: []) :=
  ⟨Sl.nil, [], [], [], a1, e1, ha, rfl, by rw [h]; rfl, fun vs a2 e2 h2 => by rw [h] at h2; cases h2⟩
structure LSt (R D : Type) where
  k : Nat
  s : Sl
  bl : List Blk
  o : List Blk
  rs : List R
  vs : List D
  a : Nat
  e : Int
def DListRead (xs : List UInt8) (M a : Nat) (e : Int) (n q N cp : Nat) (v : Value) (out : List Blk) : Prop :=
  ∃ s bl a1 e1, a1 ≤ N ∧ out = bl ++ [RB n q N cp a1 e1] ∧ v = .tuple #[Sl.v s, .bool (B9 xs M a e).isSome] ∧ (∀ vs a2 e2, B9 xs M a e = some (vs, a2, e2) → a1 = a2 ∧ e1 = e2 ∧ vs.length ≤ M ∧ (∀ l ∈ vs, l.length = 32) ∧ Hw.Acc s bl (Bt vs) 50 vs.length 32)
theorem dlistr_none {xs : List UInt8} {M a : Nat} {e : Int} {n q N cp a1 : Nat} {e1 : Int} (h : B9 xs M a e = none) (ha : a1 ≤ N) : DListRead xs M a e n q N cp (.tuple #[.slice none 0 0, .bool false]) (RB n q N cp a1 e1 :: []) :=
  ⟨Sl.nil, [], a1, e1, ha, rfl, by rw [h]; rfl, fun vs a2 e2 h2 => by rw [h] at h2; cases h2⟩
structure DSt where
  k : Nat
  s : Sl
  bl : List Blk
  vs : List (List UInt8)
  a : Nat
  e : Int
theorem pm_one' {hp l R : List Blk} {x : Blk} (h : hp.Perm ((x :: l) ++ R)) : hp.Perm (([x] ++ l) ++ R) := h

theorem mk_item_block  : Meets Tryz.prog 98 [.func (.func 74) #[] #[]] [] (fun _ => True) (fun v out => ∃ c, v = .func (.func 193) #[] #[ptr c 0] ∧ out = [⟨c, [.func (.func 74) #[] #[]], 109, 1⟩]) := by
 intro W hW
 refine Ak Tryz.func98 J 4 Tryz.ntmps98 J (G2 ?_)
 refine .box1 J J J ?_
 intro n1 hn1 hf1
 refine G11 ?_
 refine Ai (out := (⟨n1, [.func (.func 74) #[] #[]], 109, 1⟩ :: [])) (Ac J J) (Ab rM Ad) ?_
 exact ⟨n1, rfl, by simp⟩

theorem item_block (n q N cp at' : Nat) (e : Int) (c : Nat) (xs : List UInt8) (hx : xs.length = N) (hat : at' ≤ N) (hN : N ≤ cp) (hbig : N ≤ 90000) (hcn : c ≠ n) (o : Option (List UInt8)) (a1 : Nat) (e1 : Int) (h1 : blkR xs at' e = (o, a1, e1)) : Meets Tryz.prog 193 [ptr n 0, ptr c 0] [n] (fun W => BlkOk W (RB n q N cp at' e) ∧ Bs W q 0 (Aa xs) ∧ q ≠ n ∧ W.cell? ⟨c, 0, none⟩ = some (.func (.func 74) #[] #[])) (fun v out => ∃ (X : Block) (o2 : List Blk), X.ok ∧ v = .tuple #[agg X.cells, .bool (decide ((readD (o.getD [])).2 = 0))] ∧ out = o2 ++ [RB n q N cp a1 e1] ∧ ∀ W2, Lies o2 W2 → BlockIs W2 X (readD (o.getD [])).1) := by
 intro W hW
 have hb1 := blkE_le h1 hx hat
 refine A3 (hp0 := [RB n q N cp at' e]) Tryz.func193 J 17 Tryz.ntmps193 J (HRep.one hW.1) (G2 ?_)
 refine .alloc (cs := Block.zero.cells) J Block.zr J ?_
 intro n3 hn3 hf3
 refine G4 ?_
 refine .withK (sp_v (sp_v sp_n)) J (.draw [(0, 0), (0, 1), (5, 2), (3, 3), (0, 4), (0, 5), (0, 6), (2, 7), (4, 8), (0, 9)] Be zK (.kloadE J J J Tryz.underlying109 J (by (simp [Cx.with]; omega)) (hW.2.2.2) ?_))
 refine G1 ?_
 refine .callL5 (L := [RB n q N cp at' e]) J J J J J Body120 (rd_BlockE n q N cp at' e xs hx hat hN hbig o a1 e1 h1) (rdblk_loose n q N cp a1 e1 (o.getD [])) (Ab rM Ad) (Au J) (fun w h => ⟨Af h Z1, Ba h (by simp [Cx.with]; exact hW.2.2.1) hW.2.1, hW.2.2.1⟩) ?_
 rintro v10 out10 ⟨s10, bl10, rfl, hac10, rfl⟩
 simp only [List.append_assoc, List.cons_append, List.nil_append]
 refine .call J J J J Body74 (block_read s10.p s10.n s10.c (o.getD []) hac10.num.symm (fun e => hac10.nil e) (by rw [hac10.num]; omega)) (made_loose Block.zero Block.zero_ok) (fun w h => hac10.see (Lies.of h (by repeat (exact Ar)))) ?_
 rintro v11 out11 ⟨X11, okX, rfl, hX11⟩
 try simp only [List.append_assoc, List.cons_append, List.nil_append]
 refine G3 ?_
 refine .alloc (cs := Block.zero.cells) J Block.zr J ?_
 intro n5 hn5 hf5
 refine G6 ?_
 try simp only [List.cons_append, List.nil_append, List.append_nil, List.append_assoc]
 refine G9 ?_
 refine Ai (out := (out11 ++ (RB n q N cp a1 e1 :: []))) (Aw J J J Y79.h J Sz79 mR (by exact Block.length zA)) (Aj sG (Ab rM Ad)) ?_
 exact ⟨X11, out11, okX, rfl, by simp, hX11⟩

theorem read_blocks (n q N cp at' : Nat) (e : Int) (c M : Nat) (xs : List UInt8) (hx : xs.length = N) (hat : at' ≤ N) (hN : N ≤ cp) (hbig : N ≤ 90000) (hcn : c ≠ n) (hM : M ≤ 1000) : Meets Tryz.prog 97 [ptr n 0, i64 (M : Int), .func (.func 193) #[] #[ptr c 0]] [n] (fun W => BlkOk W (RB n q N cp at' e) ∧ Bs W q 0 (Aa xs) ∧ q ≠ n ∧ W.cell? ⟨c, 0, none⟩ = some (.func (.func 74) #[] #[])) (ListRead Block.cells 131 BlockIs 79 readD xs M at' e n q N cp) := by
 intro W hW
 obtain ⟨x1, r1, h1⟩ : ∃ l r, A0 xs at' e = (l, r) := ⟨_, _, rfl⟩
 obtain ⟨a1, e1⟩ := r1
 have hd1 := Bc h1 hx hat
 have hMw : (UInt64.ofNat M).toNat = M := A6 oM
 have hrv : Cs readD xs M at' e = if e1 = 0 ∧ x1.toNat ≤ M then itR readD xs x1.toNat a1 e1 else none := by simp only [Cs, h1]
 refine A3 (hp0 := [RB n q N cp at' e]) Tryz.func97 J 47 Tryz.ntmps97 J (HRep.one hW.1) (G9 ?_)
 refine .callL (L := [RB n q N cp at' e]) J J J J J Body94 (rd_NumberE n q N cp at' e xs hx hat hN oM x1 a1 e1 h1) (Ab rM Ad) (Au J) (fun w h => ⟨Af h Z0, Ba h (by simp; exact hW.2.2.1) hW.2.1, hW.2.2.1⟩) ?_
 rintro v13 out13 ⟨rfl, rfl⟩
 refine G7 ?_
 refine .cV J J J J Body192 (rd_Err n q N cp a1 e1) (fun w h => Af h Z0) ?_
 refine two (fun r hr k => Tr.nei J J J J hr k) (fun hs2_20 => ?_) (fun hs2_20 => ?_)
 ·
  have hs2_2 := nd_t hs2_20
  refine G8 ?_
  refine .cond_t J J (G9 ?_)
  refine Ai (out := (RB n q N cp a1 e1 :: [])) (A7 J J J) (Ab rM Ad) ?_
  exact listr_none (by rw [hrv]; exact if_neg (fun h => by omega)) oM
 have hs2_2 := nd_f hs2_20
 refine G4 ?_
 rw [Cf (n := M) oM]
 refine G4 ?_
 refine .condP J (fun hc0 => ?_) (fun hc0 => ?_)
 ·
  have hno : ¬ (e1 = 0 ∧ x1.toNat ≤ M) := by omega
  refine G9 ?_
  refine Ai (out := (RB n q N cp a1 e1 :: [])) (A7 J J J) (Ab rM Ad) ?_
  exact listr_none (by rw [hrv]; exact if_neg (fun h => by omega)) oM
 have hyes : e1 = 0 ∧ x1.toNat ≤ M := by omega
 have hx64 : x1 = UInt64.ofNat x1.toNat := by simp
 refine G5 ?_
 refine .mkRoomN (z := agg Block.zero.cells) (by' := 184) x1.toNat J J J J J Y22.h Sz79 Block.zr (by unfold By; kernel_rfl) oM oM ?_
 intro q9
 refine G11 ?_
 refine .loop (ι := LSt Block DB) (fun p => ⟨[(0, ptr n 0), (2, .func (.func 193) #[] #[ptr c 0]), (9, p.s.v), (25, u64 x1), (26, u64 (UInt64.ofNat p.k))], (RB n q N cp p.a p.e :: (p.bl ++ (p.o ++ [])))⟩) (fun p => p.k ≤ x1.toNat ∧ itR readD xs p.k a1 e1 = some (p.vs, p.a, p.e) ∧ p.a ≤ N ∧ OwnSeq Block.cells 131 BlockIs 79 p.s p.bl p.o p.rs p.vs p.k) (fun p => x1.toNat - p.k) (⟨0, ⟨some ⟨q9, 0, none⟩, 0, x1.toNat⟩, [⟨q9, [], 79, x1.toNat * 131⟩], [], [], [], a1, e1⟩) ?_ ?_ ?_
 · exact ⟨Nat.zero_le _, rfl, hd1, ⟨Acc.some (Nat.zero_le _) sP, rfl, rfl, fun r h => (by cases h), fun W2 _ i r d h => (by simp at h)⟩⟩
 · exact Ae (wk1 rfl (wk1 rfl (wk1 rfl (wk1 rfl (wk1 rfl wk0))))) (Ab rM (pm_one' (Ab rM (Cd Ad))))
 rintro p hp
 obtain ⟨k, s, bl, o1, rs, vs, a2, e2⟩ := p
 obtain ⟨hk, hvr, ha2, hos⟩ := hp
 dsimp only at hk hvr ha2 hos ⊢
 obtain ⟨o, r3, hb3⟩ : ∃ l r, blkR xs a2 e2 = (l, r) := ⟨_, _, rfl⟩
 obtain ⟨a3, e3⟩ := r3
 have hd3 := blkE_le hb3 hx ha2
 refine G6 ?_
 refine .condP J (fun hc1 => ?_) (fun hc1 => ?_)
 ·
  have hk64 : (UInt64.ofNat k).toNat = k := A6 oM
  have hk2 : k < x1.toNat := by omega
  refine G8 ?_
  refine .callCL (L := [RB n q N cp a2 e2]) J J J J J J Body193 (item_block n q N cp a2 e2 c xs hx ha2 hN hbig hcn o a3 e3 hb3) (Ab rM Ad) (Au J) (fun w h => ⟨Af h Z0, Ba h (by simp; exact hW.2.2.1) hW.2.1, hW.2.2.1, h.keeps.cell (by simp; exact hcn) hW.2.2.2⟩) ?_
  rintro v31 out31 ⟨X31, o31, okX, rfl, rfl, hX31⟩
  simp only [List.append_assoc, List.cons_append, List.nil_append]
  refine G2 ?_
  refine .extractB J J J J (fun hs7_50 => ?_) (fun hs7_50 => ?_)
  ·
   have hs7_5 := of_decide_eq_true hs7_50
   refine .alloc (cs := Block.zero.cells) J Block.zr J ?_
   intro n10 hn10 hf10
   refine G11 ?_
   refine .cV J J J J Body192 (rd_Err n q N cp a3 e3) (fun w h => Af h mR) ?_
   refine G4 ?_
   refine .condNP J (fun hc2 => ?_) (fun hc2 => ?_)
   ·
    refine G14 ?_
    refine Ai (out := (RB n q N cp a3 e3 :: [])) (A7 J J J) (Ab rM Ad) ?_
    exact listr_none (by rw [hrv, if_pos hyes]; exact itR_stop hvr hb3 oM _ hk2) hd3.1
   refine G5 ?_
   refine .mkRow (z := agg Block.zero.cells) [agg X31.cells] X31.cells J J J Y22.h Sz79 Block.zr J J (by intro v hv; rw [List.mem_singleton.1 hv]; exact Block.length okX) dE (by simp [Value.cells]) ?_
   intro q43
   refine .appendAcc (z := agg Block.zero.cells) (by' := 184) (X31.cells) J J J J J Y22.h Y22.h Sz79 Zr79 (by unfold By; kernel_rfl) J hos.acc sG (fun w h => SeesP.of (Ah h Z0)) (fun e => by cases e) (Block.isCell okX) oM oM (by rw [Block.length okX]) ?_
   intro s44 bl44 hac44
   refine G5 ?_
   refine .add_u64 J J J (show Al _ _ = some (u64 1) from rfl) (G3 ?_)
   exact ⟨⟨k + 1, s44, bl44, o31 ++ o1, rs ++ [X31], vs ++ [(readD (o.getD [])).1], a3, e3⟩, ⟨by simp only []; omega, itR_step hvr hb3 hs7_5 oM, hd3.1, hos.snoc (by simpa using hac44) (Block.length okX) hX31⟩, by simp only []; omega, Ae (wk1 rfl (wk1 rfl (wk1 rfl (wk1 rfl (wk1 (congrArg (fun z => some (u64 z)) (ofNat_step _)) wk0))))) (Ab rM (Aj sG (Cp (Aj sG (Aj sG Ad)))))⟩
  have hs7_5 := of_decide_eq_false hs7_50
  refine .alloc (cs := Block.zero.cells) J Block.zr J ?_
  intro n10 hn10 hf10
  refine G16 ?_
  refine .cond_t J J (G14 ?_)
  refine Ai (out := (RB n q N cp a3 e3 :: [])) (A7 J J J) (Ab rM Ad) ?_
  exact listr_none (by rw [hrv, if_pos hyes]; exact itR_stop hvr hb3 oM _ hk2) hd3.1
 have hk64 : (UInt64.ofNat k).toNat = k := A6 oM
 have hke : k = x1.toNat := by omega
 refine G14 ?_
 refine Ai (out := (bl ++ (o1 ++ (RB n q N cp a2 e2 :: [])))) (A7 J J J) (Aj sG (Aj sG (Ab rM Ad))) ?_
 have hfin : Cs readD xs M at' e = some (vs, a2, e2) := by rw [hrv, if_pos hyes, ← hke]; exact hvr
 have hvl := hos.nd
 exact ⟨s, bl, o1, rs, a2, e2, ha2, by simp, by rw [hfin]; rfl, fun vs2 a4 e4 h4 => by rw [hfin] at h4; cases h4; exact ⟨rfl, rfl, by omega, by rw [hvl]; exact hos⟩⟩
theorem mk_item_cut  : Meets Tryz.prog 102 [.func (.func 79) #[] #[]] [] (fun _ => True) (fun v out => ∃ c, v = .func (.func 195) #[] #[ptr c 0] ∧ out = [⟨c, [.func (.func 79) #[] #[]], 117, 1⟩]) := by
 intro W hW
 refine Ak Tryz.func102 J 4 Tryz.ntmps102 J (G2 ?_)
 refine .box1 J J J ?_
 intro n1 hn1 hf1
 refine G11 ?_
 refine Ai (out := (⟨n1, [.func (.func 79) #[] #[]], 117, 1⟩ :: [])) (Ac J J) (Ab rM Ad) ?_
 exact ⟨n1, rfl, by simp⟩

theorem item_cut (n q N cp at' : Nat) (e : Int) (c : Nat) (xs : List UInt8) (hx : xs.length = N) (hat : at' ≤ N) (hN : N ≤ cp) (hbig : N ≤ 90000) (hcn : c ≠ n) (o : Option (List UInt8)) (a1 : Nat) (e1 : Int) (h1 : blkR xs at' e = (o, a1, e1)) : Meets Tryz.prog 195 [ptr n 0, ptr c 0] [n] (fun W => BlkOk W (RB n q N cp at' e) ∧ Bs W q 0 (Aa xs) ∧ q ≠ n ∧ W.cell? ⟨c, 0, none⟩ = some (.func (.func 79) #[] #[])) (fun v out => ∃ (X : Cut) (o2 : List Blk), X.ok ∧ v = .tuple #[agg X.cells, .bool (decide ((B8 (o.getD [])).2 = 0))] ∧ out = o2 ++ [RB n q N cp a1 e1] ∧ ∀ W2, Lies o2 W2 → CutIs W2 X (B8 (o.getD [])).1) := by
 intro W hW
 have hb1 := blkE_le h1 hx hat
 refine A3 (hp0 := [RB n q N cp at' e]) Tryz.func195 J 17 Tryz.ntmps195 J (HRep.one hW.1) (G2 ?_)
 refine .alloc (cs := Cut.zero.cells) J Cut.zr J ?_
 intro n3 hn3 hf3
 refine G4 ?_
 refine .withK (sp_v (sp_v sp_n)) J (.draw [(0, 0), (0, 1), (5, 2), (3, 3), (0, 4), (0, 5), (0, 6), (2, 7), (4, 8), (0, 9)] Be zK (.kloadE J J J Tryz.underlying117 J (by (simp [Cx.with]; omega)) (hW.2.2.2) ?_))
 refine G1 ?_
 refine .callL5 (L := [RB n q N cp at' e]) J J J J J Body120 (rd_BlockE n q N cp at' e xs hx hat hN hbig o a1 e1 h1) (rdblk_loose n q N cp a1 e1 (o.getD [])) (Ab rM Ad) (Au J) (fun w h => ⟨Af h Z1, Ba h (by simp [Cx.with]; exact hW.2.2.1) hW.2.1, hW.2.2.1⟩) ?_
 rintro v10 out10 ⟨s10, bl10, rfl, hac10, rfl⟩
 simp only [List.append_assoc, List.cons_append, List.nil_append]
 refine .call J J J J Body79 (cut_read s10.p s10.n s10.c (o.getD []) hac10.num.symm (fun e => hac10.nil e) (by rw [hac10.num]; omega)) (made_loose Cut.zero Cut.zero_ok) (fun w h => hac10.see (Lies.of h (by repeat (exact Ar)))) ?_
 rintro v11 out11 ⟨X11, okX, rfl, hX11⟩
 try simp only [List.append_assoc, List.cons_append, List.nil_append]
 refine G3 ?_
 refine .alloc (cs := Cut.zero.cells) J Cut.zr J ?_
 intro n5 hn5 hf5
 refine G6 ?_
 try simp only [List.cons_append, List.nil_append, List.append_nil, List.append_assoc]
 refine G9 ?_
 refine Ai (out := (out11 ++ (RB n q N cp a1 e1 :: []))) (Aw J J J Y53.h J Sz53 mR (by exact Cut.length zA)) (Aj sG (Ab rM Ad)) ?_
 exact ⟨X11, out11, okX, rfl, by simp, hX11⟩

theorem read_cuts (n q N cp at' : Nat) (e : Int) (c M : Nat) (xs : List UInt8) (hx : xs.length = N) (hat : at' ≤ N) (hN : N ≤ cp) (hbig : N ≤ 90000) (hcn : c ≠ n) (hM : M ≤ 1000) : Meets Tryz.prog 101 [ptr n 0, i64 (M : Int), .func (.func 195) #[] #[ptr c 0]] [n] (fun W => BlkOk W (RB n q N cp at' e) ∧ Bs W q 0 (Aa xs) ∧ q ≠ n ∧ W.cell? ⟨c, 0, none⟩ = some (.func (.func 79) #[] #[])) (ListRead Cut.cells 34 CutIs 53 B8 xs M at' e n q N cp) := by
 intro W hW
 obtain ⟨x1, r1, h1⟩ : ∃ l r, A0 xs at' e = (l, r) := ⟨_, _, rfl⟩
 obtain ⟨a1, e1⟩ := r1
 have hd1 := Bc h1 hx hat
 have hMw : (UInt64.ofNat M).toNat = M := A6 oM
 have hrv : Cs B8 xs M at' e = if e1 = 0 ∧ x1.toNat ≤ M then itR B8 xs x1.toNat a1 e1 else none := by simp only [Cs, h1]
 refine A3 (hp0 := [RB n q N cp at' e]) Tryz.func101 J 47 Tryz.ntmps101 J (HRep.one hW.1) (G9 ?_)
 refine .callL (L := [RB n q N cp at' e]) J J J J J Body94 (rd_NumberE n q N cp at' e xs hx hat hN oM x1 a1 e1 h1) (Ab rM Ad) (Au J) (fun w h => ⟨Af h Z0, Ba h (by simp; exact hW.2.2.1) hW.2.1, hW.2.2.1⟩) ?_
 rintro v13 out13 ⟨rfl, rfl⟩
 refine G7 ?_
 refine .cV J J J J Body192 (rd_Err n q N cp a1 e1) (fun w h => Af h Z0) ?_
 refine two (fun r hr k => Tr.nei J J J J hr k) (fun hs2_20 => ?_) (fun hs2_20 => ?_)
 ·
  have hs2_2 := nd_t hs2_20
  refine G8 ?_
  refine .cond_t J J (G9 ?_)
  refine Ai (out := (RB n q N cp a1 e1 :: [])) (A7 J J J) (Ab rM Ad) ?_
  exact listr_none (by rw [hrv]; exact if_neg (fun h => by omega)) oM
 have hs2_2 := nd_f hs2_20
 refine G4 ?_
 rw [Cf (n := M) oM]
 refine G4 ?_
 refine .condP J (fun hc0 => ?_) (fun hc0 => ?_)
 ·
  have hno : ¬ (e1 = 0 ∧ x1.toNat ≤ M) := by omega
  refine G9 ?_
  refine Ai (out := (RB n q N cp a1 e1 :: [])) (A7 J J J) (Ab rM Ad) ?_
  exact listr_none (by rw [hrv]; exact if_neg (fun h => by omega)) oM
 have hyes : e1 = 0 ∧ x1.toNat ≤ M := by omega
 have hx64 : x1 = UInt64.ofNat x1.toNat := by simp
 refine G5 ?_
 refine .mkRoomN (z := agg Cut.zero.cells) (by' := 64) x1.toNat J J J J J Y25.h Sz53 Cut.zr (by unfold By; kernel_rfl) oM oM ?_
 intro q9
 refine G11 ?_
 refine .loop (ι := LSt Cut DCut) (fun p => ⟨[(0, ptr n 0), (2, .func (.func 195) #[] #[ptr c 0]), (9, p.s.v), (25, u64 x1), (26, u64 (UInt64.ofNat p.k))], (RB n q N cp p.a p.e :: (p.bl ++ (p.o ++ [])))⟩) (fun p => p.k ≤ x1.toNat ∧ itR B8 xs p.k a1 e1 = some (p.vs, p.a, p.e) ∧ p.a ≤ N ∧ OwnSeq Cut.cells 34 CutIs 53 p.s p.bl p.o p.rs p.vs p.k) (fun p => x1.toNat - p.k) (⟨0, ⟨some ⟨q9, 0, none⟩, 0, x1.toNat⟩, [⟨q9, [], 53, x1.toNat * 34⟩], [], [], [], a1, e1⟩) ?_ ?_ ?_
 · exact ⟨Nat.zero_le _, rfl, hd1, ⟨Acc.some (Nat.zero_le _) sP, rfl, rfl, fun r h => (by cases h), fun W2 _ i r d h => (by simp at h)⟩⟩
 · exact Ae (wk1 rfl (wk1 rfl (wk1 rfl (wk1 rfl (wk1 rfl wk0))))) (Ab rM (pm_one' (Ab rM (Cd Ad))))
 rintro p hp
 obtain ⟨k, s, bl, o1, rs, vs, a2, e2⟩ := p
 obtain ⟨hk, hvr, ha2, hos⟩ := hp
 dsimp only at hk hvr ha2 hos ⊢
 obtain ⟨o, r3, hb3⟩ : ∃ l r, blkR xs a2 e2 = (l, r) := ⟨_, _, rfl⟩
 obtain ⟨a3, e3⟩ := r3
 have hd3 := blkE_le hb3 hx ha2
 refine G6 ?_
 refine .condP J (fun hc1 => ?_) (fun hc1 => ?_)
 ·
  have hk64 : (UInt64.ofNat k).toNat = k := A6 oM
  have hk2 : k < x1.toNat := by omega
  refine G8 ?_
  refine .callCL (L := [RB n q N cp a2 e2]) J J J J J J Body195 (item_cut n q N cp a2 e2 c xs hx ha2 hN hbig hcn o a3 e3 hb3) (Ab rM Ad) (Au J) (fun w h => ⟨Af h Z0, Ba h (by simp; exact hW.2.2.1) hW.2.1, hW.2.2.1, h.keeps.cell (by simp; exact hcn) hW.2.2.2⟩) ?_
  rintro v31 out31 ⟨X31, o31, okX, rfl, rfl, hX31⟩
  simp only [List.append_assoc, List.cons_append, List.nil_append]
  refine G2 ?_
  refine .extractB J J J J (fun hs7_50 => ?_) (fun hs7_50 => ?_)
  ·
   have hs7_5 := of_decide_eq_true hs7_50
   refine .alloc (cs := Cut.zero.cells) J Cut.zr J ?_
   intro n10 hn10 hf10
   refine G11 ?_
   refine .cV J J J J Body192 (rd_Err n q N cp a3 e3) (fun w h => Af h mR) ?_
   refine G4 ?_
   refine .condNP J (fun hc2 => ?_) (fun hc2 => ?_)
   ·
    refine G14 ?_
    refine Ai (out := (RB n q N cp a3 e3 :: [])) (A7 J J J) (Ab rM Ad) ?_
    exact listr_none (by rw [hrv, if_pos hyes]; exact itR_stop hvr hb3 oM _ hk2) hd3.1
   refine G5 ?_
   refine .mkRow (z := agg Cut.zero.cells) [agg X31.cells] X31.cells J J J Y25.h Sz53 Cut.zr J J (by intro v hv; rw [List.mem_singleton.1 hv]; exact Cut.length okX) dE (by simp [Value.cells]) ?_
   intro q43
   refine .appendAcc (z := agg Cut.zero.cells) (by' := 64) (X31.cells) J J J J J Y25.h Y25.h Sz53 Zr53 (by unfold By; kernel_rfl) J hos.acc sG (fun w h => SeesP.of (Ah h Z0)) (fun e => by cases e) (Cut.isCell okX) oM oM (by rw [Cut.length okX]) ?_
   intro s44 bl44 hac44
   refine G5 ?_
   refine .add_u64 J J J (show Al _ _ = some (u64 1) from rfl) (G3 ?_)
   exact ⟨⟨k + 1, s44, bl44, o31 ++ o1, rs ++ [X31], vs ++ [(B8 (o.getD [])).1], a3, e3⟩, ⟨by simp only []; omega, itR_step hvr hb3 hs7_5 oM, hd3.1, hos.snoc (by simpa using hac44) (Cut.length okX) hX31⟩, by simp only []; omega, Ae (wk1 rfl (wk1 rfl (wk1 rfl (wk1 rfl (wk1 (congrArg (fun z => some (u64 z)) (ofNat_step _)) wk0))))) (Ab rM (Aj sG (Cp (Aj sG (Aj sG Ad)))))⟩
  have hs7_5 := of_decide_eq_false hs7_50
  refine .alloc (cs := Cut.zero.cells) J Cut.zr J ?_
  intro n10 hn10 hf10
  refine G16 ?_
  refine .cond_t J J (G14 ?_)
  refine Ai (out := (RB n q N cp a3 e3 :: [])) (A7 J J J) (Ab rM Ad) ?_
  exact listr_none (by rw [hrv, if_pos hyes]; exact itR_stop hvr hb3 oM _ hk2) hd3.1
 have hk64 : (UInt64.ofNat k).toNat = k := A6 oM
 have hke : k = x1.toNat := by omega
 refine G14 ?_
 refine Ai (out := (bl ++ (o1 ++ (RB n q N cp a2 e2 :: [])))) (A7 J J J) (Aj sG (Aj sG (Ab rM Ad))) ?_
 have hfin : Cs B8 xs M at' e = some (vs, a2, e2) := by rw [hrv, if_pos hyes, ← hke]; exact hvr
 have hvl := hos.nd
 exact ⟨s, bl, o1, rs, a2, e2, ha2, by simp, by rw [hfin]; rfl, fun vs2 a4 e4 h4 => by rw [hfin] at h4; cases h4; exact ⟨rfl, rfl, by omega, by rw [hvl]; exact hos⟩⟩
theorem mk_item_cert  : Meets Tryz.prog 104 [.func (.func 29) #[] #[]] [] (fun _ => True) (fun v out => ∃ c, v = .func (.func 196) #[] #[ptr c 0] ∧ out = [⟨c, [.func (.func 29) #[] #[]], 67, 1⟩]) := by
 intro W hW
 refine Ak Tryz.func104 J 4 Tryz.ntmps104 J (G2 ?_)
 refine .box1 J J J ?_
 intro n1 hn1 hf1
 refine G11 ?_
 refine Ai (out := (⟨n1, [.func (.func 29) #[] #[]], 67, 1⟩ :: [])) (Ac J J) (Ab rM Ad) ?_
 exact ⟨n1, rfl, by simp⟩

theorem item_cert (n q N cp at' : Nat) (e : Int) (c : Nat) (xs : List UInt8) (hx : xs.length = N) (hat : at' ≤ N) (hN : N ≤ cp) (hbig : N ≤ 90000) (hcn : c ≠ n) (o : Option (List UInt8)) (a1 : Nat) (e1 : Int) (h1 : blkR xs at' e = (o, a1, e1)) : Meets Tryz.prog 196 [ptr n 0, ptr c 0] [n] (fun W => BlkOk W (RB n q N cp at' e) ∧ Bs W q 0 (Aa xs) ∧ q ≠ n ∧ W.cell? ⟨c, 0, none⟩ = some (.func (.func 29) #[] #[])) (fun v out => ∃ (X : Cert) (o2 : List Blk), X.ok ∧ v = .tuple #[agg X.cells, .bool (decide ((Bv (o.getD [])).2 = 0))] ∧ out = o2 ++ [RB n q N cp a1 e1] ∧ ∀ W2, Lies o2 W2 → CertIs W2 X (Bv (o.getD [])).1) := by
 intro W hW
 have hb1 := blkE_le h1 hx hat
 refine A3 (hp0 := [RB n q N cp at' e]) Tryz.func196 J 17 Tryz.ntmps196 J (HRep.one hW.1) (G2 ?_)
 refine .alloc (cs := Cert.zero.cells) J Cert.zr J ?_
 intro n3 hn3 hf3
 refine G4 ?_
 refine .withK (sp_v (sp_v sp_n)) J (.draw [(0, 0), (0, 1), (5, 2), (3, 3), (0, 4), (0, 5), (0, 6), (2, 7), (4, 8), (0, 9)] Be zK (.kloadE J J J Tryz.underlying67 J (by (simp [Cx.with]; omega)) (hW.2.2.2) ?_))
 refine G1 ?_
 refine .callL5 (L := [RB n q N cp at' e]) J J J J J Body120 (rd_BlockE n q N cp at' e xs hx hat hN hbig o a1 e1 h1) (rdblk_loose n q N cp a1 e1 (o.getD [])) (Ab rM Ad) (Au J) (fun w h => ⟨Af h Z1, Ba h (by simp [Cx.with]; exact hW.2.2.1) hW.2.1, hW.2.2.1⟩) ?_
 rintro v10 out10 ⟨s10, bl10, rfl, hac10, rfl⟩
 simp only [List.append_assoc, List.cons_append, List.nil_append]
 refine .call J J J J Body29 (cert_read s10.p s10.n s10.c (o.getD []) hac10.num.symm (fun e => hac10.nil e) (by rw [hac10.num]; omega)) (made_loose Cert.zero Cert.zero_ok) (fun w h => hac10.see (Lies.of h (by repeat (exact Ar)))) ?_
 rintro v11 out11 ⟨X11, okX, rfl, hX11⟩
 try simp only [List.append_assoc, List.cons_append, List.nil_append]
 refine G3 ?_
 refine .alloc (cs := Cert.zero.cells) J Cert.zr J ?_
 intro n5 hn5 hf5
 refine G6 ?_
 try simp only [List.cons_append, List.nil_append, List.append_nil, List.append_assoc]
 refine G9 ?_
 refine Ai (out := (out11 ++ (RB n q N cp a1 e1 :: []))) (Aw J J J Y55.h J Sz55 mR (by exact Cert.length zA)) (Aj sG (Ab rM Ad)) ?_
 exact ⟨X11, out11, okX, rfl, by simp, hX11⟩

theorem read_certs (n q N cp at' : Nat) (e : Int) (c M : Nat) (xs : List UInt8) (hx : xs.length = N) (hat : at' ≤ N) (hN : N ≤ cp) (hbig : N ≤ 90000) (hcn : c ≠ n) (hM : M ≤ 1000) : Meets Tryz.prog 103 [ptr n 0, i64 (M : Int), .func (.func 196) #[] #[ptr c 0]] [n] (fun W => BlkOk W (RB n q N cp at' e) ∧ Bs W q 0 (Aa xs) ∧ q ≠ n ∧ W.cell? ⟨c, 0, none⟩ = some (.func (.func 29) #[] #[])) (ListRead Cert.cells 35 CertIs 55 Bv xs M at' e n q N cp) := by
 intro W hW
 obtain ⟨x1, r1, h1⟩ : ∃ l r, A0 xs at' e = (l, r) := ⟨_, _, rfl⟩
 obtain ⟨a1, e1⟩ := r1
 have hd1 := Bc h1 hx hat
 have hMw : (UInt64.ofNat M).toNat = M := A6 oM
 have hrv : Cs Bv xs M at' e = if e1 = 0 ∧ x1.toNat ≤ M then itR Bv xs x1.toNat a1 e1 else none := by simp only [Cs, h1]
 refine A3 (hp0 := [RB n q N cp at' e]) Tryz.func103 J 47 Tryz.ntmps103 J (HRep.one hW.1) (G9 ?_)
 refine .callL (L := [RB n q N cp at' e]) J J J J J Body94 (rd_NumberE n q N cp at' e xs hx hat hN oM x1 a1 e1 h1) (Ab rM Ad) (Au J) (fun w h => ⟨Af h Z0, Ba h (by simp; exact hW.2.2.1) hW.2.1, hW.2.2.1⟩) ?_
 rintro v13 out13 ⟨rfl, rfl⟩
 refine G7 ?_
 refine .cV J J J J Body192 (rd_Err n q N cp a1 e1) (fun w h => Af h Z0) ?_
 refine two (fun r hr k => Tr.nei J J J J hr k) (fun hs2_20 => ?_) (fun hs2_20 => ?_)
 ·
  have hs2_2 := nd_t hs2_20
  refine G8 ?_
  refine .cond_t J J (G9 ?_)
  refine Ai (out := (RB n q N cp a1 e1 :: [])) (A7 J J J) (Ab rM Ad) ?_
  exact listr_none (by rw [hrv]; exact if_neg (fun h => by omega)) oM
 have hs2_2 := nd_f hs2_20
 refine G4 ?_
 rw [Cf (n := M) oM]
 refine G4 ?_
 refine .condP J (fun hc0 => ?_) (fun hc0 => ?_)
 ·
  have hno : ¬ (e1 = 0 ∧ x1.toNat ≤ M) := by omega
  refine G9 ?_
  refine Ai (out := (RB n q N cp a1 e1 :: [])) (A7 J J J) (Ab rM Ad) ?_
  exact listr_none (by rw [hrv]; exact if_neg (fun h => by omega)) oM
 have hyes : e1 = 0 ∧ x1.toNat ≤ M := by omega
 have hx64 : x1 = UInt64.ofNat x1.toNat := by simp
 refine G5 ?_
 refine .mkRoomN (z := agg Cert.zero.cells) (by' := 88) x1.toNat J J J J J Y23.h Sz55 Cert.zr (by unfold By; kernel_rfl) oM oM ?_
 intro q9
 refine G11 ?_
 refine .loop (ι := LSt Cert DCert) (fun p => ⟨[(0, ptr n 0), (2, .func (.func 196) #[] #[ptr c 0]), (9, p.s.v), (25, u64 x1), (26, u64 (UInt64.ofNat p.k))], (RB n q N cp p.a p.e :: (p.bl ++ (p.o ++ [])))⟩) (fun p => p.k ≤ x1.toNat ∧ itR Bv xs p.k a1 e1 = some (p.vs, p.a, p.e) ∧ p.a ≤ N ∧ OwnSeq Cert.cells 35 CertIs 55 p.s p.bl p.o p.rs p.vs p.k) (fun p => x1.toNat - p.k) (⟨0, ⟨some ⟨q9, 0, none⟩, 0, x1.toNat⟩, [⟨q9, [], 55, x1.toNat * 35⟩], [], [], [], a1, e1⟩) ?_ ?_ ?_
 · exact ⟨Nat.zero_le _, rfl, hd1, ⟨Acc.some (Nat.zero_le _) sP, rfl, rfl, fun r h => (by cases h), fun W2 _ i r d h => (by simp at h)⟩⟩
 · exact Ae (wk1 rfl (wk1 rfl (wk1 rfl (wk1 rfl (wk1 rfl wk0))))) (Ab rM (pm_one' (Ab rM (Cd Ad))))
 rintro p hp
 obtain ⟨k, s, bl, o1, rs, vs, a2, e2⟩ := p
 obtain ⟨hk, hvr, ha2, hos⟩ := hp
 dsimp only at hk hvr ha2 hos ⊢
 obtain ⟨o, r3, hb3⟩ : ∃ l r, blkR xs a2 e2 = (l, r) := ⟨_, _, rfl⟩
 obtain ⟨a3, e3⟩ := r3
 have hd3 := blkE_le hb3 hx ha2
 refine G6 ?_
 refine .condP J (fun hc1 => ?_) (fun hc1 => ?_)
 ·
  have hk64 : (UInt64.ofNat k).toNat = k := A6 oM
  have hk2 : k < x1.toNat := by omega
  refine G8 ?_
  refine .callCL (L := [RB n q N cp a2 e2]) J J J J J J Body196 (item_cert n q N cp a2 e2 c xs hx ha2 hN hbig hcn o a3 e3 hb3) (Ab rM Ad) (Au J) (fun w h => ⟨Af h Z0, Ba h (by simp; exact hW.2.2.1) hW.2.1, hW.2.2.1, h.keeps.cell (by simp; exact hcn) hW.2.2.2⟩) ?_
  rintro v31 out31 ⟨X31, o31, okX, rfl, rfl, hX31⟩
  simp only [List.append_assoc, List.cons_append, List.nil_append]
  refine G2 ?_
  refine .extractB J J J J (fun hs7_50 => ?_) (fun hs7_50 => ?_)
  ·
   have hs7_5 := of_decide_eq_true hs7_50
   refine .alloc (cs := Cert.zero.cells) J Cert.zr J ?_
   intro n10 hn10 hf10
   refine G11 ?_
   refine .cV J J J J Body192 (rd_Err n q N cp a3 e3) (fun w h => Af h mR) ?_
   refine G4 ?_
   refine .condNP J (fun hc2 => ?_) (fun hc2 => ?_)
   ·
    refine G14 ?_
    refine Ai (out := (RB n q N cp a3 e3 :: [])) (A7 J J J) (Ab rM Ad) ?_
    exact listr_none (by rw [hrv, if_pos hyes]; exact itR_stop hvr hb3 oM _ hk2) hd3.1
   refine G5 ?_
   refine .mkRow (z := agg Cert.zero.cells) [agg X31.cells] X31.cells J J J Y23.h Sz55 Cert.zr J J (by intro v hv; rw [List.mem_singleton.1 hv]; exact Cert.length okX) dE (by simp [Value.cells]) ?_
   intro q43
   refine .appendAcc (z := agg Cert.zero.cells) (by' := 88) (X31.cells) J J J J J Y23.h Y23.h Sz55 Zr55 (by unfold By; kernel_rfl) J hos.acc sG (fun w h => SeesP.of (Ah h Z0)) (fun e => by cases e) (Cert.isCell okX) oM oM (by rw [Cert.length okX]) ?_
   intro s44 bl44 hac44
   refine G5 ?_
   refine .add_u64 J J J (show Al _ _ = some (u64 1) from rfl) (G3 ?_)
   exact ⟨⟨k + 1, s44, bl44, o31 ++ o1, rs ++ [X31], vs ++ [(Bv (o.getD [])).1], a3, e3⟩, ⟨by simp only []; omega, itR_step hvr hb3 hs7_5 oM, hd3.1, hos.snoc (by simpa using hac44) (Cert.length okX) hX31⟩, by simp only []; omega, Ae (wk1 rfl (wk1 rfl (wk1 rfl (wk1 rfl (wk1 (congrArg (fun z => some (u64 z)) (ofNat_step _)) wk0))))) (Ab rM (Aj sG (Cp (Aj sG (Aj sG Ad)))))⟩
  have hs7_5 := of_decide_eq_false hs7_50
  refine .alloc (cs := Cert.zero.cells) J Cert.zr J ?_
  intro n10 hn10 hf10
  refine G16 ?_
  refine .cond_t J J (G14 ?_)
  refine Ai (out := (RB n q N cp a3 e3 :: [])) (A7 J J J) (Ab rM Ad) ?_
  exact listr_none (by rw [hrv, if_pos hyes]; exact itR_stop hvr hb3 oM _ hk2) hd3.1
 have hk64 : (UInt64.ofNat k).toNat = k := A6 oM
 have hke : k = x1.toNat := by omega
 refine G14 ?_
 refine Ai (out := (bl ++ (o1 ++ (RB n q N cp a2 e2 :: [])))) (A7 J J J) (Aj sG (Aj sG (Ab rM Ad))) ?_
 have hfin : Cs Bv xs M at' e = some (vs, a2, e2) := by rw [hrv, if_pos hyes, ← hke]; exact hvr
 have hvl := hos.nd
 exact ⟨s, bl, o1, rs, a2, e2, ha2, by simp, by rw [hfin]; rfl, fun vs2 a4 e4 h4 => by rw [hfin] at h4; cases h4; exact ⟨rfl, rfl, by omega, by rw [hvl]; exact hos⟩⟩
theorem read_digest (n q N cp at' : Nat) (e : Int) (xs : List UInt8) (hx : xs.length = N) (hat : at' ≤ N) (hN : N ≤ cp) (hbig : N ≤ 90000) (l : List UInt8) (a1 : Nat) (e1 : Int) (h1 : Cl xs at' e = (l, a1, e1)) : Meets Tryz.prog 96 [ptr n 0] [n] (fun W => BlkOk W (RB n q N cp at' e) ∧ Bs W q 0 (Aa xs) ∧ q ≠ n) (fun v out => v = .tuple #[agg (Aa l), .bool true] ∧ out = [RB n q N cp a1 e1]) := by
 intro W hW
 have hd1 := Ci h1 hx hat
 refine A3 (hp0 := [RB n q N cp at' e]) Tryz.func96 J 6 Tryz.ntmps96 J (HRep.one hW.1) (G2 ?_)
 refine .alloc (cs := (Aa (List.replicate 32 0))) J Zr50 J ?_
 intro n2 hn2 hf2
 refine G6 ?_
 refine .callL (L := [RB n q N cp at' e]) J J J J J Body173 (rd_DigestE n q N cp at' e xs hx hat hN oM l a1 e1 h1) (Ab rM Ad) (Au J) (fun w h => ⟨Af h Z1, Ba h (by simp; exact hW.2.2) hW.2.1, hW.2.2⟩) ?_
 rintro v13 out13 ⟨rfl, rfl⟩
 refine .sA J J J J zE Sz50 (by (simp [hd1.2]; done)) Z1 sP zV ?_
 refine G5 ?_
 refine Ai (out := (RB n q N cp a1 e1 :: [])) (Aw J J J Y50.h J Sz50 Z1 (by simp [hd1.2])) (Ab rM Ad) ?_
 exact ⟨rfl, rfl⟩

theorem read_digests (n q N cp at' : Nat) (e : Int) (M : Nat) (xs : List UInt8) (hx : xs.length = N) (hat : at' ≤ N) (hN : N ≤ cp) (hbig : N ≤ 90000) (hM : M ≤ 1000) : Meets Tryz.prog 95 [ptr n 0, i64 (M : Int), .func (.func 96) #[] #[]] [n] (fun W => BlkOk W (RB n q N cp at' e) ∧ Bs W q 0 (Aa xs) ∧ q ≠ n) (DListRead xs M at' e n q N cp) := by
  intro W hW
  obtain ⟨x1, r1, h1⟩ : ∃ l r, A0 xs at' e = (l, r) := ⟨_, _, rfl⟩
  obtain ⟨a1, e1⟩ := r1
  have hd1 := Bc h1 hx hat
  have hMw : (UInt64.ofNat M).toNat = M := A6 oM
  have hrv : B9 xs M at' e = if e1 = 0 ∧ x1.toNat ≤ M then dgR xs x1.toNat a1 e1 else none := by simp only [B9, h1]
  refine A3 (hp0 := [RB n q N cp at' e]) Tryz.func95 J 47 Tryz.ntmps95 J (HRep.one hW.1) (G9 ?_)
  refine .callL (L := [RB n q N cp at' e]) J J J J J Body94 (rd_NumberE n q N cp at' e xs hx hat hN oM x1 a1 e1 h1) (Ab rM Ad) (Au J) (fun w h => ⟨Af h Z0, Ba h (by simp; exact hW.2.2) hW.2.1, hW.2.2⟩) ?_
  rintro v13 out13 ⟨rfl, rfl⟩
  refine G7 ?_
  refine .cV J J J J Body192 (rd_Err n q N cp a1 e1) (fun w h => Af h Z0) ?_
  refine two (fun r hr k => Tr.nei J J J J hr k) (fun hs2_20 => ?_) (fun hs2_20 => ?_)
  ·
    have hs2_2 := nd_t hs2_20
    refine G8 ?_
    refine .cond_t J J (G9 ?_)
    refine Ai (out := (RB n q N cp a1 e1 :: [])) (A7 J J J) (Ab rM Ad) ?_
    exact dlistr_none (by rw [hrv]; exact if_neg (fun h => by omega)) oM
  have hs2_2 := nd_f hs2_20
  refine G4 ?_
  rw [Cf (n := M) oM]
  refine G4 ?_
  refine .condP J (fun hc0 => ?_) (fun hc0 => ?_)
  ·
    have hno : ¬ (e1 = 0 ∧ x1.toNat ≤ M) := by omega
    refine G9 ?_
    refine Ai (out := (RB n q N cp a1 e1 :: [])) (A7 J J J) (Ab rM Ad) ?_
    exact dlistr_none (by rw [hrv]; exact if_neg (fun h => by omega)) oM
  have hyes : e1 = 0 ∧ x1.toNat ≤ M := by omega
  have hx64 : x1 = UInt64.ofNat x1.toNat := by simp
  refine G5 ?_
  refine .mkRoomN (z := agg (Aa (List.replicate 32 0))) (by' := 32) x1.toNat J J J J J Y51.h Sz50 Zr50 (by unfold By; kernel_rfl) oM oM ?_
  intro q9
  refine G11 ?_
  refine .loop (ι := DSt) (fun p => ⟨[(0, ptr n 0), (2, .func (.func 96) #[] #[]), (9, p.s.v), (25, u64 x1), (26, u64 (UInt64.ofNat p.k))], (RB n q N cp p.a p.e :: (p.bl ++ []))⟩) (fun p => p.k ≤ x1.toNat ∧ dgR xs p.k a1 e1 = some (p.vs, p.a, p.e) ∧ p.a ≤ N ∧ Hw.Acc p.s p.bl (Bt p.vs) 50 p.k 32 ∧ p.vs.length = p.k ∧ ∀ l ∈ p.vs, l.length = 32) (fun p => x1.toNat - p.k) (⟨0, ⟨some ⟨q9, 0, none⟩, 0, x1.toNat⟩, [⟨q9, [], 50, x1.toNat * 32⟩], [], a1, e1⟩) ?_ ?_ ?_
  · exact ⟨Nat.zero_le _, rfl, hd1, Acc.some (Nat.zero_le _) sP, rfl, fun V h => (by cases h)⟩
  · exact Ae (wk1 rfl (wk1 rfl (wk1 rfl (wk1 rfl (wk1 rfl wk0))))) (Ab rM (pm_one' (Ab rM Ad)))
  rintro p hp
  obtain ⟨k, s, bl, vs, a2, e2⟩ := p
  obtain ⟨hk, hvr, ha2, hac, hvl, hvo⟩ := hp
  dsimp only at hk hvr ha2 hac hvl hvo ⊢
  obtain ⟨l5, r3, hb3⟩ : ∃ l r, Cl xs a2 e2 = (l, r) := ⟨_, _, rfl⟩
  obtain ⟨a3, e3⟩ := r3
  have hdl := Ci hb3 hx ha2
  refine G6 ?_
  refine .condP J (fun hc1 => ?_) (fun hc1 => ?_)
  ·
    have hk64 : (UInt64.ofNat k).toNat = k := A6 oM
    have hk2 : k < x1.toNat := by omega
    refine G8 ?_
    refine .callCL (L := [RB n q N cp a2 e2]) J J J J J J Body96 (read_digest n q N cp a2 e2 xs hx ha2 hN hbig l5 a3 e3 hb3) (Ab rM Ad) (Au J) (fun w h => ⟨Af h Z0, Ba h (by simp; exact hW.2.2) hW.2.1, hW.2.2⟩) ?_
    rintro v31 out31 ⟨rfl, rfl⟩
    refine G3 ?_
    refine .alloc (cs := (Aa (List.replicate 32 0))) J Zr50 J ?_
    intro n10 hn10 hf10
    refine .sA J J J J zE Sz50 (by (simp [hdl.2]; done)) Z0 sP zU ?_
    refine G10 ?_
    refine .cV J J J J Body192 (rd_Err n q N cp a3 e3) (fun w h => Af h Z1) ?_
    refine G4 ?_
    refine .condNP J (fun hc2 => ?_) (fun hc2 => ?_)
    ·
      refine G14 ?_
      refine Ai (out := (RB n q N cp a3 e3 :: [])) (A7 J J J) (Ab rM Ad) ?_
      exact dlistr_none (by rw [hrv, if_pos hyes]; exact dgR_stop hvr hb3 oM _ hk2) hdl.1
    refine G4 ?_
    refine .lA J J J Y50.h J Sz50 Z0 (by (simp [hdl.2]; done)) ?_
    refine .mkRow (z := agg (Aa (List.replicate 32 0))) [agg (Aa l5)] (Aa l5) J J J Y51.h Sz50 Zr50 J J (by intro v hv; rw [List.mem_singleton.1 hv]; simp [Value.cells, hdl.2]) dE (by simp [Value.cells]) ?_
    intro q43
    refine .appendAcc (z := agg (Aa (List.replicate 32 0))) (by' := 32) (Aa l5) J J J J J Y51.h Y51.h Sz50 Zr50 (by unfold By; kernel_rfl) J hac sG (fun w h => SeesP.of (Ah h Z0)) (fun e => by cases e) (Ay _) oM oM (by simp [Aa, hdl.2]) ?_
    intro s44 bl44 hac44
    refine G5 ?_
    refine .add_u64 J J J (show Al _ _ = some (u64 1) from rfl) (G3 ?_)
    refine ⟨⟨k + 1, s44, bl44, vs ++ [l5], a3, e3⟩, ⟨by simp only []; omega, dgR_step hvr hb3 oM, hdl.1, ?_, by simp [hvl], fun V hV => ?_⟩, by simp only []; omega, Ae (wk1 J (wk1 J (wk1 J (wk1 J (wk1 (congrArg (fun z => some (u64 z)) (ofNat_step _)) wk0))))) (Ab rM (Aj sG Ad))⟩
    · rw [flatB_append]; simpa [Bt] using hac44
    · rcases List.mem_append.1 hV with h | h
      · exact hvo V h
      · rw [List.mem_singleton.1 h]; exact hdl.2
  have hk64 : (UInt64.ofNat k).toNat = k := A6 oM
  have hke : k = x1.toNat := by omega
  refine G14 ?_
  refine Ai (out := (bl ++ (RB n q N cp a2 e2 :: []))) (A7 J J J) (Aj sG (Ab rM Ad)) ?_
  have hfin : B9 xs M at' e = some (vs, a2, e2) := by rw [hrv, if_pos hyes, ← hke]; exact hvr
  exact ⟨s, bl, a2, e2, ha2, by simp, by rw [hfin]; rfl, fun vs2 a4 e4 h4 => by rw [hfin] at h4; cases h4; exact ⟨rfl, rfl, by omega, hvo, by rw [hvl]; exact hac⟩⟩
end Go.Proofs.YtdifpjmfabhpiaaGreat
end
