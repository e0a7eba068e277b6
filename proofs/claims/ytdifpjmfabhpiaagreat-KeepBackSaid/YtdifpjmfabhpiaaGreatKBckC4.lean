/- Contracts of functions of the loaded program, and the lemmas that they need (part 4). It proves no statement by itself; it has no conditions. -/
import Derived.WalkKit
import Derived.Orders
import Derived.Deep.LoopGhost
import Derived.IntWalk
import Derived.Laws.StructEq
import Derived.ArgAppend
import Derived.Deep.AppendSrc
import Derived.Lib.Bytealg
import Derived.Lib.BytesEntry
import Derived.Laws.IdiomStrings
import Derived.WideKeyArr2
import Derived.ProofKit
import Derived.OpenShut
import Derived.Deep.Slices
import Derived.Laws.Pointers
import Derived.Laws.Cover3
import Derived.LaidEqlPtr
import Derived.LoopN
import Derived.RangeFuncLeaves
import Derived.RangeFuncSeq
import Derived.OrdersIn
import Derived.Test.YtdifpjmfabhpiaaGreatRows
import Derived.KernelRfl
import Derived.Laws.Externs
import Derived.Defers
import Derived.ChangeOld
import Derived.Below
import Derived.Test.YtdifpjmfabhpiaaGreatKBckC3
set_option maxRecDepth 100000
set_option maxHeartbeats 8000000
set_option linter.unusedVariables false
set_option linter.unusedSimpArgs false
section
namespace Go.Proofs.YtdifpjmfabhpiaaGreat
open Go Hw

theorem Acc.hrep {P : Program} {W : World} {N : Nat} {s : Sl} {bl : List Blk} {cells : List Value} {E : TypeId} {n size : Nat} (h : Hw.Acc s bl cells E n size) (hl : Lies bl W) : HRep ⟨P, W, N, bl.map (·.n), [], []⟩ bl W :=
  ⟨hl, by rcases h with ⟨_, rfl, _⟩ | ⟨q, c, _, _, _, rfl⟩ <;> simp, fun b hb => .inr (List.mem_map.2 ⟨b, hb, rfl⟩), Keeps.refl _ _, fun _ h => (by cases h), fun _ _ _ h => (by cases h)⟩
theorem sees_kok {w : World} {b o : Nat} {cs l : List Value} {T : TypeId} {m : Nat} (hb : BlkOk w ⟨b, cs, T, m⟩) (hs : ∀ (j : Nat) (v : Value), l[j]? = some v → cs[o + j]? = some v) : Sees w b o l := fun j v hj => hb.cell (o := o + j) (hs j v hj)
theorem sp_e {X A K : List Blk} (h : ([] : List Blk).Perm (A ++ K)) : X.Perm ((X ++ A) ++ K) := by rw [List.append_assoc]; exact (List.Perm.append_left X h).symm.symm.trans (.refl _) |> fun k => (by rw [List.append_nil] at k; exact k)
theorem seesP_na {C : Cx} {hp : List Blk} {w : World} {p : Option Addr} {cs : List Value} (h : HRep C hp w) (hs : SeesP C.W0 p cs) (hna : ∀ a, p = some a → a.block ∉ C.lent) : SeesP w p cs := fun j v hj => by
  obtain ⟨b, o, e, hc⟩ := hs j v hj
  exact ⟨b, o, e, h.keeps.cell (show b ∉ C.lent from hna ⟨b, o, none⟩ e) hc⟩
theorem na_kb {C : Cx} {hp bl : List Blk} {w : World} {k : Blk} {o : Nat} (h : HRep C hp w) (hk : k ∈ C.kb) (hb : ∀ b ∈ bl, b ∈ hp) : ∀ a, (some ⟨k.n, o, none⟩ : Option Addr) = some a → a.block ∉ bl.map (·.n) := fun a e hm => by
  cases e
  obtain ⟨b, hb2, e2⟩ := List.mem_map.1 hm
  exact h.kd b (hb b hb2) k hk e2
def voteT (V : Vote) : List UInt8 := Bg V.fHeight ++ Bg V.fRound ++ Bg (Hw.byteOf V.fPhase).toUInt64 ++ V.fValue ++ Bg V.fProof ++ V.fVoter
def Av (V : Vote) : List UInt8 := if A8 V = 0 then voteT V ++ V.fSig else []
def voteN (V : Vote) : Nat := szN V.fHeight.toNat + szN V.fRound.toNat + szN (Hw.byteOf V.fPhase).toUInt64.toNat + 32 + szN V.fProof.toNat + 32
theorem voteT_length {V : Vote} (h : V.ok) : (voteT V).length = voteN V := by simp only [voteT, voteN, List.length_append, A2, h.l_fValue, h.l_fVoter]
theorem voteN_le (V : Vote) : voteN V ≤ 100 := by
  have h1 := Ba V.fHeight.toNat
  have h2 := Ba V.fRound.toNat
  have h3 := Ba (Hw.byteOf V.fPhase).toUInt64.toNat
  have h4 := Ba V.fProof.toNat
  unfold voteN
  omega

theorem text_number (s : Sl) (bl : List Blk) (l : List UInt8) (n : Nat) (hac : Hw.Acc s bl (Ab l) 5 n 1) (hn : n ≤ 1000) (x : UInt64) : Meets Tryz.prog 234 [s.v, u64 x] (bl.map (·.n)) (fun W => Lies bl W ∧ True) (fun v out => ∃ s', v = s'.v ∧ Hw.Acc s' out (Ab (l ++ Bg x)) 5 (n + szN x.toNat) 1) := by
 intro W hW
 have hz := Ba x.toNat
 refine A3 (hp0 := bl) Tryz.func234 rfl 9 Tryz.ntmps234 rfl (Acc.hrep hac hW.1) ?_
 refine Sat.seq (Sat.region ?_)
 refine Tr.a rfl rfl rfl ?_
 refine Tr.nil (Aa (Sat.seq (Sat.region ?_)))
 refine Tr.m rfl rfl rfl ?_
 refine Tr.m rfl rfl rfl ?_
 refine Tr.call4 rfl rfl rfl rfl rfl Body106 (oct_Number none 0 0 [] x rfl (fun _ => rfl) oM) (fun _ _ => SeesP.nil) ?_
 rintro v7 out7 ⟨q7, c7, rfl, hc7, rfl⟩
 simp only [Nat.zero_add, List.nil_append, List.cons_append]
 refine Tr.appendAcc (z := u8 0) (by' := 1) (Ab (Bg x)) rfl rfl rfl rfl rfl Tryz.underlying234 Y58 Sz5 Zr5 (by unfold By; kernel_rfl) rfl hac (by repeat (first | exact sg_end | apply sg_there)) (fun w h => SeesP.of (As h Z0)) (fun e => by cases e) (A9 _) oM oM (by simp [A2]) ?_
 intro s8 bl8 hac8
 refine Tr.a rfl rfl rfl ?_
 refine Tr.nil (Aa (Sat.ret (Am ?_)))
 refine Al (out := (bl8 ++ [])) (Ad rfl rfl) (Ac sG Ag) ?_
 exact ⟨s8, rfl, by rw [bytesV_app, List.append_nil]; exact hac8⟩

theorem text_raw (s : Sl) (bl : List Blk) (l : List UInt8) (n : Nat) (hac : Hw.Acc s bl (Ab l) 5 n 1) (hn : n ≤ 1000) (p : Option Addr) (m c : Nat) (ys : List UInt8) (hy : ys.length = m) (hm : m ≤ 1000) (hpn : p = none → m = 0) : Meets Tryz.prog 203 [s.v, .slice p m c] (bl.map (·.n)) (fun W => Lies bl W ∧ SeesP W p (Ab ys) ∧ ∀ a, p = some a → a.block ∉ bl.map (·.n)) (fun v out => ∃ s', v = s'.v ∧ Hw.Acc s' out (Ab (l ++ ys)) 5 (n + m) 1) := by
 intro W hW
 refine A3 (hp0 := bl) Tryz.func203 rfl 8 Tryz.ntmps203 rfl (Acc.hrep hac hW.1) ?_
 refine Sat.seq (Sat.region ?_)
 refine Tr.a rfl rfl rfl ?_
 refine Tr.nil (Aa (Sat.seq (Sat.region ?_)))
 refine Tr.m rfl rfl rfl ?_
 refine Tr.m rfl rfl rfl ?_
 refine Tr.appendAcc (z := u8 0) (by' := 1) (Ab ys) rfl rfl rfl rfl rfl Tryz.underlying234 Y58 Sz5 Zr5 (by unfold By; kernel_rfl) rfl hac (by repeat (exact sg_end)) (fun w h => seesP_na h hW.2.1 hW.2.2) hpn (A9 _) oM oM (by rw [Ab, List.length_map, hy, Nat.mul_one]) ?_
 intro s7 bl7 hac7
 refine Tr.a rfl rfl rfl ?_
 refine Tr.nil (Aa (Sat.ret (Am ?_)))
 refine Al (out := (bl7 ++ [])) (Ad rfl rfl) (Ac sG Ag) ?_
 exact ⟨s7, rfl, by rw [bytesV_app, List.append_nil]; exact hac7⟩

theorem text_vote (s : Sl) (bl : List Blk) (l : List UInt8) (n : Nat) (hac : Hw.Acc s bl (Ab l) 5 n 1) (hn : n ≤ 100) (V : Vote) (hV : V.ok) : Meets Tryz.prog 202 [s.v, agg V.cells] (bl.map (·.n)) (fun W => Lies bl W) (fun v out => ∃ s', v = s'.v ∧ Hw.Acc s' out (Ab (l ++ voteT V)) 5 (n + voteN V) 1) := by
 intro W hW
 have z1 := Ba V.fHeight.toNat
 have z2 := Ba V.fRound.toNat
 have z3 := Ba (Hw.byteOf V.fPhase).toUInt64.toNat
 have z4 := Ba V.fProof.toNat
 refine A3 (hp0 := bl) Tryz.func202 rfl 27 Tryz.ntmps202 rfl (Acc.hrep hac hW) ?_
 refine Sat.seq (Sat.region ?_)
 refine Tr.boxA rfl rfl ?_
 intro n3 hn3 hf3
 refine Tr.a rfl rfl rfl ?_
 refine Tr.nil (Aa ?_)
 refine Sat.join (ι := Sl × List Blk) (fun p => ⟨[(0, p.1.v), (3, ptr n3 0)], (p.2 ++ (⟨n3, V.cells, 81, V.cells.length⟩ :: []))⟩) (fun p => Hw.Acc p.1 p.2 (Ab (l ++ Bg V.fHeight ++ Bg V.fRound ++ Bg (Hw.byteOf V.fPhase).toUInt64)) 5 (n + szN V.fHeight.toNat + szN V.fRound.toNat + szN (Hw.byteOf V.fPhase).toUInt64.toNat) 1) ?_ ?_
 ·
  refine Sat.withK (sp_k (sp_e sp_n)) rfl ?_
  refine Sat.draw [(0, 0), (0, 1), (0, 2), (0, 4), (0, 5), (0, 7), (0, 8), (0, 9), (0, 10), (4, 3), (4, 6), (4, 11), (0, 12)] Bv zK ?_
  refine Tr.m rfl rfl rfl ?_
  refine Tr.fld rfl rfl rfl Y81 rfl B7 dE _ rfl ?_
  refine Tr.kload1 rfl rfl rfl Y48 rfl Z0 (by exact Vote.get_fHeight zA) ?_
  refine Tr.fld rfl rfl rfl Y81 rfl B7 dE _ rfl ?_
  refine Tr.kload1 rfl rfl rfl Y48 rfl Z0 (by exact Vote.get_fRound zA) ?_
  refine Tr.fld rfl rfl rfl Y81 rfl Sz3 dE _ rfl ?_
  refine Tr.kload1 rfl rfl rfl Y3 rfl Z0 (by exact Vote.get_fPhase zA) ?_
  refine Tr.conv rfl rfl rfl Y3 Y5 (cv_i64_u8 _) ?_
  refine Tr.conv rfl rfl rfl Y5 Y48 (cv_u8_u64 _) ?_
  refine Tr.callL (L := bl) rfl rfl rfl rfl rfl Body234 (text_number s bl (l) (n) hac oM (V.fHeight)) sG (A4 rfl) (fun w h => ⟨Lies.of h (by repeat (exact in_here)), trivial⟩) ?_
  rintro v8 out8 ⟨s8, rfl, hac8⟩
  refine Tr.callL (L := out8) rfl rfl rfl rfl rfl Body234 (text_number s8 out8 (l ++ Bg V.fHeight) (n + szN V.fHeight.toNat) hac8 oM (V.fRound)) sG (A4 rfl) (fun w h => ⟨Lies.of h (by repeat (exact in_here)), trivial⟩) ?_
  rintro v11 out11 ⟨s11, rfl, hac11⟩
  refine Tr.callL (L := out11) rfl rfl rfl rfl rfl Body234 (text_number s11 out11 (l ++ Bg V.fHeight ++ Bg V.fRound) (n + szN V.fHeight.toNat + szN V.fRound.toNat) hac11 oM ((Hw.byteOf V.fPhase).toUInt64)) sG (A4 rfl) (fun w h => ⟨Lies.of h (by repeat (exact in_here)), trivial⟩) ?_
  rintro v16 out16 ⟨s16, rfl, hac16⟩
  refine Tr.a rfl rfl rfl ?_
  refine Tr.nil (Aa ?_)
  simp only [List.cons_append, List.nil_append, List.append_nil]
  exact ⟨(s16, out16), hac16, Ah (wk1 rfl (wk1 rfl wk0)) (Ac sG (Ae rM Ag))⟩
 ·
  intro p hj
  have hap := hj
  refine Sat.seq ?_
  refine Sat.withK (sp_x (sp_k sp_n)) rfl ?_
  refine Sat.draw [(0, 0), (0, 1), (0, 2), (0, 4), (0, 5), (0, 7), (0, 8), (4, 3), (4, 6), (4, 9), (0, 10)] Bv zK ?_
  refine Tr.m rfl rfl rfl ?_
  refine Tr.fld rfl rfl rfl Y81 rfl Bf dE _ rfl ?_
  refine Tr.sliceArr rfl rfl rfl Y50 Sz5 ?_
  refine Tr.fld rfl rfl rfl Y81 rfl B7 dE _ rfl ?_
  refine Tr.kload1 rfl rfl rfl Y48 rfl Z0 (by exact Vote.get_fProof zA) ?_
  refine Tr.fld rfl rfl rfl Y81 rfl Sz75 dE _ rfl ?_
  refine Tr.sliceArr rfl rfl rfl Y75 Sz5 ?_
  refine Tr.callL (L := p.2) rfl rfl rfl rfl rfl Body203 (text_raw p.1 p.2 (l ++ Bg V.fHeight ++ Bg V.fRound ++ Bg (Hw.byteOf V.fPhase).toUInt64) (n + szN V.fHeight.toNat + szN V.fRound.toNat + szN (Hw.byteOf V.fPhase).toUInt64.toNat) hap oM (some ⟨n3, 0 + 3, none⟩) 32 32 V.fValue hV.l_fValue dE (fun e => by cases e)) sG (A4 rfl) (fun w h => ⟨Lies.of h (by repeat (exact in_here)), SeesP.of (sees_kok (h.kok _ List.mem_cons_self) (Vote.see_fValue hV)), na_kb h List.mem_cons_self (by repeat (exact in_here))⟩) ?_
  rintro v20 out20 ⟨s20, rfl, hac20⟩
  refine Tr.callL (L := out20) rfl rfl rfl rfl rfl Body234 (text_number s20 out20 (l ++ Bg V.fHeight ++ Bg V.fRound ++ Bg (Hw.byteOf V.fPhase).toUInt64 ++ V.fValue) (n + szN V.fHeight.toNat + szN V.fRound.toNat + szN (Hw.byteOf V.fPhase).toUInt64.toNat + 32) hac20 oM (V.fProof)) sG (A4 rfl) (fun w h => ⟨Lies.of h (by repeat (exact in_here)), trivial⟩) ?_
  rintro v23 out23 ⟨s23, rfl, hac23⟩
  refine Tr.callL (L := out23) rfl rfl rfl rfl rfl Body203 (text_raw s23 out23 (l ++ Bg V.fHeight ++ Bg V.fRound ++ Bg (Hw.byteOf V.fPhase).toUInt64 ++ V.fValue ++ Bg V.fProof) (n + szN V.fHeight.toNat + szN V.fRound.toNat + szN (Hw.byteOf V.fPhase).toUInt64.toNat + 32 + szN V.fProof.toNat) hac23 oM (some ⟨n3, 0 + 36, none⟩) 32 32 V.fVoter hV.l_fVoter dE (fun e => by cases e)) sG (A4 rfl) (fun w h => ⟨Lies.of h (by repeat (exact in_here)), SeesP.of (sees_kok (h.kok _ List.mem_cons_self) (Vote.see_fVoter hV)), na_kb h List.mem_cons_self (by repeat (exact in_here))⟩) ?_
  rintro v26 out26 ⟨s26, rfl, hac26⟩
  refine Tr.a rfl rfl rfl ?_
  refine Tr.nil (Aa (Sat.ret (Am ?_)))
  simp only [List.cons_append, List.nil_append, List.append_nil]
  refine Al (out := (out26 ++ [])) (Ad rfl rfl) (Ac sG Ag) ?_
  refine ⟨s26, rfl, ?_⟩
  rw [List.append_nil, show l ++ voteT V = l ++ Bg V.fHeight ++ Bg V.fRound ++ Bg (Hw.byteOf V.fPhase).toUInt64 ++ V.fValue ++ Bg V.fProof ++ V.fVoter by simp only [voteT, List.append_assoc], show n + voteN V = n + szN V.fHeight.toNat + szN V.fRound.toNat + szN (Hw.byteOf V.fPhase).toUInt64.toNat + 32 + szN V.fProof.toNat + 32 by unfold voteN; omega]
  exact hac26

theorem vote_bytes (V : Vote) (hV : V.ok) : Meets Tryz.prog 114 [agg V.cells] [] (fun _ => True) (fun v out => ∃ s, v = .tuple #[s.v, i64 (A8 V)] ∧ Hw.Acc s out (Ab (Av V)) 5 (Av V).length 1) := by
 intro W hW
 have hvl := voteT_length hV
 have hvn := voteN_le V
 have hsl := hV.l_fSig
 refine Ak Tryz.func114 rfl 15 Tryz.ntmps114 rfl ?_
 refine Sat.seq (Sat.region ?_)
 refine Tr.boxA rfl rfl ?_
 intro n1 hn1 hf1
 refine Tr.a rfl rfl rfl ?_
 refine Tr.a rfl rfl rfl ?_
 refine Tr.nil (Aa (Sat.seq (Sat.seq (Sat.region ?_))))
 refine Tr.lA rfl rfl rfl Y81 rfl Sz81 Z0 (Vote.length zA) ?_
 refine Tr.cV rfl rfl rfl rfl Body85 (vote_check V hV) tV ?_
 refine Tr.a rfl rfl rfl ?_
 refine Tr.nil (Aa (Sat.seq (Sat.region ?_)))
 refine Tr.m rfl rfl rfl ?_
 refine Tr.nei rfl rfl rfl rfl rfl ?_
 refine Tr.nil (Aa ?_)
 refine Sat.condNP rfl (fun hc0 => ?_) (fun hc0 => ?_)
 ·
  refine Sat.seq (Sat.region ?_)
  refine Tr.m rfl rfl rfl ?_
  refine Tr.a rfl rfl rfl ?_
  refine Tr.a rfl rfl rfl ?_
  refine Tr.nil (Aa (Sat.ret (Ao (Am ?_))))
  refine Al (out := []) (Bh rfl rfl rfl) Ag ?_
  exact ⟨Sl.nil, rfl, by rw [show Av V = [] from if_neg hc0]; exact Acc.none⟩
 ·
  refine Sat.skip (Aa (Sat.seq ?_))
  refine Sat.withK (sp_k sp_n) rfl ?_
  refine Sat.draw [(0, 0), (0, 2), (0, 3), (4, 1), (4, 4), (0, 5), (0, 6)] Bv zK ?_
  refine Tr.kloadAll rfl rfl rfl Y81 rfl Sz81 Z0 (Vote.length zA) ?_
  refine Tr.fld rfl rfl rfl Y81 rfl Sz77 dE _ rfl ?_
  refine Tr.sliceArr rfl rfl rfl Y77 Sz5 ?_
  refine Tr.callL (L := []) rfl rfl rfl rfl rfl Body202 (text_vote Sl.nil [] [] 0 Acc.none dE V hV) (.refl _) (A4 rfl) (fun w h => fun b hb => (by cases hb)) ?_
  rintro v11 out11 ⟨s11, rfl, hac11⟩
  simp only [List.nil_append, Nat.zero_add] at hac11
  refine Tr.callL (L := out11) rfl rfl rfl rfl rfl Body203 (text_raw s11 out11 (voteT V) (voteN V) hac11 oM (some ⟨n1, 0 + 68, none⟩) 64 64 V.fSig hV.l_fSig dE (fun e => by cases e)) sG (A4 rfl) (fun w h => ⟨Lies.of h (by repeat (exact in_here)), SeesP.of (sees_kok (h.kok _ List.mem_cons_self) (Vote.see_fSig hV)), na_kb h List.mem_cons_self (by repeat (exact in_here))⟩) ?_
  rintro v14 out14 ⟨s14, rfl, hac14⟩
  refine Tr.a rfl rfl rfl ?_
  refine Tr.a rfl rfl rfl ?_
  refine Tr.nil (Aa (Sat.ret (Am ?_)))
  simp only [List.cons_append, List.nil_append, List.append_nil]
  refine Al (out := (out14 ++ [])) (Bh rfl rfl rfl) (Ac sG Ag) ?_
  refine ⟨s14, by rw [show A8 V = 0 by omega], ?_⟩
  rw [show Av V = voteT V ++ V.fSig from if_pos oM, List.append_nil, show (voteT V ++ V.fSig).length = voteN V + 64 by rw [List.length_append, hvl, hsl]]
  exact hac14

theorem upd_vsig {X : Vote} (h : X.ok) {l : List UInt8} (hl : l = [] ∨ l.length = 64) : upd X.cells 68 (Ab l) = ({ X with fSig := l ++ X.fSig.drop l.length } : Vote).cells := by
  rcases hl with rfl | hl
  · exact upd_nil _ _
  · rw [Vote.upd_fSig h l hl, hl, List.drop_of_length_le (by rw [h.l_fSig]; exact Nat.le_refl _), List.append_nil]
def voteP (xs : List UInt8) : Vote × Nat × Int :=
  let r1 := A1 xs 0 0
  let r2 := A1 xs r1.2.1 r1.2.2
  let r3 := A1 xs r2.2.1 r2.2.2
  let r4 := digR xs r3.2.1 r3.2.2
  let r5 := A1 xs r4.2.1 r4.2.2
  let r6 := digR xs r5.2.1 r5.2.2
  let r7 := takR xs 64 r6.2.1 r6.2.2
  (⟨r1.1, r2.1, ((min r3.1.toNat 4 : Nat) : Int), r4.1, r5.1, r6.1, r7.1 ++ (List.replicate 64 0).drop r7.1.length⟩, r7.2)
def Ay (xs : List UInt8) : Vote × Int :=
  if endR xs.length (voteP xs).2.1 (voteP xs).2.2 = 0 ∧ A8 (voteP xs).1 = 0 then ((voteP xs).1, 0) else (Vote.zero, 4)
theorem voteRd_bad {xs : List UInt8} (h : ¬ (endR xs.length (voteP xs).2.1 (voteP xs).2.2 = 0 ∧ A8 (voteP xs).1 = 0)) : Ay xs = (Vote.zero, 4) := if_neg h
theorem voteRd_ok {xs : List UInt8} (h : endR xs.length (voteP xs).2.1 (voteP xs).2.2 = 0 ∧ A8 (voteP xs).1 = 0) : Ay xs = ((voteP xs).1, 0) := if_pos h

theorem vote_read (a : Option Addr) (n c : Nat) (xs : List UInt8) (hl : xs.length = n) (hp : a = none → n = 0) (hn : n ≤ 90000) : Meets Tryz.prog 77 [.slice a n c] [] (fun W => SeesP W a (Ab xs)) (fun v out => v = .tuple #[agg (Ay xs).1.cells, i64 (Ay xs).2] ∧ out = []) := by
 intro W hW
 obtain ⟨x1, r1, h1⟩ : ∃ l r, A1 xs 0 0 = (l, r) := ⟨_, _, rfl⟩
 obtain ⟨a1, e1⟩ := r1
 obtain ⟨x2, r2, h2⟩ : ∃ l r, A1 xs a1 e1 = (l, r) := ⟨_, _, rfl⟩
 obtain ⟨a2, e2⟩ := r2
 obtain ⟨x3, r3, h3⟩ : ∃ l r, A1 xs a2 e2 = (l, r) := ⟨_, _, rfl⟩
 obtain ⟨a3, e3⟩ := r3
 obtain ⟨l4, r4, h4⟩ : ∃ l r, digR xs a3 e3 = (l, r) := ⟨_, _, rfl⟩
 obtain ⟨a4, e4⟩ := r4
 obtain ⟨x5, r5, h5⟩ : ∃ l r, A1 xs a4 e4 = (l, r) := ⟨_, _, rfl⟩
 obtain ⟨a5, e5⟩ := r5
 obtain ⟨l6, r6, h6⟩ : ∃ l r, digR xs a5 e5 = (l, r) := ⟨_, _, rfl⟩
 obtain ⟨a6, e6⟩ := r6
 obtain ⟨l7, r7, h7⟩ : ∃ l r, takR xs 64 a6 e6 = (l, r) := ⟨_, _, rfl⟩
 obtain ⟨a7, e7⟩ := r7
 have hvp : voteP xs = (({ Vote.zero with fHeight := x1, fRound := x2, fPhase := ((min x3.toNat 4 : Nat) : Int), fValue := l4, fProof := x5, fVoter := l6, fSig := l7 ++ Vote.zero.fSig.drop l7.length } : Vote), a7, e7) := by simp only [voteP, h1, h2, h3, h4, h5, h6, h7]; rfl
 have hd1 := numE_le h1 hl (Nat.zero_le _)
 have hd2 := numE_le h2 hl hd1
 have hd3 := numE_le h3 hl hd2
 have hd4 := digE_le h4 hl hd3
 have hd5 := numE_le h5 hl hd4.1
 have hd6 := digE_le h6 hl hd5
 have hd7 := takE_le h7 hl hd6.1
 have hlen7 : l7.length ≤ 64 := by rcases hd7.2 with h | h <;> simp [h]
 have hs64 : (l7 ++ Vote.zero.fSig.drop l7.length).length = 64 := by rcases hd7.2 with h | h <;> simp [h, Vote.zero]
 have ok2 : ({ Vote.zero with fHeight := x1, fRound := x2 } : Vote).ok := ⟨rfl, rfl, rfl⟩
 have ok3 : ({ Vote.zero with fHeight := x1, fRound := x2, fPhase := ((min x3.toNat 4 : Nat) : Int) } : Vote).ok := ⟨rfl, rfl, rfl⟩
 have ok4 : ({ Vote.zero with fHeight := x1, fRound := x2, fPhase := ((min x3.toNat 4 : Nat) : Int), fValue := l4 } : Vote).ok := ⟨hd4.2, rfl, rfl⟩
 have ok5 : ({ Vote.zero with fHeight := x1, fRound := x2, fPhase := ((min x3.toNat 4 : Nat) : Int), fValue := l4, fProof := x5 } : Vote).ok := ⟨hd4.2, rfl, rfl⟩
 have ok6 : ({ Vote.zero with fHeight := x1, fRound := x2, fPhase := ((min x3.toNat 4 : Nat) : Int), fValue := l4, fProof := x5, fVoter := l6 } : Vote).ok := ⟨hd4.2, hd6.2, rfl⟩
 have okX : ({ Vote.zero with fHeight := x1, fRound := x2, fPhase := ((min x3.toNat 4 : Nat) : Int), fValue := l4, fProof := x5, fVoter := l6, fSig := l7 ++ Vote.zero.fSig.drop l7.length } : Vote).ok := ⟨hd4.2, hd6.2, hs64⟩
 refine Ak Tryz.func77 rfl 42 Tryz.ntmps77 rfl ?_
 refine Sat.seq (Sat.region ?_)
 refine Tr.alloc (cs := Vote.zero.cells) rfl Vote.zr rfl ?_
 intro n2 hn2 hf2
 refine Tr.a rfl rfl rfl ?_
 refine Tr.nil (Aa (Sat.seq (Sat.region ?_)))
 refine Tr.m rfl rfl rfl ?_
 refine Tr.call4 rfl rfl rfl rfl rfl Body91 (oct_Read a n c xs hl hp hn) (fun w h => Az h rfl hW) ?_
 rintro v7 out7 ⟨n7, q7, cp7, rfl, hcp7, rfl⟩
 refine Tr.nd (fun hnd => ?_)
 have hne : q7 ≠ n7 := by intro e; simp [RB, e] at hnd
 clear hnd
 refine Tr.a rfl rfl rfl ?_
 refine Tr.nil (Aa (Sat.seq (Sat.region ?_)))
 refine Tr.m rfl rfl rfl ?_
 refine Tr.callL (L := [RB n7 q7 n cp7 0 0]) rfl rfl rfl rfl rfl Body94 (rd_NumberE n7 q7 n cp7 0 0 xs hl (Nat.zero_le _) hcp7 oM x1 a1 e1 h1) (Ae rM Ag) (A4 rfl) (fun w h => ⟨An h Z0, As h Z1, hne⟩) ?_
 rintro v9 out9 ⟨rfl, rfl⟩
 refine Tr.m rfl rfl rfl ?_
 refine Tr.callL (L := [RB n7 q7 n cp7 a1 e1]) rfl rfl rfl rfl rfl Body94 (rd_NumberE n7 q7 n cp7 a1 e1 xs hl hd1 hcp7 oM x2 a2 e2 h2) (Ae rM Ag) (A4 rfl) (fun w h => ⟨An h Z0, As h Z1, hne⟩) ?_
 rintro v9 out9 ⟨rfl, rfl⟩
 refine Tr.build (cs := ({ Vote.zero with fHeight := x1, fRound := x2 } : Vote).cells) rfl rfl rfl (fun w => by kernel_rfl) ?_
 refine Tr.alloc (cs := Vote.zero.cells) rfl Vote.zr rfl ?_
 intro n5 hn5 hf5
 refine Tr.sA rfl rfl rfl rfl (Vote.isCell zA) Sz81 (Vote.length zA) Z0 (Vote.length zT) zU ?_
 refine Tr.nil (Aa (Sat.seq (Sat.region ?_)))
 refine Tr.m rfl rfl rfl ?_
 refine Tr.callL (L := [RB n7 q7 n cp7 a2 e2]) rfl rfl rfl rfl rfl Body94 (rd_NumberE n7 q7 n cp7 a2 e2 xs hl hd2 hcp7 oM x3 a3 e3 h3) (Ae rM Ag) (A4 rfl) (fun w h => ⟨An h Z1, As h Z2, hne⟩) ?_
 rintro v9 out9 ⟨rfl, rfl⟩
 refine Tr.min2 rfl rfl rfl rfl (show Value.int .u64 (if (4 : Int) < (x3.toNat : Int) then 4 else (x3.toNat : Int)) = .int .u64 ((min x3.toNat 4 : Nat) : Int) from by congr 1; split <;> omega) ?_
 refine Tr.conv rfl rfl rfl Y48 Y3 (show Value.int .i64 (IntKind.i64.wrap ((min x3.toNat 4 : Nat) : Int)) = i64 ((min x3.toNat 4 : Nat) : Int) by rw [i64_wrap oM]) ?_
 refine Tr.fld rfl rfl rfl Y81 rfl Sz3 dE _ rfl ?_
 refine Tr.s1 rfl rfl rfl rfl rfl Sz3 Z1 (by rw [Vote.length zA]; decide) (Vote.set_fPhase zA _) zV ?_
 refine Tr.nil (Aa (Sat.seq (Sat.region ?_)))
 refine Tr.m rfl rfl rfl ?_
 refine Tr.callL (L := [RB n7 q7 n cp7 a3 e3]) rfl rfl rfl rfl rfl Body173 (rd_DigestE n7 q7 n cp7 a3 e3 xs hl hd3 hcp7 oM l4 a4 e4 h4) (Ae rM Ag) (A4 rfl) (fun w h => ⟨An h Z0, As h Z2, hne⟩) ?_
 rintro v9 out9 ⟨rfl, rfl⟩
 refine Tr.fld rfl rfl rfl Y81 rfl Bf dE _ rfl ?_
 refine Tr.storeN (Ab _) rfl rfl rfl rfl rfl zE Bf (by simp [hd4.2]) Z1 (by rw [Vote.length zA]; simp [hd4.2]) (Vote.upd_fValue zA _ (by simp [hd4.2])) zV ?_
 refine Tr.nil (Aa (Sat.seq (Sat.region ?_)))
 refine Tr.m rfl rfl rfl ?_
 refine Tr.callL (L := [RB n7 q7 n cp7 a4 e4]) rfl rfl rfl rfl rfl Body94 (rd_NumberE n7 q7 n cp7 a4 e4 xs hl hd4.1 hcp7 oM x5 a5 e5 h5) (Ae rM Ag) (A4 rfl) (fun w h => ⟨An h Z0, As h Z2, hne⟩) ?_
 rintro v9 out9 ⟨rfl, rfl⟩
 refine Tr.fld rfl rfl rfl Y81 rfl B7 dE _ rfl ?_
 refine Tr.s1 rfl rfl rfl rfl rfl B7 Z1 (by rw [Vote.length zA]; decide) (Vote.set_fProof zA _) zV ?_
 refine Tr.nil (Aa (Sat.seq (Sat.region ?_)))
 refine Tr.m rfl rfl rfl ?_
 refine Tr.callL (L := [RB n7 q7 n cp7 a5 e5]) rfl rfl rfl rfl rfl Body173 (rd_DigestE n7 q7 n cp7 a5 e5 xs hl hd5 hcp7 oM l6 a6 e6 h6) (Ae rM Ag) (A4 rfl) (fun w h => ⟨An h Z0, As h Z2, hne⟩) ?_
 rintro v9 out9 ⟨rfl, rfl⟩
 refine Tr.fld rfl rfl rfl Y81 rfl Sz75 dE _ rfl ?_
 refine Tr.storeN (Ab _) rfl rfl rfl rfl rfl zE Sz75 (by simp [hd6.2]) Z1 (by rw [Vote.length zA]; simp [hd6.2]) (Vote.upd_fVoter zA _ (by simp [hd6.2])) zV ?_
 refine Tr.nil (Aa (Sat.seq ?_))
 refine Sat.draw [(0, 0), (0, 1), (0, 2), (4, 3), (4, 4)] Bv zK ?_
 refine Tr.fld rfl rfl rfl Y81 rfl Sz77 dE _ rfl ?_
 refine Tr.sliceArr rfl rfl rfl Y77 Sz5 ?_
 refine Tr.m rfl rfl rfl ?_
 refine Tr.callL (L := [RB n7 q7 n cp7 a6 e6]) rfl rfl rfl rfl rfl Body174 (rd_TakeE n7 q7 n cp7 a6 e6 64 dE dE xs hl hd6.1 hcp7 oM l7 a7 e7 h7) (Ae rM Ag) (A4 rfl) (fun w h => ⟨An h Z0, As h Z2, hne⟩) ?_
 rintro v30 out30 ⟨s30, bl30, rfl, hac30, rfl⟩
 simp only [List.append_assoc, List.cons_append, List.nil_append]
 refine Tr.copyP (Ab l7) l7.length rfl rfl rfl rfl rfl Y58 Sz5 (fun w h => hac30.see (Lies.of h (by repeat (exact in_here)))) (fun e => hac30.nil e) (by simp [Ab, hac30.num]) (by rw [hac30.num]; omega) (List.take_of_length_le (by simp [Ab])) (A9 _) mR (by rw [Vote.length ok6]; show 68 + l7.length ≤ 132; omega) (upd_vsig ok6 hd7.2) uU ?_
 refine Tr.nil (Aa (Sat.seq (Sat.seq (Sat.region ?_))))
 refine Tr.m rfl rfl rfl ?_
 refine Tr.cV rfl rfl rfl rfl Body105 (rd_End n7 q7 n cp7 a7 e7 hd7.1 oM) (fun w h => An h mR) ?_
 refine two (fun r hr k => Tr.nei rfl rfl rfl rfl hr k) (fun hs8_20 => ?_) (fun hs8_20 => ?_)
 ·
  have hs8_2 := Bs hs8_20
  refine Tr.m rfl rfl rfl ?_
  refine Tr.skp rfl rfl ?_
  refine Tr.skp rfl rfl ?_
  refine Tr.skp rfl rfl ?_
  refine Tr.pick rfl rfl rfl rfl rfl rfl ?_
  refine Tr.nil (Aa ?_)
  refine Sat.cond_t rfl rfl ?_
  refine Sat.seq (Sat.region ?_)
  refine Tr.build (cs := Vote.zero.cells) rfl rfl rfl (fun w => by kernel_rfl) ?_
  refine Tr.sA rfl rfl rfl rfl (Vote.isCell zT) Sz81 (Vote.length zT) mR (Vote.length zT) uU ?_
  refine Tr.a rfl rfl rfl ?_
  refine Tr.nil (Aa (Sat.ret (Ao (Am ?_))))
  refine Al (out := []) (Aq rfl rfl rfl Y81 rfl Sz81 mR (by exact Vote.length zT)) Ag ?_
  exact ⟨by rw [voteRd_bad (by rw [hvp, hl]; exact fun h => hs8_2 h.1)], rfl⟩
 ·
  have hs8_2 := Bt hs8_20
  refine Tr.m rfl rfl rfl ?_
  refine Tr.lA rfl rfl rfl Y81 rfl Sz81 mR (Vote.length zA) ?_
  refine Tr.cV rfl rfl rfl rfl Body85 (vote_check ({ Vote.zero with fHeight := x1, fRound := x2, fPhase := ((min x3.toNat 4 : Nat) : Int), fValue := l4, fProof := x5, fVoter := l6, fSig := l7 ++ Vote.zero.fSig.drop l7.length } : Vote) okX) tV ?_
  refine Tr.nei rfl rfl rfl rfl rfl ?_
  refine Tr.pick rfl rfl rfl rfl rfl rfl ?_
  refine Tr.nil (Aa ?_)
  refine Sat.condNP rfl (fun hc0 => ?_) (fun hc0 => ?_)
  ·
   refine Sat.seq (Sat.region ?_)
   refine Tr.build (cs := Vote.zero.cells) rfl rfl rfl (fun w => by kernel_rfl) ?_
   refine Tr.sA rfl rfl rfl rfl (Vote.isCell zT) Sz81 (Vote.length zT) mR (Vote.length zT) uU ?_
   refine Tr.a rfl rfl rfl ?_
   refine Tr.nil (Aa (Sat.ret (Ao (Am ?_))))
   refine Al (out := []) (Aq rfl rfl rfl Y81 rfl Sz81 mR (by exact Vote.length zT)) Ag ?_
   exact ⟨by rw [voteRd_bad (by rw [hvp, hl]; exact fun h => hc0 h.2)], rfl⟩
  ·
   refine Sat.skip (Aa (Sat.seq (Sat.region ?_)))
   refine Tr.lA rfl rfl rfl Y81 rfl Sz81 mR (Vote.length zA) ?_
   refine Tr.sA rfl rfl rfl rfl (Vote.isCell zA) Sz81 (Vote.length zA) mR (Vote.length zT) uU ?_
   refine Tr.a rfl rfl rfl ?_
   refine Tr.nil (Aa (Sat.ret (Am ?_)))
   refine Al (out := []) (Aq rfl rfl rfl Y81 rfl Sz81 mR (by exact Vote.length zA)) Ag ?_
   exact ⟨by rw [voteRd_ok (by rw [hvp, hl]; exact ⟨hs8_2, hc0⟩), hvp], rfl⟩

end Go.Proofs.YtdifpjmfabhpiaaGreat
end

section
namespace Go.Proofs.YtdifpjmfabhpiaaGreat
open Go Hw

def blkB (ys : List UInt8) : List UInt8 := Bg (UInt64.ofNat ys.length) ++ ys
def B0 {D : Type} (f : D → List UInt8) (ds : List D) : List UInt8 := (ds.map fun d => blkB (f d)).flatten
theorem blkB_length {ys : List UInt8} (h : ys.length ≤ 1000000) : (blkB ys).length = szN ys.length + ys.length := by rw [blkB, List.length_append, A2, Bi h]
theorem listB_step {D : Type} (f : D → List UInt8) {ds : List D} {k : Nat} {d : D} (h : ds[k]? = some d) : B0 f (ds.take (k + 1)) = B0 f (ds.take k) ++ blkB (f d) := by
  rw [take_snoc h, B0, List.map_append, List.flatten_append]; simp [B0]
theorem listB_le {D : Type} (f : D → List UInt8) (M : Nat) (hM : M ≤ 100000) : ∀ ds : List D, (∀ d ∈ ds, (f d).length ≤ M) → (B0 f ds).length ≤ ds.length * (M + 9)
  | [], _ => by simp [B0]
  | d :: ds, h => by
    have ih := listB_le f M hM ds (fun x hx => h x (List.mem_cons_of_mem _ hx))
    have h1 := h d List.mem_cons_self
    have h2 := Ba (f d).length
    have e : B0 f (d :: ds) = blkB (f d) ++ B0 f ds := rfl
    rw [e, List.length_append, blkB_length oM, List.length_cons, Nat.add_mul]
    omega
theorem listB_take_le {D : Type} (f : D → List UInt8) (M : Nat) (hM : M ≤ 100000) (ds : List D) (h : ∀ d ∈ ds, (f d).length ≤ M) (k : Nat) : (B0 f (ds.take k)).length ≤ ds.length * (M + 9) := by
  have h1 := listB_le f M hM (ds.take k) (fun d hd => h d (List.mem_of_mem_take hd))
  have h2 : (ds.take k).length ≤ ds.length := by rw [List.length_take]; omega
  exact Nat.le_trans h1 (Nat.mul_le_mul_right _ h2)

theorem blk_vote_1 (a : Option Addr) (n c : Nat) (l : List UInt8) (hl : l.length = n) (hp : a = none → n = 0) (hn : n ≤ 40000) (X : Vote) (D : Vote) (q : Nat) (hsz : (Av D).length ≤ 40000) : Meets Tryz.prog 201 [.slice a n c, agg X.cells, ptr q 0] [] (fun W => SeesP W a (Ab l) ∧ VoteIs W X D ∧ W.cell? ⟨q, 0, none⟩ = some (.func (.func 114) #[] #[])) (fun v out => FreshRow v out (Ab (l ++ blkB (Av D))) 5 (l ++ blkB (Av D)).length 1) := by
 intro W hW
 obtain rfl : D = X := hW.2.1.eq.symm
 refine Ak Tryz.func201 rfl 17 Tryz.ntmps201 rfl ?_
 refine Sat.seq (Sat.region ?_)
 refine Tr.boxA rfl rfl ?_
 intro n4 hn4 hf4
 refine Tr.a rfl rfl rfl ?_
 refine Tr.nil (Aa (Sat.seq (Sat.region ?_)))
 refine Tr.loadE rfl rfl rfl Tryz.underlying164 rfl (by first | (simp; done) | (simp; exact hW.2.2) | (simp [Cx.with]; done) | (simp [Cx.with]; omega)) (hW.2.2) ?_
 refine Tr.lA rfl rfl rfl Y81 rfl Sz81 mM (Vote.length (by first | exact oK  | exact hW.2.1.ok)) ?_
 refine Tr.call4 rfl rfl rfl rfl rfl Body114 (vote_bytes D hW.2.1.ok) (fun w h => trivial) ?_
 rintro v11 out11 ⟨s11, rfl, hac11⟩
 have hnm := hac11.num
 refine Tr.m rfl rfl rfl ?_
 refine Tr.eX rfl rfl rfl rfl ?_
 refine Tr.eX rfl rfl rfl rfl ?_
 refine Tr.a rfl rfl rfl ?_
 refine Tr.a rfl rfl rfl ?_
 refine Tr.nil (Aa (Sat.seq (Sat.region ?_)))
 refine Tr.m rfl rfl rfl ?_
 refine Tr.m rfl rfl rfl ?_
 refine Tr.call4 rfl rfl rfl rfl rfl Body121 (oct_Block a s11.p n c s11.n s11.c l (Av D) hl hnm.symm hp (fun e => hac11.nil e) hn oM) (fun w h => ⟨Az h rfl hW.1, hac11.see (Lies.of h iN)⟩) ?_
 rintro v16 out16 ⟨q16, c16, rfl, hc16, rfl⟩
 have hq16 : n + szN s11.n + s11.n = (l ++ blkB (Av D)).length := by rw [List.length_append, blkB_length oM, hl, hnm]; omega
 refine Tr.a rfl rfl rfl ?_
 refine Tr.nil (Aa (Sat.ret (Am ?_)))
 refine Al (out := (⟨q16, Ab (l ++ blkB (Av D)), 5, c16 * 1⟩ :: [])) (Ad rfl rfl) (pm_consE rM (by rw [blkB, hnm, List.append_assoc]) rfl Ag) ?_
 exact ⟨q16, c16, by rw [hq16], by rw [← hq16]; exact hc16, rfl⟩

theorem mk_blk_vote  : Meets Tryz.prog 113 [.func (.func 114) #[] #[]] [] (fun _ => True) (fun v out => ∃ c, v = .func (.func 201) #[] #[ptr c 0] ∧ out = [⟨c, [.func (.func 114) #[] #[]], 164, 1⟩]) := by
 intro W hW
 refine Ak Tryz.func113 rfl 4 Tryz.ntmps113 rfl ?_
 refine Sat.seq (Sat.region ?_)
 refine Tr.box1 rfl rfl rfl ?_
 intro n1 hn1 hf1
 refine Tr.a rfl rfl rfl ?_
 refine Tr.nil (Aa (Sat.seq (Sat.region ?_)))
 refine Tr.makeFunc rfl rfl rfl rfl ?_
 refine Tr.a rfl rfl rfl ?_
 refine Tr.nil (Aa (Sat.ret (Am ?_)))
 refine Al (out := (⟨n1, [.func (.func 114) #[] #[]], 164, 1⟩ :: [])) (Ad rfl rfl) (Ae rM Ag) ?_
 exact ⟨n1, rfl, by simp⟩

theorem put_votes (a : Option Addr) (n c : Nat) (l : List UInt8) (s : Sl) (ds : List Vote) (q M : Nat) (hl : l.length = n) (hp : a = none → n = 0) (hM : M ≤ 40000) (hsz : ∀ d ∈ ds, (Av d).length ≤ M) (hs : s.n ≤ 1000) (hN : n + 9 + s.n * (M + 9) ≤ 40000) : Meets Tryz.prog 112 [.slice a n c, s.v, .func (.func 201) #[] #[ptr q 0]] [] (fun W => SeesP W a (Ab l) ∧ VotesAt W s ds ∧ W.cell? ⟨q, 0, none⟩ = some (.func (.func 114) #[] #[])) (fun v out => FreshRow v out (Ab (l ++ Bg (UInt64.ofNat s.n) ++ B0 Av ds)) 5 (l ++ Bg (UInt64.ofNat s.n) ++ B0 Av ds).length 1) := by
 intro W hW
 obtain ⟨rs, hs1⟩ := hW.2.1
 have hnd := hs1.nd
 have hz := Ba s.n
 have hon := Bi (n := s.n) oM
 have hmul : ds.length * (M + 9) = s.n * (M + 9) := by rw [hnd]
 have hle : ∀ k, (l ++ Bg (UInt64.ofNat s.n) ++ B0 Av (ds.take k)).length ≤ 40000 := fun k => by
  have := listB_take_le Av M oM ds hsz k
  simp only [List.length_append, A2, hon, hl]
  omega
 refine Ak Tryz.func112 rfl 26 Tryz.ntmps112 rfl ?_
 refine Sat.seq (Sat.region ?_)
 refine Tr.a rfl rfl rfl ?_
 refine Tr.nil (Aa (Sat.seq (Sat.region ?_)))
 refine Tr.m rfl rfl rfl ?_
 refine Tr.m rfl rfl rfl ?_
 refine Tr.lenSl rfl rfl rfl Y24 ?_
 refine Tr.conv rfl rfl rfl Y3 Y48 (Bq _) ?_
 rw [word_nat (n := s.n) oM]
 refine Tr.call4 rfl rfl rfl rfl rfl Body106 (oct_Number a n c l (UInt64.ofNat s.n) hl hp oM) (fun w h => Az h rfl hW.1) ?_
 rintro v13 out13 ⟨q1, c1, rfl, hc1, rfl⟩
 have e13 : n + szN (UInt64.ofNat s.n).toNat = (l ++ Bg (UInt64.ofNat s.n) ++ B0 Av (ds.take 0)).length := by simp [B0, A2, hl]
 rw [e13] at hc1 ⊢
 refine Tr.a rfl rfl rfl ?_
 refine Tr.nil (Aa (Sat.seq (Sat.seq (Sat.region ?_))))
 refine Tr.m rfl rfl rfl ?_
 refine Tr.lenSl rfl rfl rfl Y24 ?_
 refine Tr.m rfl rfl rfl ?_
 refine Tr.nil (Aa (Sat.block ?_))
 refine Sat.loop (ι := Nat × Nat × Nat) (fun p => ⟨[(0, .slice (some ⟨p.2.1, 0, none⟩) (l ++ Bg (UInt64.ofNat s.n) ++ B0 Av (ds.take p.1)).length p.2.2), (2, .func (.func 201) #[] #[ptr q 0]), (14, s.v), (15, i64 (s.n : Int)), (16, i64 (p.1 : Int))], [⟨p.2.1, Ab (l ++ Bg (UInt64.ofNat s.n) ++ B0 Av (ds.take p.1)), 5, p.2.2 * 1⟩]⟩) (fun p => p.1 ≤ s.n ∧ (l ++ Bg (UInt64.ofNat s.n) ++ B0 Av (ds.take p.1)).length ≤ p.2.2) (fun p => s.n - p.1) ((0, q1, c1)) ?_ ?_ ?_
 · exact ⟨Nat.zero_le _, hc1⟩
 · exact Ap (wk1 rfl (wk1 rfl (wk1 rfl (wk1 rfl (wk1 rfl wk0))))) (wh1 (by simp only [List.take_zero, B0, List.map_nil, List.flatten_nil, List.append_nil]; exact mem0) wh0) nD
 ·
  rintro p ⟨hp1, hp2⟩
  refine Sat.seq (Sat.region ?_)
  refine Tr.lss rfl rfl rfl rfl rfl ?_
  refine Tr.nil (Aa (Sat.seq ?_))
  first
   | refine Sat.condP rfl (fun hc0 => ?_) (fun hc0 => ?_)
   | refine Sat.condNP rfl (fun hc0 => ?_) (fun hc0 => ?_)
   | refine Sat.cond rfl (fun hc0 => ?_) (fun hc0 => ?_)
  ·
   have hk2 : p.1 < s.n := by omega
   obtain ⟨b, o, r, d, hsp, hr, hd, his, hlen, hsee⟩ := hs1.at dE hk2
   refine Sat.skip (Aa (Sat.seq (Sat.block (Sat.seq (Sat.region ?_)))))
   refine Tr.idxSlP 132 rfl rfl rfl hsp rfl Y24 Sz81 p.1 rfl oM ?_
   refine Tr.loadEN r.cells rfl rfl rfl Y81 rfl Sz81 sP hlen hsee ?_
   refine Tr.alloc (cs := Vote.zero.cells) rfl Vote.zr rfl ?_
   intro n8 hn8 hf8
   refine Tr.sA rfl rfl rfl rfl (Vote.isCell (by first | exact oK  | exact his.ok)) Sz81 (Vote.length (by first | exact oK  | exact his.ok)) mM (Vote.length (by first | exact oK  | exact his.ok)) uU ?_
   refine Tr.nil (Aa (Sat.region ?_))
   refine Tr.m rfl rfl rfl ?_
   refine Tr.m rfl rfl rfl ?_
   refine Tr.lA rfl rfl rfl Y81 rfl Sz81 mM (Vote.length (by first | exact oK  | exact his.ok)) ?_
   refine Tr.call4C rfl rfl rfl rfl rfl rfl Body201 (blk_vote_1 (some ⟨p.2.1, 0, none⟩) (l ++ Bg (UInt64.ofNat s.n) ++ B0 Av (ds.take p.1)).length p.2.2 (l ++ Bg (UInt64.ofNat s.n) ++ B0 Av (ds.take p.1)) rfl (fun e => by cases e) (hle _) r d q (Nat.le_trans (hsz d (List.mem_of_getElem? hd)) hM)) (fun w h => ⟨SeesP.of (As h mM), his.ext h rfl, h.keeps.cell sP hW.2.2⟩) ?_
   rintro v23 out23 ⟨q2, c2, rfl, hq2, rfl⟩
   rw [show l ++ Bg (UInt64.ofNat s.n) ++ B0 Av (ds.take p.1) ++ blkB (Av d) = l ++ Bg (UInt64.ofNat s.n) ++ B0 Av (ds.take (p.1 + 1)) by rw [listB_step Av hd, ← List.append_assoc]] at hq2 ⊢
   refine Tr.a rfl rfl rfl ?_
   refine Tr.nil (Bx (Aa (Sat.region ?_)))
   refine Tr.aI rfl rfl rfl rfl oM ?_
   refine Tr.m rfl rfl rfl ?_
   refine Tr.nil (Aa ?_)
   exact ⟨(p.1 + 1, q2, c2), ⟨by simp only []; omega, hq2⟩, by simp only []; omega, Ap (wk1 rfl (wk1 rfl (wk1 rfl (wk1 rfl (wk1 rfl wk0))))) (wh1 mM wh0) nD⟩
  ·
   have hpe : p.1 = s.n := by omega
   have hds : ds = ds.take p.1 := by rw [List.take_of_length_le oM]
   refine Sat.exit (Bc (Bc (bl_h (Aa (Sat.seq (Sat.region ?_))))))
   refine Tr.m rfl rfl rfl ?_
   refine Tr.a rfl rfl rfl ?_
   refine Tr.nil (Aa (Sat.ret (Am ?_)))
   refine ⟨_, [⟨p.2.1, Ab (l ++ Bg (UInt64.ofNat s.n) ++ B0 Av ds), 5, p.2.2 * 1⟩], Ad rfl rfl, (by intro b hb; rw [List.mem_singleton.1 hb, hds]; simp only [List.take_take, Nat.min_self]; exact mem0), nodup1, ⟨p.2.1, p.2.2, by rw [← hds], by rw [← hds] at hp2; exact hp2, rfl⟩⟩

end Go.Proofs.YtdifpjmfabhpiaaGreat
end

section
namespace Go.Proofs.YtdifpjmfabhpiaaGreat
open Go Hw

def DCert.bytes (D : DCert) : List UInt8 := blkB (cutR D.dCut) ++ Bg (UInt64.ofNat D.dVotes.length) ++ B0 Av D.dVotes
noncomputable def B6 (D : DCert) : List UInt8 := if D.check = 0 then D.bytes else []
theorem seqv_ok {W : World} {s : Sl} {rs ds : List Vote} (h : SeqIs Vote.cells 132 VoteIs W s rs ds) : ∀ d ∈ ds, d.ok := by
  intro d hd
  obtain ⟨j, hj, rfl⟩ := List.getElem_of_mem hd
  have hj2 : j < rs.length := by rw [h.nr, ← h.nd]; exact hj
  have := h.is j _ _ (List.getElem?_eq_getElem hj2) (List.getElem?_eq_getElem hj)
  rw [← this.eq]; exact this.ok
theorem voteBy_le {V : Vote} (h : V.ok) : (Av V).length ≤ 164 := by
  unfold Av
  split
  · have := voteN_le V
    rw [List.length_append, voteT_length h, h.l_fSig]; omega
  · simp
theorem DCert.facts {D : DCert} (h : D.check = 0) : D.dCut.check = 0 ∧ 1 ≤ D.dVotes.length ∧ D.dVotes.length ≤ 16 := by
  have h1 : ¬ D.head = true := fun e => by rw [cert_bad1 e] at h; cases h
  simp only [DCert.head, Bool.or_eq_true, Bool.not_eq_true', decide_eq_true_eq, decide_eq_false_iff_not] at h1
  omega
theorem cutR_le {C : Cut} {D : DCut} {W : World} (h : CutIs W C D) : (cutR D).length ≤ 2000 := by
  unfold cutR
  split
  · rename_i h1
    exact D.bytes_small h1 (h.fPrev ▸ h.ok.l_fPrev) h.fHeads.row
  · simp

theorem cert_bytes (C : Cert) (D : DCert) : Meets Tryz.prog 30 [agg C.cells] [] (fun W => CertIs W C D) (fun v out => ∃ s, v = .tuple #[s.v, i64 D.check] ∧ Hw.Acc s out (Ab (B6 D)) 5 (B6 D).length 1) := by
 intro W hW
 obtain ⟨rs, hvs⟩ := hW.fVotes
 have hcl := cutR_le hW.fCut
 have hvok := seqv_ok hvs
 have hvn := hvs.nd
 have hz := Ba (cutR D.dCut).length
 refine Ak Tryz.func30 rfl 24 Tryz.ntmps30 rfl ?_
 refine Sat.seq (Sat.region ?_)
 refine Tr.boxA rfl rfl ?_
 intro n1 hn1 hf1
 refine Tr.a rfl rfl rfl ?_
 refine Tr.a rfl rfl rfl ?_
 refine Tr.nil (Aa (Sat.seq (Sat.seq (Sat.region ?_))))
 refine Tr.lA rfl rfl rfl Y55 rfl Sz55 mM (Cert.length (by first | exact oK  | exact hW.ok | exact hW.ok.o_fCut)) ?_
 refine Tr.cV rfl rfl rfl rfl Body31 (cert_check C D) (fun w h => hW.ext h rfl) ?_
 refine Tr.a rfl rfl rfl ?_
 refine Tr.nil (Aa (Sat.seq (Sat.region ?_)))
 refine Tr.m rfl rfl rfl ?_
 refine Tr.nei rfl rfl rfl rfl rfl ?_
 refine Tr.nil (Aa ?_)
 first
  | refine Sat.condP rfl (fun hc0 => ?_) (fun hc0 => ?_)
  | refine Sat.condNP rfl (fun hc0 => ?_) (fun hc0 => ?_)
  | refine Sat.cond rfl (fun hc0 => ?_) (fun hc0 => ?_)
 ·
  refine Sat.seq (Sat.region ?_)
  refine Tr.m rfl rfl rfl ?_
  refine Tr.a rfl rfl rfl ?_
  refine Tr.a rfl rfl rfl ?_
  refine Tr.nil (Aa (Sat.ret (Ao (Am ?_))))
  refine Al (out := []) (Bh rfl rfl rfl) Ag ?_
  exact ⟨Sl.nil, rfl, by rw [show B6 D = [] from if_neg hc0]; exact Acc.none⟩
 ·
  have hck : D.check = 0 := by omega
  obtain ⟨hk1, hk2, hk3⟩ := DCert.facts hck
  refine Sat.skip (Aa (Sat.seq (Sat.region ?_)))
  refine Tr.fld rfl rfl rfl Y55 rfl Sz53 dE _ rfl ?_
  refine Tr.lN (Cut.cells _) rfl rfl rfl Y53 rfl Sz53 mM (Cert.row_fCut (by first | exact oK  | exact hW.ok | exact hW.ok.o_fCut)) (Cert.rl_fCut (by first | exact oK  | exact hW.ok | exact hW.ok.o_fCut)) ?_
  refine Tr.call4 rfl rfl rfl rfl rfl Body117 (cut_bytes C.fCut D.dCut) (fun w h => hW.fCut.ext h rfl) ?_
  rintro v15 out15 ⟨s15, rfl, hac15⟩
  have hn15 := hac15.num
  refine Tr.m rfl rfl rfl ?_
  refine Tr.eX rfl rfl rfl rfl ?_
  refine Tr.eX rfl rfl rfl rfl ?_
  refine Tr.a rfl rfl rfl ?_
  refine Tr.a rfl rfl rfl ?_
  refine Tr.nil (Aa (Sat.seq ?_))
  refine Sat.withK (sp_x (sp_k sp_n)) rfl ?_
  refine Sat.draw [(0, 0), (0, 2), (0, 3), (4, 1), (4, 4), (4, 5), (0, 6), (0, 7)] Bv zK ?_
  refine Tr.m rfl rfl rfl ?_
  refine Tr.fld rfl rfl rfl Y55 rfl Sz24 dE _ rfl ?_
  refine Tr.kload1 rfl rfl rfl Y24 rfl mM (by first | exact Cert.get_fVotes (by first | exact oK  | exact hW.ok | exact hW.ok.o_fCut) | exact vL) ?_
  refine Tr.call4 rfl rfl rfl rfl rfl Body121 (oct_Block none s15.p 0 0 s15.n s15.c [] (cutR D.dCut) rfl hn15.symm (fun _ => rfl) (fun e => hac15.nil e) dE oM) (fun w h => ⟨SeesP.nil, hac15.see (Lies.of h iN)⟩) ?_
  rintro v19 out19 ⟨q19, c19, rfl, hc19, rfl⟩
  have hb19 : [] ++ Bg (UInt64.ofNat s15.n) ++ cutR D.dCut = blkB (cutR D.dCut) := by rw [blkB, hn15]; rfl
  rw [hb19]
  refine Tr.call4 rfl rfl rfl rfl rfl Body113 (mk_blk_vote) tV ?_
  rintro v22 out22 ⟨c22, rfl, rfl⟩
  refine Tr.call4 rfl rfl rfl rfl rfl Body112 (put_votes (some ⟨q19, 0, none⟩) (0 + szN s15.n + s15.n) c19 (blkB (cutR D.dCut)) C.fVotes D.dVotes c22 164 (by rw [blkB_length oM, hn15]; omega) (fun e => by cases e) dE (fun d hd => voteBy_le (hvok d hd)) oM (by rw [hn15]; have : C.fVotes.n * (164 + 9) ≤ 16 * 173 := Nat.mul_le_mul oM (Nat.le_refl _); omega)) (fun w h => ⟨SeesP.of (As (cs := Ab (blkB (cutR D.dCut))) h mM), Votes_ext h rfl ⟨rs, hvs⟩, (An (B := ⟨c22, _, _, _⟩) h mM).cell (o := 0) rfl⟩) ?_
  rintro v23 out23 ⟨q23, c23, rfl, hc23, rfl⟩
  refine Tr.a rfl rfl rfl ?_
  refine Tr.a rfl rfl rfl ?_
  refine Tr.nil (Aa (Sat.ret (Am ?_)))
  simp only [List.cons_append, List.nil_append, List.append_nil]
  refine Al (out := (⟨q23, Ab (blkB (cutR D.dCut) ++ Bg (UInt64.ofNat C.fVotes.n) ++ B0 Av D.dVotes), 5, c23 * 1⟩ :: [])) (Bh rfl rfl rfl) (Ae rM Ag) ?_
  refine ⟨⟨some ⟨q23, 0, none⟩, (blkB (cutR D.dCut) ++ Bg (UInt64.ofNat C.fVotes.n) ++ B0 Av D.dVotes).length, c23⟩, (by rw [hck]; try rfl), ?_⟩
  rw [show B6 D = D.bytes from if_pos hck, DCert.bytes, hvn]
  exact Acc.some hc23 (by rw [Ab, List.length_map, Nat.mul_one])

end Go.Proofs.YtdifpjmfabhpiaaGreat
end

section
namespace Hw
open Go Go.RowKit
section
variable {C : Cx} {fn : Func} {s : St}
end

def AccO (s : Sl) (bl : List Blk) (cells : List Value) (E : TypeId) (n : Nat) : Prop :=
  (s = Sl.nil ∧ bl = [] ∧ cells = [] ∧ n = 0) ∨ ∃ q o c m pre post, s = ⟨some ⟨q, o, none⟩, n, c⟩ ∧ n ≤ c ∧ cells.length = n ∧ pre.length = o ∧ (post = [] ∨ n = c) ∧ o + c ≤ m ∧ bl = [⟨q, pre ++ cells ++ post, E, m⟩]
section
variable {s : Sl} {bl : List Blk} {cells : List Value} {E : TypeId} {n : Nat}
theorem AccO.none : AccO Sl.nil [] [] E 0 := .inl ⟨rfl, rfl, rfl, rfl⟩
theorem AccO.num (h : AccO s bl cells E n) : s.n = n := by rcases h with ⟨rfl, _, _, rfl⟩ | ⟨q, o, c, m, pre, post, rfl, _⟩ <;> rfl
theorem AccO.len (h : AccO s bl cells E n) : cells.length = n := by rcases h with ⟨_, _, rfl, rfl⟩ | ⟨q, o, c, m, pre, post, _, _, h, _⟩; rfl; exact h
theorem AccO.cap (h : AccO s bl cells E n) : s.n ≤ s.c := by rcases h with ⟨rfl, _⟩ | ⟨q, o, c, m, pre, post, rfl, h, _⟩; exact Nat.le_refl _; exact h
theorem AccO.nilc (h : AccO s bl cells E n) (hp : s.p = .none) : s.c = 0 := by rcases h with ⟨rfl, _⟩ | ⟨q, o, c, m, pre, post, rfl, _⟩; rfl; cases hp
theorem AccO.see (h : AccO s bl cells E n) {w : World} (hw : Lies bl w) : SeesP w s.p cells := by
  rcases h with ⟨_, _, rfl, _⟩ | ⟨q, o, c, m, pre, post, rfl, _, h3, h4, _, _, rfl⟩
  · exact SeesP.nil
  · refine SeesP.of fun j v hj => ?_
    refine (hw _ (List.mem_singleton.2 rfl)).cell (o := o + j) (v := v) ?_
    show (pre ++ cells ++ post)[o + j]? = some v
    have hlt := (List.getElem?_eq_some_iff.1 hj).1
    rw [List.append_assoc, List.getElem?_append_right oM, h4, Nat.add_sub_cancel_left, List.getElem?_append_left hlt]
    exact hj
theorem AccO.pos (h : AccO s bl cells E n) (hn : 0 < n) : ∃ q o c m pre post, s = ⟨some ⟨q, o, .none⟩, n, c⟩ ∧ n ≤ c ∧ cells.length = n ∧ pre.length = o ∧ (post = [] ∨ n = c) ∧ o + c ≤ m ∧ bl = [⟨q, pre ++ cells ++ post, E, m⟩] := by
  rcases h with ⟨_, _, _, rfl⟩ | h
  · exact absurd hn dE
  · exact h
theorem AccO.cut {q o c m : Nat} {pre post : List Value} {x : Value} {l : List Value} (hc : n + 1 ≤ c) (hl : l.length = n) (hp : pre.length = o) (hpo : post = [] ∨ n + 1 = c) (hm : o + c ≤ m) : AccO ⟨some ⟨q, if c = 1 then o else o + 1 * 1, .none⟩, n + 1 - 1, c - 1⟩ [⟨q, pre ++ (x :: l) ++ post, E, m⟩] l E n := by
  by_cases e : c = 1
  · obtain rfl : n = 0 := by omega
    obtain rfl : l = [] := List.eq_nil_of_length_eq_zero hl
    subst e
    rw [if_pos rfl]
    exact .inr ⟨q, o, 0, m, pre, x :: post, rfl, Nat.le_refl _, rfl, hp, .inr rfl, by omega, by simp⟩
  · rw [if_neg e]
    exact .inr ⟨q, o + 1, c - 1, m, pre ++ [x], post, by simp, by omega, hl, by simp [hp], hpo.imp_right (fun h => by omega), by omega, by simp⟩
theorem Acc.off {c : Nat} (h : Acc s bl cells E n 1) : AccO s bl cells E n := by
  rcases h with ⟨rfl, rfl, rfl, rfl⟩ | ⟨q, c, rfl, h1, h2, rfl⟩
  · exact .inl ⟨rfl, rfl, rfl, rfl⟩
  · exact .inr ⟨q, 0, c, c * 1, [], [], rfl, h1, by omega, rfl, .inl rfl, by omega, by simp⟩
end
section
variable {C : Cx} {ops : Array Oper} {rest : List (Nat × Oper)} {sl : List (Nat × Value)} {hp hp' : List Blk} {Q : St → Prop} {c d : Nat} {ty : TypeId} {pos : String} {af : Array Edge} {g : Option (Nat × Bool)}
theorem Tr.mkRoomN {T E : TypeId} {x y : Operand} {kx ky : IntKind} {z : Value} {by' size : Nat} {mi : Int} (m : Nat) (hg : Ai ops sl g = true) (hk : okG c d C.N = true) (hx : Aj sl x = some (.int kx 0)) (hy : Aj sl y = some (.int ky mi)) (hmi : mi = m)
    (hu : C.P.underlying T = some (.slice E)) (hs : Sz C.P E size) (hz : Zr C.P E z) (hb : By C.P E by') (hn : m ≤ 1000000) (hfit : m * by' ≤ 140737488355328)
    (k : ∀ q, Tr C ops rest ⟨(d, .slice (some ⟨q, 0, none⟩) 0 m) :: sl, ⟨q, [], E, m * size⟩ :: hp⟩ Q) : Tr C ops ((c, ⟨some d, .makeSlice T x y, ty, pos, af, g⟩) :: rest) ⟨sl, hp⟩ Q := by
  subst hmi
  simp only [okG, Bool.and_eq_true, Bool.or_eq_true] at hk
  refine Tr.grow (ρ := Nat) (fun _ => True) (fun q => .slice (some ⟨q, 0, none⟩) 0 m) (fun q => [⟨q, [], E, m * size⟩]) (hk.1.imp nbeq' nbeq') (Ax hg) (B1 (nblt hk.2)) ⟨known2 hx hy, fun l hl => ?_, fun a w hf hh => ?_⟩ (fun q _ => k q)
  · obtain ⟨q, _, hq⟩ := fresh_is 0 l
    refine ⟨q, trivial, ?_⟩
    simp only [List.singleton_append, List.map_cons, List.nodup_cons]
    exact ⟨fun h => by obtain ⟨b, hb, e⟩ := List.mem_map.1 h; exact hq b hb e, hl⟩
  · have h1 := hf x (by simp [Op.operands]); rw [hx] at h1
    have h2 := hf y (by simp [Op.operands]); rw [hy] at h2
    simp only [Option.some.injEq] at h1 h2
    have rs := B5 hs
    unfold Sz at hs; unfold Zr at hz; unfold By at hb
    cases hi : C.P.info? E with
    | none => rw [hi] at hs; simp at hs
    | some i =>
      rw [hi] at hs hz hb
      simp only [Option.map_some, Option.some.injEq, Option.bind_some] at hs hz hb
      have wn : IntKind.i64.wrap (m : Int) = m := i64_wrap oM
      have w0 : IntKind.i64.wrap 0 = 0 := by decide
      have hm2 : ((by' : Int) * m) = ((m * by' : Nat) : Int) := by rw [Int.mul_comm]; simp
      have n1 : ¬ ((m : Int) < 0) := by omega
      have n2 : ¬ (281474976710656 < (i.bytes : Int) * m) := by rw [hb, hm2]; omega
      have n5 : ¬ (140737488355328 < m * i.bytes) := by rw [hb]; omega
      have hrun : ∃ arr : Array Value, arr.size = m * size ∧ (execOp a.eval ⟨some d, .makeSlice T x y, ty, pos, af, g⟩).run C.P w = .ok (.value (.slice (some ⟨w.heap.size, 0, none⟩) 0 m)) { w with heap := w.heap.push (.cells arr E) } := by
        by_cases h0 : m * size = 0
        · refine ⟨(Array.range (m * size)).map fun x => (#[] : Array Value)[x % 0]!, by simp, ?_⟩
          simp [execOp, Instr.makeSlice, run_underlying hu, asInt, asIntOf, typeInfo, hi, rs, zeroValue, hz, ← h1, ← h2, wn, w0, n1, n2, n5, h0, newRow, newObj, askRoom, roomBytes]
          simp [Sem.run]
        · refine ⟨(Array.range (m * size)).map fun x => z.cells[x % z.cells.size]!, by simp, ?_⟩
          simp [execOp, Instr.makeSlice, run_underlying hu, asInt, asIntOf, typeInfo, hi, rs, zeroValue, hz, ← h1, ← h2, wn, w0, n1, n2, n5, h0, newRow, newObj, askRoom, roomBytes]
          simp [Sem.run]
      obtain ⟨arr, ha, hrun⟩ := hrun
      unfold Oper.wp
      rw [hrun]
      refine ⟨w.heap.size, trivial, rfl, ⟨⟨rfl, rfl, rfl, by simp, fun k hk _ => ?_⟩, fun b hb => ?_, by simp, fun b hb => ?_⟩⟩
      · simp only [Array.getElem?_push]
        rw [if_neg oM]
      · obtain rfl := List.mem_singleton.1 hb
        exact ⟨arr, (0, 0), by simp, ha, by simp, free0⟩
      · obtain rfl := List.mem_singleton.1 hb
        exact .inl (Nat.le_refl _)
theorem Tr.extractB {x : Operand} {vs : Array Value} {i : Nat} {b : Bool} (hg : Ai ops sl g = true) (hk : okD c d C.N = true) (hx : Aj sl x = some (.tuple vs)) (hv : vs[i]? = some (.bool b))
    (kt : b = true → Tr C ops rest ⟨(d, .bool true) :: sl, hp⟩ Q) (kf : b = false → Tr C ops rest ⟨(d, .bool false) :: sl, hp⟩ Q) : Tr C ops ((c, ⟨some d, .extract x i, ty, pos, af, g⟩) :: rest) ⟨sl, hp⟩ Q := by
  cases b
  · exact Tr.eX hg hk hx hv (kf rfl)
  · exact Tr.eX hg hk hx hv (kt rfl)
end
end Hw
end

section
namespace Go.Proofs.YtdifpjmfabhpiaaGreat
open Go Hw

theorem rdblk_loose (n q N cp a1 : Nat) (e1 : Int) (ys : List UInt8) : LooseL [n] (fun v out => ∃ s bl, v = Sl.v s ∧ Hw.Acc s bl (Ab ys) 5 ys.length 1 ∧ out = bl ++ [RB n q N cp a1 e1]) := fun l h1 h2 => by
  obtain ⟨n0, _, hn0⟩ := fresh_is (n + 1) l
  refine ⟨_, _, ⟨⟨some ⟨n0, 0, none⟩, ys.length, ys.length⟩, [⟨n0, Ab ys, 5, ys.length * 1⟩], rfl, Acc.some (Nat.le_refl _) (by simp [Ab]), rfl⟩, ?_⟩
  simp only [List.cons_append, List.nil_append, List.map_cons, List.nodup_cons, List.mem_cons, RB]
  refine ⟨?_, ?_, h1⟩
  · rintro (h | h)
    · omega
    · obtain ⟨b, hb, e⟩ := List.mem_map.1 h
      exact hn0 b hb e
  · intro h
    obtain ⟨b, hb, e⟩ := List.mem_map.1 h
    exact h2 b hb (by rw [e]; exact List.mem_cons_self)

theorem item_vote (n q N cp at' : Nat) (e : Int) (c : Nat) (xs : List UInt8) (hx : xs.length = N) (hat : at' ≤ N) (hN : N ≤ cp) (hbig : N ≤ 90000) (hcn : c ≠ n) (o : Option (List UInt8)) (a1 : Nat) (e1 : Int) (h1 : blkR xs at' e = (o, a1, e1)) (hvk : (Ay (o.getD [])).1.ok) : Meets Tryz.prog 194 [ptr n 0, ptr c 0] [n] (fun W => BlkOk W (RB n q N cp at' e) ∧ Sees W q 0 (Ab xs) ∧ q ≠ n ∧ W.cell? ⟨c, 0, none⟩ = some (.func (.func 77) #[] #[])) (fun v out => v = .tuple #[agg (Ay (o.getD [])).1.cells, .bool (decide ((Ay (o.getD [])).2 = 0))] ∧ out = [RB n q N cp a1 e1]) := by
 intro W hW
 have hb1 := blkE_le h1 hx hat
 refine A3 (hp0 := [RB n q N cp at' e]) Tryz.func194 rfl 17 Tryz.ntmps194 rfl (HRep.one hW.1) ?_
 refine Sat.seq (Sat.region ?_)
 refine Tr.alloc (cs := Vote.zero.cells) rfl Vote.zr rfl ?_
 intro n3 hn3 hf3
 refine Tr.a rfl rfl rfl ?_
 refine Tr.nil (Aa (Sat.seq ?_))
 refine Sat.withK (sp_v (sp_v sp_n)) rfl ?_
 refine Sat.draw [(0, 0), (0, 1), (5, 2), (3, 3), (0, 4), (0, 5), (0, 6), (2, 7), (4, 8), (0, 9)] Bv zK ?_
 refine Tr.kloadE rfl rfl rfl Tryz.underlying114 rfl (by first | (simp; done) | (simp; exact hW.2.2) | (simp [Cx.with]; done) | (simp [Cx.with]; omega)) (hW.2.2.2) ?_
 refine Tr.m rfl rfl rfl ?_
 refine Tr.callL5 (L := [RB n q N cp at' e]) rfl rfl rfl rfl rfl Body120 (rd_BlockE n q N cp at' e xs hx hat hN hbig o a1 e1 h1) (rdblk_loose n q N cp a1 e1 (o.getD [])) (Ae rM Ag) (A4 rfl) (fun w h => ⟨An h mM, sees_ext h (by simp [Cx.with]; exact hW.2.2.1) hW.2.1, hW.2.2.1⟩) ?_
 rintro v10 out10 ⟨s10, bl10, rfl, hac10, rfl⟩
 simp only [List.append_assoc, List.cons_append, List.nil_append]
 refine Tr.cV rfl rfl rfl rfl Body77 (vote_read s10.p s10.n s10.c (o.getD []) hac10.num.symm (fun e => hac10.nil e) (by rw [hac10.num]; omega)) (fun w h => hac10.see (Lies.of h iN)) ?_
 refine Tr.m rfl rfl rfl ?_
 refine Tr.eX rfl rfl rfl rfl ?_
 refine Tr.eX rfl rfl rfl rfl ?_
 refine Tr.alloc (cs := Vote.zero.cells) rfl Vote.zr rfl ?_
 intro n5 hn5 hf5
 refine Tr.sA rfl rfl rfl rfl (Vote.isCell (by first | exact oK  | exact hvk)) Sz81 (Vote.length (by first | exact oK  | exact hvk)) mM (Vote.length (by first | exact oK  | exact hvk)) uU ?_
 refine Tr.a rfl rfl rfl ?_
 refine Tr.nil (Aa (Sat.seq (Sat.region ?_)))
 simp only [List.cons_append, List.nil_append, List.append_nil, List.append_assoc]
 refine Tr.lA rfl rfl rfl Y81 rfl Sz81 mM (Vote.length (by first | exact oK  | exact hvk)) ?_
 refine Tr.m rfl rfl rfl ?_
 refine Tr.eqi rfl rfl rfl rfl rfl ?_
 refine Tr.sA rfl rfl rfl rfl (Vote.isCell (by first | exact oK  | exact hvk)) Sz81 (Vote.length (by first | exact oK  | exact hvk)) mM (Vote.length (by first | exact oK  | exact hvk)) uU ?_
 refine Tr.a rfl rfl rfl ?_
 refine Tr.nil (Aa (Sat.ret (Am ?_)))
 refine Al (out := (RB n q N cp a1 e1 :: [])) (Aq rfl rfl rfl Y81 rfl Sz81 mM (by first | (simp; done) | exact Vote.length (by first | exact oK  | exact hvk))) (Ae rM Ag) ?_
 exact ⟨rfl, rfl⟩

theorem pm_one {hp l R : List Blk} {x : Blk} (h : hp.Perm ((x :: l) ++ R)) : hp.Perm (([x] ++ l) ++ R) := h
def votesR (xs : List UInt8) : Nat → Nat → Int → Option (List Vote × Nat × Int)
  | 0, a, e => some ([], a, e)
  | k + 1, a, e => (votesR xs k a e).bind fun r => if (Ay ((blkR xs r.2.1 r.2.2).1.getD [])).2 = 0 ∧ (blkR xs r.2.1 r.2.2).2.2 = 0 then some (r.1 ++ [(Ay ((blkR xs r.2.1 r.2.2).1.getD [])).1], (blkR xs r.2.1 r.2.2).2) else none
def readVL (xs : List UInt8) (M a : Nat) (e : Int) : Option (List Vote × Nat × Int) :=
  if (A1 xs a e).2.2 = 0 ∧ (A1 xs a e).1.toNat ≤ M then votesR xs (A1 xs a e).1.toNat (A1 xs a e).2.1 (A1 xs a e).2.2 else none
theorem votesR_step {xs : List UInt8} {k a : Nat} {e : Int} {vs : List Vote} {a2 a3 : Nat} {e2 e3 : Int} {o : Option (List UInt8)} (h : votesR xs k a e = some (vs, a2, e2)) (hb : blkR xs a2 e2 = (o, a3, e3)) (h1 : (Ay (o.getD [])).2 = 0) (h2 : e3 = 0) : votesR xs (k + 1) a e = some (vs ++ [(Ay (o.getD [])).1], a3, e3) := by
  rw [votesR, h, Option.bind_some]
  simp only [hb]
  rw [if_pos ⟨h1, h2⟩]
theorem votesR_stop {xs : List UInt8} {k a : Nat} {e : Int} {vs : List Vote} {a2 a3 : Nat} {e2 e3 : Int} {o : Option (List UInt8)} (h : votesR xs k a e = some (vs, a2, e2)) (hb : blkR xs a2 e2 = (o, a3, e3)) (h1 : ¬ ((Ay (o.getD [])).2 = 0 ∧ e3 = 0)) : ∀ m, k < m → votesR xs m a e = none
  | 0, hm => absurd hm oM
  | m + 1, hm => by
    rcases Nat.lt_succ_iff_lt_or_eq.1 hm with h3 | rfl
    · rw [votesR, votesR_stop h hb h1 m h3]; rfl
    · rw [votesR, h, Option.bind_some]
      simp only [hb]
      rw [if_neg h1]
theorem Bd (xs : List UInt8) : (Ay xs).1.ok := by
  unfold Ay
  split
  · obtain ⟨x1, r1, h1⟩ : ∃ l r, A1 xs 0 0 = (l, r) := ⟨_, _, rfl⟩
    obtain ⟨a1, e1⟩ := r1
    obtain ⟨x2, r2, h2⟩ : ∃ l r, A1 xs a1 e1 = (l, r) := ⟨_, _, rfl⟩
    obtain ⟨a2, e2⟩ := r2
    obtain ⟨x3, r3, h3⟩ : ∃ l r, A1 xs a2 e2 = (l, r) := ⟨_, _, rfl⟩
    obtain ⟨a3, e3⟩ := r3
    obtain ⟨l4, r4, h4⟩ : ∃ l r, digR xs a3 e3 = (l, r) := ⟨_, _, rfl⟩
    obtain ⟨a4, e4⟩ := r4
    obtain ⟨x5, r5, h5⟩ : ∃ l r, A1 xs a4 e4 = (l, r) := ⟨_, _, rfl⟩
    obtain ⟨a5, e5⟩ := r5
    obtain ⟨l6, r6, h6⟩ : ∃ l r, digR xs a5 e5 = (l, r) := ⟨_, _, rfl⟩
    obtain ⟨a6, e6⟩ := r6
    obtain ⟨l7, r7, h7⟩ : ∃ l r, takR xs 64 a6 e6 = (l, r) := ⟨_, _, rfl⟩
    obtain ⟨a7, e7⟩ := r7
    have hd1 := numE_le h1 rfl (Nat.zero_le _)
    have hd2 := numE_le h2 rfl hd1
    have hd3 := numE_le h3 rfl hd2
    have hd4 := digE_le h4 rfl hd3
    have hd5 := numE_le h5 rfl hd4.1
    have hd6 := digE_le h6 rfl hd5
    have hd7 := takE_le h7 rfl hd6.1
    have hvp : (voteP xs).1 = (⟨x1, x2, ((min x3.toNat 4 : Nat) : Int), l4, x5, l6, l7 ++ (List.replicate 64 0).drop l7.length⟩ : Vote) := by simp only [voteP, h1, h2, h3, h4, h5, h6, h7]
    show (voteP xs).1.ok
    rw [hvp]
    exact ⟨hd4.2, hd6.2, by rcases hd7.2 with h | h <;> simp [h]⟩
  · exact Vote.zero_ok
theorem wf_small {x : Int} (h0 : 0 ≤ x) (h4 : x ≤ 4) : (Lit.int .i64 x).wf = true := by
  have e1 : IntKind.i64.min = -9223372036854775808 := rfl
  have e2 : IntKind.i64.max = 9223372036854775807 := rfl
  simp [Lit.wf]
  omega
structure Vgood (V : Vote) : Prop where
  ok : V.ok
  wf : (Lit.int .i64 V.fPhase).wf = true
theorem voteRd_good (xs : List UInt8) : Vgood (Ay xs).1 := ⟨Bd xs, by
  unfold Ay
  split
  · refine wf_small ?_ ?_ <;> simp only [voteP] <;> omega
  · exact wf_small dE dE⟩
def VotesRead (xs : List UInt8) (M a : Nat) (e : Int) (n q N cp : Nat) (v : Value) (out : List Blk) : Prop :=
  ∃ s bl a1 e1, a1 ≤ N ∧ out = bl ++ [RB n q N cp a1 e1] ∧ v = .tuple #[Sl.v s, .bool (readVL xs M a e).isSome] ∧ (∀ vs a2 e2, readVL xs M a e = some (vs, a2, e2) → a1 = a2 ∧ e1 = e2 ∧ vs.length ≤ M ∧ (∀ V ∈ vs, Vgood V) ∧ Hw.Acc s bl (vs.map Vote.cells).flatten 81 vs.length 132)
theorem votes_none {xs : List UInt8} {M a : Nat} {e : Int} {n q N cp a1 : Nat} {e1 : Int} (h : readVL xs M a e = none) (ha : a1 ≤ N) : VotesRead xs M a e n q N cp (.tuple #[.slice none 0 0, .bool false]) (RB n q N cp a1 e1 :: []) :=
  ⟨Sl.nil, [], a1, e1, ha, rfl, by rw [h]; rfl, fun vs a2 e2 h2 => by rw [h] at h2; cases h2⟩
structure VSt where
  k : Nat
  s : Sl
  bl : List Blk
  vs : List Vote
  a : Nat
  e : Int

theorem read_votes (n q N cp at' : Nat) (e : Int) (c M : Nat) (xs : List UInt8) (hx : xs.length = N) (hat : at' ≤ N) (hN : N ≤ cp) (hbig : N ≤ 90000) (hcn : c ≠ n) (hM : M ≤ 1000) : Meets Tryz.prog 99 [ptr n 0, i64 (M : Int), .func (.func 194) #[] #[ptr c 0]] [n] (fun W => BlkOk W (RB n q N cp at' e) ∧ Sees W q 0 (Ab xs) ∧ q ≠ n ∧ W.cell? ⟨c, 0, none⟩ = some (.func (.func 77) #[] #[])) (VotesRead xs M at' e n q N cp) := by
 intro W hW
 obtain ⟨x1, r1, h1⟩ : ∃ l r, A1 xs at' e = (l, r) := ⟨_, _, rfl⟩
 obtain ⟨a1, e1⟩ := r1
 have hd1 := numE_le h1 hx hat
 have hMw : (UInt64.ofNat M).toNat = M := Bi oM
 have hrv : readVL xs M at' e = if e1 = 0 ∧ x1.toNat ≤ M then votesR xs x1.toNat a1 e1 else none := by simp only [readVL, h1]
 refine A3 (hp0 := [RB n q N cp at' e]) Tryz.func99 rfl 47 Tryz.ntmps99 rfl (HRep.one hW.1) ?_
 refine Sat.seq (Sat.region ?_)
 refine Tr.a rfl rfl rfl ?_
 refine Tr.a rfl rfl rfl ?_
 refine Tr.nil (Aa (Sat.seq (Sat.region ?_)))
 refine Tr.m rfl rfl rfl ?_
 refine Tr.callL (L := [RB n q N cp at' e]) rfl rfl rfl rfl rfl Body94 (rd_NumberE n q N cp at' e xs hx hat hN oM x1 a1 e1 h1) (Ae rM Ag) (A4 rfl) (fun w h => ⟨An h mM, sees_ext h (by simp; exact hW.2.2.1) hW.2.1, hW.2.2.1⟩) ?_
 rintro v13 out13 ⟨rfl, rfl⟩
 refine Tr.a rfl rfl rfl ?_
 refine Tr.nil (Aa (Sat.seq (Sat.seq (Sat.region ?_))))
 refine Tr.m rfl rfl rfl ?_
 refine Tr.cV rfl rfl rfl rfl Body192 (rd_Err n q N cp a1 e1) (fun w h => An h mM) ?_
 refine two (fun r hr k => Tr.nei rfl rfl rfl rfl hr k) (fun hs2_20 => ?_) (fun hs2_20 => ?_)
 ·
  first | have hs2_2 := of_decide_eq_true hs2_20 | have hs2_2 := of_decide_eq_false hs2_20 | have hs2_2 := Bs hs2_20 | have hs2_2 := Bt hs2_20 | have hs2_2 := hs2_20
  refine Tr.m rfl rfl rfl ?_
  refine Tr.skp rfl rfl ?_
  refine Tr.skp rfl rfl ?_
  refine Tr.skp rfl rfl ?_
  refine Tr.skp rfl rfl ?_
  refine Tr.pick rfl rfl rfl rfl rfl rfl ?_
  refine Tr.nil (Aa ?_)
  refine Sat.cond_t rfl rfl ?_
  refine Sat.seq (Sat.region ?_)
  refine Tr.a rfl rfl rfl ?_
  refine Tr.a rfl rfl rfl ?_
  refine Tr.nil (Aa (Sat.ret (Ao (Am ?_))))
  refine Al (out := (RB n q N cp a1 e1 :: [])) (Bh rfl rfl rfl) (Ae rM Ag) ?_
  exact votes_none (by rw [hrv]; exact if_neg (fun h => by omega)) oM
 ·
  first | have hs2_2 := of_decide_eq_true hs2_20 | have hs2_2 := of_decide_eq_false hs2_20 | have hs2_2 := Bs hs2_20 | have hs2_2 := Bt hs2_20 | have hs2_2 := hs2_20
  refine Tr.m rfl rfl rfl ?_
  refine Tr.m rfl rfl rfl ?_
  refine Tr.m rfl rfl rfl ?_
  refine Tr.conv rfl rfl rfl Y3 Y48 (Bq _) ?_
  rw [word_nat (n := M) oM]
  refine Tr.gtr rfl rfl rfl rfl rfl ?_
  refine Tr.pick rfl rfl rfl rfl rfl rfl ?_
  refine Tr.nil (Aa ?_)
  first
   | refine Sat.condP rfl (fun hc0 => ?_) (fun hc0 => ?_)
   | refine Sat.condNP rfl (fun hc0 => ?_) (fun hc0 => ?_)
   | refine Sat.cond rfl (fun hc0 => ?_) (fun hc0 => ?_)
  ·
   have hno : ¬ (e1 = 0 ∧ x1.toNat ≤ M) := by omega
   refine Sat.seq (Sat.region ?_)
   refine Tr.a rfl rfl rfl ?_
   refine Tr.a rfl rfl rfl ?_
   refine Tr.nil (Aa (Sat.ret (Ao (Am ?_))))
   refine Al (out := (RB n q N cp a1 e1 :: [])) (Bh rfl rfl rfl) (Ae rM Ag) ?_
   exact votes_none (by rw [hrv]; exact if_neg (fun h => by omega)) oM
  ·
   have hyes : e1 = 0 ∧ x1.toNat ≤ M := by omega
   have hx64 : x1 = UInt64.ofNat x1.toNat := by simp
   refine Sat.skip (Aa (Sat.seq (Sat.region ?_)))
   refine Tr.m rfl rfl rfl ?_
   refine Tr.mkRoomN (z := agg Vote.zero.cells) (by' := 160) x1.toNat rfl rfl rfl rfl rfl Y24 Sz81 Vote.zr (by unfold By; kernel_rfl) oM oM ?_
   intro q9
   refine Tr.a rfl rfl rfl ?_
   refine Tr.nil (Aa (Sat.seq (Sat.seq (Sat.region ?_))))
   refine Tr.m rfl rfl rfl ?_
   refine Tr.m rfl rfl rfl ?_
   refine Tr.nil (Aa (Sat.block ?_))
   refine Sat.loop (ι := VSt) (fun p => ⟨[(0, ptr n 0), (2, .func (.func 194) #[] #[ptr c 0]), (9, p.s.v), (25, u64 x1), (26, u64 (UInt64.ofNat p.k))], (RB n q N cp p.a p.e :: (p.bl ++ []))⟩) (fun p => p.k ≤ x1.toNat ∧ votesR xs p.k a1 e1 = some (p.vs, p.a, p.e) ∧ p.a ≤ N ∧ Hw.Acc p.s p.bl (p.vs.map Vote.cells).flatten 81 p.k 132 ∧ p.vs.length = p.k ∧ ∀ V ∈ p.vs, Vgood V) (fun p => x1.toNat - p.k) (⟨0, ⟨some ⟨q9, 0, none⟩, 0, x1.toNat⟩, [⟨q9, [], 81, x1.toNat * 132⟩], [], a1, e1⟩) ?_ ?_ ?_
   · exact ⟨Nat.zero_le _, rfl, hd1, Acc.some (Nat.zero_le _) sP, rfl, fun V h => (by cases h)⟩
   · exact Ah (wk1 rfl (wk1 rfl (wk1 rfl (wk1 rfl (wk1 rfl wk0))))) (Ae rM (pm_one (Ae rM Ag)))
   ·
    rintro p hp
    obtain ⟨k, s, bl, vs, a2, e2⟩ := p
    obtain ⟨hk, hvr, ha2, hac, hvl, hvo⟩ := hp
    dsimp only at hk hvr ha2 hac hvl hvo ⊢
    obtain ⟨o, r3, hb3⟩ : ∃ l r, blkR xs a2 e2 = (l, r) := ⟨_, _, rfl⟩
    obtain ⟨a3, e3⟩ := r3
    have hd3 := blkE_le hb3 hx ha2
    refine Sat.seq (Sat.region ?_)
    refine Tr.lss rfl rfl rfl rfl rfl ?_
    refine Tr.nil (Aa (Sat.seq ?_))
    first
     | refine Sat.condP rfl (fun hc1 => ?_) (fun hc1 => ?_)
     | refine Sat.condNP rfl (fun hc1 => ?_) (fun hc1 => ?_)
     | refine Sat.cond rfl (fun hc1 => ?_) (fun hc1 => ?_)
    ·
     have hk64 : (UInt64.ofNat k).toNat = k := Bi oM
     have hk2 : k < x1.toNat := by omega
     refine Sat.skip (Aa (Sat.seq (Sat.block (Sat.seq (Sat.region ?_)))))
     refine Tr.m rfl rfl rfl ?_
     refine Tr.m rfl rfl rfl ?_
     refine Tr.callCL (L := [RB n q N cp a2 e2]) rfl rfl rfl rfl rfl rfl Body194 (item_vote n q N cp a2 e2 c xs hx ha2 hN hbig hcn o a3 e3 hb3 (Bd _)) (Ae rM Ag) (A4 rfl) (fun w h => ⟨An h mM, sees_ext h (by simp; exact hW.2.2.1) hW.2.1, hW.2.2.1, h.keeps.cell (by simp; exact hcn) hW.2.2.2⟩) ?_
     rintro v31 out31 ⟨rfl, rfl⟩
     refine Tr.m rfl rfl rfl ?_
     refine Tr.eX rfl rfl rfl rfl ?_
     refine Tr.extractB rfl rfl rfl rfl (fun hs7_50 => ?_) (fun hs7_50 => ?_)
     ·
      first | have hs7_5 := of_decide_eq_true hs7_50 | have hs7_5 := of_decide_eq_false hs7_50 | have hs7_5 := Bs hs7_50 | have hs7_5 := Bt hs7_50 | have hs7_5 := hs7_50
      refine Tr.alloc (cs := Vote.zero.cells) rfl Vote.zr rfl ?_
      intro n10 hn10 hf10
      refine Tr.sA rfl rfl rfl rfl (Vote.isCell (by first | exact oK  | exact Bd _)) Sz81 (Vote.length (by first | exact oK  | exact Bd _)) mM (Vote.length (by first | exact oK  | exact Bd _)) uU ?_
      refine Tr.a rfl rfl rfl ?_
      refine Tr.nil (Aa (Sat.seq (Sat.seq (Sat.region ?_))))
      refine Tr.m rfl rfl rfl ?_
      refine Tr.not rfl rfl rfl ?_
      refine Tr.m rfl rfl rfl ?_
      refine Tr.m rfl rfl rfl ?_
      refine Tr.cV rfl rfl rfl rfl Body192 (rd_Err n q N cp a3 e3) (fun w h => An h mM) ?_
      refine Tr.nei rfl rfl rfl rfl rfl ?_
      refine Tr.pick rfl rfl rfl rfl rfl rfl ?_
      refine Tr.nil (Aa ?_)
      first
       | refine Sat.condP rfl (fun hc2 => ?_) (fun hc2 => ?_)
       | refine Sat.condNP rfl (fun hc2 => ?_) (fun hc2 => ?_)
       | refine Sat.cond rfl (fun hc2 => ?_) (fun hc2 => ?_)
      ·
       refine Sat.seq (Sat.region ?_)
       refine Tr.a rfl rfl rfl ?_
       refine Tr.a rfl rfl rfl ?_
       refine Tr.nil (Aa (Sat.ret (Ao (Bw (Ao (Ao (Bw (Ao (Am ?_)))))))))
       refine Al (out := (RB n q N cp a3 e3 :: [])) (Bh rfl rfl rfl) (Ae rM Ag) ?_
       exact votes_none (by rw [hrv, if_pos hyes]; exact votesR_stop hvr hb3 oM _ hk2) hd3.1
      ·
       refine Sat.skip (Aa (Sat.region ?_))
       refine Tr.m rfl rfl rfl ?_
       refine Tr.lA rfl rfl rfl Y81 rfl Sz81 mM (Vote.length (by first | exact oK  | exact Bd _)) ?_
       refine Tr.mkRow (z := agg Vote.zero.cells) [agg (Ay (o.getD [])).1.cells] (Ay (o.getD [])).1.cells rfl rfl rfl Y24 Sz81 Vote.zr rfl rfl (by intro v hv; rw [List.mem_singleton.1 hv]; exact Vote.length (Bd _)) dE (by simp [Value.cells]) ?_
       intro q43
       refine Tr.appendAcc (z := agg Vote.zero.cells) (by' := 160) ((Ay (o.getD [])).1.cells) rfl rfl rfl rfl rfl Y24 Y24 Sz81 Zr81 (by unfold By; kernel_rfl) rfl hac sG (fun w h => SeesP.of (As h mM)) (fun e => by cases e) (Vote.isCell (Bd _)) oM oM (by rw [Vote.length (Bd _)]) ?_
       intro s44 bl44 hac44
       refine Tr.a rfl rfl rfl ?_
       refine Tr.nil (Bx (Aa (Sat.region ?_)))
       refine Tr.add_u64 rfl rfl rfl (show Aj _ _ = some (u64 1) from rfl) ?_
       refine Tr.m rfl rfl rfl ?_
       refine Tr.nil (Aa ?_)
       refine ⟨⟨k + 1, s44, bl44, vs ++ [(Ay (o.getD [])).1], a3, e3⟩, ⟨by simp only []; omega, votesR_step hvr hb3 hs7_5 oM, hd3.1, by simpa using hac44, by simp [hvl], fun V hV => ?_⟩, by simp only []; omega, Ah (wk1 rfl (wk1 rfl (wk1 rfl (wk1 rfl (wk1 (congrArg (fun z => some (u64 z)) (ofNat_step _)) wk0))))) (Ae rM (Ac sG Ag))⟩
       rcases List.mem_append.1 hV with h | h
       · exact hvo V h
       · rw [List.mem_singleton.1 h]; exact voteRd_good _
     ·
      first | have hs7_5 := of_decide_eq_true hs7_50 | have hs7_5 := of_decide_eq_false hs7_50 | have hs7_5 := Bs hs7_50 | have hs7_5 := Bt hs7_50 | have hs7_5 := hs7_50
      refine Tr.alloc (cs := Vote.zero.cells) rfl Vote.zr rfl ?_
      intro n10 hn10 hf10
      refine Tr.sA rfl rfl rfl rfl (Vote.isCell (by first | exact oK  | exact Bd _)) Sz81 (Vote.length (by first | exact oK  | exact Bd _)) mM (Vote.length (by first | exact oK  | exact Bd _)) uU ?_
      refine Tr.a rfl rfl rfl ?_
      refine Tr.nil (Aa (Sat.seq (Sat.seq (Sat.region ?_))))
      refine Tr.m rfl rfl rfl ?_
      refine Tr.not rfl rfl rfl ?_
      refine Tr.m rfl rfl rfl ?_
      refine Tr.skp rfl rfl ?_
      refine Tr.skp rfl rfl ?_
      refine Tr.skp rfl rfl ?_
      refine Tr.pick rfl rfl rfl rfl rfl rfl ?_
      refine Tr.nil (Aa ?_)
      refine Sat.cond_t rfl rfl ?_
      refine Sat.seq (Sat.region ?_)
      refine Tr.a rfl rfl rfl ?_
      refine Tr.a rfl rfl rfl ?_
      refine Tr.nil (Aa (Sat.ret (Ao (Bw (Ao (Ao (Bw (Ao (Am ?_)))))))))
      refine Al (out := (RB n q N cp a3 e3 :: [])) (Bh rfl rfl rfl) (Ae rM Ag) ?_
      exact votes_none (by rw [hrv, if_pos hyes]; exact votesR_stop hvr hb3 oM _ hk2) hd3.1
    ·
     have hk64 : (UInt64.ofNat k).toNat = k := Bi oM
     have hke : k = x1.toNat := by omega
     refine Sat.exit (Bc (Bc (bl_h (Aa (Sat.seq (Sat.region ?_))))))
     refine Tr.m rfl rfl rfl ?_
     refine Tr.a rfl rfl rfl ?_
     refine Tr.a rfl rfl rfl ?_
     refine Tr.nil (Aa (Sat.ret (Am ?_)))
     refine Al (out := (bl ++ (RB n q N cp a2 e2 :: []))) (Bh rfl rfl rfl) (Ac sG (Ae rM Ag)) ?_
     have hfin : readVL xs M at' e = some (vs, a2, e2) := by rw [hrv, if_pos hyes, ← hke]; exact hvr
     exact ⟨s, bl, a2, e2, ha2, by simp, by rw [hfin]; rfl, fun vs2 a4 e4 h4 => by rw [hfin] at h4; cases h4; exact ⟨rfl, rfl, by omega, hvo, by rw [hvl]; exact hac⟩⟩

end Go.Proofs.YtdifpjmfabhpiaaGreat
end

section
namespace Go.Proofs.YtdifpjmfabhpiaaGreat
open Go Hw

def dcertz : DCert := ⟨DCut.zero, []⟩
noncomputable def Bl (xs : List UInt8) : DCert × Int :=
  if (Bp ((blkR xs 0 0).1.getD [])).2 = 0 then
    match readVL xs 16 (blkR xs 0 0).2.1 (blkR xs 0 0).2.2 with
    | some (vs, a, e) => if endR xs.length a e = 0 ∧ (⟨(Bp ((blkR xs 0 0).1.getD [])).1, vs⟩ : DCert).check = 0 then (⟨(Bp ((blkR xs 0 0).1.getD [])).1, vs⟩, 0) else (dcertz, 4)
    | none => (dcertz, 4)
  else (dcertz, 4)
theorem certz_is (W : World) : CertIs W Cert.zero dcertz := ⟨Cert.zero_ok, cutz_is W, ⟨[], SeqIs.none⟩⟩
def CertRead (xs : List UInt8) (v : Value) (out : List Blk) : Prop := ∃ C : Cert, C.ok ∧ v = .tuple #[agg C.cells, i64 (Bl xs).2] ∧ ∀ W2, Lies out W2 → CertIs W2 C (Bl xs).1
theorem cert_bad {xs : List UInt8} {out : List Blk} (h : Bl xs = (dcertz, 4)) : CertRead xs (.tuple #[agg Cert.zero.cells, i64 4]) out := by
  refine ⟨Cert.zero, Cert.zero_ok, ?_, fun W2 _ => ?_⟩ <;> rw [h]
  exact certz_is W2
theorem cert_okR {xs : List UInt8} {out : List Blk} {C : Cert} {D : DCert} (h : Bl xs = (D, 0)) (hok : C.ok) (hC : ∀ W2, Lies out W2 → CertIs W2 C D) : CertRead xs (.tuple #[agg C.cells, i64 0]) out := by
  refine ⟨C, hok, ?_, fun W2 h2 => ?_⟩ <;> rw [h]
  exact hC W2 h2
theorem upd_cut {C : Cert} (h : C.ok) {X : Cut} (hx : X.ok) : upd C.cells (0 + 0) X.cells = ({ C with fCut := X } : Cert).cells := by
  have h1 := Cut.length h.o_fCut
  have h2 := Cut.length hx
  simp only [upd, Cert.cells, Nat.zero_add, List.take_zero, List.nil_append, h2]
  congr 1
  rw [← h1, List.drop_left]

theorem owned_vs {s : Sl} {bl : List Blk} {vs : List Vote} (hv : ∀ V ∈ vs, Vgood V) (h : Hw.Acc s bl (vs.map Vote.cells).flatten 81 vs.length 132) (hm : vs.length ≤ 1000000) : ∀ W2, Lies bl W2 → VotesAt W2 s vs := fun W2 hl => ⟨vs, acc_seq h hl rfl rfl (fun r hr => Vote.length (hv r hr).ok) hm fun i r d hr hd => (by
  rw [hr] at hd
  obtain rfl := Option.some.inj hd
  exact ⟨(hv r (List.mem_of_getElem? hr)).ok, rfl, (hv r (List.mem_of_getElem? hr)).wf⟩)⟩

theorem mk_item_vote  : Meets Tryz.prog 100 [.func (.func 77) #[] #[]] [] (fun _ => True) (fun v out => ∃ c, v = .func (.func 194) #[] #[ptr c 0] ∧ out = [⟨c, [.func (.func 77) #[] #[]], 114, 1⟩]) := by
 intro W hW
 refine Ak Tryz.func100 rfl 4 Tryz.ntmps100 rfl ?_
 refine Sat.seq (Sat.region ?_)
 refine Tr.box1 rfl rfl rfl ?_
 intro n1 hn1 hf1
 refine Tr.a rfl rfl rfl ?_
 refine Tr.nil (Aa (Sat.seq (Sat.region ?_)))
 refine Tr.makeFunc rfl rfl rfl rfl ?_
 refine Tr.a rfl rfl rfl ?_
 refine Tr.nil (Aa (Sat.ret (Am ?_)))
 refine Al (out := (⟨n1, [.func (.func 77) #[] #[]], 114, 1⟩ :: [])) (Ad rfl rfl) (Ae rM Ag) ?_
 exact ⟨n1, rfl, by simp⟩

theorem cert_read (a : Option Addr) (n c : Nat) (xs : List UInt8) (hl : xs.length = n) (hp : a = none → n = 0) (hn : n ≤ 90000) : Meets Tryz.prog 29 [.slice a n c] [] (fun W => SeesP W a (Ab xs)) (CertRead xs) := by
 intro W hW
 obtain ⟨o, r1, h1⟩ : ∃ l r, blkR xs 0 0 = (l, r) := ⟨_, _, rfl⟩
 obtain ⟨a1, e1⟩ := r1
 have hd1 := blkE_le h1 hl (Nat.zero_le _)
 have hcr : Bl xs = if (Bp (o.getD [])).2 = 0 then (match readVL xs 16 a1 e1 with | some (vs, a, e) => if endR xs.length a e = 0 ∧ (⟨(Bp (o.getD [])).1, vs⟩ : DCert).check = 0 then ((⟨(Bp (o.getD [])).1, vs⟩ : DCert), (0 : Int)) else (dcertz, (4 : Int)) | none => (dcertz, (4 : Int))) else (dcertz, (4 : Int)) := by simp only [Bl, h1]
 refine Ak Tryz.func29 rfl 40 Tryz.ntmps29 rfl ?_
 refine Sat.seq (Sat.region ?_)
 refine Tr.alloc (cs := Cert.zero.cells) rfl Cert.zr rfl ?_
 intro n2 hn2 hf2
 refine Tr.a rfl rfl rfl ?_
 refine Tr.nil (Aa (Sat.seq (Sat.region ?_)))
 refine Tr.m rfl rfl rfl ?_
 refine Tr.call4 rfl rfl rfl rfl rfl Body91 (oct_Read a n c xs hl hp hn) (fun w h => Az h rfl hW) ?_
 rintro v7 out7 ⟨n7, q7, cp7, rfl, hcp7, rfl⟩
 refine Tr.nd (fun hnd => ?_)
 have hne : q7 ≠ n7 := by intro e; simp [RB, e] at hnd
 clear hnd
 refine Tr.a rfl rfl rfl ?_
 refine Tr.nil (Aa (Sat.seq (Sat.region ?_)))
 refine Tr.alloc (cs := Cert.zero.cells) rfl Cert.zr rfl ?_
 intro n5 hn5 hf5
 refine Tr.nil (Aa (Sat.seq (Sat.region ?_)))
 refine Tr.a rfl rfl rfl ?_
 refine Tr.nil (Aa (Sat.seq (Sat.seq (Sat.region ?_))))
 refine Tr.m rfl rfl rfl ?_
 refine Tr.callL (L := [RB n7 q7 n cp7 0 0]) rfl rfl rfl rfl rfl Body120 (rd_BlockE n7 q7 n cp7 0 0 xs hl (Nat.zero_le _) hcp7 hn o a1 e1 h1) (Ae rM Ag) (A4 rfl) (fun w h => ⟨An h mM, As h mM, hne⟩) ?_
 rintro v12 out12 ⟨s12, bl12, rfl, hac12, rfl⟩
 simp only [List.append_assoc, List.cons_append, List.nil_append]
 refine Tr.call4 rfl rfl rfl rfl rfl Body79 (cut_read s12.p s12.n s12.c (o.getD []) hac12.num.symm (fun e => hac12.nil e) (by rw [hac12.num]; omega)) (fun w h => hac12.see (Lies.of h iN)) ?_
 rintro v13 out13 ⟨C13, okC, rfl, hC13⟩
 refine Tr.m rfl rfl rfl ?_
 refine Tr.eX rfl rfl rfl rfl ?_
 refine Tr.eX rfl rfl rfl rfl ?_
 refine Tr.fld rfl rfl rfl Y55 rfl Sz53 dE _ rfl ?_
 refine Tr.storeN C13.cells rfl rfl rfl rfl rfl (Cut.isCell okC) Sz53 (Cut.length okC) mM (by rw [Cert.length Cert.zero_ok, Cut.length okC]; decide) (upd_cut Cert.zero_ok okC) uU ?_
 refine Tr.a rfl rfl rfl ?_
 refine Tr.nil (Aa (Sat.seq (Sat.region ?_)))
 refine Tr.m rfl rfl rfl ?_
 refine Tr.nei rfl rfl rfl rfl rfl ?_
 refine Tr.nil (Aa ?_)
 first
  | refine Sat.condP rfl (fun hc0 => ?_) (fun hc0 => ?_)
  | refine Sat.condNP rfl (fun hc0 => ?_) (fun hc0 => ?_)
  | refine Sat.cond rfl (fun hc0 => ?_) (fun hc0 => ?_)
 ·
  refine Sat.seq (Sat.region ?_)
  refine Tr.build (cs := Cert.zero.cells) rfl rfl rfl (fun w => by kernel_rfl) ?_
  refine Tr.sA rfl rfl rfl rfl (Cert.isCell (by first | exact oK | exact ⟨okC⟩ | exact okC)) Sz55 (Cert.length (by first | exact oK | exact ⟨okC⟩ | exact okC)) mM (Cert.length (by first | exact oK | exact ⟨okC⟩ | exact okC)) uU ?_
  refine Tr.a rfl rfl rfl ?_
  refine Tr.nil (Aa (Sat.ret (Ao (Am ?_))))
  refine Al (out := []) (Aq rfl rfl rfl Y55 rfl Sz55 mM (by first | (simp; done) | exact Cert.length (by first | exact oK | exact ⟨okC⟩ | exact okC))) Ag ?_
  exact cert_bad (by rw [hcr]; exact if_neg oM)
 ·
  have hc13 : (Bp (o.getD [])).2 = 0 := by omega
  refine Sat.skip (Aa (Sat.seq (Sat.region ?_)))
  refine Tr.a rfl rfl rfl ?_
  refine Tr.nil (Aa (Sat.seq (Sat.seq (Sat.region ?_))))
  refine Tr.m rfl rfl rfl ?_
  refine Tr.call4 rfl rfl rfl rfl rfl Body100 (mk_item_vote) tV ?_
  rintro v22 out22 ⟨c22, rfl, rfl⟩
  refine Tr.nd (fun hnd => ?_)
  have hcn : c22 ≠ n7 := by intro e; simp [RB, e] at hnd
  clear hnd
  simp only [List.append_assoc, List.cons_append, List.nil_append]
  refine Tr.callL (L := [RB n7 q7 n cp7 a1 e1]) rfl rfl rfl rfl rfl Body99 (read_votes n7 q7 n cp7 a1 e1 c22 16 xs hl hd1.1 hcp7 hn hcn dE) (Ae rM Ag) (A4 rfl) (fun w h => ⟨An h mM, As h mM, hne, (An (B := ⟨c22, _, _, _⟩) h mM).cell (o := 0) rfl⟩) ?_
  rintro v23 out23 ⟨s23, bl23, a2, e2, ha2, rfl, rfl, hv23⟩
  simp only [List.append_assoc, List.cons_append, List.nil_append]
  refine Tr.m rfl rfl rfl ?_
  refine Tr.eX rfl rfl rfl rfl ?_
  refine Tr.extractB rfl rfl rfl rfl (fun hs8_50 => ?_) (fun hs8_50 => ?_)
  ·
   first | have hs8_5 := of_decide_eq_true hs8_50 | have hs8_5 := of_decide_eq_false hs8_50 | have hs8_5 := Bs hs8_50 | have hs8_5 := Bt hs8_50 | have hs8_5 := hs8_50
   obtain ⟨r23, hr23⟩ := Option.isSome_iff_exists.1 hs8_5
   obtain ⟨vs, a4, e4⟩ := r23
   obtain ⟨rfl, rfl, hvn, hvo, hvac⟩ := hv23 vs a4 e4 hr23
   refine Tr.fld rfl rfl rfl Y55 rfl Sz24 dE _ rfl ?_
   refine Tr.s1 rfl rfl rfl rfl rfl Sz24 mM (by rw [Cert.length (by first | exact oK | exact ⟨okC⟩ | exact okC)]; decide) (by first | exact Cert.set_fVotes (by first | exact oK | exact ⟨okC⟩ | exact okC) _ | exact Cert.setS_fVotes (by first | exact oK | exact ⟨okC⟩ | exact okC) _ _ _) uU ?_
   refine Tr.a rfl rfl rfl ?_
   refine Tr.nil (Aa (Sat.seq (Sat.region ?_)))
   refine Tr.m rfl rfl rfl ?_
   refine Tr.not rfl rfl rfl ?_
   refine Tr.nil (Aa ?_)
   refine Sat.cond_f rfl rfl ?_
   refine Sat.skip (Aa (Sat.seq (Sat.seq (Sat.region ?_))))
   refine Tr.m rfl rfl rfl ?_
   refine Tr.cV rfl rfl rfl rfl Body105 (rd_End n7 q7 n cp7 a2 e2 ha2 oM) (fun w h => An h mM) ?_
   refine two (fun r hr k => Tr.nei rfl rfl rfl rfl hr k) (fun hs11_20 => ?_) (fun hs11_20 => ?_)
   ·
    first | have hs11_2 := of_decide_eq_true hs11_20 | have hs11_2 := of_decide_eq_false hs11_20 | have hs11_2 := Bs hs11_20 | have hs11_2 := Bt hs11_20 | have hs11_2 := hs11_20
    refine Tr.m rfl rfl rfl ?_
    refine Tr.skp rfl rfl ?_
    refine Tr.skp rfl rfl ?_
    refine Tr.skp rfl rfl ?_
    refine Tr.pick rfl rfl rfl rfl rfl rfl ?_
    refine Tr.nil (Aa ?_)
    refine Sat.cond_t rfl rfl ?_
    refine Sat.seq (Sat.region ?_)
    refine Tr.build (cs := Cert.zero.cells) rfl rfl rfl (fun w => by kernel_rfl) ?_
    refine Tr.sA rfl rfl rfl rfl (Cert.isCell (by first | exact oK | exact ⟨okC⟩ | exact okC)) Sz55 (Cert.length (by first | exact oK | exact ⟨okC⟩ | exact okC)) mM (Cert.length (by first | exact oK | exact ⟨okC⟩ | exact okC)) uU ?_
    refine Tr.a rfl rfl rfl ?_
    refine Tr.nil (Aa (Sat.ret (Ao (Am ?_))))
    refine Al (out := []) (Aq rfl rfl rfl Y55 rfl Sz55 mM (by first | (simp; done) | exact Cert.length (by first | exact oK | exact ⟨okC⟩ | exact okC))) Ag ?_
    exact cert_bad (by rw [hcr, if_pos hc13, hr23]; dsimp only; rw [hl]; exact if_neg (fun h => by have := h.1; omega))
   ·
    first | have hs11_2 := of_decide_eq_true hs11_20 | have hs11_2 := of_decide_eq_false hs11_20 | have hs11_2 := Bs hs11_20 | have hs11_2 := Bt hs11_20 | have hs11_2 := hs11_20
    refine Tr.m rfl rfl rfl ?_
    refine Tr.lA rfl rfl rfl Y55 rfl Sz55 mM (Cert.length (by first | exact oK | exact ⟨okC⟩ | exact okC)) ?_
    refine Tr.cV rfl rfl rfl rfl Body31 (cert_check ({ Cert.zero with fCut := C13, fVotes := s23 } : Cert) ⟨(Bp (o.getD [])).1, vs⟩) (fun w h => ⟨⟨okC⟩, hC13 w (Lies.of h iN), owned_vs hvo hvac oM w (Lies.of h iN)⟩) ?_
    refine Tr.nei rfl rfl rfl rfl rfl ?_
    refine Tr.pick rfl rfl rfl rfl rfl rfl ?_
    refine Tr.nil (Aa ?_)
    first
     | refine Sat.condP rfl (fun hc2 => ?_) (fun hc2 => ?_)
     | refine Sat.condNP rfl (fun hc2 => ?_) (fun hc2 => ?_)
     | refine Sat.cond rfl (fun hc2 => ?_) (fun hc2 => ?_)
    ·
     refine Sat.seq (Sat.region ?_)
     refine Tr.build (cs := Cert.zero.cells) rfl rfl rfl (fun w => by kernel_rfl) ?_
     refine Tr.sA rfl rfl rfl rfl (Cert.isCell (by first | exact oK | exact ⟨okC⟩ | exact okC)) Sz55 (Cert.length (by first | exact oK | exact ⟨okC⟩ | exact okC)) mM (Cert.length (by first | exact oK | exact ⟨okC⟩ | exact okC)) uU ?_
     refine Tr.a rfl rfl rfl ?_
     refine Tr.nil (Aa (Sat.ret (Ao (Am ?_))))
     refine Al (out := []) (Aq rfl rfl rfl Y55 rfl Sz55 mM (by first | (simp; done) | exact Cert.length (by first | exact oK | exact ⟨okC⟩ | exact okC))) Ag ?_
     exact cert_bad (by rw [hcr, if_pos hc13, hr23]; dsimp only; rw [hl]; exact if_neg (fun h => by have := h.2; omega))
    ·
     refine Sat.skip (Aa (Sat.seq (Sat.region ?_)))
     refine Tr.lA rfl rfl rfl Y55 rfl Sz55 mM (Cert.length (by first | exact oK | exact ⟨okC⟩ | exact okC)) ?_
     refine Tr.sA rfl rfl rfl rfl (Cert.isCell (by first | exact oK | exact ⟨okC⟩ | exact okC)) Sz55 (Cert.length (by first | exact oK | exact ⟨okC⟩ | exact okC)) mM (Cert.length (by first | exact oK | exact ⟨okC⟩ | exact okC)) uU ?_
     refine Tr.a rfl rfl rfl ?_
     refine Tr.nil (Aa (Sat.ret (Am ?_)))
     refine Al (out := (out13 ++ (bl23 ++ []))) (Aq rfl rfl rfl Y55 rfl Sz55 mM (by first | (simp; done) | exact Cert.length (by first | exact oK | exact ⟨okC⟩ | exact okC))) (Ac sG (Ac sG Ag)) ?_
     exact cert_okR (D := ⟨(Bp (o.getD [])).1, vs⟩) (by rw [hcr, if_pos hc13, hr23]; dsimp only; rw [hl]; exact if_pos ⟨by omega, by omega⟩) ⟨okC⟩ (fun W2 h2 => ⟨⟨okC⟩, hC13 W2 (h2.sub iN), owned_vs hvo hvac oM W2 (h2.sub iN)⟩)
  ·
   first | have hs8_5 := of_decide_eq_true hs8_50 | have hs8_5 := of_decide_eq_false hs8_50 | have hs8_5 := Bs hs8_50 | have hs8_5 := Bt hs8_50 | have hs8_5 := hs8_50
   have hr23 : readVL xs 16 a1 e1 = none := by simpa using hs8_5
   refine Tr.fld rfl rfl rfl Y55 rfl Sz24 dE _ rfl ?_
   refine Tr.s1 rfl rfl rfl rfl rfl Sz24 mM (by rw [Cert.length (by first | exact oK | exact ⟨okC⟩ | exact okC)]; decide) (by first | exact Cert.set_fVotes (by first | exact oK | exact ⟨okC⟩ | exact okC) _ | exact Cert.setS_fVotes (by first | exact oK | exact ⟨okC⟩ | exact okC) _ _ _) uU ?_
   refine Tr.a rfl rfl rfl ?_
   refine Tr.nil (Aa (Sat.seq (Sat.region ?_)))
   refine Tr.m rfl rfl rfl ?_
   refine Tr.not rfl rfl rfl ?_
   refine Tr.nil (Aa ?_)
   refine Sat.cond_t rfl rfl ?_
   refine Sat.seq (Sat.region ?_)
   refine Tr.build (cs := Cert.zero.cells) rfl rfl rfl (fun w => by kernel_rfl) ?_
   refine Tr.sA rfl rfl rfl rfl (Cert.isCell (by first | exact oK | exact ⟨okC⟩ | exact okC)) Sz55 (Cert.length (by first | exact oK | exact ⟨okC⟩ | exact okC)) mM (Cert.length (by first | exact oK | exact ⟨okC⟩ | exact okC)) uU ?_
   refine Tr.a rfl rfl rfl ?_
   refine Tr.nil (Aa (Sat.ret (Ao (Am ?_))))
   refine Al (out := []) (Aq rfl rfl rfl Y55 rfl Sz55 mM (by first | (simp; done) | exact Cert.length (by first | exact oK | exact ⟨okC⟩ | exact okC))) Ag ?_
   exact cert_bad (by rw [hcr, if_pos hc13, hr23])

end Go.Proofs.YtdifpjmfabhpiaaGreat
end

section
namespace Hw
open Go

def headOf (s h : Nat) : UInt8 := shl8 255 (9 - s) ||| UInt8.ofNat h
theorem head_facts : ∀ s, s < 10 → 1 ≤ s → ∀ h, h < 2 ^ (8 - s) → (s = 9 → h = 0) → B4 (headOf s h) = s ∧ (headV (headOf s h)).toNat = h := by
  decide +kernel
theorem head_back : ∀ n, n < 256 → 1 ≤ B4 (UInt8.ofNat n) ∧ B4 (UInt8.ofNat n) ≤ 9 ∧ (headV (UInt8.ofNat n)).toNat < 2 ^ (8 - B4 (UInt8.ofNat n)) ∧ (B4 (UInt8.ofNat n) = 9 → (headV (UInt8.ofNat n)).toNat = 0) ∧ headOf (B4 (UInt8.ofNat n)) (headV (UInt8.ofNat n)).toNat = UInt8.ofNat n := by
  decide +kernel
theorem head_of (f : UInt8) : 1 ≤ B4 f ∧ B4 f ≤ 9 ∧ (headV f).toNat < 2 ^ (8 - B4 f) ∧ (B4 f = 9 → (headV f).toNat = 0) ∧ headOf (B4 f) (headV f).toNat = f := by
  have h := head_back f.toNat f.toNat_lt
  rwa [UInt8.ofNat_toNat] at h

def beN : List UInt8 → Nat
  | [] => 0
  | b :: l => b.toNat * 256 ^ l.length + beN l
theorem beN_lt : ∀ l, beN l < 256 ^ l.length
  | [] => by simp [beN]
  | b :: l => by
    have h1 := beN_lt l
    have h2 := b.toNat_lt
    rw [beN, List.length_cons, Nat.pow_succ]
    have : b.toNat * 256 ^ l.length + 256 ^ l.length ≤ 256 ^ l.length * 256 := by
      rw [← Nat.succ_mul, Nat.mul_comm]
      exact Nat.mul_le_mul_left _ oM
    omega
theorem beN_inj : ∀ (a b : List UInt8), a.length = b.length → beN a = beN b → a = b
  | [], [], _, _ => rfl
  | x :: a, y :: b, hl, h => by
    simp only [List.length_cons, Nat.add_right_cancel_iff] at hl
    rw [beN, beN, hl] at h
    have h1 := beN_lt a
    have h2 := beN_lt b
    rw [hl] at h1
    have hp : 0 < 256 ^ b.length := Nat.pow_pos dE
    have e1 : x.toNat = y.toNat := by
      have d1 : (x.toNat * 256 ^ b.length + beN a) / 256 ^ b.length = x.toNat := by rw [Nat.mul_comm, Nat.mul_add_div hp, Nat.div_eq_of_lt h1, Nat.add_zero]
      have d2 : (y.toNat * 256 ^ b.length + beN b) / 256 ^ b.length = y.toNat := by rw [Nat.mul_comm, Nat.mul_add_div hp, Nat.div_eq_of_lt h2, Nat.add_zero]
      rw [← d1, ← d2, h]
    rw [e1] at h
    rw [UInt8.toNat_inj.1 e1, beN_inj a b hl oM]
theorem beN_tail (x : UInt64) : ∀ k, k ≤ 8 → beN (tailB x k) = x.toNat % 256 ^ k
  | 0, _ => by simp [tailB, beN, Nat.mod_one]
  | k + 1, hk => by
    have hp : 0 < 256 ^ k := Nat.pow_pos dE
    have e : (2 : Nat) ^ (8 * k) = 256 ^ k := by rw [Nat.pow_mul]
    rw [tailB, beN, tailB_length, beN_tail x k oM, UInt64.toNat_toUInt8]
    have e1 : (shr64 x (8 * k)).toNat = x.toNat / 256 ^ k := by
      have h : x.toNat / 2 ^ (8 * k) ≤ x.toNat := Nat.div_le_self _ _
      have := x.toNat_lt
      rw [shr64, UInt64.toNat_ofNat', Nat.mod_eq_of_lt oM, e]
    rw [e1]
    have h3 := Nat.mod_mul (a := 256 ^ k) (b := 256) (x := x.toNat)
    have e2 : (256 : Nat) ^ (k + 1) = 256 ^ k * 256 := Nat.pow_succ ..
    have e3 : (2 : Nat) ^ 8 = 256 := by decide
    rw [e2, h3, e3, Nat.mul_comm (256 ^ k)]
    omega
theorem foldB_nat : ∀ (l : List UInt8) (a : UInt64), a.toNat * 256 ^ l.length + beN l < 2 ^ 64 → (foldB a l).toNat = a.toNat * 256 ^ l.length + beN l
  | [], a, _ => by simp [foldB, beN]
  | b :: l, a, h => by
    rw [beN, List.length_cons, Nat.pow_succ] at h
    have hb := b.toNat_lt
    have hp : 0 < 256 ^ l.length := Nat.pow_pos dE
    have e : a.toNat * (256 ^ l.length * 256) + (b.toNat * 256 ^ l.length + beN l) = (a.toNat * 256 + b.toNat) * 256 ^ l.length + beN l := by
      rw [Nat.add_mul, Nat.mul_assoc, Nat.mul_comm 256, Nat.add_assoc]
    rw [e] at h
    have h1 : a.toNat * 256 + b.toNat < 18446744073709551616 := by
      rw [show (2 : Nat) ^ 64 = 18446744073709551616 by decide] at h
      have : (a.toNat * 256 + b.toNat) * 1 ≤ (a.toNat * 256 + b.toNat) * 256 ^ l.length := Nat.mul_le_mul_left _ hp
      omega
    have hs : (shl64 a 8).toNat = a.toNat * 256 := by
      have e0 : a.toNat * 2 ^ 8 = a.toNat * 256 := rfl
      rw [shl64, UInt64.toNat_ofNat', e0, Nat.mod_eq_of_lt (Nat.lt_of_le_of_lt (Nat.le_add_right _ b.toNat) h1)]
    have ho : (shl64 a 8 ||| b.toUInt64).toNat = a.toNat * 256 + b.toNat := by
      rw [UInt64.toNat_or, hs, show b.toUInt64.toNat = b.toNat from by simp]
      rw [show a.toNat * 256 = 2 ^ 8 * a.toNat by omega, Nat.two_pow_add_eq_or_of_lt oM]
    rw [foldB, foldB_nat l _ (by rw [ho]; exact h), ho, beN, List.length_cons, Nat.pow_succ, e]

theorem or_one (x : Nat) : x ||| 1 = if x % 2 = 0 then x + 1 else x := by
  have h := Nat.or_mod_two_pow (a := x) (b := 1) (n := 1)
  have h2 := Nat.or_div_two_pow (a := x) (b := 1) (n := 1)
  simp only [Nat.pow_one] at h h2
  have e : x % 2 = 0 ∨ x % 2 = 1 := by omega
  have hm : (x ||| 1) % 2 = 1 := by
    rw [h]
    rcases e with e | e <;> rw [e] <;> rfl
  have hd : (x ||| 1) / 2 = x / 2 := by rw [h2]; simp
  split <;> omega
theorem or_one_lt {x k : Nat} (hk : 1 ≤ k) : (x ||| 1) < 2 ^ k ↔ x < 2 ^ k := by
  rw [or_one]
  have : 2 ^ k = 2 * 2 ^ (k - 1) := by rw [← Nat.pow_succ']; congr 1; omega
  split <;> omega
theorem szN_le {x s : Nat} (hs : 1 ≤ s) (h8 : s ≤ 8) : szN x ≤ s ↔ x < 2 ^ (7 * s) := by
  rw [← or_one_lt oM, ← bLen_le]
  unfold szN
  omega
theorem szN_hi {x : Nat} (hs : szN x ≤ 8) : x < 2 ^ (7 * szN x) := (szN_le (Ba x).1 hs).1 (Nat.le_refl _)

theorem headB_of (x : UInt64) : ∃ h, headB x = headOf (szN x.toNat) h ∧ h < 2 ^ (8 - szN x.toNat) ∧ (szN x.toNat = 9 → h = 0) ∧ x.toNat = h * 256 ^ (szN x.toNat - 1) + x.toNat % 256 ^ (szN x.toNat - 1) := by
  have hp := Ba x.toNat
  have hx := x.toNat_lt
  have e : (2 : Nat) ^ (8 * (szN x.toNat - 1)) = 256 ^ (szN x.toNat - 1) := by rw [Nat.pow_mul]
  have e1 : (shr64 x (8 * (szN x.toNat - 1))).toNat = x.toNat / 256 ^ (szN x.toNat - 1) := by
    have h : x.toNat / 2 ^ (8 * (szN x.toNat - 1)) ≤ x.toNat := Nat.div_le_self _ _
    rw [shr64, UInt64.toNat_ofNat', Nat.mod_eq_of_lt oM, e]
  have hlt : x.toNat / 256 ^ (szN x.toNat - 1) < 2 ^ (8 - szN x.toNat) ∧ (szN x.toNat = 9 → x.toNat / 256 ^ (szN x.toNat - 1) = 0) := by
    by_cases h9 : szN x.toNat = 9
    · rw [h9]
      have : x.toNat / 256 ^ (9 - 1) = 0 := Nat.div_eq_of_lt (by rw [show (256 : Nat) ^ (9 - 1) = 2 ^ 64 by decide]; exact hx)
      rw [this]
      exact ⟨by decide, fun _ => rfl⟩
    · refine ⟨?_, fun h => absurd h h9⟩
      rw [Nat.div_lt_iff_lt_mul (Nat.pow_pos dE), ← e, ← Nat.pow_add]
      have := szN_hi (x := x.toNat) oM
      rwa [show 8 - szN x.toNat + 8 * (szN x.toNat - 1) = 7 * szN x.toNat by omega]
  refine ⟨x.toNat / 256 ^ (szN x.toNat - 1), ?_, hlt.1, hlt.2, (Nat.div_add_mod' _ _).symm⟩
  unfold headB headOf
  congr 1
  apply UInt8.toNat_inj.1
  rw [UInt64.toNat_toUInt8, e1, UInt8.toNat_ofNat']

theorem num_back (x : UInt64) : B4 (headB x) = szN x.toNat ∧ foldB (headV (headB x)) (tailB x (szN x.toNat - 1)) = x := by
  obtain ⟨h, h1, h2, h3, h4⟩ := headB_of x
  have hp := Ba x.toNat
  have hf := head_facts (szN x.toNat) oM hp.1 h h2 h3
  rw [h1]
  refine ⟨hf.1, UInt64.toNat_inj.1 ?_⟩
  have hb := beN_tail x (szN x.toNat - 1) oM
  rw [foldB_nat _ _ (by rw [tailB_length, hf.2, hb, ← h4]; exact x.toNat_lt), tailB_length, hf.2, hb, ← h4]

theorem num_only {f : UInt8} {l : List UInt8} (hl : l.length = B4 f - 1) (hs : szN (foldB (headV f) l).toNat = B4 f) : Bg (foldB (headV f) l) = f :: l := by
  obtain ⟨h1, h2, h3, h4, h5⟩ := head_of f
  have hb := beN_lt l
  rw [hl] at hb
  have hbound : (headV f).toNat * 256 ^ l.length + beN l < 2 ^ 64 := by
    rw [hl]
    have e8 : (256 : Nat) ^ (B4 f - 1) = 2 ^ (8 * (B4 f - 1)) := by rw [Nat.pow_mul]
    by_cases h9 : B4 f = 9
    · have e9 : (256 : Nat) ^ (B4 f - 1) = 2 ^ 64 := by rw [h9]
      rw [h4 h9, Nat.zero_mul, Nat.zero_add, ← e9]
      exact hb
    · have h6 : (headV f).toNat * 256 ^ (B4 f - 1) + 256 ^ (B4 f - 1) ≤ 2 ^ (8 - B4 f) * 256 ^ (B4 f - 1) := by
        rw [← Nat.succ_mul]; exact Nat.mul_le_mul_right _ h3
      have h7 : 2 ^ (8 - B4 f) * 256 ^ (B4 f - 1) = 2 ^ (7 * B4 f) := by
        rw [e8, ← Nat.pow_add]; congr 1; omega
      have h8 : 2 ^ (7 * B4 f) ≤ 2 ^ 64 := Nat.pow_le_pow_right dE oM
      omega
  have hv := foldB_nat l (headV f) hbound
  obtain ⟨x, hx⟩ : ∃ x, foldB (headV f) l = x := ⟨_, rfl⟩
  rw [hx] at hs hv ⊢
  rw [hl] at hv
  have hp : 0 < 256 ^ (B4 f - 1) := Nat.pow_pos dE
  have hdiv : x.toNat / 256 ^ (B4 f - 1) = (headV f).toNat := by
    rw [hv, Nat.mul_comm, Nat.mul_add_div hp, Nat.div_eq_of_lt hb, Nat.add_zero]
  have hmod : x.toNat % 256 ^ (B4 f - 1) = beN l := by
    rw [hv, Nat.mul_comm, Nat.mul_add_mod, Nat.mod_eq_of_lt hb]
  obtain ⟨h, g1, g2, g3, g4⟩ := headB_of x
  rw [hs] at g1 g2 g3 g4
  have hh : h = (headV f).toNat := by
    rw [← hdiv]
    have hm := Nat.mod_lt x.toNat hp
    rw [g4, Nat.mul_comm, Nat.mul_add_div hp, Nat.div_eq_of_lt hm, Nat.add_zero]
  unfold Bg
  rw [g1, hh, h5, hs]
  congr 1
  apply beN_inj
  · rw [tailB_length, hl]
  · rw [beN_tail x _ oM, hmod]
end Hw
end

section
namespace Go.Proofs.YtdifpjmfabhpiaaGreat
open Go Hw

theorem drop_cons {xs l : List UInt8} {a : Nat} {f : UInt8} (h : xs.drop a = f :: l) : a < xs.length ∧ xs.getD a 0 = f ∧ xs.drop (a + 1) = l := by
  have hlt : a < xs.length := by
    rcases Nat.lt_or_ge a xs.length with h1 | h1
    · exact h1
    · rw [List.drop_eq_nil_of_le h1] at h; cases h
  rw [List.drop_eq_getElem_cons hlt] at h
  injection h with h1 h2
  exact ⟨hlt, by rw [List.getD_eq_getElem?_getD, List.getElem?_eq_getElem hlt]; exact h1, h2⟩
theorem drop_split {xs p t : List UInt8} {a : Nat} (h : xs.drop a = p ++ t) (hp : 0 < p.length) : a + p.length ≤ xs.length ∧ (xs.drop a).take p.length = p ∧ xs.drop (a + p.length) = t := by
  have h1 := congrArg List.length h
  rw [List.length_drop, List.length_append] at h1
  refine ⟨by omega, by rw [h]; simp, ?_⟩
  rw [← List.drop_drop, h]; simp
theorem dig_fwd {xs d t : List UInt8} {a : Nat} (h : xs.drop a = d ++ t) (hd : d.length = 32) : digR xs a 0 = (d, a + 32, 0) ∧ xs.drop (a + 32) = t := by
  obtain ⟨h1, h2, h3⟩ := drop_split h oM
  rw [hd] at h1 h2 h3
  unfold digR
  rw [if_neg sP, if_neg oM, h2]
  exact ⟨rfl, h3⟩
theorem num_fwd {xs t : List UInt8} {a : Nat} {x : UInt64} (h : xs.drop a = Bg x ++ t) : A1 xs a 0 = (x, a + szN x.toNat, 0) ∧ xs.drop (a + szN x.toNat) = t := by
  have hp := Ba x.toNat
  have hl := A2 x
  obtain ⟨h1, h2, h3⟩ := drop_split h oM
  rw [hl] at h1 h2 h3
  rw [Bg, List.cons_append] at h
  obtain ⟨g1, g2, g3⟩ := drop_cons h
  obtain ⟨n1, n2⟩ := num_back x
  have hv : numV xs a = x := by
    rw [numV, g2, g3, n1, List.take_left' (tailB_length x _)]
    exact n2
  unfold A1
  rw [if_neg sP, if_neg oM, hv, g2, n1, if_neg oM, if_pos rfl]
  exact ⟨rfl, h3⟩
theorem blk_fwd {xs ds t : List UInt8} {a : Nat} (hn : ds.length ≤ 1000000) (h : xs.drop a = Bg (UInt64.ofNat ds.length) ++ ds ++ t) : blkR xs a 0 = (some ds, a + szN ds.length + ds.length, 0) ∧ xs.drop (a + szN ds.length + ds.length) = t := by
  rw [List.append_assoc] at h
  have hx : (UInt64.ofNat ds.length).toNat = ds.length := Bi hn
  obtain ⟨h1, h2⟩ := num_fwd h
  rw [hx] at h1 h2
  unfold blkR
  rw [h1]
  simp only [hx]
  rw [if_neg sP]
  have hl := congrArg List.length h2
  rw [List.length_drop, List.length_append] at hl
  have hz := Ba ds.length
  have hle : a + szN ds.length ≤ xs.length := by
    have := congrArg List.length h
    rw [List.length_drop, List.length_append, A2, hx] at this
    omega
  rw [if_neg oM, h2]
  refine ⟨by simp, ?_⟩
  rw [← List.drop_drop, h2]; simp
theorem tak_fwd {xs d t : List UInt8} {a m : Nat} (h : xs.drop a = d ++ t) (hd : d.length = m) (hm : 0 < m) : takR xs m a 0 = (d, a + m, 0) ∧ xs.drop (a + m) = t := by
  obtain ⟨h1, h2, h3⟩ := drop_split h oM
  rw [hd] at h1 h2 h3
  unfold takR
  rw [if_neg sP, if_neg oM, h2]
  exact ⟨rfl, h3⟩
theorem digs_fwd {xs t : List UInt8} {ls : List (List UInt8)} {a : Nat} (hls : ∀ l ∈ ls, l.length = 32) (h : xs.drop a = ls.flatten ++ t) : ∀ j, j ≤ ls.length → Bb xs j a 0 = (ls.take j, a + 32 * j, 0) ∧ xs.drop (a + 32 * j) = (ls.drop j).flatten ++ t
  | 0, _ => ⟨rfl, by simpa using h⟩
  | j + 1, hj => by
    obtain ⟨h1, h2⟩ := digs_fwd hls h j oM
    rw [List.drop_eq_getElem_cons (l := ls) (i := j) oM, List.flatten_cons, List.append_assoc] at h2
    obtain ⟨h3, h4⟩ := dig_fwd h2 (hls _ (List.getElem_mem oM))
    refine ⟨?_, by rw [show a + 32 * (j + 1) = a + 32 * j + 32 by omega]; exact h4⟩
    rw [Bb, h1]
    simp only [h3]
    rw [List.take_succ_eq_append_getElem oM]
    rfl
theorem dig_bwd {xs d : List UInt8} {a a1 : Nat} {e : Int} (h : digR xs a e = (d, a1, 0)) : e = 0 ∧ a1 = a + 32 ∧ a + 32 ≤ xs.length ∧ xs.drop a = d ++ xs.drop a1 := by
  unfold digR at h
  by_cases he : e = 0
  · rw [if_neg (by simp [he])] at h
    by_cases h1 : xs.length < a + 32
    · rw [if_pos h1] at h; simp at h
    · rw [if_neg h1] at h
      obtain ⟨rfl, rfl⟩ : (xs.drop a).take 32 = d ∧ a + 32 = a1 := by simpa using h
      exact ⟨he, rfl, by omega, by rw [← List.drop_drop, List.take_append_drop]⟩
  · rw [if_pos he] at h
    simp at h; exact absurd h.2.2 he
theorem num_bwd {xs : List UInt8} {x : UInt64} {a a1 : Nat} {e : Int} (h : A1 xs a e = (x, a1, 0)) : e = 0 ∧ a1 = a + szN x.toNat ∧ a1 ≤ xs.length ∧ xs.drop a = Bg x ++ xs.drop a1 := by
  unfold A1 at h
  by_cases he : e = 0
  · rw [if_neg (by simp [he])] at h
    by_cases h1 : xs.length ≤ a
    · rw [if_pos h1] at h; simp at h
    rw [if_neg h1] at h
    by_cases h2 : xs.length < a + B4 (xs.getD a 0)
    · rw [if_pos h2] at h; simp at h
    rw [if_neg h2] at h
    by_cases h3 : szN (numV xs a).toNat = B4 (xs.getD a 0)
    · rw [if_pos h3] at h
      obtain ⟨h4, h5⟩ : numV xs a = x ∧ a + B4 (xs.getD a 0) = a1 := by simpa using h
      have hc := (head_of (xs.getD a 0)).1
      have hl : ((xs.drop (a + 1)).take (B4 (xs.getD a 0) - 1)).length = B4 (xs.getD a 0) - 1 := by rw [List.length_take, List.length_drop]; omega
      have hb := num_only hl h3
      rw [show foldB (headV (xs.getD a 0)) ((xs.drop (a + 1)).take (B4 (xs.getD a 0) - 1)) = x from h4] at hb
      rw [h4] at h3
      refine ⟨he, by omega, by omega, ?_⟩
      have e3 : xs.drop a1 = (xs.drop (a + 1)).drop (B4 (xs.getD a 0) - 1) := by rw [List.drop_drop]; congr 1; omega
      rw [hb, e3, List.cons_append, List.take_append_drop, List.drop_eq_getElem_cons (l := xs) (i := a) oM]
      congr 1
      rw [List.getD_eq_getElem?_getD, List.getElem?_eq_getElem oM]; rfl
    · rw [if_neg h3] at h; simp at h
  · rw [if_pos he] at h
    simp at h; exact absurd h.2.2 he
theorem blk_bwd {xs : List UInt8} {o : Option (List UInt8)} {a a1 : Nat} {e : Int} (h : blkR xs a e = (o, a1, 0)) : e = 0 ∧ a1 ≤ xs.length ∧ ∃ ds, o = some ds ∧ xs.drop a = Bg (UInt64.ofNat ds.length) ++ ds ++ xs.drop a1 := by
  unfold blkR at h
  by_cases he : (A1 xs a e).2.2 = 0
  · rw [if_neg (by simp [he])] at h
    by_cases h1 : xs.length < (A1 xs a e).2.1 + (A1 xs a e).1.toNat
    · rw [if_pos h1] at h; simp at h
    rw [if_neg h1] at h
    obtain ⟨h2, h3⟩ : some ((xs.drop (A1 xs a e).2.1).take (A1 xs a e).1.toNat) = o ∧ (A1 xs a e).2.1 + (A1 xs a e).1.toNat = a1 := by simpa using h
    obtain ⟨g1, g2, g3, g4⟩ := num_bwd (xs := xs) (x := (A1 xs a e).1) (a := a) (a1 := (A1 xs a e).2.1) (e := e) (by rw [← he])
    have hl : ((xs.drop (A1 xs a e).2.1).take (A1 xs a e).1.toNat).length = (A1 xs a e).1.toNat := by simp; omega
    refine ⟨g1, by omega, _, h2.symm, ?_⟩
    rw [hl, UInt64.ofNat_toNat, List.append_assoc, ← h3, ← List.drop_drop, List.take_append_drop]
    exact g4
  · rw [if_pos he] at h
    simp at h; exact absurd h.2.2 he
theorem tak_bwd {xs d : List UInt8} {a a1 m : Nat} {e : Int} (h : takR xs m a e = (d, a1, 0)) : e = 0 ∧ a1 = a + m ∧ a1 ≤ xs.length ∧ d.length = m ∧ xs.drop a = d ++ xs.drop a1 := by
  unfold takR at h
  by_cases he : e = 0
  · rw [if_neg (by simp [he])] at h
    by_cases h1 : xs.length < a + m
    · rw [if_pos h1] at h; simp at h
    · rw [if_neg h1] at h
      obtain ⟨rfl, rfl⟩ : (xs.drop a).take m = d ∧ a + m = a1 := by simpa using h
      exact ⟨he, rfl, by omega, by simp; omega, by rw [← List.drop_drop, List.take_append_drop]⟩
  · rw [if_pos he] at h
    simp at h; exact absurd h.2.2 he
theorem digs_bwd {xs : List UInt8} {a : Nat} {e : Int} : ∀ (j : Nat) (ls : List (List UInt8)) (a1 : Nat), Bb xs j a e = (ls, a1, 0) → e = 0 ∧ ls.length = j ∧ xs.drop a = ls.flatten ++ xs.drop a1
  | 0, ls, a1, h => by
    obtain ⟨rfl, rfl, rfl⟩ : [] = ls ∧ a = a1 ∧ e = 0 := by simpa [Bb] using h
    exact ⟨rfl, rfl, rfl⟩
  | j + 1, ls, a1, h => by
    rw [Bb] at h
    obtain ⟨h1, h2⟩ : (Bb xs j a e).1 ++ [(digR xs (Bb xs j a e).2.1 (Bb xs j a e).2.2).1] = ls ∧ (digR xs (Bb xs j a e).2.1 (Bb xs j a e).2.2).2 = (a1, 0) := by simpa using h
    obtain ⟨g1, g2, g3, g4⟩ := dig_bwd (xs := xs) (d := (digR xs (Bb xs j a e).2.1 (Bb xs j a e).2.2).1) (a := (Bb xs j a e).2.1) (a1 := a1) (e := (Bb xs j a e).2.2) (by rw [← h2])
    obtain ⟨k1, k2, k3⟩ := digs_bwd j (Bb xs j a e).1 (Bb xs j a e).2.1 (by rw [← g1])
    refine ⟨k1, by rw [← h1, List.length_append, k2]; rfl, ?_⟩
    rw [← h1, List.flatten_append, k3, g4]
    simp
theorem readP_bytes {D : DB} (h : D.ok) (hc : D.check = 0) (t : List UInt8) : readP (D.bytes ++ t) = (D, D.bytes.length, 0) := by
  have hs := D.head_small hc
  have hl1 : (UInt64.ofNat D.ls.length).toNat = D.ls.length := Bi oM
  obtain ⟨xs, hxs⟩ : ∃ xs, D.bytes ++ t = xs := ⟨_, rfl⟩
  rw [hxs]
  have h0 : xs.drop 0 = D.w ++ (Bg D.seq ++ (D.prev ++ (Bg (UInt64.ofNat D.ls.length) ++ (D.ls.flatten ++ (Bg (UInt64.ofNat D.ds.length) ++ D.ds ++ (D.sg ++ t)))))) := by
    rw [List.drop_zero, ← hxs]
    simp only [DB.bytes, DB.body, List.append_assoc]
  obtain ⟨r1, h1⟩ := dig_fwd h0 h.w
  obtain ⟨r2, h2⟩ := num_fwd h1
  obtain ⟨r3, h3⟩ := dig_fwd h2 h.prev
  obtain ⟨r4, h4⟩ := num_fwd h3
  rw [hl1] at r4 h4
  obtain ⟨r5, h5⟩ := digs_fwd h.ls h4 D.ls.length (Nat.le_refl _)
  rw [List.take_length] at r5
  rw [List.drop_length, List.flatten_nil, List.nil_append] at h5
  obtain ⟨r6, h6⟩ := blk_fwd oM h5
  obtain ⟨r7, h7⟩ := tak_fwd h6 h.sg dE
  have hk : min (UInt64.ofNat D.ls.length).toNat 17 = D.ls.length := by omega
  have hlen : D.bytes.length = 0 + 32 + szN D.seq.toNat + 32 + szN D.ls.length + 32 * D.ls.length + szN D.ds.length + D.ds.length + 64 := by
    have hfl := flatten_take_len h.ls (Nat.le_refl D.ls.length)
    rw [List.take_length] at hfl
    simp only [DB.bytes, DB.body, List.length_append, A2, h.w, h.prev, h.sg, hfl, hl1, Bi (n := D.ds.length) oM]
    omega
  simp only [readP, r1, r2, r3, r4, hk, r5, r6, r7, Option.getD_some]
  rw [h.sg, hlen, List.drop_of_length_le sP, List.append_nil]
theorem readD_bytes {D : DB} (h : D.ok) (hc : D.check = 0) : readD D.bytes = (D, 0) := by
  have hr := readP_bytes h hc []
  rw [List.append_nil] at hr
  rw [readD_ok (by rw [hr]; exact ⟨by simp [endR], hc⟩), hr]
theorem bytes_inj {D E : DB} (hD : D.ok) (hE : E.ok) (cD : D.check = 0) (cE : E.check = 0) : D.bytes = E.bytes ↔ D = E := by
  constructor
  · intro h
    have h1 := readD_bytes hD cD
    rw [h, readD_bytes hE cE] at h1
    exact (congrArg Prod.fst h1).symm
  · intro h; rw [h]
theorem readD_only {xs : List UInt8} (h : (readD xs).2 = 0) : (readD xs).1.check = 0 ∧ (readD xs).1.bytes = xs := by
  by_cases hg : endR xs.length (readP xs).2.1 (readP xs).2.2 = 0 ∧ (readP xs).1.check = 0
  · rw [readD_ok hg]
    refine ⟨hg.2, ?_⟩
    obtain ⟨he, hc⟩ := hg
    have hs := (readP xs).1.head_small hc
    have e0 : (readP xs).2.2 = 0 ∧ ¬ (0 : Int) < (xs.length : Int) - ((readP xs).2.1 : Int) := by
      unfold endR at he
      split at he
      · rename_i h1
        exact ⟨h1, fun h2 => by rw [if_pos h2] at he; cases he⟩
      · rename_i h1; exact absurd he h1
    obtain ⟨e1, e2⟩ := e0
    simp only [readP] at e1 e2 hs hc ⊢
    obtain ⟨l1, p1, h1⟩ : ∃ l r, digR xs 0 0 = (l, r) := ⟨_, _, rfl⟩
    obtain ⟨a1, d1⟩ := p1
    rw [h1] at e1 e2 hs ⊢
    simp only at e1 e2 hs ⊢
    obtain ⟨x2, p2, h2⟩ : ∃ l r, A1 xs a1 d1 = (l, r) := ⟨_, _, rfl⟩
    obtain ⟨a2, d2⟩ := p2
    rw [h2] at e1 e2 hs ⊢
    simp only at e1 e2 hs ⊢
    obtain ⟨l3, p3, h3⟩ : ∃ l r, digR xs a2 d2 = (l, r) := ⟨_, _, rfl⟩
    obtain ⟨a3, d3⟩ := p3
    rw [h3] at e1 e2 hs ⊢
    simp only at e1 e2 hs ⊢
    obtain ⟨x4, p4, h4⟩ : ∃ l r, A1 xs a3 d3 = (l, r) := ⟨_, _, rfl⟩
    obtain ⟨a4, d4⟩ := p4
    rw [h4] at e1 e2 hs ⊢
    simp only at e1 e2 hs ⊢
    obtain ⟨ls, p5, h5⟩ : ∃ l r, Bb xs (min x4.toNat 17) a4 d4 = (l, r) := ⟨_, _, rfl⟩
    obtain ⟨a5, d5⟩ := p5
    rw [h5] at e1 e2 hs ⊢
    simp only at e1 e2 hs ⊢
    obtain ⟨o, p6, h6⟩ : ∃ l r, blkR xs a5 d5 = (l, r) := ⟨_, _, rfl⟩
    obtain ⟨a6, d6⟩ := p6
    rw [h6] at e1 e2 hs ⊢
    simp only at e1 e2 hs ⊢
    obtain ⟨l7, p7, h7⟩ : ∃ l r, takR xs 64 a6 d6 = (l, r) := ⟨_, _, rfl⟩
    obtain ⟨a7, d7⟩ := p7
    rw [h7] at e1 e2 ⊢
    simp only at e1 e2 ⊢
    subst e1
    obtain ⟨rfl, i7, j7, k7, g7⟩ := tak_bwd h7
    obtain ⟨rfl, i6, ds, rfl, g6⟩ := blk_bwd h6
    obtain ⟨rfl, i5, g5⟩ := digs_bwd _ _ _ h5
    obtain ⟨rfl, i4, j4, g4⟩ := num_bwd h4
    obtain ⟨rfl, i3, j3, g3⟩ := dig_bwd h3
    obtain ⟨rfl, i2, j2, g2⟩ := num_bwd h2
    obtain ⟨_, i1, j1, g1⟩ := dig_bwd h1
    have hx4 : x4 = UInt64.ofNat ls.length := by
      apply UInt64.toNat_inj.1
      rw [Bi oM]; omega
    have hnil : xs.drop a7 = [] := List.drop_eq_nil_of_le oM
    simp only [DB.bytes, DB.body, Option.getD_some]
    rw [k7, List.drop_of_length_le sP, List.append_nil, ← hx4]
    rw [hnil, List.append_nil] at g7
    rw [List.drop_zero] at g1
    rw [g1, g2, g3, g4, g5, g6, g7]
    simp only [List.append_assoc]
  · rw [readD_bad hg] at h; cases h

end Go.Proofs.YtdifpjmfabhpiaaGreat
end

section
namespace Go.Proofs.YtdifpjmfabhpiaaGreat
open Go Hw

theorem cutP_bytes {D : DCut} (hp : D.dPrev.length = 32) (hr : ∀ l ∈ D.dHeads, l.length = 32) (hn : D.dHeads.length ≤ 32) : cutP D.bytes = (D, D.bytes.length, 0) := by
  have h0 : D.bytes.drop 0 = Bg D.dHeight ++ (D.dPrev ++ (Bg (UInt64.ofNat D.dHeads.length) ++ (D.dHeads.flatten ++ []))) := by
    simp [DCut.bytes, DCut.body, List.append_assoc]
  obtain ⟨g1, h1⟩ := num_fwd h0
  obtain ⟨g2, h2⟩ := dig_fwd h1 hp
  obtain ⟨g3, h3⟩ := num_fwd h2
  have hx : (UInt64.ofNat D.dHeads.length).toNat = D.dHeads.length := Bi oM
  obtain ⟨g4, h4⟩ := digs_fwd hr h3 D.dHeads.length (Nat.le_refl _)
  have hm : min D.dHeads.length 33 = D.dHeads.length := by omega
  simp only [cutP, g1, g2, g3, hx, hm]
  rw [hx] at g4
  simp only [g4, List.take_length]
  rw [show D.bytes.length = szN D.dHeight.toNat + 32 + szN (UInt64.ofNat D.dHeads.length).toNat + D.dHeads.length * 32 from DCut.body_len hp hr (Nat.le_refl _), hx]
  have : 0 + szN D.dHeight.toNat + 32 + szN D.dHeads.length + 32 * D.dHeads.length = szN D.dHeight.toNat + 32 + szN D.dHeads.length + D.dHeads.length * 32 := by omega
  rw [this]
theorem cutRd_bytes {D : DCut} (hp : D.dPrev.length = 32) (hr : ∀ l ∈ D.dHeads, l.length = 32) (hc : D.check = 0) : Bp D.bytes = (D, 0) := by
  have h := cutP_bytes hp hr (D.small hc)
  unfold Bp
  rw [h]
  exact if_pos ⟨by simp [endR], hc⟩
theorem byteOf_small {x : Int} (h0 : 0 ≤ x) (h4 : x < 256) : (Hw.byteOf x).toUInt64.toNat = x.toNat := by
  simp only [Hw.byteOf]
  rw [UInt8.toNat_toUInt64, UInt8.toNat_ofNat']
  omega
theorem vcheck_phase {V : Vote} (h : A8 V = 0) : 1 ≤ V.fPhase ∧ V.fPhase ≤ 3 := by
  have h2 : vokB V = true := by
    cases e : vokB V
    · unfold A8 at h
      rw [e] at h
      split at h <;> cases h
    · rfl
  unfold vokB at h2
  by_cases h3 : V.fPhase = 1
  · omega
  · rw [if_neg h3] at h2
    by_cases h4 : V.fPhase = 2 ∨ V.fPhase = 3
    · omega
    · rw [if_neg h4] at h2; cases h2
theorem voteP_bytes {V : Vote} (hV : V.ok) (hc : A8 V = 0) : voteP (voteT V ++ V.fSig) = (V, (voteT V ++ V.fSig).length, 0) := by
  have hph := vcheck_phase hc
  have hb := byteOf_small (x := V.fPhase) oM oM
  have h0 : (voteT V ++ V.fSig).drop 0 = Bg V.fHeight ++ (Bg V.fRound ++ (Bg (Hw.byteOf V.fPhase).toUInt64 ++ (V.fValue ++ (Bg V.fProof ++ (V.fVoter ++ (V.fSig ++ [])))))) := by
    simp [voteT, List.append_assoc]
  obtain ⟨g1, h1⟩ := num_fwd h0
  obtain ⟨g2, h2⟩ := num_fwd h1
  obtain ⟨g3, h3⟩ := num_fwd h2
  obtain ⟨g4, h4⟩ := dig_fwd h3 hV.l_fValue
  obtain ⟨g5, h5⟩ := num_fwd h4
  obtain ⟨g6, h6⟩ := dig_fwd h5 hV.l_fVoter
  obtain ⟨g7, h7⟩ := tak_fwd h6 hV.l_fSig dE
  have hm : ((min V.fPhase.toNat 4 : Nat) : Int) = V.fPhase := by omega
  have hl : (voteT V ++ V.fSig).length = voteN V + 64 := by rw [List.length_append, voteT_length hV, hV.l_fSig]
  simp only [voteP, g1, g2, g3, g4, g5, g6, g7]
  simp only [hb, hm, hl, hV.l_fSig]
  have e : V.fSig ++ (List.replicate 64 (0 : UInt8)).drop 64 = V.fSig := by simp
  rw [e]
  congr 2
  unfold voteN
  rw [hb]
  omega
theorem voteRd_bytes {V : Vote} (hV : V.ok) (hc : A8 V = 0) : Ay (Av V) = (V, 0) := by
  have h := voteP_bytes hV hc
  rw [show Av V = voteT V ++ V.fSig from if_pos hc]
  rw [voteRd_ok (by rw [h]; exact ⟨by simp [endR], hc⟩), h]

theorem listB_cons {D : Type} (f : D → List UInt8) (d : D) (ds : List D) : B0 f (d :: ds) = blkB (f d) ++ B0 f ds := rfl
theorem votesR_fwd {xs t : List UInt8} {ds : List Vote} {a : Nat} (hok : ∀ d ∈ ds, d.ok ∧ A8 d = 0) (h : xs.drop a = B0 Av ds ++ t) : ∀ j, j ≤ ds.length → votesR xs j a 0 = some (ds.take j, a + (B0 Av (ds.take j)).length, 0) ∧ xs.drop (a + (B0 Av (ds.take j)).length) = B0 Av (ds.drop j) ++ t
  | 0, _ => ⟨by simp [votesR, B0], by simpa [B0] using h⟩
  | j + 1, hj => by
    obtain ⟨h1, h2⟩ := votesR_fwd hok h j oM
    have hd : ds[j]? = some ds[j] := List.getElem?_eq_getElem oM
    obtain ⟨ho, hc⟩ := hok ds[j] (List.getElem_mem oM)
    have hle := voteBy_le ho
    rw [List.drop_eq_getElem_cons (l := ds) (i := j) oM, listB_cons, blkB, List.append_assoc] at h2
    obtain ⟨h3, h4⟩ := blk_fwd (ds := Av ds[j]) oM h2
    have hst := votesR_step h1 h3 (by rw [Option.getD_some, voteRd_bytes ho hc]) rfl
    rw [Option.getD_some, voteRd_bytes ho hc] at hst
    have e : a + (B0 Av (ds.take (j + 1))).length = a + (B0 Av (ds.take j)).length + szN (Av ds[j]).length + (Av ds[j]).length := by
      rw [listB_step Av hd, List.length_append, blkB_length oM]; omega
    rw [e]
    refine ⟨?_, h4⟩
    rw [hst, List.take_succ_eq_append_getElem oM]
theorem DCert.votes_ok {D : DCert} (h : D.check = 0) : ∀ d ∈ D.dVotes, A8 d = 0 := by
  intro d hd
  obtain ⟨j, hj, rfl⟩ := List.getElem_of_mem hd
  apply Classical.byContradiction
  intro hn
  have : D.check = 2 := cert_bad2 hj (.inl (by rw [vote_is (List.getElem?_eq_getElem hj)]; exact hn))
  rw [this] at h; cases h
theorem certRd_bytes {D : DCert} (hp : D.dCut.dPrev.length = 32) (hr : ∀ l ∈ D.dCut.dHeads, l.length = 32) (hv : ∀ d ∈ D.dVotes, d.ok) (hc : D.check = 0) : Bl D.bytes = (D, 0) := by
  obtain ⟨k1, k2, k3⟩ := DCert.facts hc
  have hcb : cutR D.dCut = D.dCut.bytes := if_pos k1
  have hcs := D.dCut.bytes_small k1 hp hr
  have hx : (UInt64.ofNat D.dVotes.length).toNat = D.dVotes.length := Bi oM
  obtain ⟨xs, hxs⟩ : ∃ xs, D.bytes = xs := ⟨_, rfl⟩
  have h0 : xs.drop 0 = Bg (UInt64.ofNat D.dCut.bytes.length) ++ D.dCut.bytes ++ (Bg (UInt64.ofNat D.dVotes.length) ++ (B0 Av D.dVotes ++ [])) := by
    rw [List.drop_zero, ← hxs, DCert.bytes, hcb, blkB]; simp only [List.append_assoc, List.append_nil]
  obtain ⟨g1, h1⟩ := blk_fwd oM h0
  obtain ⟨g2, h2⟩ := num_fwd h1
  rw [hx] at g2 h2
  obtain ⟨g3, h3⟩ := votesR_fwd (fun d hd => ⟨hv d hd, D.votes_ok hc d hd⟩) h2 D.dVotes.length (Nat.le_refl _)
  rw [List.take_length] at g3
  have hlen : xs.length = 0 + szN D.dCut.bytes.length + D.dCut.bytes.length + szN D.dVotes.length + (B0 Av D.dVotes).length := by
    rw [← hxs, DCert.bytes, hcb, List.length_append, List.length_append, blkB_length oM, A2, hx]; omega
  have hrv : readVL xs 16 (0 + szN D.dCut.bytes.length + D.dCut.bytes.length) 0 = some (D.dVotes, 0 + szN D.dCut.bytes.length + D.dCut.bytes.length + szN D.dVotes.length + (B0 Av D.dVotes).length, 0) := by
    unfold readVL
    rw [g2]
    simp only [hx]
    rw [if_pos ⟨trivial, by omega⟩]
    exact g3
  rw [hxs]
  unfold Bl
  simp only [g1, Option.getD_some, cutRd_bytes hp hr k1, hrv]
  rw [if_pos trivial, if_pos ⟨by rw [hlen]; simp [endR], hc⟩]

end Go.Proofs.YtdifpjmfabhpiaaGreat
end

section
namespace Go.Proofs.YtdifpjmfabhpiaaGreat
open Go Hw

def DRecord.check (D : DRecord) : Int := if D.dKind = 0 ∨ (8192 : Int) < (D.dData.length : Int) then 2 else 0

theorem record_check (X : Record) (D : DRecord) : Meets Tryz.prog 185 [agg X.cells] [] (fun W => RecordIs W X D) (fun v out => v = i64 D.check ∧ out = []) := by
 intro W hW
 have hok := hW.ok
 have hk := hW.fKind
 have hl := hW.fData.len
 refine Ak Tryz.func185 rfl 12 Tryz.ntmps185 rfl ?_
 refine Sat.seq (Sat.region ?_)
 refine Tr.boxA rfl rfl ?_
 intro n1 hn1 hf1
 refine Tr.a rfl rfl rfl ?_
 refine Tr.nil (Aa (Sat.seq (Sat.seq (Sat.region ?_))))
 refine Tr.fld rfl rfl rfl Y91 rfl Sz5 dE _ rfl ?_
 refine Tr.load1 rfl rfl rfl Y5 rfl mM (by first | exact Record.get_fKind (by first | exact oK  | exact hok) | exact vL) ?_
 refine two (fun r hr k => Tr.eqi rfl rfl rfl rfl hr k) (fun hs1_20 => ?_) (fun hs1_20 => ?_)
 ·
  first | have hs1_2 := of_decide_eq_true hs1_20 | have hs1_2 := of_decide_eq_false hs1_20 | have hs1_2 := Bs hs1_20 | have hs1_2 := Bt hs1_20 | have hs1_2 := hs1_20
  refine Tr.m rfl rfl rfl ?_
  refine Tr.skp rfl rfl ?_
  refine Tr.skp rfl rfl ?_
  refine Tr.skp rfl rfl ?_
  refine Tr.skp rfl rfl ?_
  refine Tr.pick rfl rfl rfl rfl rfl rfl ?_
  refine Tr.nil (Aa ?_)
  refine Sat.cond_t rfl rfl ?_
  refine Sat.seq (Sat.region ?_)
  refine Tr.a rfl rfl rfl ?_
  refine Tr.nil (Aa (Sat.ret (Ao (Am ?_))))
  refine ⟨_, [], Ad rfl rfl, sP, sP, ?_, rfl⟩
  unfold DRecord.check
  first
   | (refine congrArg i64 (if_pos (Or.inl (UInt8.toNat_inj.1 ?_))).symm; simp_all; done)
   | (refine congrArg i64 (if_pos (Or.inr ?_)).symm; omega)
   | (refine congrArg i64 (if_neg ?_).symm; have h0 : D.dKind = 0 → X.fKind.toNat = 0 := (fun e => by rw [hk, e]; rfl); rintro (h | h); (have := h0 h; omega); omega)
 ·
  first | have hs1_2 := of_decide_eq_true hs1_20 | have hs1_2 := of_decide_eq_false hs1_20 | have hs1_2 := Bs hs1_20 | have hs1_2 := Bt hs1_20 | have hs1_2 := hs1_20
  refine Tr.m rfl rfl rfl ?_
  refine Tr.fld rfl rfl rfl Y91 rfl Sz58 dE _ rfl ?_
  refine Tr.load1 rfl rfl rfl Y58 rfl mM (by first | exact Record.get_fData (by first | exact oK  | exact hok) | exact vL) ?_
  refine Tr.lenSl rfl rfl rfl Y58 ?_
  refine Tr.gtr rfl rfl rfl rfl rfl ?_
  refine Tr.pick rfl rfl rfl rfl rfl rfl ?_
  refine Tr.nil (Aa ?_)
  first
   | refine Sat.condP rfl (fun hc0 => ?_) (fun hc0 => ?_)
   | refine Sat.condNP rfl (fun hc0 => ?_) (fun hc0 => ?_)
   | refine Sat.cond rfl (fun hc0 => ?_) (fun hc0 => ?_)
  ·
   refine Sat.seq (Sat.region ?_)
   refine Tr.a rfl rfl rfl ?_
   refine Tr.nil (Aa (Sat.ret (Ao (Am ?_))))
   refine ⟨_, [], Ad rfl rfl, sP, sP, ?_, rfl⟩
   unfold DRecord.check
   first
    | (refine congrArg i64 (if_pos (Or.inl (UInt8.toNat_inj.1 ?_))).symm; simp_all; done)
    | (refine congrArg i64 (if_pos (Or.inr ?_)).symm; omega)
    | (refine congrArg i64 (if_neg ?_).symm; have h0 : D.dKind = 0 → X.fKind.toNat = 0 := (fun e => by rw [hk, e]; rfl); rintro (h | h); (have := h0 h; omega); omega)
  ·
   refine Sat.skip (Aa (Sat.seq (Sat.region ?_)))
   refine Tr.a rfl rfl rfl ?_
   refine Tr.nil (Aa (Sat.ret (Am ?_)))
   refine ⟨_, [], Ad rfl rfl, sP, sP, ?_, rfl⟩
   unfold DRecord.check
   first
    | (refine congrArg i64 (if_pos (Or.inl (UInt8.toNat_inj.1 ?_))).symm; simp_all; done)
    | (refine congrArg i64 (if_pos (Or.inr ?_)).symm; omega)
    | (refine congrArg i64 (if_neg ?_).symm; have h0 : D.dKind = 0 → X.fKind.toNat = 0 := (fun e => by rw [hk, e]; rfl); rintro (h | h); (have := h0 h; omega); omega)

def inOrd (ds : List DCert) : Bool := (List.range ds.length).all fun k => decide ((ds.getD k dcertz).dCut.dHeight.toNat = k + 1)
theorem inOrd_yes {ds : List DCert} {n : Nat} (hn : ds.length = n) (h : ∀ j, j < n → (ds.getD j dcertz).dCut.dHeight.toNat = j + 1) : inOrd ds = true := by
  unfold inOrd
  rw [List.all_eq_true]
  intro k hk
  rw [List.mem_range, hn] at hk
  exact decide_eq_true (h k hk)
theorem inOrd_not {ds : List DCert} {k : Nat} (hk : k < ds.length) (h : ¬ (ds.getD k dcertz).dCut.dHeight.toNat = k + 1) : inOrd ds = false := by
  unfold inOrd
  rw [List.all_eq_false]
  exact ⟨k, List.mem_range.2 hk, by rw [decide_eq_false h]; simp⟩
theorem word_next {k : Nat} (h : k < 9223372036854775807) : (A7 (k : Int) + 1).toNat = k + 1 := by
  have e : (A7 (k : Int)).toNat = k := by
    have h0 : ((k : Int) % 18446744073709551616).toNat = k := by omega
    rw [A7, h0, UInt64.toNat_ofNat']
    exact Nat.mod_eq_of_lt oM
  rw [UInt64.toNat_add, e, show (1 : UInt64).toNat = 1 from rfl]
  exact Nat.mod_eq_of_lt oM
theorem cert_is {ds : List DCert} {k : Nat} {d : DCert} (h : ds[k]? = some d) : ds.getD k dcertz = d := by simp [List.getD_eq_getElem?_getD, h]

theorem in_order (s : Sl) (ds : List DCert) : Meets Tryz.prog 80 [s.v] [] (fun W => CertsAt W s ds) (fun v out => v = .bool (inOrd ds) ∧ out = []) := by
 intro W hW
 obtain ⟨rs, hs⟩ := hW
 have hnd := hs.nd
 have hmax := hs.max
 simp only [maxLen] at hmax
 refine Ak Tryz.func80 rfl 20 Tryz.ntmps80 rfl ?_
 refine Sat.seq (Sat.region ?_)
 refine Tr.a rfl rfl rfl ?_
 refine Tr.nil (Aa (Sat.seq (Sat.seq (Sat.region ?_))))
 refine Tr.m rfl rfl rfl ?_
 refine Tr.lenSl rfl rfl rfl Y23 ?_
 refine Tr.m rfl rfl rfl ?_
 refine Tr.nil (Aa (Sat.block ?_))
 refine Sat.loop (ι := Nat) (fun k => ⟨[(5, s.v), (6, i64 (s.n : Int)), (7, i64 (k : Int))], []⟩) (fun k => k ≤ s.n ∧ ∀ j, j < k → (ds.getD j dcertz).dCut.dHeight.toNat = j + 1) (fun k => s.n - k) (0) ?_ ?_ ?_
 · exact ⟨by omega, fun j hj => by omega⟩
 · exact Ap (wk1 rfl (wk1 rfl (wk1 rfl wk0))) wh0 nD
 ·
  rintro k ⟨hk, hg⟩
  refine Sat.seq (Sat.region ?_)
  refine Tr.lss rfl rfl rfl rfl rfl ?_
  refine Tr.nil (Aa (Sat.seq ?_))
  first
   | refine Sat.condP rfl (fun hc0 => ?_) (fun hc0 => ?_)
   | refine Sat.condNP rfl (fun hc0 => ?_) (fun hc0 => ?_)
   | refine Sat.cond rfl (fun hc0 => ?_) (fun hc0 => ?_)
  ·
   have hk2 : k < s.n := by omega
   obtain ⟨b, o, r, d, hsp, hr, hd, his, hlen, hsee⟩ := hs.at dE hk2
   have ehh : r.fCut.fHeight.toNat = d.dCut.dHeight.toNat := by rw [his.fCut.fHeight]
   have hw1 : (A7 (k : Int) + 1).toNat = k + 1 := word_next oM
   refine Sat.skip (Aa (Sat.seq (Sat.block (Sat.seq (Sat.region ?_)))))
   refine Tr.m rfl rfl rfl ?_
   refine Tr.idxSlP 35 rfl rfl rfl hsp rfl Y23 Sz55 k rfl oM ?_
   refine Tr.loadEN r.cells rfl rfl rfl Y55 rfl Sz55 sP hlen hsee ?_
   refine Tr.alloc (cs := Cert.zero.cells) rfl Cert.zr rfl ?_
   intro n4 hn4 hf4
   refine Tr.a rfl rfl rfl ?_
   refine Tr.sA rfl rfl rfl rfl (Cert.isCell (by first | exact oK  | exact his.ok)) Sz55 (Cert.length (by first | exact oK  | exact his.ok)) mM (Cert.length (by first | exact oK  | exact his.ok)) uU ?_
   refine Tr.nil (Aa (Sat.seq (Sat.region ?_)))
   refine Tr.fld rfl rfl rfl Y55 rfl Sz53 dE _ rfl ?_
   refine Tr.fld rfl rfl rfl Y53 rfl B7 dE _ rfl ?_
   refine Tr.load1 rfl rfl rfl Y48 rfl mM (Cert.see_fCut his.ok 0 _ (Cut.get_fHeight his.ok.o_fCut)) ?_
   refine Tr.m rfl rfl rfl ?_
   refine Tr.conv rfl rfl rfl Y3 Y48 (Bq _) ?_
   refine Tr.add_u64 rfl rfl rfl (show Aj _ _ = some (u64 1) from rfl) ?_
   refine Tr.nei rfl rfl rfl rfl rfl ?_
   refine Tr.nil (Aa ?_)
   first
    | refine Sat.condP rfl (fun hc1 => ?_) (fun hc1 => ?_)
    | refine Sat.condNP rfl (fun hc1 => ?_) (fun hc1 => ?_)
    | refine Sat.cond rfl (fun hc1 => ?_) (fun hc1 => ?_)
   ·
    refine Sat.seq (Sat.region ?_)
    refine Tr.a rfl rfl rfl ?_
    refine Tr.nil (Aa (Sat.ret (Bw (Ao (Ao (Bw (Ao (Am ?_))))))))
    refine ⟨_, [], Ad rfl rfl, sP, sP, ?_, rfl⟩
    first
     | exact congrArg Value.bool (inOrd_yes hnd hg).symm
     | (refine congrArg Value.bool (inOrd_not (k := k) oM ?_).symm; rw [cert_is hd]; omega)
   ·
    refine Sat.skip (Bx (Aa (Sat.region ?_)))
    refine Tr.aI rfl rfl rfl rfl oM ?_
    refine Tr.m rfl rfl rfl ?_
    refine Tr.nil (Aa ?_)
    exact ⟨k + 1, ⟨by omega, fun j hj => by rcases Nat.lt_succ_iff_lt_or_eq.1 hj with h | rfl; exact hg j h; exact (by rw [cert_is hd]; omega)⟩, by omega, Ap (wk1 rfl (wk1 rfl (wk1 rfl wk0))) wh0 nD⟩
  ·
   obtain rfl : k = s.n := by omega
   refine Sat.exit (Bc (Bc (bl_h (Aa (Sat.seq (Sat.region ?_))))))
   refine Tr.a rfl rfl rfl ?_
   refine Tr.nil (Aa (Sat.ret (Am ?_)))
   refine ⟨_, [], Ad rfl rfl, sP, sP, ?_, rfl⟩
   first
    | exact congrArg Value.bool (inOrd_yes hnd hg).symm
    | (refine congrArg Value.bool (inOrd_not (k := k) oM ?_).symm; rw [cert_is hd]; omega)

end Go.Proofs.YtdifpjmfabhpiaaGreat
end

section
namespace Go.Proofs.YtdifpjmfabhpiaaGreat
open Go Hw

def drecz : DRecord := ⟨0, []⟩
def A6 (K : UInt8) (bs : List UInt8) (chk : Int) : DRecord × Int := if chk = 0 then (if (⟨K, bs⟩ : DRecord).check = 0 then (⟨K, bs⟩, 0) else (drecz, 2)) else (drecz, chk)
def RecMade (K : UInt8) (bs : List UInt8) (chk : Int) (v : Value) (out : List Blk) : Prop := ∃ X : Record, X.ok ∧ v = .tuple #[agg X.cells, i64 (A6 K bs chk).2] ∧ X.fKind = (A6 K bs chk).1.dKind ∧ ∀ W2, Lies out W2 → RecordIs W2 X (A6 K bs chk).1
theorem recz_is (W : World) : RecordIs W Record.zero drecz := ⟨Record.zero_ok, rfl, ⟨rfl, Nat.le_refl _, SeesP.nil, by decide, fun _ => rfl⟩⟩
theorem rec_bad1 {K : UInt8} {bs : List UInt8} {chk : Int} {out : List Blk} (h : ¬ chk = 0) : RecMade K bs chk (.tuple #[agg Record.zero.cells, i64 chk]) out := by
  have e : A6 K bs chk = (drecz, chk) := if_neg h
  refine ⟨Record.zero, Record.zero_ok, ?_, ?_, fun W2 _ => ?_⟩ <;> rw [e]
  · rfl
  · exact recz_is W2
theorem rec_bad2 {K : UInt8} {bs : List UInt8} {chk : Int} {out : List Blk} (h : chk = 0) (h2 : ¬ (⟨K, bs⟩ : DRecord).check = 0) : RecMade K bs chk (.tuple #[agg Record.zero.cells, i64 2]) out := by
  have e : A6 K bs chk = (drecz, 2) := by rw [A6, if_pos h, if_neg h2]
  refine ⟨Record.zero, Record.zero_ok, ?_, ?_, fun W2 _ => ?_⟩ <;> rw [e]
  · rfl
  · exact recz_is W2
theorem rec_ok {K : UInt8} {bs : List UInt8} {chk : Int} {out : List Blk} {s : Sl} {E : TypeId} (h : chk = 0) (h2 : (⟨K, bs⟩ : DRecord).check = 0) (ha : Hw.Acc s out (Ab bs) E bs.length 1) (hm : bs.length ≤ 1000000) : RecMade K bs chk (.tuple #[agg (⟨K, s⟩ : Record).cells, i64 0]) out := by
  have e : A6 K bs chk = (⟨K, bs⟩, 0) := by rw [A6, if_pos h, if_pos h2]
  refine ⟨⟨K, s⟩, ⟨trivial⟩, ?_, ?_, fun W2 hl => ?_⟩ <;> rw [e]
  exact ⟨⟨trivial⟩, rfl, acc_bytes ha hl rfl hm⟩

theorem rec_of_vote (K : UInt8) (X : Vote) (D : Vote) (hsz : (Av D).length ≤ 40000) : Meets Tryz.prog 163 [u8 K, agg X.cells, .func (.func 114) #[] #[]] [] (fun W => VoteIs W X D) (RecMade K (Av D) (A8 D)) := by
 intro W hW
 obtain rfl : D = X := hW.eq.symm
 refine Ak Tryz.func163 rfl 29 Tryz.ntmps163 rfl ?_
 refine Sat.seq (Sat.region ?_)
 refine Tr.boxA rfl rfl ?_
 intro n4 hn4 hf4
 refine Tr.alloc (cs := Record.zero.cells) rfl Record.zr rfl ?_
 intro n6 hn6 hf6
 refine Tr.a rfl rfl rfl ?_
 refine Tr.nil (Aa (Sat.seq (Sat.region ?_)))
 refine Tr.m rfl rfl rfl ?_
 refine Tr.lA rfl rfl rfl Y81 rfl Sz81 mM (Vote.length (by first | exact oK  | exact hW.ok | exact ⟨trivial⟩)) ?_
 refine Tr.call4 rfl rfl rfl rfl rfl Body114 (vote_bytes D hW.ok) (fun w h => trivial) ?_
 rintro v14 out14 ⟨s14, rfl, hac14⟩
 have hnm := hac14.num
 refine Tr.m rfl rfl rfl ?_
 refine Tr.eX rfl rfl rfl rfl ?_
 refine Tr.eX rfl rfl rfl rfl ?_
 refine Tr.a rfl rfl rfl ?_
 refine Tr.a rfl rfl rfl ?_
 refine Tr.nil (Aa (Sat.seq (Sat.seq (Sat.region ?_))))
 refine Tr.m rfl rfl rfl ?_
 refine Tr.nei rfl rfl rfl rfl rfl ?_
 refine Tr.nil (Aa ?_)
 first
  | refine Sat.condP rfl (fun hc0 => ?_) (fun hc0 => ?_)
  | refine Sat.condNP rfl (fun hc0 => ?_) (fun hc0 => ?_)
  | refine Sat.cond rfl (fun hc0 => ?_) (fun hc0 => ?_)
 ·
  refine Sat.seq (Sat.region ?_)
  refine Tr.build (cs := Record.zero.cells) rfl rfl rfl (fun w => by kernel_rfl) ?_
  refine Tr.m rfl rfl rfl ?_
  refine Tr.sA rfl rfl rfl rfl (Record.isCell (by first | exact oK  | exact hW.ok | exact ⟨trivial⟩)) Bo (Record.length (by first | exact oK  | exact hW.ok | exact ⟨trivial⟩)) mM (Record.length (by first | exact oK  | exact hW.ok | exact ⟨trivial⟩)) uU ?_
  refine Tr.a rfl rfl rfl ?_
  refine Tr.nil (Aa (Sat.ret (Ao (Am ?_))))
  refine Al (out := []) (Aq rfl rfl rfl Y91 rfl Bo mM (by first | (simp; done) | exact Record.length (by first | exact oK  | exact hW.ok | exact ⟨trivial⟩))) Ag ?_
  exact rec_bad1 oM
 ·
  refine Sat.skip (Aa (Sat.seq (Sat.region ?_)))
  refine Tr.m rfl rfl rfl ?_
  refine Tr.m rfl rfl rfl ?_
  refine Tr.build (cs := (⟨K, s14⟩ : Record).cells) rfl rfl rfl (fun w => by kernel_rfl) ?_
  refine Tr.alloc (cs := Record.zero.cells) rfl Record.zr rfl ?_
  intro n10 hn10 hf10
  refine Tr.sA rfl rfl rfl rfl (Record.isCell (by first | exact oK  | exact hW.ok | exact ⟨trivial⟩)) Bo (Record.length (by first | exact oK  | exact hW.ok | exact ⟨trivial⟩)) mM (Record.length (by first | exact oK  | exact hW.ok | exact ⟨trivial⟩)) uU ?_
  refine Tr.nil (Aa (Sat.seq (Sat.seq (Sat.region ?_))))
  refine Tr.lA rfl rfl rfl Y91 rfl Bo mM (Record.length (by first | exact oK  | exact hW.ok | exact ⟨trivial⟩)) ?_
  refine Tr.cV rfl rfl rfl rfl Body185 (record_check ⟨K, s14⟩ ⟨K, Av D⟩) (fun w h => ⟨⟨trivial⟩, rfl, acc_bytes hac14 (Lies.of h iN) rfl oM⟩) ?_
  refine Tr.nei rfl rfl rfl rfl rfl ?_
  refine Tr.nil (Aa ?_)
  first
   | refine Sat.condP rfl (fun hc1 => ?_) (fun hc1 => ?_)
   | refine Sat.condNP rfl (fun hc1 => ?_) (fun hc1 => ?_)
   | refine Sat.cond rfl (fun hc1 => ?_) (fun hc1 => ?_)
  ·
   refine Sat.seq (Sat.region ?_)
   refine Tr.build (cs := Record.zero.cells) rfl rfl rfl (fun w => by kernel_rfl) ?_
   refine Tr.sA rfl rfl rfl rfl (Record.isCell (by first | exact oK  | exact hW.ok | exact ⟨trivial⟩)) Bo (Record.length (by first | exact oK  | exact hW.ok | exact ⟨trivial⟩)) mM (Record.length (by first | exact oK  | exact hW.ok | exact ⟨trivial⟩)) uU ?_
   refine Tr.a rfl rfl rfl ?_
   refine Tr.nil (Aa (Sat.ret (Ao (Am ?_))))
   refine Al (out := []) (Aq rfl rfl rfl Y91 rfl Bo mM (by first | (simp; done) | exact Record.length (by first | exact oK  | exact hW.ok | exact ⟨trivial⟩))) Ag ?_
   exact rec_bad2 oM oM
  ·
   refine Sat.skip (Aa (Sat.seq (Sat.region ?_)))
   refine Tr.lA rfl rfl rfl Y91 rfl Bo mM (Record.length (by first | exact oK  | exact hW.ok | exact ⟨trivial⟩)) ?_
   refine Tr.sA rfl rfl rfl rfl (Record.isCell (by first | exact oK  | exact hW.ok | exact ⟨trivial⟩)) Bo (Record.length (by first | exact oK  | exact hW.ok | exact ⟨trivial⟩)) mM (Record.length (by first | exact oK  | exact hW.ok | exact ⟨trivial⟩)) uU ?_
   refine Tr.a rfl rfl rfl ?_
   refine Tr.nil (Aa (Sat.ret (Am ?_)))
   refine Al (out := (out14 ++ [])) (Aq rfl rfl rfl Y91 rfl Bo mM (by first | (simp; done) | exact Record.length (by first | exact oK  | exact hW.ok | exact ⟨trivial⟩))) (Ac sG Ag) ?_
   rw [List.append_nil]; exact rec_ok oM oM hac14 oM

theorem rec_of_cut (K : UInt8) (X : Cut) (D : DCut) (hsz : (cutR D).length ≤ 40000) : Meets Tryz.prog 164 [u8 K, agg X.cells, .func (.func 117) #[] #[]] [] (fun W => CutIs W X D) (RecMade K (cutR D) (D.check)) := by
 intro W hW
 have hok := hW.ok
 refine Ak Tryz.func164 rfl 29 Tryz.ntmps164 rfl ?_
 refine Sat.seq (Sat.region ?_)
 refine Tr.boxA rfl rfl ?_
 intro n4 hn4 hf4
 refine Tr.alloc (cs := Record.zero.cells) rfl Record.zr rfl ?_
 intro n6 hn6 hf6
 refine Tr.a rfl rfl rfl ?_
 refine Tr.nil (Aa (Sat.seq (Sat.region ?_)))
 refine Tr.m rfl rfl rfl ?_
 refine Tr.lA rfl rfl rfl Y53 rfl Sz53 mM (Cut.length (by first | exact oK  | exact hW.ok | exact ⟨trivial⟩)) ?_
 refine Tr.call4 rfl rfl rfl rfl rfl Body117 (cut_bytes X D) (fun w h => hW.ext h rfl) ?_
 rintro v14 out14 ⟨s14, rfl, hac14⟩
 have hnm := hac14.num
 refine Tr.m rfl rfl rfl ?_
 refine Tr.eX rfl rfl rfl rfl ?_
 refine Tr.eX rfl rfl rfl rfl ?_
 refine Tr.a rfl rfl rfl ?_
 refine Tr.a rfl rfl rfl ?_
 refine Tr.nil (Aa (Sat.seq (Sat.seq (Sat.region ?_))))
 refine Tr.m rfl rfl rfl ?_
 refine Tr.nei rfl rfl rfl rfl rfl ?_
 refine Tr.nil (Aa ?_)
 first
  | refine Sat.condP rfl (fun hc0 => ?_) (fun hc0 => ?_)
  | refine Sat.condNP rfl (fun hc0 => ?_) (fun hc0 => ?_)
  | refine Sat.cond rfl (fun hc0 => ?_) (fun hc0 => ?_)
 ·
  refine Sat.seq (Sat.region ?_)
  refine Tr.build (cs := Record.zero.cells) rfl rfl rfl (fun w => by kernel_rfl) ?_
  refine Tr.m rfl rfl rfl ?_
  refine Tr.sA rfl rfl rfl rfl (Record.isCell (by first | exact oK  | exact hW.ok | exact ⟨trivial⟩)) Bo (Record.length (by first | exact oK  | exact hW.ok | exact ⟨trivial⟩)) mM (Record.length (by first | exact oK  | exact hW.ok | exact ⟨trivial⟩)) uU ?_
  refine Tr.a rfl rfl rfl ?_
  refine Tr.nil (Aa (Sat.ret (Ao (Am ?_))))
  refine Al (out := []) (Aq rfl rfl rfl Y91 rfl Bo mM (by first | (simp; done) | exact Record.length (by first | exact oK  | exact hW.ok | exact ⟨trivial⟩))) Ag ?_
  exact rec_bad1 oM
 ·
  refine Sat.skip (Aa (Sat.seq (Sat.region ?_)))
  refine Tr.m rfl rfl rfl ?_
  refine Tr.m rfl rfl rfl ?_
  refine Tr.build (cs := (⟨K, s14⟩ : Record).cells) rfl rfl rfl (fun w => by kernel_rfl) ?_
  refine Tr.alloc (cs := Record.zero.cells) rfl Record.zr rfl ?_
  intro n10 hn10 hf10
  refine Tr.sA rfl rfl rfl rfl (Record.isCell (by first | exact oK  | exact hW.ok | exact ⟨trivial⟩)) Bo (Record.length (by first | exact oK  | exact hW.ok | exact ⟨trivial⟩)) mM (Record.length (by first | exact oK  | exact hW.ok | exact ⟨trivial⟩)) uU ?_
  refine Tr.nil (Aa (Sat.seq (Sat.seq (Sat.region ?_))))
  refine Tr.lA rfl rfl rfl Y91 rfl Bo mM (Record.length (by first | exact oK  | exact hW.ok | exact ⟨trivial⟩)) ?_
  refine Tr.cV rfl rfl rfl rfl Body185 (record_check ⟨K, s14⟩ ⟨K, cutR D⟩) (fun w h => ⟨⟨trivial⟩, rfl, acc_bytes hac14 (Lies.of h iN) rfl oM⟩) ?_
  refine Tr.nei rfl rfl rfl rfl rfl ?_
  refine Tr.nil (Aa ?_)
  first
   | refine Sat.condP rfl (fun hc1 => ?_) (fun hc1 => ?_)
   | refine Sat.condNP rfl (fun hc1 => ?_) (fun hc1 => ?_)
   | refine Sat.cond rfl (fun hc1 => ?_) (fun hc1 => ?_)
  ·
   refine Sat.seq (Sat.region ?_)
   refine Tr.build (cs := Record.zero.cells) rfl rfl rfl (fun w => by kernel_rfl) ?_
   refine Tr.sA rfl rfl rfl rfl (Record.isCell (by first | exact oK  | exact hW.ok | exact ⟨trivial⟩)) Bo (Record.length (by first | exact oK  | exact hW.ok | exact ⟨trivial⟩)) mM (Record.length (by first | exact oK  | exact hW.ok | exact ⟨trivial⟩)) uU ?_
   refine Tr.a rfl rfl rfl ?_
   refine Tr.nil (Aa (Sat.ret (Ao (Am ?_))))
   refine Al (out := []) (Aq rfl rfl rfl Y91 rfl Bo mM (by first | (simp; done) | exact Record.length (by first | exact oK  | exact hW.ok | exact ⟨trivial⟩))) Ag ?_
   exact rec_bad2 oM oM
  ·
   refine Sat.skip (Aa (Sat.seq (Sat.region ?_)))
   refine Tr.lA rfl rfl rfl Y91 rfl Bo mM (Record.length (by first | exact oK  | exact hW.ok | exact ⟨trivial⟩)) ?_
   refine Tr.sA rfl rfl rfl rfl (Record.isCell (by first | exact oK  | exact hW.ok | exact ⟨trivial⟩)) Bo (Record.length (by first | exact oK  | exact hW.ok | exact ⟨trivial⟩)) mM (Record.length (by first | exact oK  | exact hW.ok | exact ⟨trivial⟩)) uU ?_
   refine Tr.a rfl rfl rfl ?_
   refine Tr.nil (Aa (Sat.ret (Am ?_)))
   refine Al (out := (out14 ++ [])) (Aq rfl rfl rfl Y91 rfl Bo mM (by first | (simp; done) | exact Record.length (by first | exact oK  | exact hW.ok | exact ⟨trivial⟩))) (Ac sG Ag) ?_
   rw [List.append_nil]; exact rec_ok oM oM hac14 oM

theorem rec_of_cert (K : UInt8) (X : Cert) (D : DCert) (hsz : (B6 D).length ≤ 40000) : Meets Tryz.prog 162 [u8 K, agg X.cells, .func (.func 30) #[] #[]] [] (fun W => CertIs W X D) (RecMade K (B6 D) (D.check)) := by
 intro W hW
 have hok := hW.ok
 refine Ak Tryz.func162 rfl 29 Tryz.ntmps162 rfl ?_
 refine Sat.seq (Sat.region ?_)
 refine Tr.boxA rfl rfl ?_
 intro n4 hn4 hf4
 refine Tr.alloc (cs := Record.zero.cells) rfl Record.zr rfl ?_
 intro n6 hn6 hf6
 refine Tr.a rfl rfl rfl ?_
 refine Tr.nil (Aa (Sat.seq (Sat.region ?_)))
 refine Tr.m rfl rfl rfl ?_
 refine Tr.lA rfl rfl rfl Y55 rfl Sz55 mM (Cert.length (by first | exact oK  | exact hW.ok | exact ⟨trivial⟩)) ?_
 refine Tr.call4 rfl rfl rfl rfl rfl Body30 (cert_bytes X D) (fun w h => hW.ext h rfl) ?_
 rintro v14 out14 ⟨s14, rfl, hac14⟩
 have hnm := hac14.num
 refine Tr.m rfl rfl rfl ?_
 refine Tr.eX rfl rfl rfl rfl ?_
 refine Tr.eX rfl rfl rfl rfl ?_
 refine Tr.a rfl rfl rfl ?_
 refine Tr.a rfl rfl rfl ?_
 refine Tr.nil (Aa (Sat.seq (Sat.seq (Sat.region ?_))))
 refine Tr.m rfl rfl rfl ?_
 refine Tr.nei rfl rfl rfl rfl rfl ?_
 refine Tr.nil (Aa ?_)
 first
  | refine Sat.condP rfl (fun hc0 => ?_) (fun hc0 => ?_)
  | refine Sat.condNP rfl (fun hc0 => ?_) (fun hc0 => ?_)
  | refine Sat.cond rfl (fun hc0 => ?_) (fun hc0 => ?_)
 ·
  refine Sat.seq (Sat.region ?_)
  refine Tr.build (cs := Record.zero.cells) rfl rfl rfl (fun w => by kernel_rfl) ?_
  refine Tr.m rfl rfl rfl ?_
  refine Tr.sA rfl rfl rfl rfl (Record.isCell (by first | exact oK  | exact hW.ok | exact ⟨trivial⟩)) Bo (Record.length (by first | exact oK  | exact hW.ok | exact ⟨trivial⟩)) mM (Record.length (by first | exact oK  | exact hW.ok | exact ⟨trivial⟩)) uU ?_
  refine Tr.a rfl rfl rfl ?_
  refine Tr.nil (Aa (Sat.ret (Ao (Am ?_))))
  refine Al (out := []) (Aq rfl rfl rfl Y91 rfl Bo mM (by first | (simp; done) | exact Record.length (by first | exact oK  | exact hW.ok | exact ⟨trivial⟩))) Ag ?_
  exact rec_bad1 oM
 ·
  refine Sat.skip (Aa (Sat.seq (Sat.region ?_)))
  refine Tr.m rfl rfl rfl ?_
  refine Tr.m rfl rfl rfl ?_
  refine Tr.build (cs := (⟨K, s14⟩ : Record).cells) rfl rfl rfl (fun w => by kernel_rfl) ?_
  refine Tr.alloc (cs := Record.zero.cells) rfl Record.zr rfl ?_
  intro n10 hn10 hf10
  refine Tr.sA rfl rfl rfl rfl (Record.isCell (by first | exact oK  | exact hW.ok | exact ⟨trivial⟩)) Bo (Record.length (by first | exact oK  | exact hW.ok | exact ⟨trivial⟩)) mM (Record.length (by first | exact oK  | exact hW.ok | exact ⟨trivial⟩)) uU ?_
  refine Tr.nil (Aa (Sat.seq (Sat.seq (Sat.region ?_))))
  refine Tr.lA rfl rfl rfl Y91 rfl Bo mM (Record.length (by first | exact oK  | exact hW.ok | exact ⟨trivial⟩)) ?_
  refine Tr.cV rfl rfl rfl rfl Body185 (record_check ⟨K, s14⟩ ⟨K, B6 D⟩) (fun w h => ⟨⟨trivial⟩, rfl, acc_bytes hac14 (Lies.of h iN) rfl oM⟩) ?_
  refine Tr.nei rfl rfl rfl rfl rfl ?_
  refine Tr.nil (Aa ?_)
  first
   | refine Sat.condP rfl (fun hc1 => ?_) (fun hc1 => ?_)
   | refine Sat.condNP rfl (fun hc1 => ?_) (fun hc1 => ?_)
   | refine Sat.cond rfl (fun hc1 => ?_) (fun hc1 => ?_)
  ·
   refine Sat.seq (Sat.region ?_)
   refine Tr.build (cs := Record.zero.cells) rfl rfl rfl (fun w => by kernel_rfl) ?_
   refine Tr.sA rfl rfl rfl rfl (Record.isCell (by first | exact oK  | exact hW.ok | exact ⟨trivial⟩)) Bo (Record.length (by first | exact oK  | exact hW.ok | exact ⟨trivial⟩)) mM (Record.length (by first | exact oK  | exact hW.ok | exact ⟨trivial⟩)) uU ?_
   refine Tr.a rfl rfl rfl ?_
   refine Tr.nil (Aa (Sat.ret (Ao (Am ?_))))
   refine Al (out := []) (Aq rfl rfl rfl Y91 rfl Bo mM (by first | (simp; done) | exact Record.length (by first | exact oK  | exact hW.ok | exact ⟨trivial⟩))) Ag ?_
   exact rec_bad2 oM oM
  ·
   refine Sat.skip (Aa (Sat.seq (Sat.region ?_)))
   refine Tr.lA rfl rfl rfl Y91 rfl Bo mM (Record.length (by first | exact oK  | exact hW.ok | exact ⟨trivial⟩)) ?_
   refine Tr.sA rfl rfl rfl rfl (Record.isCell (by first | exact oK  | exact hW.ok | exact ⟨trivial⟩)) Bo (Record.length (by first | exact oK  | exact hW.ok | exact ⟨trivial⟩)) mM (Record.length (by first | exact oK  | exact hW.ok | exact ⟨trivial⟩)) uU ?_
   refine Tr.a rfl rfl rfl ?_
   refine Tr.nil (Aa (Sat.ret (Am ?_)))
   refine Al (out := (out14 ++ [])) (Aq rfl rfl rfl Y91 rfl Bo mM (by first | (simp; done) | exact Record.length (by first | exact oK  | exact hW.ok | exact ⟨trivial⟩))) (Ac sG Ag) ?_
   rw [List.append_nil]; exact rec_ok oM oM hac14 oM

def Bm (D : DB) : List UInt8 := if D.check = 0 then D.bytes else []
theorem block_bytes (X : Block) (D : DB) : Meets Tryz.prog 111 [agg X.cells] [] (fun W => BlockIs W X D) (fun v out => ∃ s : Sl, v = .tuple #[s.v, i64 D.check] ∧ Hw.Acc s out (Ab (Bm D)) 5 (Bm D).length 1) := by
  intro W hW
  have hbc : bcheck X D.ls = D.check := hW.check
  by_cases hc : D.check = 0
  · refine (bytes_ok X hW.ok D.ls D.ds (by rw [hbc]; exact hc) W ⟨hW.ls, hW.ds⟩).mono fun e W' ⟨v, out, h1, h2, h4⟩ => ⟨v, out, h1, ?_, h4⟩
    clear h1 h4
    obtain ⟨q, c, N, hN, hN2, rfl, hNc, rfl⟩ := h2
    have e : bytesB X D.ls D.ds = Bm D := by rw [Bm, if_pos hc]; exact hW.bytes
    rw [e] at hN ⊢
    subst hN
    exact ⟨⟨some ⟨q, 0, none⟩, (Bm D).length, c⟩, by rw [hc]; rfl, .inr ⟨q, c, rfl, hNc, by simp [Ab], rfl⟩⟩
  · refine (bytes_bad X hW.ok D.ls D.ds (by rw [hbc]; exact hc) W ⟨hW.ls, hW.ds⟩).mono fun e W' ⟨v, out, h1, h2, h4⟩ => ⟨v, out, h1, ?_, h4⟩
    clear h1 h4
    obtain ⟨rfl, rfl⟩ := h2
    rw [Bm, if_neg hc, hbc]
    exact ⟨Sl.nil, rfl, .inl ⟨rfl, rfl, rfl, rfl⟩⟩

theorem rec_of_block (K : UInt8) (X : Block) (D : DB) (hsz : (Bm D).length ≤ 40000) : Meets Tryz.prog 160 [u8 K, agg X.cells, .func (.func 111) #[] #[]] [] (fun W => BlockIs W X D) (RecMade K (Bm D) (D.check)) := by
 intro W hW
 have hok := hW.ok
 refine Ak Tryz.func160 rfl 29 Tryz.ntmps160 rfl ?_
 refine Sat.seq (Sat.region ?_)
 refine Tr.boxA rfl rfl ?_
 intro n4 hn4 hf4
 refine Tr.alloc (cs := Record.zero.cells) rfl Record.zr rfl ?_
 intro n6 hn6 hf6
 refine Tr.a rfl rfl rfl ?_
 refine Tr.nil (Aa (Sat.seq (Sat.region ?_)))
 refine Tr.m rfl rfl rfl ?_
 refine Tr.lA rfl rfl rfl Y79 rfl Sz79 mM (Block.length (by first | exact oK  | exact hW.ok | exact ⟨trivial⟩)) ?_
 refine Tr.call4 rfl rfl rfl rfl rfl Body111 (block_bytes X D) (fun w h => hW.ext h rfl) ?_
 rintro v14 out14 ⟨s14, rfl, hac14⟩
 have hnm := hac14.num
 refine Tr.m rfl rfl rfl ?_
 refine Tr.eX rfl rfl rfl rfl ?_
 refine Tr.eX rfl rfl rfl rfl ?_
 refine Tr.a rfl rfl rfl ?_
 refine Tr.a rfl rfl rfl ?_
 refine Tr.nil (Aa (Sat.seq (Sat.seq (Sat.region ?_))))
 refine Tr.m rfl rfl rfl ?_
 refine Tr.nei rfl rfl rfl rfl rfl ?_
 refine Tr.nil (Aa ?_)
 first
  | refine Sat.condP rfl (fun hc0 => ?_) (fun hc0 => ?_)
  | refine Sat.condNP rfl (fun hc0 => ?_) (fun hc0 => ?_)
  | refine Sat.cond rfl (fun hc0 => ?_) (fun hc0 => ?_)
 ·
  refine Sat.seq (Sat.region ?_)
  refine Tr.build (cs := Record.zero.cells) rfl rfl rfl (fun w => by kernel_rfl) ?_
  refine Tr.m rfl rfl rfl ?_
  refine Tr.sA rfl rfl rfl rfl (Record.isCell (by first | exact oK  | exact hW.ok | exact ⟨trivial⟩)) Bo (Record.length (by first | exact oK  | exact hW.ok | exact ⟨trivial⟩)) mM (Record.length (by first | exact oK  | exact hW.ok | exact ⟨trivial⟩)) uU ?_
  refine Tr.a rfl rfl rfl ?_
  refine Tr.nil (Aa (Sat.ret (Ao (Am ?_))))
  refine Al (out := []) (Aq rfl rfl rfl Y91 rfl Bo mM (by first | (simp; done) | exact Record.length (by first | exact oK  | exact hW.ok | exact ⟨trivial⟩))) Ag ?_
  exact rec_bad1 oM
 ·
  refine Sat.skip (Aa (Sat.seq (Sat.region ?_)))
  refine Tr.m rfl rfl rfl ?_
  refine Tr.m rfl rfl rfl ?_
  refine Tr.build (cs := (⟨K, s14⟩ : Record).cells) rfl rfl rfl (fun w => by kernel_rfl) ?_
  refine Tr.alloc (cs := Record.zero.cells) rfl Record.zr rfl ?_
  intro n10 hn10 hf10
  refine Tr.sA rfl rfl rfl rfl (Record.isCell (by first | exact oK  | exact hW.ok | exact ⟨trivial⟩)) Bo (Record.length (by first | exact oK  | exact hW.ok | exact ⟨trivial⟩)) mM (Record.length (by first | exact oK  | exact hW.ok | exact ⟨trivial⟩)) uU ?_
  refine Tr.nil (Aa (Sat.seq (Sat.seq (Sat.region ?_))))
  refine Tr.lA rfl rfl rfl Y91 rfl Bo mM (Record.length (by first | exact oK  | exact hW.ok | exact ⟨trivial⟩)) ?_
  refine Tr.cV rfl rfl rfl rfl Body185 (record_check ⟨K, s14⟩ ⟨K, Bm D⟩) (fun w h => ⟨⟨trivial⟩, rfl, acc_bytes hac14 (Lies.of h iN) rfl oM⟩) ?_
  refine Tr.nei rfl rfl rfl rfl rfl ?_
  refine Tr.nil (Aa ?_)
  first
   | refine Sat.condP rfl (fun hc1 => ?_) (fun hc1 => ?_)
   | refine Sat.condNP rfl (fun hc1 => ?_) (fun hc1 => ?_)
   | refine Sat.cond rfl (fun hc1 => ?_) (fun hc1 => ?_)
  ·
   refine Sat.seq (Sat.region ?_)
   refine Tr.build (cs := Record.zero.cells) rfl rfl rfl (fun w => by kernel_rfl) ?_
   refine Tr.sA rfl rfl rfl rfl (Record.isCell (by first | exact oK  | exact hW.ok | exact ⟨trivial⟩)) Bo (Record.length (by first | exact oK  | exact hW.ok | exact ⟨trivial⟩)) mM (Record.length (by first | exact oK  | exact hW.ok | exact ⟨trivial⟩)) uU ?_
   refine Tr.a rfl rfl rfl ?_
   refine Tr.nil (Aa (Sat.ret (Ao (Am ?_))))
   refine Al (out := []) (Aq rfl rfl rfl Y91 rfl Bo mM (by first | (simp; done) | exact Record.length (by first | exact oK  | exact hW.ok | exact ⟨trivial⟩))) Ag ?_
   exact rec_bad2 oM oM
  ·
   refine Sat.skip (Aa (Sat.seq (Sat.region ?_)))
   refine Tr.lA rfl rfl rfl Y91 rfl Bo mM (Record.length (by first | exact oK  | exact hW.ok | exact ⟨trivial⟩)) ?_
   refine Tr.sA rfl rfl rfl rfl (Record.isCell (by first | exact oK  | exact hW.ok | exact ⟨trivial⟩)) Bo (Record.length (by first | exact oK  | exact hW.ok | exact ⟨trivial⟩)) mM (Record.length (by first | exact oK  | exact hW.ok | exact ⟨trivial⟩)) uU ?_
   refine Tr.a rfl rfl rfl ?_
   refine Tr.nil (Aa (Sat.ret (Am ?_)))
   refine Al (out := (out14 ++ [])) (Aq rfl rfl rfl Y91 rfl Bo mM (by first | (simp; done) | exact Record.length (by first | exact oK  | exact hW.ok | exact ⟨trivial⟩))) (Ac sG Ag) ?_
   rw [List.append_nil]; exact rec_ok oM oM hac14 oM

theorem keep_vote (X : Vote) (D : Vote) (hsz : (Av D).length ≤ 40000) : Meets Tryz.prog 54 [agg X.cells] [] (fun W => VoteIs W X D) (RecMade 3 (Av D) (A8 D)) := by
 intro W hW
 refine Ak Tryz.func54 rfl 8 Tryz.ntmps54 rfl ?_
 refine Sat.seq (Sat.region ?_)
 refine Tr.boxA rfl rfl ?_
 intro n1 hn1 hf1
 refine Tr.alloc (cs := Record.zero.cells) rfl Record.zr rfl ?_
 intro n2 hn2 hf2
 refine Tr.a rfl rfl rfl ?_
 refine Tr.nil (Aa (Sat.seq (Sat.region ?_)))
 refine Tr.lA rfl rfl rfl Y81 rfl Sz81 mM (Vote.length (by first | exact oK  | exact hW.ok | exact okX5 | exact Record.zero_ok)) ?_
 refine Tr.call4 rfl rfl rfl rfl rfl Body163 (rec_of_vote 3 X D hsz) (fun w h => hW.ext h rfl) ?_
 rintro v5 out5 ⟨X5, okX5, rfl, kX5, hX5⟩
 refine Tr.eX rfl rfl rfl rfl ?_
 refine Tr.eX rfl rfl rfl rfl ?_
 refine Tr.sA rfl rfl rfl rfl (Record.isCell (by first | exact oK  | exact hW.ok | exact okX5 | exact Record.zero_ok)) Bo (Record.length (by first | exact oK  | exact hW.ok | exact okX5 | exact Record.zero_ok)) mM (Record.length (by first | exact oK  | exact hW.ok | exact okX5 | exact Record.zero_ok)) uU ?_
 refine Tr.a rfl rfl rfl ?_
 refine Tr.nil (Aa (Sat.ret (Am ?_)))
 refine Al (out := (out5 ++ [])) (Aq rfl rfl rfl Y91 rfl Bo mM (by first | (simp; done) | exact Record.length (by first | exact oK  | exact hW.ok | exact okX5 | exact Record.zero_ok))) (Ac sG Ag) ?_
 rw [List.append_nil]; exact ⟨X5, okX5, rfl, kX5, hX5⟩

theorem keep_cut (X : Cut) (D : DCut) (hsz : (cutR D).length ≤ 40000) : Meets Tryz.prog 56 [agg X.cells] [] (fun W => CutIs W X D) (RecMade 4 (cutR D) (D.check)) := by
 intro W hW
 refine Ak Tryz.func56 rfl 8 Tryz.ntmps56 rfl ?_
 refine Sat.seq (Sat.region ?_)
 refine Tr.boxA rfl rfl ?_
 intro n1 hn1 hf1
 refine Tr.alloc (cs := Record.zero.cells) rfl Record.zr rfl ?_
 intro n2 hn2 hf2
 refine Tr.a rfl rfl rfl ?_
 refine Tr.nil (Aa (Sat.seq (Sat.region ?_)))
 refine Tr.lA rfl rfl rfl Y53 rfl Sz53 mM (Cut.length (by first | exact oK  | exact hW.ok | exact okX5 | exact Record.zero_ok)) ?_
 refine Tr.call4 rfl rfl rfl rfl rfl Body164 (rec_of_cut 4 X D hsz) (fun w h => hW.ext h rfl) ?_
 rintro v5 out5 ⟨X5, okX5, rfl, kX5, hX5⟩
 refine Tr.eX rfl rfl rfl rfl ?_
 refine Tr.eX rfl rfl rfl rfl ?_
 refine Tr.sA rfl rfl rfl rfl (Record.isCell (by first | exact oK  | exact hW.ok | exact okX5 | exact Record.zero_ok)) Bo (Record.length (by first | exact oK  | exact hW.ok | exact okX5 | exact Record.zero_ok)) mM (Record.length (by first | exact oK  | exact hW.ok | exact okX5 | exact Record.zero_ok)) uU ?_
 refine Tr.a rfl rfl rfl ?_
 refine Tr.nil (Aa (Sat.ret (Am ?_)))
 refine Al (out := (out5 ++ [])) (Aq rfl rfl rfl Y91 rfl Bo mM (by first | (simp; done) | exact Record.length (by first | exact oK  | exact hW.ok | exact okX5 | exact Record.zero_ok))) (Ac sG Ag) ?_
 rw [List.append_nil]; exact ⟨X5, okX5, rfl, kX5, hX5⟩

theorem keep_cert (X : Cert) (D : DCert) (hsz : (B6 D).length ≤ 40000) : Meets Tryz.prog 52 [agg X.cells] [] (fun W => CertIs W X D) (RecMade 2 (B6 D) (D.check)) := by
 intro W hW
 refine Ak Tryz.func52 rfl 8 Tryz.ntmps52 rfl ?_
 refine Sat.seq (Sat.region ?_)
 refine Tr.boxA rfl rfl ?_
 intro n1 hn1 hf1
 refine Tr.alloc (cs := Record.zero.cells) rfl Record.zr rfl ?_
 intro n2 hn2 hf2
 refine Tr.a rfl rfl rfl ?_
 refine Tr.nil (Aa (Sat.seq (Sat.region ?_)))
 refine Tr.lA rfl rfl rfl Y55 rfl Sz55 mM (Cert.length (by first | exact oK  | exact hW.ok | exact okX5 | exact Record.zero_ok)) ?_
 refine Tr.call4 rfl rfl rfl rfl rfl Body162 (rec_of_cert 2 X D hsz) (fun w h => hW.ext h rfl) ?_
 rintro v5 out5 ⟨X5, okX5, rfl, kX5, hX5⟩
 refine Tr.eX rfl rfl rfl rfl ?_
 refine Tr.eX rfl rfl rfl rfl ?_
 refine Tr.sA rfl rfl rfl rfl (Record.isCell (by first | exact oK  | exact hW.ok | exact okX5 | exact Record.zero_ok)) Bo (Record.length (by first | exact oK  | exact hW.ok | exact okX5 | exact Record.zero_ok)) mM (Record.length (by first | exact oK  | exact hW.ok | exact okX5 | exact Record.zero_ok)) uU ?_
 refine Tr.a rfl rfl rfl ?_
 refine Tr.nil (Aa (Sat.ret (Am ?_)))
 refine Al (out := (out5 ++ [])) (Aq rfl rfl rfl Y91 rfl Bo mM (by first | (simp; done) | exact Record.length (by first | exact oK  | exact hW.ok | exact okX5 | exact Record.zero_ok))) (Ac sG Ag) ?_
 rw [List.append_nil]; exact ⟨X5, okX5, rfl, kX5, hX5⟩

theorem keep_block (X : Block) (D : DB) (hsz : (Bm D).length ≤ 40000) : Meets Tryz.prog 49 [agg X.cells] [] (fun W => BlockIs W X D) (RecMade 1 (Bm D) (D.check)) := by
 intro W hW
 refine Ak Tryz.func49 rfl 8 Tryz.ntmps49 rfl ?_
 refine Sat.seq (Sat.region ?_)
 refine Tr.boxA rfl rfl ?_
 intro n1 hn1 hf1
 refine Tr.alloc (cs := Record.zero.cells) rfl Record.zr rfl ?_
 intro n2 hn2 hf2
 refine Tr.a rfl rfl rfl ?_
 refine Tr.nil (Aa (Sat.seq (Sat.region ?_)))
 refine Tr.lA rfl rfl rfl Y79 rfl Sz79 mM (Block.length (by first | exact oK  | exact hW.ok | exact okX5 | exact Record.zero_ok)) ?_
 refine Tr.call4 rfl rfl rfl rfl rfl Body160 (rec_of_block 1 X D hsz) (fun w h => hW.ext h rfl) ?_
 rintro v5 out5 ⟨X5, okX5, rfl, kX5, hX5⟩
 refine Tr.eX rfl rfl rfl rfl ?_
 refine Tr.eX rfl rfl rfl rfl ?_
 refine Tr.sA rfl rfl rfl rfl (Record.isCell (by first | exact oK  | exact hW.ok | exact okX5 | exact Record.zero_ok)) Bo (Record.length (by first | exact oK  | exact hW.ok | exact okX5 | exact Record.zero_ok)) mM (Record.length (by first | exact oK  | exact hW.ok | exact okX5 | exact Record.zero_ok)) uU ?_
 refine Tr.a rfl rfl rfl ?_
 refine Tr.nil (Aa (Sat.ret (Am ?_)))
 refine Al (out := (out5 ++ [])) (Aq rfl rfl rfl Y91 rfl Bo mM (by first | (simp; done) | exact Record.length (by first | exact oK  | exact hW.ok | exact okX5 | exact Record.zero_ok))) (Ac sG Ag) ?_
 rw [List.append_nil]; exact ⟨X5, okX5, rfl, kX5, hX5⟩

end Go.Proofs.YtdifpjmfabhpiaaGreat
end

section
namespace Go.Proofs.YtdifpjmfabhpiaaGreat
open Go Hw

theorem seesP_na0 {C : Cx} {hp : List Blk} {w : World} {p : Option Addr} {xs : List UInt8} {k : Nat} (h : HRep C hp w) (hs : SeesP C.W0 p (Ab xs)) (hl : xs.length = k) (hna : 0 < k → ∀ a, p = some a → a.block ∉ C.lent) : SeesP w p (Ab xs) := fun j v hj => by
  have h1 : j < (Ab xs).length := (List.getElem?_eq_some_iff.1 hj).1
  rw [Ab, List.length_map] at h1
  exact seesP_na h hs (hna oM) j v hj
def KB (n : Nat) (K : Kept) : Blk := ⟨n, K.cells, 27, 4⟩
theorem take_hrep {P : Program} {W : World} {N n : Nat} {K : Kept} {s : Sl} {bl : List Blk} {cells : List Value} {E : TypeId} {m size : Nat} (h : Hw.Acc s bl cells E m size) (hk : BlkOk W (KB n K)) (hl : Lies bl W) (hn : ∀ b ∈ bl, b.n ≠ n) : HRep ⟨P, W, N, n :: bl.map (·.n), [], []⟩ (KB n K :: (bl ++ [])) W := by
  rw [List.append_nil]
  have h1 := Acc.hrep (P := P) (N := N) h hl
  refine ⟨fun b hb => ?_, ?_, fun b hb => ?_, Keeps.refl _ _, fun _ h => (by cases h), fun _ _ _ h => (by cases h)⟩
  · rcases List.mem_cons.1 hb with rfl | hb
    · exact hk
    · exact hl b hb
  · refine List.nodup_cons.2 ⟨fun hm => ?_, h1.nodup⟩
    obtain ⟨b, hb, e⟩ := List.mem_map.1 hm
    exact hn b hb e
  · rcases List.mem_cons.1 hb with rfl | hb
    · exact .inr List.mem_cons_self
    · exact .inr (List.mem_cons_of_mem _ (List.mem_map.2 ⟨b, hb, rfl⟩))
theorem take_vote (n : Nat) (K : Kept) (hK : K.ok) (bl : List Blk) (rs : List Vote) (m : Nat) (hac : Hw.Acc K.fVotes bl (rs.map Vote.cells).flatten 81 m 132) (hm : m ≤ 100000) (p : Option Addr) (k c : Nat) (xs : List UInt8) (hl : xs.length = k) (hp : p = none → k = 0) (hk : k ≤ 90000) : Meets Tryz.prog 76 [ptr n 2, .slice p k c, .func (.func 77) #[] #[]] (n :: bl.map (·.n)) (fun W => BlkOk W (KB n K) ∧ Lies bl W ∧ SeesP W p (Ab xs) ∧ (0 < k → ∀ a, p = some a → a.block ∉ n :: bl.map (·.n)) ∧ ∀ b ∈ bl, b.n ≠ n) (fun v out => ∃ (s2 : Sl) (bl2 : List Blk), v = .bool (decide ((Ay xs).2 = 0)) ∧ ((¬ (Ay xs).2 = 0 ∧ out = KB n K :: (bl ++ [])) ∨ ((Ay xs).2 = 0 ∧ out = KB n { K with fVotes := s2 } :: (bl2 ++ []) ∧ Hw.Acc s2 bl2 ((rs ++ [(Ay xs).1]).map Vote.cells).flatten 81 (m + 1) 132))) := by
 intro W hW
 refine A3 (hp0 := KB n K :: (bl ++ [])) Tryz.func76 rfl 25 Tryz.ntmps76 rfl (take_hrep hac hW.1 hW.2.1 hW.2.2.2.2) ?_
 refine Sat.seq (Sat.region ?_)
 refine Tr.a rfl rfl rfl ?_
 refine Tr.nil (Aa (Sat.seq (Sat.region ?_)))
 refine Tr.m rfl rfl rfl ?_
 refine Tr.m rfl rfl rfl ?_
 refine Tr.call4 rfl rfl rfl rfl rfl Body77 (vote_read p k c xs hl hp hk) (fun w h => seesP_na0 h hW.2.2.1 hl hW.2.2.2.1) ?_
 rintro v12 out12 ⟨rfl, rfl⟩
 refine Tr.m rfl rfl rfl ?_
 refine Tr.eX rfl rfl rfl rfl ?_
 refine Tr.eX rfl rfl rfl rfl ?_
 refine Tr.alloc (cs := Vote.zero.cells) rfl Vote.zr rfl ?_
 intro n7 hn7 hf7
 refine Tr.sA rfl rfl rfl rfl (Vote.isCell (by first | exact oK  | exact hK | exact Bd _)) Sz81 (Vote.length (by first | exact oK  | exact hK | exact Bd _)) mM (Vote.length (by first | exact oK  | exact hK | exact Bd _)) uU ?_
 refine Tr.a rfl rfl rfl ?_
 refine Tr.nil (Aa (Sat.seq (Sat.seq (Sat.region ?_))))
 refine Tr.m rfl rfl rfl ?_
 refine Tr.nei rfl rfl rfl rfl rfl ?_
 refine Tr.nil (Aa ?_)
 first
  | refine Sat.condP rfl (fun hc0 => ?_) (fun hc0 => ?_)
  | refine Sat.condNP rfl (fun hc0 => ?_) (fun hc0 => ?_)
  | refine Sat.cond rfl (fun hc0 => ?_) (fun hc0 => ?_)
 ·
  refine Sat.seq (Sat.region ?_)
  refine Tr.a rfl rfl rfl ?_
  refine Tr.nil (Aa (Sat.ret (Ao (Am ?_))))
  refine Al (out := (KB n K :: (bl ++ []))) (Ad rfl rfl) (Ae rM (Ac sG Ag)) ?_
  exact ⟨Sl.nil, [], by simp; omega, .inl ⟨by omega, rfl⟩⟩
 ·
  refine Sat.skip (Aa (Sat.seq ?_))
  refine Sat.draw [(0, 0), (0, 1), (0, 2), (1, 3), (1, 4), (2, 5), (4, 6), (0, 7), (4, 8)] Bv zK ?_
  refine Tr.m rfl rfl rfl ?_
  refine Tr.m rfl rfl rfl ?_
  refine Tr.nC rfl rfl rfl ?_
  refine Tr.load1 rfl rfl rfl Y24 rfl mM (Kept.get_fVotes hK) ?_
  refine Tr.lA rfl rfl rfl Y81 rfl Sz81 mM (Vote.length (by first | exact oK  | exact hK | exact Bd _)) ?_
  refine Tr.mkRow2 (z := agg Vote.zero.cells) [agg (Ay xs).1.cells] (Ay xs).1.cells rfl rfl Y24 Sz81 Vote.zr rfl rfl (by intro v hv; rw [List.mem_singleton.1 hv]; exact Vote.length (Bd _)) dE (by simp [Value.cells]) ?_
  intro q22
  refine Tr.appendAcc (z := agg Vote.zero.cells) (by' := 160) ((Ay xs).1.cells) rfl rfl rfl rfl rfl Y24 Y24 Sz81 Zr81 (by unfold By; kernel_rfl) rfl hac sG (fun w h => SeesP.of (As h mM)) (fun e => by cases e) (Vote.isCell (Bd _)) oM oM (by rw [Vote.length (Bd _)]) ?_
  intro s23 bl23 hac23
  refine Tr.nC rfl rfl rfl ?_
  refine Tr.s1 rfl rfl rfl rfl rfl Sz24 mM (by rw [Kept.length hK]; decide) (Kept.setS_fVotes hK _ _ _) uU ?_
  refine Tr.nil (Aa (Sat.seq (Sat.region ?_)))
  refine Tr.a rfl rfl rfl ?_
  refine Tr.nil (Aa (Sat.ret (Am ?_)))
  refine Al (out := (KB n { K with fVotes := s23 } :: (bl23 ++ []))) (Ad rfl rfl) (Ae rM (Ac sG Ag)) ?_
  exact ⟨s23, bl23, by simp; omega, .inr ⟨by omega, rfl, by simpa using hac23⟩⟩

theorem take_cut (n : Nat) (K : Kept) (hK : K.ok) (bl : List Blk) (rs : List Cut) (m : Nat) (hac : Hw.Acc K.fCuts bl (rs.map Cut.cells).flatten 53 m 34) (hm : m ≤ 100000) (p : Option Addr) (k c : Nat) (xs : List UInt8) (hl : xs.length = k) (hp : p = none → k = 0) (hk : k ≤ 90000) : Meets Tryz.prog 78 [ptr n 3, .slice p k c, .func (.func 79) #[] #[]] (n :: bl.map (·.n)) (fun W => BlkOk W (KB n K) ∧ Lies bl W ∧ SeesP W p (Ab xs) ∧ (0 < k → ∀ a, p = some a → a.block ∉ n :: bl.map (·.n)) ∧ ∀ b ∈ bl, b.n ≠ n) (fun v out => ∃ (s2 : Sl) (bl2 o : List Blk) (X : Cut), v = .bool (decide ((Bp xs).2 = 0)) ∧ X.ok ∧ (∀ W2, Lies o W2 → CutIs W2 X (Bp xs).1) ∧ ((¬ (Bp xs).2 = 0 ∧ out = KB n K :: (bl ++ [])) ∨ ((Bp xs).2 = 0 ∧ out = KB n { K with fCuts := s2 } :: (bl2 ++ (o ++ [])) ∧ Hw.Acc s2 bl2 ((rs ++ [X]).map Cut.cells).flatten 53 (m + 1) 34))) := by
 intro W hW
 refine A3 (hp0 := KB n K :: (bl ++ [])) Tryz.func78 rfl 25 Tryz.ntmps78 rfl (take_hrep hac hW.1 hW.2.1 hW.2.2.2.2) ?_
 refine Sat.seq (Sat.region ?_)
 refine Tr.a rfl rfl rfl ?_
 refine Tr.nil (Aa (Sat.seq (Sat.region ?_)))
 refine Tr.m rfl rfl rfl ?_
 refine Tr.m rfl rfl rfl ?_
 refine Tr.call4 rfl rfl rfl rfl rfl Body79 (cut_read p k c xs hl hp hk) (fun w h => seesP_na0 h hW.2.2.1 hl hW.2.2.2.1) ?_
 rintro v12 out12 ⟨C12, okC, rfl, hC12⟩
 refine Tr.m rfl rfl rfl ?_
 refine Tr.eX rfl rfl rfl rfl ?_
 refine Tr.eX rfl rfl rfl rfl ?_
 refine Tr.alloc (cs := Cut.zero.cells) rfl Cut.zr rfl ?_
 intro n7 hn7 hf7
 refine Tr.sA rfl rfl rfl rfl (Cut.isCell (by first | exact oK  | exact hK | exact okC)) Sz53 (Cut.length (by first | exact oK  | exact hK | exact okC)) mM (Cut.length (by first | exact oK  | exact hK | exact okC)) uU ?_
 refine Tr.a rfl rfl rfl ?_
 refine Tr.nil (Aa (Sat.seq (Sat.seq (Sat.region ?_))))
 refine Tr.m rfl rfl rfl ?_
 refine Tr.nei rfl rfl rfl rfl rfl ?_
 refine Tr.nil (Aa ?_)
 first
  | refine Sat.condP rfl (fun hc0 => ?_) (fun hc0 => ?_)
  | refine Sat.condNP rfl (fun hc0 => ?_) (fun hc0 => ?_)
  | refine Sat.cond rfl (fun hc0 => ?_) (fun hc0 => ?_)
 ·
  refine Sat.seq (Sat.region ?_)
  refine Tr.a rfl rfl rfl ?_
  refine Tr.nil (Aa (Sat.ret (Ao (Am ?_))))
  refine Al (out := (KB n K :: (bl ++ []))) (Ad rfl rfl) (Ae rM (Ac sG Ag)) ?_
  exact ⟨Sl.nil, [], out12, C12, by simp; omega, okC, hC12, .inl ⟨by omega, rfl⟩⟩
 ·
  refine Sat.skip (Aa (Sat.seq ?_))
  refine Sat.draw [(0, 0), (0, 1), (0, 2), (1, 3), (1, 4), (2, 5), (4, 6), (0, 7), (4, 8)] Bv zK ?_
  refine Tr.m rfl rfl rfl ?_
  refine Tr.m rfl rfl rfl ?_
  refine Tr.nC rfl rfl rfl ?_
  refine Tr.load1 rfl rfl rfl Y25 rfl mM (Kept.get_fCuts hK) ?_
  refine Tr.lA rfl rfl rfl Y53 rfl Sz53 mM (Cut.length (by first | exact oK  | exact hK | exact okC)) ?_
  refine Tr.mkRow2 (z := agg Cut.zero.cells) [agg C12.cells] C12.cells rfl rfl Y25 Sz53 Cut.zr rfl rfl (by intro v hv; rw [List.mem_singleton.1 hv]; exact Cut.length okC) dE (by simp [Value.cells]) ?_
  intro q22
  refine Tr.appendAcc (z := agg Cut.zero.cells) (by' := 64) (C12.cells) rfl rfl rfl rfl rfl Y25 Y25 Sz53 Zr53 (by unfold By; kernel_rfl) rfl hac sG (fun w h => SeesP.of (As h mM)) (fun e => by cases e) (Cut.isCell okC) oM oM (by rw [Cut.length okC]) ?_
  intro s23 bl23 hac23
  refine Tr.nC rfl rfl rfl ?_
  refine Tr.s1 rfl rfl rfl rfl rfl Sz25 mM (by rw [Kept.length hK]; decide) (Kept.setS_fCuts hK _ _ _) uU ?_
  refine Tr.nil (Aa (Sat.seq (Sat.region ?_)))
  refine Tr.a rfl rfl rfl ?_
  refine Tr.nil (Aa (Sat.ret (Am ?_)))
  refine Al (out := (KB n { K with fCuts := s23 } :: (bl23 ++ (out12 ++ [])))) (Ad rfl rfl) (Ae rM (Ac sG (Ac sG Ag))) ?_
  exact ⟨s23, bl23, out12, C12, by simp; omega, okC, hC12, .inr ⟨by omega, rfl, by simpa using hac23⟩⟩

theorem take_cert (n : Nat) (K : Kept) (hK : K.ok) (bl : List Blk) (rs : List Cert) (m : Nat) (hac : Hw.Acc K.fCerts bl (rs.map Cert.cells).flatten 55 m 35) (hm : m ≤ 100000) (p : Option Addr) (k c : Nat) (xs : List UInt8) (hl : xs.length = k) (hp : p = none → k = 0) (hk : k ≤ 90000) : Meets Tryz.prog 75 [ptr n 1, .slice p k c, .func (.func 29) #[] #[]] (n :: bl.map (·.n)) (fun W => BlkOk W (KB n K) ∧ Lies bl W ∧ SeesP W p (Ab xs) ∧ (0 < k → ∀ a, p = some a → a.block ∉ n :: bl.map (·.n)) ∧ ∀ b ∈ bl, b.n ≠ n) (fun v out => ∃ (s2 : Sl) (bl2 o : List Blk) (X : Cert), v = .bool (decide ((Bl xs).2 = 0)) ∧ X.ok ∧ (∀ W2, Lies o W2 → CertIs W2 X (Bl xs).1) ∧ ((¬ (Bl xs).2 = 0 ∧ out = KB n K :: (bl ++ [])) ∨ ((Bl xs).2 = 0 ∧ out = KB n { K with fCerts := s2 } :: (bl2 ++ (o ++ [])) ∧ Hw.Acc s2 bl2 ((rs ++ [X]).map Cert.cells).flatten 55 (m + 1) 35))) := by
 intro W hW
 refine A3 (hp0 := KB n K :: (bl ++ [])) Tryz.func75 rfl 25 Tryz.ntmps75 rfl (take_hrep hac hW.1 hW.2.1 hW.2.2.2.2) ?_
 refine Sat.seq (Sat.region ?_)
 refine Tr.a rfl rfl rfl ?_
 refine Tr.nil (Aa (Sat.seq (Sat.region ?_)))
 refine Tr.m rfl rfl rfl ?_
 refine Tr.m rfl rfl rfl ?_
 refine Tr.call4 rfl rfl rfl rfl rfl Body29 (cert_read p k c xs hl hp hk) (fun w h => seesP_na0 h hW.2.2.1 hl hW.2.2.2.1) ?_
 rintro v12 out12 ⟨C12, okC, rfl, hC12⟩
 refine Tr.m rfl rfl rfl ?_
 refine Tr.eX rfl rfl rfl rfl ?_
 refine Tr.eX rfl rfl rfl rfl ?_
 refine Tr.alloc (cs := Cert.zero.cells) rfl Cert.zr rfl ?_
 intro n7 hn7 hf7
 refine Tr.sA rfl rfl rfl rfl (Cert.isCell (by first | exact oK  | exact hK | exact okC)) Sz55 (Cert.length (by first | exact oK  | exact hK | exact okC)) mM (Cert.length (by first | exact oK  | exact hK | exact okC)) uU ?_
 refine Tr.a rfl rfl rfl ?_
 refine Tr.nil (Aa (Sat.seq (Sat.seq (Sat.region ?_))))
 refine Tr.m rfl rfl rfl ?_
 refine Tr.nei rfl rfl rfl rfl rfl ?_
 refine Tr.nil (Aa ?_)
 first
  | refine Sat.condP rfl (fun hc0 => ?_) (fun hc0 => ?_)
  | refine Sat.condNP rfl (fun hc0 => ?_) (fun hc0 => ?_)
  | refine Sat.cond rfl (fun hc0 => ?_) (fun hc0 => ?_)
 ·
  refine Sat.seq (Sat.region ?_)
  refine Tr.a rfl rfl rfl ?_
  refine Tr.nil (Aa (Sat.ret (Ao (Am ?_))))
  refine Al (out := (KB n K :: (bl ++ []))) (Ad rfl rfl) (Ae rM (Ac sG Ag)) ?_
  exact ⟨Sl.nil, [], out12, C12, by simp; omega, okC, hC12, .inl ⟨by omega, rfl⟩⟩
 ·
  refine Sat.skip (Aa (Sat.seq ?_))
  refine Sat.draw [(0, 0), (0, 1), (0, 2), (1, 3), (1, 4), (2, 5), (4, 6), (0, 7), (4, 8)] Bv zK ?_
  refine Tr.m rfl rfl rfl ?_
  refine Tr.m rfl rfl rfl ?_
  refine Tr.nC rfl rfl rfl ?_
  refine Tr.load1 rfl rfl rfl Y23 rfl mM (Kept.get_fCerts hK) ?_
  refine Tr.lA rfl rfl rfl Y55 rfl Sz55 mM (Cert.length (by first | exact oK  | exact hK | exact okC)) ?_
  refine Tr.mkRow2 (z := agg Cert.zero.cells) [agg C12.cells] C12.cells rfl rfl Y23 Sz55 Cert.zr rfl rfl (by intro v hv; rw [List.mem_singleton.1 hv]; exact Cert.length okC) dE (by simp [Value.cells]) ?_
  intro q22
  refine Tr.appendAcc (z := agg Cert.zero.cells) (by' := 88) (C12.cells) rfl rfl rfl rfl rfl Y23 Y23 Sz55 Zr55 (by unfold By; kernel_rfl) rfl hac sG (fun w h => SeesP.of (As h mM)) (fun e => by cases e) (Cert.isCell okC) oM oM (by rw [Cert.length okC]) ?_
  intro s23 bl23 hac23
  refine Tr.nC rfl rfl rfl ?_
  refine Tr.s1 rfl rfl rfl rfl rfl Sz23 mM (by rw [Kept.length hK]; decide) (Kept.setS_fCerts hK _ _ _) uU ?_
  refine Tr.nil (Aa (Sat.seq (Sat.region ?_)))
  refine Tr.a rfl rfl rfl ?_
  refine Tr.nil (Aa (Sat.ret (Am ?_)))
  refine Al (out := (KB n { K with fCerts := s23 } :: (bl23 ++ (out12 ++ [])))) (Ad rfl rfl) (Ae rM (Ac sG (Ac sG Ag))) ?_
  exact ⟨s23, bl23, out12, C12, by simp; omega, okC, hC12, .inr ⟨by omega, rfl, by simpa using hac23⟩⟩

theorem take_block (n : Nat) (K : Kept) (hK : K.ok) (bl : List Blk) (rs : List Block) (m : Nat) (hac : Hw.Acc K.fBlocks bl (rs.map Block.cells).flatten 79 m 131) (hm : m ≤ 100000) (p : Option Addr) (k c : Nat) (xs : List UInt8) (hl : xs.length = k) (hp : p = none → k = 0) (hk : k ≤ 90000) : Meets Tryz.prog 73 [ptr n 0, .slice p k c, .func (.func 74) #[] #[]] (n :: bl.map (·.n)) (fun W => BlkOk W (KB n K) ∧ Lies bl W ∧ SeesP W p (Ab xs) ∧ (0 < k → ∀ a, p = some a → a.block ∉ n :: bl.map (·.n)) ∧ ∀ b ∈ bl, b.n ≠ n) (fun v out => ∃ (s2 : Sl) (bl2 o : List Blk) (X : Block), v = .bool (decide ((readD xs).2 = 0)) ∧ X.ok ∧ (∀ W2, Lies o W2 → BlockIs W2 X (readD xs).1) ∧ ((¬ (readD xs).2 = 0 ∧ out = KB n K :: (bl ++ [])) ∨ ((readD xs).2 = 0 ∧ out = KB n { K with fBlocks := s2 } :: (bl2 ++ (o ++ [])) ∧ Hw.Acc s2 bl2 ((rs ++ [X]).map Block.cells).flatten 79 (m + 1) 131))) := by
 intro W hW
 refine A3 (hp0 := KB n K :: (bl ++ [])) Tryz.func73 rfl 25 Tryz.ntmps73 rfl (take_hrep hac hW.1 hW.2.1 hW.2.2.2.2) ?_
 refine Sat.seq (Sat.region ?_)
 refine Tr.a rfl rfl rfl ?_
 refine Tr.nil (Aa (Sat.seq (Sat.region ?_)))
 refine Tr.m rfl rfl rfl ?_
 refine Tr.m rfl rfl rfl ?_
 refine Tr.call4 rfl rfl rfl rfl rfl Body74 (block_read p k c xs hl hp hk) (fun w h => seesP_na0 h hW.2.2.1 hl hW.2.2.2.1) ?_
 rintro v12 out12 ⟨C12, okC, rfl, hC12⟩
 refine Tr.m rfl rfl rfl ?_
 refine Tr.eX rfl rfl rfl rfl ?_
 refine Tr.eX rfl rfl rfl rfl ?_
 refine Tr.alloc (cs := Block.zero.cells) rfl Block.zr rfl ?_
 intro n7 hn7 hf7
 refine Tr.sA rfl rfl rfl rfl (Block.isCell (by first | exact oK  | exact hK | exact okC)) Sz79 (Block.length (by first | exact oK  | exact hK | exact okC)) mM (Block.length (by first | exact oK  | exact hK | exact okC)) uU ?_
 refine Tr.a rfl rfl rfl ?_
 refine Tr.nil (Aa (Sat.seq (Sat.seq (Sat.region ?_))))
 refine Tr.m rfl rfl rfl ?_
 refine Tr.nei rfl rfl rfl rfl rfl ?_
 refine Tr.nil (Aa ?_)
 first
  | refine Sat.condP rfl (fun hc0 => ?_) (fun hc0 => ?_)
  | refine Sat.condNP rfl (fun hc0 => ?_) (fun hc0 => ?_)
  | refine Sat.cond rfl (fun hc0 => ?_) (fun hc0 => ?_)
 ·
  refine Sat.seq (Sat.region ?_)
  refine Tr.a rfl rfl rfl ?_
  refine Tr.nil (Aa (Sat.ret (Ao (Am ?_))))
  refine Al (out := (KB n K :: (bl ++ []))) (Ad rfl rfl) (Ae rM (Ac sG Ag)) ?_
  exact ⟨Sl.nil, [], out12, C12, by simp; omega, okC, hC12, .inl ⟨by omega, rfl⟩⟩
 ·
  refine Sat.skip (Aa (Sat.seq ?_))
  refine Sat.draw [(0, 0), (0, 1), (0, 2), (1, 3), (1, 4), (2, 5), (4, 6), (0, 7), (4, 8)] Bv zK ?_
  refine Tr.m rfl rfl rfl ?_
  refine Tr.m rfl rfl rfl ?_
  refine Tr.nC rfl rfl rfl ?_
  refine Tr.load1 rfl rfl rfl Y22 rfl mM (Kept.get_fBlocks hK) ?_
  refine Tr.lA rfl rfl rfl Y79 rfl Sz79 mM (Block.length (by first | exact oK  | exact hK | exact okC)) ?_
  refine Tr.mkRow2 (z := agg Block.zero.cells) [agg C12.cells] C12.cells rfl rfl Y22 Sz79 Block.zr rfl rfl (by intro v hv; rw [List.mem_singleton.1 hv]; exact Block.length okC) dE (by simp [Value.cells]) ?_
  intro q22
  refine Tr.appendAcc (z := agg Block.zero.cells) (by' := 184) (C12.cells) rfl rfl rfl rfl rfl Y22 Y22 Sz79 Zr79 (by unfold By; kernel_rfl) rfl hac sG (fun w h => SeesP.of (As h mM)) (fun e => by cases e) (Block.isCell okC) oM oM (by rw [Block.length okC]) ?_
  intro s23 bl23 hac23
  refine Tr.nC rfl rfl rfl ?_
  refine Tr.s1 rfl rfl rfl rfl rfl Sz22 mM (by rw [Kept.length hK]; decide) (Kept.setS_fBlocks hK _ _ _) uU ?_
  refine Tr.nil (Aa (Sat.seq (Sat.region ?_)))
  refine Tr.a rfl rfl rfl ?_
  refine Tr.nil (Aa (Sat.ret (Am ?_)))
  refine Al (out := (KB n { K with fBlocks := s23 } :: (bl23 ++ (out12 ++ [])))) (Ad rfl rfl) (Ae rM (Ac sG (Ac sG Ag))) ?_
  exact ⟨s23, bl23, out12, C12, by simp; omega, okC, hC12, .inr ⟨by omega, rfl, by simpa using hac23⟩⟩

end Go.Proofs.YtdifpjmfabhpiaaGreat
end

section
namespace Go.Proofs.YtdifpjmfabhpiaaGreat
open Go Hw

def dkz : DKept := ⟨[], [], [], []⟩
noncomputable def Be (D : DKept) (r : DRecord) : Option DKept :=
  if r.dKind = 1 then (if (readD r.dData).2 = 0 then some { D with dBlocks := D.dBlocks ++ [(readD r.dData).1] } else none)
  else if r.dKind = 2 then (if (Bl r.dData).2 = 0 then some { D with dCerts := D.dCerts ++ [(Bl r.dData).1] } else none)
  else if r.dKind = 3 then (if (Ay r.dData).2 = 0 then some { D with dVotes := D.dVotes ++ [(Ay r.dData).1] } else none)
  else if r.dKind = 4 then (if (Bp r.dData).2 = 0 then some { D with dCuts := D.dCuts ++ [(Bp r.dData).1] } else none)
  else none
noncomputable def keepR (ds : List DRecord) : Option DKept := ds.foldl (fun o r => o.bind fun D => Be D r) (some dkz)
noncomputable def B2 (ds : List DRecord) : DKept × Int := match keepR ds with
  | some D => if inOrd D.dCerts = true then (D, 0) else (dkz, 4)
  | none => (dkz, 4)
theorem keepR_nil : keepR [] = some dkz := rfl
theorem keepR_snoc (l : List DRecord) (d : DRecord) : keepR (l ++ [d]) = (keepR l).bind fun D => Be D d := by simp [keepR, List.foldl_append]
theorem fold_none (l : List DRecord) : l.foldl (fun o r => o.bind fun D => Be D r) none = none := by
  induction l with
  | nil => rfl
  | cons a l ih => exact ih
theorem keepR_none {ds : List DRecord} {j : Nat} (h : keepR (ds.take j) = none) : keepR ds = none := by
  have e : keepR ds = keepR (ds.take j ++ ds.drop j) := by rw [List.take_append_drop]
  rw [e, keepR, List.foldl_append]
  have h' : (ds.take j).foldl (fun o r => o.bind fun D => Be D r) (some dkz) = none := h
  rw [h', fold_none]
theorem keepR_step {ds : List DRecord} {k : Nat} {d : DRecord} (h : ds[k]? = some d) {D : DKept} (hD : keepR (ds.take k) = some D) : keepR (ds.take (k + 1)) = Be D d := by
  rw [take_snoc h, keepR_snoc, hD]; rfl
theorem keepRd_bad {ds : List DRecord} (h : keepR ds = none) : B2 ds = (dkz, 4) := by rw [B2, h]
theorem keepRd_ord {ds : List DRecord} {D : DKept} (h : keepR ds = some D) (h2 : inOrd D.dCerts = false) : B2 ds = (dkz, 4) := by simp only [B2, h, h2]; rfl
theorem keepRd_ok {ds : List DRecord} {D : DKept} (h : keepR ds = some D) (h2 : inOrd D.dCerts = true) : B2 ds = (D, 0) := by simp only [B2, h, h2]; rfl
def KeepRead (ds : List DRecord) (v : Value) (out : List Blk) : Prop := ∃ X : Kept, X.ok ∧ v = .tuple #[agg X.cells, i64 (B2 ds).2] ∧ ∀ W2, Lies out W2 → KeptIs W2 X (B2 ds).1
theorem keptz_is (W : World) : KeptIs W Kept.zero dkz := ⟨Kept.zero_ok, ⟨[], SeqIs.none⟩, ⟨[], SeqIs.none⟩, ⟨[], SeqIs.none⟩, ⟨[], SeqIs.none⟩⟩
theorem keep_bad {ds : List DRecord} {out : List Blk} (h : B2 ds = (dkz, 4)) : KeepRead ds (.tuple #[agg Kept.zero.cells, i64 4]) out :=
  ⟨Kept.zero, Kept.zero_ok, by rw [h], fun W2 _ => by rw [h]; exact keptz_is W2⟩
structure KSt where
  i : Nat
  K : Kept
  D : DKept
  m1 : Nat
  m2 : Nat
  m3 : Nat
  m4 : Nat
  b1 : List Blk
  o1 : List Blk
  r1 : List Block
  b2 : List Blk
  o2 : List Blk
  r2 : List Cert
  b3 : List Blk
  r3 : List Vote
  b4 : List Blk
  o4 : List Blk
  r4 : List Cut
structure KInv (ds : List DRecord) (p : KSt) : Prop where
  fold : keepR (ds.take p.i) = some p.D
  ok : p.K.ok
  q1 : OwnSeq Block.cells 131 BlockIs 79 p.K.fBlocks p.b1 p.o1 p.r1 p.D.dBlocks p.m1
  q2 : OwnSeq Cert.cells 35 CertIs 55 p.K.fCerts p.b2 p.o2 p.r2 p.D.dCerts p.m2
  q3 : OwnSeq Vote.cells 132 VoteIs 81 p.K.fVotes p.b3 [] p.r3 p.D.dVotes p.m3
  q4 : OwnSeq Cut.cells 34 CutIs 53 p.K.fCuts p.b4 p.o4 p.r4 p.D.dCuts p.m4
  le : p.m1 ≤ p.i ∧ p.m2 ≤ p.i ∧ p.m3 ≤ p.i ∧ p.m4 ≤ p.i
def ks0 : KSt := ⟨0, Kept.zero, dkz, 0, 0, 0, 0, [], [], [], [], [], [], [], [], [], [], []⟩
theorem KInv.first (ds : List DRecord) : KInv ds ks0 := ⟨rfl, Kept.zero_ok, OwnSeq.none, OwnSeq.none, OwnSeq.none, OwnSeq.none, ⟨Nat.le_refl _, Nat.le_refl _, Nat.le_refl _, Nat.le_refl _⟩⟩
theorem uniO {A : Prop} {n : Nat} {K K' : Kept} {bl bl2 o out : List Blk} {Q : Prop} (h : (¬ A ∧ out = KB n K :: (bl ++ [])) ∨ (A ∧ out = KB n K' :: (bl2 ++ (o ++ [])) ∧ Q)) : ∃ K2 bl3 o3, out = KB n K2 :: (bl3 ++ (o3 ++ [])) ∧ (A → K2 = K' ∧ bl3 = bl2 ∧ o3 = o ∧ Q) := by
  rcases h with ⟨h, rfl⟩ | ⟨h, rfl, q⟩
  · exact ⟨K, bl, [], by simp, fun a => absurd a h⟩
  · exact ⟨K', bl2, o, rfl, fun _ => ⟨rfl, rfl, rfl, q⟩⟩
theorem uniV {A : Prop} {n : Nat} {K K' : Kept} {bl bl2 out : List Blk} {Q : Prop} (h : (¬ A ∧ out = KB n K :: (bl ++ [])) ∨ (A ∧ out = KB n K' :: (bl2 ++ []) ∧ Q)) : ∃ K2 bl3, out = KB n K2 :: (bl3 ++ []) ∧ (A → K2 = K' ∧ bl3 = bl2 ∧ Q) := by
  rcases h with ⟨h, rfl⟩ | ⟨h, rfl, q⟩
  · exact ⟨K, bl, rfl, fun a => absurd a h⟩
  · exact ⟨K', bl2, rfl, fun _ => ⟨rfl, rfl, q⟩⟩
theorem seesP_lt {W : World} {p : Option Addr} {xs : List UInt8} (hs : SeesP W p (Ab xs)) (h : 0 < xs.length) {a : Addr} (ha : p = some a) : a.block < W.heap.size := by
  cases xs with
  | nil => simp at h
  | cons x xs =>
    obtain ⟨b, o, e, hc⟩ := hs 0 (u8 x) rfl
    rw [ha] at e
    obtain rfl : a = ⟨b, o, none⟩ := Option.some.inj e
    rcases Nat.lt_or_ge b W.heap.size with h1 | h1
    · exact h1
    · exact absurd hc (by rw [World.cell?]; simp [Array.getElem?_eq_none h1])
theorem take_pre {C : Cx} {hp R bl : List Blk} {w : World} {n : Nat} {K : Kept} {s : Sl} {xs : List UInt8} (h : HRep C hp w) (hl : C.lent = []) (hb : BytesAt C.W0 s xs) (hp' : hp.Perm ((KB n K :: bl) ++ R)) :
    BlkOk w (KB n K) ∧ Lies bl w ∧ SeesP w s.p (Ab xs) ∧ (0 < s.n → ∀ a, s.p = some a → a.block ∉ n :: bl.map (·.n)) ∧ ∀ b ∈ bl, b.n ≠ n := by
  have hK : KB n K ∈ hp := hp'.mem_iff.2 sP
  have hB : ∀ b ∈ bl, b ∈ hp := fun b hb => hp'.mem_iff.2 (by simp [hb])
  have own : ∀ b ∈ hp, C.W0.heap.size ≤ b.n := fun b hb => by
    rcases h.own b hb with h1 | h1
    · exact h1
    · rw [hl] at h1; cases h1
  have nd := ((hp'.map (·.n)).nodup_iff.1 h.nodup)
  rw [List.cons_append, List.map_cons, List.nodup_cons] at nd
  refine ⟨h.cells _ hK, Lies.of h hB, Az h hl hb.see, fun h0 a ha hm => ?_, fun b hb e => nd.1 ?_⟩
  · have h1 := seesP_lt hb.see (by rw [hb.len]; exact h0) ha
    rcases List.mem_cons.1 hm with e | hm
    · have := own _ hK
      simp only [KB] at this
      omega
    · obtain ⟨b, hb, e⟩ := List.mem_map.1 hm
      have := own b (hB b hb)
      omega
  · exact List.mem_map.2 ⟨b, List.mem_append_left _ hb, e⟩
theorem KInv.end' {ds : List DRecord} {p : KSt} (h : KInv ds p) (hi : ds.length ≤ p.i) (hs : p.i ≤ 100000) (ho : inOrd p.D.dCerts = true) {W2 : World} (l1 : Lies p.b1 W2) (l2 : Lies p.o1 W2) (l3 : Lies p.b2 W2) (l4 : Lies p.o2 W2) (l5 : Lies p.b3 W2) (l6 : Lies p.b4 W2) (l7 : Lies p.o4 W2) : KeptIs W2 p.K (B2 ds).1 := by
  have hf := h.fold
  rw [List.take_of_length_le hi] at hf
  rw [keepRd_ok hf ho]
  have := h.le
  exact ⟨h.ok, ⟨_, h.q1.seq l1 l2 oM⟩, ⟨_, h.q2.seq l3 l4 oM⟩, ⟨_, h.q3.seq l5 (fun b hb => (by cases hb)) oM⟩, ⟨_, h.q4.seq l6 l7 oM⟩⟩

def JI (ds : List DRecord) (i : Nat) (pb : Bool × KSt) : Prop := (pb.1 = true → KInv ds pb.2 ∧ pb.2.i = i + 1) ∧ (pb.1 = false → keepR ds = none)
theorem KInv.fail {ds : List DRecord} {p : KSt} {d : DRecord} (h : KInv ds p) (hd : ds[p.i]? = some d) (h1 : d.dKind = 1 → ¬ (readD d.dData).2 = 0) (h2 : d.dKind = 2 → ¬ (Bl d.dData).2 = 0) (h3 : d.dKind = 3 → ¬ (Ay d.dData).2 = 0) (h4 : d.dKind = 4 → ¬ (Bp d.dData).2 = 0) : keepR ds = none := by
  refine keepR_none (j := p.i + 1) ?_
  rw [keepR_step hd h.fold, Be]
  split
  · rename_i e; rw [if_neg (h1 e)]
  · split
    · rename_i e; rw [if_neg (h2 e)]
    · split
      · rename_i e; rw [if_neg (h3 e)]
      · split
        · rename_i e; rw [if_neg (h4 e)]
        · rfl
theorem kind_of {x y : UInt8} {n : Nat} (h : x = y) (hn : n < 256) (e : (x.toNat : Int) = n) : y = UInt8.ofNat n := by
  subst h
  refine UInt8.toNat_inj.1 ?_
  rw [UInt8.toNat_ofNat', Nat.mod_eq_of_lt oM]; omega
theorem kind_no {x y : UInt8} {n : Nat} (h : x = y) (hn : n < 256) (e : ¬ (x.toNat : Int) = n) : ¬ y = UInt8.ofNat n := fun h2 => by
  subst h
  rw [h2, UInt8.toNat_ofNat', Nat.mod_eq_of_lt oM] at e
  exact e rfl
theorem voteRd_is (xs : List UInt8) (W : World) : VoteIs W (Ay xs).1 (Ay xs).1 := ⟨(voteRd_good xs).ok, rfl, (voteRd_good xs).wf⟩
theorem KInv.skip {ds : List DRecord} {p : KSt} {d : DRecord} (h : KInv ds p) (hd : ds[p.i]? = some d) (h1 : ¬ d.dKind = 1) (h2 : ¬ d.dKind = 2) (h3 : ¬ d.dKind = 3) (h4 : ¬ d.dKind = 4) : JI ds p.i (false, p) :=
  ⟨fun e => (by cases e), fun _ => h.fail hd (fun e => absurd e h1) (fun e => absurd e h2) (fun e => absurd e h3) (fun e => absurd e h4)⟩

theorem KInv.j1 {ds : List DRecord} {p : KSt} {d : DRecord} (h : KInv ds p) (hd : ds[p.i]? = some d) (hk : d.dKind = 1) {K2 : Kept} {s2 : Sl} {b3 o3 bl2 o2 : List Blk} {X : Block} (hX : ∀ W2, Lies o2 W2 → BlockIs W2 X (readD d.dData).1) (hlen : X.cells.length = 131)
    (hg : (readD d.dData).2 = 0 → K2 = { p.K with fBlocks := s2 } ∧ b3 = bl2 ∧ o3 = o2 ∧ Hw.Acc s2 bl2 ((p.r1 ++ [X]).map Block.cells).flatten 79 (p.m1 + 1) 131) :
    JI ds p.i (decide ((readD d.dData).2 = 0), { p with i := p.i + 1, K := K2, D := { p.D with dBlocks := p.D.dBlocks ++ [(readD d.dData).1] }, m1 := p.m1 + 1, b1 := b3, o1 := o3 ++ p.o1, r1 := p.r1 ++ [X] }) := by
  refine ⟨fun e => ?_, fun e => h.fail hd (fun _ => of_decide_eq_false e) (fun e => absurd (hk.symm.trans e) dE) (fun e => absurd (hk.symm.trans e) dE) (fun e => absurd (hk.symm.trans e) dE)⟩
  have hz : (readD d.dData).2 = 0 := of_decide_eq_true e
  obtain ⟨rfl, rfl, rfl, ha⟩ := hg hz
  have hle := h.le
  have hs : OwnSeq Block.cells 131 BlockIs 79 s2 b3 (o3 ++ p.o1) (p.r1 ++ [X]) (p.D.dBlocks ++ [(readD d.dData).1]) (p.m1 + 1) := h.q1.snoc (by simpa using ha) hlen hX
  refine ⟨⟨?_, ⟨trivial⟩, hs, h.q2, h.q3, h.q4, by simp only []; omega⟩, rfl⟩
  show keepR (ds.take (p.i + 1)) = _
  rw [keepR_step hd h.fold, Be, if_pos hk, if_pos hz]
theorem KInv.j2 {ds : List DRecord} {p : KSt} {d : DRecord} (h : KInv ds p) (hd : ds[p.i]? = some d) (hk : d.dKind = 2) {K2 : Kept} {s2 : Sl} {b3 o3 bl2 o2 : List Blk} {X : Cert} (hX : ∀ W2, Lies o2 W2 → CertIs W2 X (Bl d.dData).1) (hlen : X.cells.length = 35)
    (hg : (Bl d.dData).2 = 0 → K2 = { p.K with fCerts := s2 } ∧ b3 = bl2 ∧ o3 = o2 ∧ Hw.Acc s2 bl2 ((p.r2 ++ [X]).map Cert.cells).flatten 55 (p.m2 + 1) 35) :
    JI ds p.i (decide ((Bl d.dData).2 = 0), { p with i := p.i + 1, K := K2, D := { p.D with dCerts := p.D.dCerts ++ [(Bl d.dData).1] }, m2 := p.m2 + 1, b2 := b3, o2 := o3 ++ p.o2, r2 := p.r2 ++ [X] }) := by
  refine ⟨fun e => ?_, fun e => h.fail hd (fun e => absurd (hk.symm.trans e) dE) (fun _ => of_decide_eq_false e) (fun e => absurd (hk.symm.trans e) dE) (fun e => absurd (hk.symm.trans e) dE)⟩
  have hz : (Bl d.dData).2 = 0 := of_decide_eq_true e
  obtain ⟨rfl, rfl, rfl, ha⟩ := hg hz
  have hle := h.le
  have hs : OwnSeq Cert.cells 35 CertIs 55 s2 b3 (o3 ++ p.o2) (p.r2 ++ [X]) (p.D.dCerts ++ [(Bl d.dData).1]) (p.m2 + 1) := h.q2.snoc (by simpa using ha) hlen hX
  refine ⟨⟨?_, ⟨trivial⟩, h.q1, hs, h.q3, h.q4, by simp only []; omega⟩, rfl⟩
  show keepR (ds.take (p.i + 1)) = _
  rw [keepR_step hd h.fold, Be, if_neg (by rw [hk]; decide), if_pos hk, if_pos hz]
theorem KInv.j3 {ds : List DRecord} {p : KSt} {d : DRecord} (h : KInv ds p) (hd : ds[p.i]? = some d) (hk : d.dKind = 3) {K2 : Kept} {s2 : Sl} {b3 bl2 : List Blk} {X : Vote} (hX : ∀ W2, Lies [] W2 → VoteIs W2 X (Ay d.dData).1) (hlen : X.cells.length = 132)
    (hg : (Ay d.dData).2 = 0 → K2 = { p.K with fVotes := s2 } ∧ b3 = bl2 ∧ Hw.Acc s2 bl2 ((p.r3 ++ [X]).map Vote.cells).flatten 81 (p.m3 + 1) 132) :
    JI ds p.i (decide ((Ay d.dData).2 = 0), { p with i := p.i + 1, K := K2, D := { p.D with dVotes := p.D.dVotes ++ [(Ay d.dData).1] }, m3 := p.m3 + 1, b3 := b3, r3 := p.r3 ++ [X] }) := by
  refine ⟨fun e => ?_, fun e => h.fail hd (fun e => absurd (hk.symm.trans e) dE) (fun e => absurd (hk.symm.trans e) dE) (fun _ => of_decide_eq_false e) (fun e => absurd (hk.symm.trans e) dE)⟩
  have hz : (Ay d.dData).2 = 0 := of_decide_eq_true e
  obtain ⟨rfl, rfl, ha⟩ := hg hz
  have hle := h.le
  have hs : OwnSeq Vote.cells 132 VoteIs 81 s2 b3 ([] ++ []) (p.r3 ++ [X]) (p.D.dVotes ++ [(Ay d.dData).1]) (p.m3 + 1) := h.q3.snoc (by simpa using ha) hlen hX
  refine ⟨⟨?_, ⟨trivial⟩, h.q1, h.q2, hs, h.q4, by simp only []; omega⟩, rfl⟩
  show keepR (ds.take (p.i + 1)) = _
  rw [keepR_step hd h.fold, Be, if_neg (by rw [hk]; decide), if_neg (by rw [hk]; decide), if_pos hk, if_pos hz]
theorem KInv.j4 {ds : List DRecord} {p : KSt} {d : DRecord} (h : KInv ds p) (hd : ds[p.i]? = some d) (hk : d.dKind = 4) {K2 : Kept} {s2 : Sl} {b3 o3 bl2 o2 : List Blk} {X : Cut} (hX : ∀ W2, Lies o2 W2 → CutIs W2 X (Bp d.dData).1) (hlen : X.cells.length = 34)
    (hg : (Bp d.dData).2 = 0 → K2 = { p.K with fCuts := s2 } ∧ b3 = bl2 ∧ o3 = o2 ∧ Hw.Acc s2 bl2 ((p.r4 ++ [X]).map Cut.cells).flatten 53 (p.m4 + 1) 34) :
    JI ds p.i (decide ((Bp d.dData).2 = 0), { p with i := p.i + 1, K := K2, D := { p.D with dCuts := p.D.dCuts ++ [(Bp d.dData).1] }, m4 := p.m4 + 1, b4 := b3, o4 := o3 ++ p.o4, r4 := p.r4 ++ [X] }) := by
  refine ⟨fun e => ?_, fun e => h.fail hd (fun e => absurd (hk.symm.trans e) dE) (fun e => absurd (hk.symm.trans e) dE) (fun e => absurd (hk.symm.trans e) dE) (fun _ => of_decide_eq_false e)⟩
  have hz : (Bp d.dData).2 = 0 := of_decide_eq_true e
  obtain ⟨rfl, rfl, rfl, ha⟩ := hg hz
  have hle := h.le
  have hs : OwnSeq Cut.cells 34 CutIs 53 s2 b3 (o3 ++ p.o4) (p.r4 ++ [X]) (p.D.dCuts ++ [(Bp d.dData).1]) (p.m4 + 1) := h.q4.snoc (by simpa using ha) hlen hX
  refine ⟨⟨?_, ⟨trivial⟩, h.q1, h.q2, h.q3, hs, by simp only []; omega⟩, rfl⟩
  show keepR (ds.take (p.i + 1)) = _
  rw [keepR_step hd h.fold, Be, if_neg (by rw [hk]; decide), if_neg (by rw [hk]; decide), if_neg (by rw [hk]; decide), if_pos hk, if_pos hz]

theorem keep_read (s : Sl) (ds : List DRecord) (hsn : s.n ≤ 1000) (hsm : ∀ d ∈ ds, d.dData.length ≤ 90000) : Meets Tryz.prog 13 [s.v] [] (fun W => RecordsAt W s ds) (KeepRead ds) := by
 intro W hW
 obtain ⟨rs, hs⟩ := hW
 have hnd := hs.nd
 refine Ak Tryz.func13 rfl 50 Tryz.ntmps13 rfl ?_
 refine Sat.seq (Sat.region ?_)
 refine Tr.alloc (cs := Kept.zero.cells) rfl Kept.zr rfl ?_
 intro n2 hn2 hf2
 refine Tr.a rfl rfl rfl ?_
 refine Tr.nil (Aa (Sat.seq (Sat.region ?_)))
 refine Tr.alloc (cs := Kept.zero.cells) rfl Kept.zr rfl ?_
 intro n4 hn4 hf4
 refine Tr.nil (Aa (Sat.seq (Sat.seq (Sat.region ?_))))
 refine Tr.m rfl rfl rfl ?_
 refine Tr.lenSl rfl rfl rfl Y28 ?_
 refine Tr.m rfl rfl rfl ?_
 refine Tr.nil (Aa (Sat.block ?_))
 refine Sat.loop (ι := KSt) (fun p => ⟨[(2, ptr n2 0), (4, ptr n4 0), (8, s.v), (9, i64 (s.n : Int)), (10, i64 (p.i : Int))], (⟨n2, Kept.zero.cells, 27, 4⟩ :: (KB n4 p.K :: (p.b1 ++ (p.o1 ++ (p.b2 ++ (p.o2 ++ (p.b3 ++ (p.b4 ++ (p.o4 ++ [])))))))))⟩) (fun p => KInv ds p ∧ p.i ≤ s.n) (fun p => s.n - p.i) (ks0) ?_ ?_ ?_
 · exact ⟨KInv.first ds, Nat.zero_le _⟩
 · exact Ah (wk1 rfl (wk1 rfl (wk1 rfl (wk1 rfl (wk1 rfl wk0))))) (Ae rM (Ae rM (pm_none (pm_none (pm_none (pm_none (pm_none (pm_none (pm_none Ag)))))))))
 ·
  rintro p ⟨hi, hile⟩
  obtain ⟨i, K, D, m1, m2, m3, m4, b1, o1, r1, b2, o2, r2, b3, r3, b4, o4, r4⟩ := p
  have hle := hi.le
  dsimp only at hile hle ⊢
  refine Sat.seq (Sat.region ?_)
  refine Tr.lss rfl rfl rfl rfl rfl ?_
  refine Tr.nil (Aa (Sat.seq ?_))
  first
   | refine Sat.condP rfl (fun hc0 => ?_) (fun hc0 => ?_)
   | refine Sat.condNP rfl (fun hc0 => ?_) (fun hc0 => ?_)
   | refine Sat.cond rfl (fun hc0 => ?_) (fun hc0 => ?_)
  ·
   have hk0 : i < s.n := by omega
   obtain ⟨b, o, r, d, hsp, hr, hd, his, hlen, hsee⟩ := hs.at dE hk0
   refine Sat.skip (Aa (Sat.seq (Sat.block (Sat.seq (Sat.region ?_)))))
   refine Tr.idxSlP 2 rfl rfl rfl hsp rfl Y28 Bo i rfl oM ?_
   refine Tr.loadEN r.cells rfl rfl rfl Y91 rfl Bo sP hlen hsee ?_
   refine Tr.alloc (cs := Record.zero.cells) rfl Record.zr rfl ?_
   intro n6 hn6 hf6
   refine Tr.sA rfl rfl rfl rfl (Record.isCell (by first | exact oK  | exact his.ok | exact hi.ok)) Bo (Record.length (by first | exact oK  | exact his.ok | exact hi.ok)) mM (Record.length (by first | exact oK  | exact his.ok | exact hi.ok)) uU ?_
   refine Tr.nil (Aa (Sat.seq (Sat.region ?_)))
   refine Tr.a rfl rfl rfl ?_
   refine Tr.nil (Aa ?_)
   refine Sat.join (ι := Bool × KSt) (fun pj => ⟨[(2, ptr n2 0), (4, ptr n4 0), (7, .bool pj.1), (8, s.v), (9, i64 (s.n : Int)), (10, i64 (i : Int))], (⟨n2, Kept.zero.cells, 27, 4⟩ :: (KB n4 pj.2.K :: (pj.2.b1 ++ (pj.2.o1 ++ (pj.2.b2 ++ (pj.2.o2 ++ (pj.2.b3 ++ (pj.2.b4 ++ (pj.2.o4 ++ [])))))))))⟩) (fun pj => JI ds i pj) ?_ ?_
   ·
    refine Sat.seq (Sat.region ?_)
    refine Tr.fld rfl rfl rfl Y91 rfl Sz5 dE _ rfl ?_
    refine Tr.load1 rfl rfl rfl Y5 rfl mM (by first | exact Record.get_fKind (by first | exact oK  | exact his.ok | exact hi.ok) | exact vL) ?_
    refine Tr.nil (Aa (Sat.block (Sat.seq (Sat.region ?_))))
    refine Tr.eqi rfl rfl rfl rfl rfl ?_
    refine Tr.a rfl rfl rfl ?_
    refine Tr.nil (Aa ?_)
    first
     | refine Sat.condP rfl (fun hc1 => ?_) (fun hc1 => ?_)
     | refine Sat.condNP rfl (fun hc1 => ?_) (fun hc1 => ?_)
     | refine Sat.cond rfl (fun hc1 => ?_) (fun hc1 => ?_)
    ·
     have hk1 : d.dKind = 1 := kind_of (n := 1) his.fKind dE hc1
     refine Sat.region ?_
     refine Tr.fld rfl rfl rfl Y27 rfl Sz22 dE _ rfl ?_
     refine Tr.fld rfl rfl rfl Y91 rfl Sz58 dE _ rfl ?_
     refine Tr.load1 rfl rfl rfl Y58 rfl mM (by first | exact Record.get_fData (by first | exact oK  | exact his.ok | exact hi.ok) | exact vL) ?_
     refine Tr.callL (L := KB n4 K :: b1) rfl rfl rfl rfl rfl Body73 (take_block n4 K hi.ok b1 r1 m1 hi.q1.acc oM r.fData.p r.fData.n r.fData.c d.dData his.fData.len (fun e => by have := his.fData.nil e; have := his.fData.cap; omega) (by rw [← his.fData.len]; exact hsm d (List.mem_of_getElem? hd))) (Ae rM sG) (A4 rfl) (fun w h => take_pre h rfl his.fData (Ae rM sG)) ?_
     rintro v21 out21 ⟨s21, bl21, o21, X21, rfl, okX, hX, hor⟩
     obtain ⟨K21, b21, p21, rfl, hgd⟩ := uniO hor
     simp only [List.cons_append, List.append_assoc, List.nil_append]
     refine Tr.a rfl rfl rfl ?_
     refine Tr.nil (Bx (Aa ?_))
     first
      | exact ⟨(decide ((readD d.dData).2 = 0), ⟨i + 1, K21, { D with dBlocks := D.dBlocks ++ [(readD d.dData).1] }, m1 + 1, m2, m3, m4, b21, p21 ++ o1, r1 ++ [X21], b2, o2, r2, b3, r3, b4, o4, r4⟩), hi.j1 hd hk1 hX (Block.length okX) hgd, Ah (wk1 rfl (wk1 rfl (wk1 rfl (wk1 rfl (wk1 rfl (wk1 rfl wk0)))))) (Ae rM (Ae rM (Ac sG (pm_two (Ac sG (Ac sG (Ac sG (Ac sG (Ac sG (Ac sG (Ac sG Ag)))))))))))⟩
      | exact ⟨(decide ((Bl d.dData).2 = 0), ⟨i + 1, K27, { D with dCerts := D.dCerts ++ [(Bl d.dData).1] }, m1, m2 + 1, m3, m4, b1, o1, r1, b27, p27 ++ o2, r2 ++ [X27], b3, r3, b4, o4, r4⟩), hi.j2 hd hk2 hX (Cert.length okX) hgd, Ah (wk1 rfl (wk1 rfl (wk1 rfl (wk1 rfl (wk1 rfl (wk1 rfl wk0)))))) (Ae rM (Ae rM (Ac sG (Ac sG (Ac sG (pm_two (Ac sG (Ac sG (Ac sG (Ac sG (Ac sG Ag)))))))))))⟩
      | exact ⟨(decide ((Ay d.dData).2 = 0), ⟨i + 1, K33, { D with dVotes := D.dVotes ++ [(Ay d.dData).1] }, m1, m2, m3 + 1, m4, b1, o1, r1, b2, o2, r2, b33, r3 ++ [(Ay d.dData).1], b4, o4, r4⟩), hi.j3 hd hk3 (fun W2 _ => voteRd_is _ W2) (Vote.length (Bd _)) hgd, Ah (wk1 rfl (wk1 rfl (wk1 rfl (wk1 rfl (wk1 rfl (wk1 rfl wk0)))))) (Ae rM (Ae rM (Ac sG (Ac sG (Ac sG (Ac sG (Ac sG (Ac sG (Ac sG Ag)))))))))⟩
      | exact ⟨(decide ((Bp d.dData).2 = 0), ⟨i + 1, K39, { D with dCuts := D.dCuts ++ [(Bp d.dData).1] }, m1, m2, m3, m4 + 1, b1, o1, r1, b2, o2, r2, b3, r3, b39, p39 ++ o4, r4 ++ [X39]⟩), hi.j4 hd hk4 hX (Cut.length okX) hgd, Ah (wk1 rfl (wk1 rfl (wk1 rfl (wk1 rfl (wk1 rfl (wk1 rfl wk0)))))) (Ae rM (Ae rM (Ac sG (Ac sG (Ac sG (Ac sG (Ac sG (Ac sG (pm_two (Ac sG (Ac sG Ag)))))))))))⟩
      | exact ⟨(false, ⟨i, K, D, m1, m2, m3, m4, b1, o1, r1, b2, o2, r2, b3, r3, b4, o4, r4⟩), hi.skip hd hn1 hn2 hn3 hn4, Ah (wk1 rfl (wk1 rfl (wk1 rfl (wk1 rfl (wk1 rfl (wk1 rfl wk0)))))) (Ae rM (Ae rM (Ac sG (Ac sG (Ac sG (Ac sG (Ac sG (Ac sG (Ac sG Ag)))))))))⟩
    ·
     have hn1 : ¬ d.dKind = 1 := kind_no (n := 1) his.fKind dE hc1
     refine Sat.seq (Sat.region ?_)
     refine Tr.eqi rfl rfl rfl rfl rfl ?_
     refine Tr.a rfl rfl rfl ?_
     refine Tr.nil (Aa ?_)
     first
      | refine Sat.condP rfl (fun hc2 => ?_) (fun hc2 => ?_)
      | refine Sat.condNP rfl (fun hc2 => ?_) (fun hc2 => ?_)
      | refine Sat.cond rfl (fun hc2 => ?_) (fun hc2 => ?_)
     ·
      have hk2 : d.dKind = 2 := kind_of (n := 2) his.fKind dE hc2
      refine Sat.region ?_
      refine Tr.fld rfl rfl rfl Y27 rfl Sz23 dE _ rfl ?_
      refine Tr.fld rfl rfl rfl Y91 rfl Sz58 dE _ rfl ?_
      refine Tr.load1 rfl rfl rfl Y58 rfl mM (by first | exact Record.get_fData (by first | exact oK  | exact his.ok | exact hi.ok) | exact vL) ?_
      refine Tr.callL (L := KB n4 K :: b2) rfl rfl rfl rfl rfl Body75 (take_cert n4 K hi.ok b2 r2 m2 hi.q2.acc oM r.fData.p r.fData.n r.fData.c d.dData his.fData.len (fun e => by have := his.fData.nil e; have := his.fData.cap; omega) (by rw [← his.fData.len]; exact hsm d (List.mem_of_getElem? hd))) (Ae rM sG) (A4 rfl) (fun w h => take_pre h rfl his.fData (Ae rM sG)) ?_
      rintro v27 out27 ⟨s27, bl27, o27, X27, rfl, okX, hX, hor⟩
      obtain ⟨K27, b27, p27, rfl, hgd⟩ := uniO hor
      simp only [List.cons_append, List.append_assoc, List.nil_append]
      refine Tr.a rfl rfl rfl ?_
      refine Tr.nil (Bx (Aa ?_))
      first
       | exact ⟨(decide ((readD d.dData).2 = 0), ⟨i + 1, K21, { D with dBlocks := D.dBlocks ++ [(readD d.dData).1] }, m1 + 1, m2, m3, m4, b21, p21 ++ o1, r1 ++ [X21], b2, o2, r2, b3, r3, b4, o4, r4⟩), hi.j1 hd hk1 hX (Block.length okX) hgd, Ah (wk1 rfl (wk1 rfl (wk1 rfl (wk1 rfl (wk1 rfl (wk1 rfl wk0)))))) (Ae rM (Ae rM (Ac sG (pm_two (Ac sG (Ac sG (Ac sG (Ac sG (Ac sG (Ac sG (Ac sG Ag)))))))))))⟩
       | exact ⟨(decide ((Bl d.dData).2 = 0), ⟨i + 1, K27, { D with dCerts := D.dCerts ++ [(Bl d.dData).1] }, m1, m2 + 1, m3, m4, b1, o1, r1, b27, p27 ++ o2, r2 ++ [X27], b3, r3, b4, o4, r4⟩), hi.j2 hd hk2 hX (Cert.length okX) hgd, Ah (wk1 rfl (wk1 rfl (wk1 rfl (wk1 rfl (wk1 rfl (wk1 rfl wk0)))))) (Ae rM (Ae rM (Ac sG (Ac sG (Ac sG (pm_two (Ac sG (Ac sG (Ac sG (Ac sG (Ac sG Ag)))))))))))⟩
       | exact ⟨(decide ((Ay d.dData).2 = 0), ⟨i + 1, K33, { D with dVotes := D.dVotes ++ [(Ay d.dData).1] }, m1, m2, m3 + 1, m4, b1, o1, r1, b2, o2, r2, b33, r3 ++ [(Ay d.dData).1], b4, o4, r4⟩), hi.j3 hd hk3 (fun W2 _ => voteRd_is _ W2) (Vote.length (Bd _)) hgd, Ah (wk1 rfl (wk1 rfl (wk1 rfl (wk1 rfl (wk1 rfl (wk1 rfl wk0)))))) (Ae rM (Ae rM (Ac sG (Ac sG (Ac sG (Ac sG (Ac sG (Ac sG (Ac sG Ag)))))))))⟩
       | exact ⟨(decide ((Bp d.dData).2 = 0), ⟨i + 1, K39, { D with dCuts := D.dCuts ++ [(Bp d.dData).1] }, m1, m2, m3, m4 + 1, b1, o1, r1, b2, o2, r2, b3, r3, b39, p39 ++ o4, r4 ++ [X39]⟩), hi.j4 hd hk4 hX (Cut.length okX) hgd, Ah (wk1 rfl (wk1 rfl (wk1 rfl (wk1 rfl (wk1 rfl (wk1 rfl wk0)))))) (Ae rM (Ae rM (Ac sG (Ac sG (Ac sG (Ac sG (Ac sG (Ac sG (pm_two (Ac sG (Ac sG Ag)))))))))))⟩
       | exact ⟨(false, ⟨i, K, D, m1, m2, m3, m4, b1, o1, r1, b2, o2, r2, b3, r3, b4, o4, r4⟩), hi.skip hd hn1 hn2 hn3 hn4, Ah (wk1 rfl (wk1 rfl (wk1 rfl (wk1 rfl (wk1 rfl (wk1 rfl wk0)))))) (Ae rM (Ae rM (Ac sG (Ac sG (Ac sG (Ac sG (Ac sG (Ac sG (Ac sG Ag)))))))))⟩
     ·
      have hn2 : ¬ d.dKind = 2 := kind_no (n := 2) his.fKind dE hc2
      refine Sat.seq (Sat.region ?_)
      refine Tr.eqi rfl rfl rfl rfl rfl ?_
      refine Tr.a rfl rfl rfl ?_
      refine Tr.nil (Aa ?_)
      first
       | refine Sat.condP rfl (fun hc3 => ?_) (fun hc3 => ?_)
       | refine Sat.condNP rfl (fun hc3 => ?_) (fun hc3 => ?_)
       | refine Sat.cond rfl (fun hc3 => ?_) (fun hc3 => ?_)
      ·
       have hk3 : d.dKind = 3 := kind_of (n := 3) his.fKind dE hc3
       refine Sat.region ?_
       refine Tr.fld rfl rfl rfl Y27 rfl Sz24 dE _ rfl ?_
       refine Tr.fld rfl rfl rfl Y91 rfl Sz58 dE _ rfl ?_
       refine Tr.load1 rfl rfl rfl Y58 rfl mM (by first | exact Record.get_fData (by first | exact oK  | exact his.ok | exact hi.ok) | exact vL) ?_
       refine Tr.callL (L := KB n4 K :: b3) rfl rfl rfl rfl rfl Body76 (take_vote n4 K hi.ok b3 r3 m3 hi.q3.acc oM r.fData.p r.fData.n r.fData.c d.dData his.fData.len (fun e => by have := his.fData.nil e; have := his.fData.cap; omega) (by rw [← his.fData.len]; exact hsm d (List.mem_of_getElem? hd))) (Ae rM sG) (A4 rfl) (fun w h => take_pre h rfl his.fData (Ae rM sG)) ?_
       rintro v33 out33 ⟨s33, bl33, rfl, hor⟩
       obtain ⟨K33, b33, rfl, hgd⟩ := uniV hor
       simp only [List.cons_append, List.append_assoc, List.nil_append]
       refine Tr.a rfl rfl rfl ?_
       refine Tr.nil (Bx (Aa ?_))
       first
        | exact ⟨(decide ((readD d.dData).2 = 0), ⟨i + 1, K21, { D with dBlocks := D.dBlocks ++ [(readD d.dData).1] }, m1 + 1, m2, m3, m4, b21, p21 ++ o1, r1 ++ [X21], b2, o2, r2, b3, r3, b4, o4, r4⟩), hi.j1 hd hk1 hX (Block.length okX) hgd, Ah (wk1 rfl (wk1 rfl (wk1 rfl (wk1 rfl (wk1 rfl (wk1 rfl wk0)))))) (Ae rM (Ae rM (Ac sG (pm_two (Ac sG (Ac sG (Ac sG (Ac sG (Ac sG (Ac sG (Ac sG Ag)))))))))))⟩
        | exact ⟨(decide ((Bl d.dData).2 = 0), ⟨i + 1, K27, { D with dCerts := D.dCerts ++ [(Bl d.dData).1] }, m1, m2 + 1, m3, m4, b1, o1, r1, b27, p27 ++ o2, r2 ++ [X27], b3, r3, b4, o4, r4⟩), hi.j2 hd hk2 hX (Cert.length okX) hgd, Ah (wk1 rfl (wk1 rfl (wk1 rfl (wk1 rfl (wk1 rfl (wk1 rfl wk0)))))) (Ae rM (Ae rM (Ac sG (Ac sG (Ac sG (pm_two (Ac sG (Ac sG (Ac sG (Ac sG (Ac sG Ag)))))))))))⟩
        | exact ⟨(decide ((Ay d.dData).2 = 0), ⟨i + 1, K33, { D with dVotes := D.dVotes ++ [(Ay d.dData).1] }, m1, m2, m3 + 1, m4, b1, o1, r1, b2, o2, r2, b33, r3 ++ [(Ay d.dData).1], b4, o4, r4⟩), hi.j3 hd hk3 (fun W2 _ => voteRd_is _ W2) (Vote.length (Bd _)) hgd, Ah (wk1 rfl (wk1 rfl (wk1 rfl (wk1 rfl (wk1 rfl (wk1 rfl wk0)))))) (Ae rM (Ae rM (Ac sG (Ac sG (Ac sG (Ac sG (Ac sG (Ac sG (Ac sG Ag)))))))))⟩
        | exact ⟨(decide ((Bp d.dData).2 = 0), ⟨i + 1, K39, { D with dCuts := D.dCuts ++ [(Bp d.dData).1] }, m1, m2, m3, m4 + 1, b1, o1, r1, b2, o2, r2, b3, r3, b39, p39 ++ o4, r4 ++ [X39]⟩), hi.j4 hd hk4 hX (Cut.length okX) hgd, Ah (wk1 rfl (wk1 rfl (wk1 rfl (wk1 rfl (wk1 rfl (wk1 rfl wk0)))))) (Ae rM (Ae rM (Ac sG (Ac sG (Ac sG (Ac sG (Ac sG (Ac sG (pm_two (Ac sG (Ac sG Ag)))))))))))⟩
        | exact ⟨(false, ⟨i, K, D, m1, m2, m3, m4, b1, o1, r1, b2, o2, r2, b3, r3, b4, o4, r4⟩), hi.skip hd hn1 hn2 hn3 hn4, Ah (wk1 rfl (wk1 rfl (wk1 rfl (wk1 rfl (wk1 rfl (wk1 rfl wk0)))))) (Ae rM (Ae rM (Ac sG (Ac sG (Ac sG (Ac sG (Ac sG (Ac sG (Ac sG Ag)))))))))⟩
      ·
       have hn3 : ¬ d.dKind = 3 := kind_no (n := 3) his.fKind dE hc3
       refine Sat.seq (Sat.region ?_)
       refine Tr.eqi rfl rfl rfl rfl rfl ?_
       refine Tr.a rfl rfl rfl ?_
       refine Tr.nil (Aa ?_)
       first
        | refine Sat.condP rfl (fun hc4 => ?_) (fun hc4 => ?_)
        | refine Sat.condNP rfl (fun hc4 => ?_) (fun hc4 => ?_)
        | refine Sat.cond rfl (fun hc4 => ?_) (fun hc4 => ?_)
       ·
        have hk4 : d.dKind = 4 := kind_of (n := 4) his.fKind dE hc4
        refine Sat.region ?_
        refine Tr.fld rfl rfl rfl Y27 rfl Sz25 dE _ rfl ?_
        refine Tr.fld rfl rfl rfl Y91 rfl Sz58 dE _ rfl ?_
        refine Tr.load1 rfl rfl rfl Y58 rfl mM (by first | exact Record.get_fData (by first | exact oK  | exact his.ok | exact hi.ok) | exact vL) ?_
        refine Tr.callL (L := KB n4 K :: b4) rfl rfl rfl rfl rfl Body78 (take_cut n4 K hi.ok b4 r4 m4 hi.q4.acc oM r.fData.p r.fData.n r.fData.c d.dData his.fData.len (fun e => by have := his.fData.nil e; have := his.fData.cap; omega) (by rw [← his.fData.len]; exact hsm d (List.mem_of_getElem? hd))) (Ae rM sG) (A4 rfl) (fun w h => take_pre h rfl his.fData (Ae rM sG)) ?_
        rintro v39 out39 ⟨s39, bl39, o39, X39, rfl, okX, hX, hor⟩
        obtain ⟨K39, b39, p39, rfl, hgd⟩ := uniO hor
        simp only [List.cons_append, List.append_assoc, List.nil_append]
        refine Tr.a rfl rfl rfl ?_
        refine Tr.nil (Bx (Aa ?_))
        first
         | exact ⟨(decide ((readD d.dData).2 = 0), ⟨i + 1, K21, { D with dBlocks := D.dBlocks ++ [(readD d.dData).1] }, m1 + 1, m2, m3, m4, b21, p21 ++ o1, r1 ++ [X21], b2, o2, r2, b3, r3, b4, o4, r4⟩), hi.j1 hd hk1 hX (Block.length okX) hgd, Ah (wk1 rfl (wk1 rfl (wk1 rfl (wk1 rfl (wk1 rfl (wk1 rfl wk0)))))) (Ae rM (Ae rM (Ac sG (pm_two (Ac sG (Ac sG (Ac sG (Ac sG (Ac sG (Ac sG (Ac sG Ag)))))))))))⟩
         | exact ⟨(decide ((Bl d.dData).2 = 0), ⟨i + 1, K27, { D with dCerts := D.dCerts ++ [(Bl d.dData).1] }, m1, m2 + 1, m3, m4, b1, o1, r1, b27, p27 ++ o2, r2 ++ [X27], b3, r3, b4, o4, r4⟩), hi.j2 hd hk2 hX (Cert.length okX) hgd, Ah (wk1 rfl (wk1 rfl (wk1 rfl (wk1 rfl (wk1 rfl (wk1 rfl wk0)))))) (Ae rM (Ae rM (Ac sG (Ac sG (Ac sG (pm_two (Ac sG (Ac sG (Ac sG (Ac sG (Ac sG Ag)))))))))))⟩
         | exact ⟨(decide ((Ay d.dData).2 = 0), ⟨i + 1, K33, { D with dVotes := D.dVotes ++ [(Ay d.dData).1] }, m1, m2, m3 + 1, m4, b1, o1, r1, b2, o2, r2, b33, r3 ++ [(Ay d.dData).1], b4, o4, r4⟩), hi.j3 hd hk3 (fun W2 _ => voteRd_is _ W2) (Vote.length (Bd _)) hgd, Ah (wk1 rfl (wk1 rfl (wk1 rfl (wk1 rfl (wk1 rfl (wk1 rfl wk0)))))) (Ae rM (Ae rM (Ac sG (Ac sG (Ac sG (Ac sG (Ac sG (Ac sG (Ac sG Ag)))))))))⟩
         | exact ⟨(decide ((Bp d.dData).2 = 0), ⟨i + 1, K39, { D with dCuts := D.dCuts ++ [(Bp d.dData).1] }, m1, m2, m3, m4 + 1, b1, o1, r1, b2, o2, r2, b3, r3, b39, p39 ++ o4, r4 ++ [X39]⟩), hi.j4 hd hk4 hX (Cut.length okX) hgd, Ah (wk1 rfl (wk1 rfl (wk1 rfl (wk1 rfl (wk1 rfl (wk1 rfl wk0)))))) (Ae rM (Ae rM (Ac sG (Ac sG (Ac sG (Ac sG (Ac sG (Ac sG (pm_two (Ac sG (Ac sG Ag)))))))))))⟩
         | exact ⟨(false, ⟨i, K, D, m1, m2, m3, m4, b1, o1, r1, b2, o2, r2, b3, r3, b4, o4, r4⟩), hi.skip hd hn1 hn2 hn3 hn4, Ah (wk1 rfl (wk1 rfl (wk1 rfl (wk1 rfl (wk1 rfl (wk1 rfl wk0)))))) (Ae rM (Ae rM (Ac sG (Ac sG (Ac sG (Ac sG (Ac sG (Ac sG (Ac sG Ag)))))))))⟩
       ·
        have hn4 : ¬ d.dKind = 4 := kind_no (n := 4) his.fKind dE hc4
        refine Sat.skip (Bx (Aa ?_))
        first
         | exact ⟨(decide ((readD d.dData).2 = 0), ⟨i + 1, K21, { D with dBlocks := D.dBlocks ++ [(readD d.dData).1] }, m1 + 1, m2, m3, m4, b21, p21 ++ o1, r1 ++ [X21], b2, o2, r2, b3, r3, b4, o4, r4⟩), hi.j1 hd hk1 hX (Block.length okX) hgd, Ah (wk1 rfl (wk1 rfl (wk1 rfl (wk1 rfl (wk1 rfl (wk1 rfl wk0)))))) (Ae rM (Ae rM (Ac sG (pm_two (Ac sG (Ac sG (Ac sG (Ac sG (Ac sG (Ac sG (Ac sG Ag)))))))))))⟩
         | exact ⟨(decide ((Bl d.dData).2 = 0), ⟨i + 1, K27, { D with dCerts := D.dCerts ++ [(Bl d.dData).1] }, m1, m2 + 1, m3, m4, b1, o1, r1, b27, p27 ++ o2, r2 ++ [X27], b3, r3, b4, o4, r4⟩), hi.j2 hd hk2 hX (Cert.length okX) hgd, Ah (wk1 rfl (wk1 rfl (wk1 rfl (wk1 rfl (wk1 rfl (wk1 rfl wk0)))))) (Ae rM (Ae rM (Ac sG (Ac sG (Ac sG (pm_two (Ac sG (Ac sG (Ac sG (Ac sG (Ac sG Ag)))))))))))⟩
         | exact ⟨(decide ((Ay d.dData).2 = 0), ⟨i + 1, K33, { D with dVotes := D.dVotes ++ [(Ay d.dData).1] }, m1, m2, m3 + 1, m4, b1, o1, r1, b2, o2, r2, b33, r3 ++ [(Ay d.dData).1], b4, o4, r4⟩), hi.j3 hd hk3 (fun W2 _ => voteRd_is _ W2) (Vote.length (Bd _)) hgd, Ah (wk1 rfl (wk1 rfl (wk1 rfl (wk1 rfl (wk1 rfl (wk1 rfl wk0)))))) (Ae rM (Ae rM (Ac sG (Ac sG (Ac sG (Ac sG (Ac sG (Ac sG (Ac sG Ag)))))))))⟩
         | exact ⟨(decide ((Bp d.dData).2 = 0), ⟨i + 1, K39, { D with dCuts := D.dCuts ++ [(Bp d.dData).1] }, m1, m2, m3, m4 + 1, b1, o1, r1, b2, o2, r2, b3, r3, b39, p39 ++ o4, r4 ++ [X39]⟩), hi.j4 hd hk4 hX (Cut.length okX) hgd, Ah (wk1 rfl (wk1 rfl (wk1 rfl (wk1 rfl (wk1 rfl (wk1 rfl wk0)))))) (Ae rM (Ae rM (Ac sG (Ac sG (Ac sG (Ac sG (Ac sG (Ac sG (pm_two (Ac sG (Ac sG Ag)))))))))))⟩
         | exact ⟨(false, ⟨i, K, D, m1, m2, m3, m4, b1, o1, r1, b2, o2, r2, b3, r3, b4, o4, r4⟩), hi.skip hd hn1 hn2 hn3 hn4, Ah (wk1 rfl (wk1 rfl (wk1 rfl (wk1 rfl (wk1 rfl (wk1 rfl wk0)))))) (Ae rM (Ae rM (Ac sG (Ac sG (Ac sG (Ac sG (Ac sG (Ac sG (Ac sG Ag)))))))))⟩
   ·
    intro pj hj
    skip
    refine Sat.seq (Sat.region ?_)
    refine Tr.m rfl rfl rfl ?_
    refine Tr.not rfl rfl rfl ?_
    refine Tr.nil (Aa ?_)
    refine Sat.cond rfl (fun hc5 => ?_) (fun hc5 => ?_)
    ·
     have hnone := hj.2 (by simpa using hc5)
     refine Sat.seq (Sat.region ?_)
     refine Tr.build (cs := Kept.zero.cells) rfl rfl rfl (fun w => by kernel_rfl) ?_
     refine Tr.sA rfl rfl rfl rfl (Kept.isCell (by first | exact oK  | exact his.ok | exact hi.ok)) Sz27 (Kept.length (by first | exact oK  | exact his.ok | exact hi.ok)) mM (Kept.length (by first | exact oK  | exact his.ok | exact hi.ok)) uU ?_
     refine Tr.a rfl rfl rfl ?_
     refine Tr.nil (Aa (Sat.ret (Bw (Ao (Ao (Bw (Ao (Am ?_))))))))
     refine Al (out := []) (Aq rfl rfl rfl Y27 rfl Sz27 mM (by first | (simp; done) | exact Kept.length (by first | exact oK  | exact his.ok | exact hi.ok))) Ag ?_
     exact keep_bad (keepRd_bad hnone)
    ·
     have hj2 := hj.1 (by simpa using hc5)
     refine Sat.skip (Bx (Aa (Sat.region ?_)))
     refine Tr.aI rfl rfl rfl rfl oM ?_
     refine Tr.m rfl rfl rfl ?_
     refine Tr.nil (Aa ?_)
     exact ⟨pj.2, ⟨hj2.1, by omega⟩, by omega, Ah (wk1 rfl (wk1 rfl (wk1 rfl (wk1 rfl (wk1 (congrArg (fun z : Nat => some (i64 (z : Int))) hj2.2.symm) wk0))))) (Ae rM (Ae rM (Ac sG (Ac sG (Ac sG (Ac sG (Ac sG (Ac sG (Ac sG Ag)))))))))⟩
  ·
   have hie : i = s.n := by omega
   refine Sat.exit (Bc (Bc (bl_h (Aa (Sat.seq (Sat.seq (Sat.region ?_)))))))
   refine Tr.fld rfl rfl rfl Y27 rfl Sz23 dE _ rfl ?_
   refine Tr.load1 rfl rfl rfl Y23 rfl mM (by first | exact Kept.get_fCerts (by first | exact oK  | exact his.ok | exact hi.ok) | exact vL) ?_
   refine Tr.cV rfl rfl rfl rfl Body80 (in_order K.fCerts D.dCerts) (fun w h => ⟨_, hi.q2.seq (Lies.of h iN) (Lies.of h iN) (by dsimp only; omega)⟩) ?_
   refine Tr.not rfl rfl rfl ?_
   refine Tr.nil (Aa ?_)
   refine Sat.cond rfl (fun hc6 => ?_) (fun hc6 => ?_)
   ·
    have ho : inOrd D.dCerts = false := by simpa using hc6
    have hf := hi.fold
    dsimp only at hf
    rw [List.take_of_length_le oM] at hf
    refine Sat.seq (Sat.region ?_)
    refine Tr.build (cs := Kept.zero.cells) rfl rfl rfl (fun w => by kernel_rfl) ?_
    refine Tr.sA rfl rfl rfl rfl (Kept.isCell (by first | exact oK  | exact his.ok | exact hi.ok)) Sz27 (Kept.length (by first | exact oK  | exact his.ok | exact hi.ok)) mM (Kept.length (by first | exact oK  | exact his.ok | exact hi.ok)) uU ?_
    refine Tr.a rfl rfl rfl ?_
    refine Tr.nil (Aa (Sat.ret (Ao (Am ?_))))
    refine Al (out := []) (Aq rfl rfl rfl Y27 rfl Sz27 mM (by first | (simp; done) | exact Kept.length (by first | exact oK  | exact his.ok | exact hi.ok))) Ag ?_
    exact keep_bad (keepRd_ord hf ho)
   ·
    have ho : inOrd D.dCerts = true := by simpa using hc6
    refine Sat.skip (Aa (Sat.seq (Sat.region ?_)))
    refine Tr.lA rfl rfl rfl Y27 rfl Sz27 mM (Kept.length (by first | exact oK  | exact his.ok | exact hi.ok)) ?_
    refine Tr.sA rfl rfl rfl rfl (Kept.isCell (by first | exact oK  | exact his.ok | exact hi.ok)) Sz27 (Kept.length (by first | exact oK  | exact his.ok | exact hi.ok)) mM (Kept.length (by first | exact oK  | exact his.ok | exact hi.ok)) uU ?_
    refine Tr.a rfl rfl rfl ?_
    refine Tr.nil (Aa (Sat.ret (Am ?_)))
    refine Al (out := (b1 ++ (o1 ++ (b2 ++ (o2 ++ (b3 ++ (b4 ++ (o4 ++ [])))))))) (Aq rfl rfl rfl Y27 rfl Sz27 mM (by first | (simp; done) | exact Kept.length (by first | exact oK  | exact his.ok | exact hi.ok))) (Ac sG (Ac sG (Ac sG (Ac sG (Ac sG (Ac sG (Ac sG Ag))))))) ?_
    refine ⟨K, hi.ok, ?_, fun W2 hl => hi.end' (by simp only []; omega) (by simp only []; omega) ho (hl.sub iN) (hl.sub iN) (hl.sub iN) (hl.sub iN) (hl.sub iN) (hl.sub iN) (hl.sub iN)⟩
    have hf := hi.fold
    dsimp only at hf
    rw [List.take_of_length_le oM] at hf
    rw [keepRd_ok hf ho]

end Go.Proofs.YtdifpjmfabhpiaaGreat
end

section
namespace Go.Proofs.YtdifpjmfabhpiaaGreat
open Go Hw

def sameC (a b : DCut) : Bool := decide ((a.dHeight.toNat : Int) = (b.dHeight.toNat : Int)) && (decide (a.dPrev = b.dPrev) && decide (a.dHeads = b.dHeads))

theorem kit_cut (A B : Cut) (a b : DCut) (hn : A.fHeads.n ≤ 1000000) : Meets Tryz.prog 90 [agg A.cells, agg B.cells] [] (fun W => CutIs W A a ∧ CutIs W B b) (fun v out => v = .bool (sameC a b) ∧ out = []) := by
 intro W hW
 have hA := hW.1.ok
 have hB := hW.2.ok
 have e1 := hW.1.fHeight
 have e2 := hW.2.fHeight
 have e3 := hW.1.fPrev
 have e4 := hW.2.fPrev
 refine Ak Tryz.func90 rfl 24 Tryz.ntmps90 rfl ?_
 refine Sat.seq (Sat.region ?_)
 refine Tr.boxA rfl rfl ?_
 intro n2 hn2 hf2
 refine Tr.boxA rfl rfl ?_
 intro n3 hn3 hf3
 refine Tr.a rfl rfl rfl ?_
 refine Tr.nil (Aa (Sat.seq (Sat.region ?_)))
 refine Tr.fld rfl rfl rfl Y53 rfl B7 dE _ rfl ?_
 refine Tr.load1 rfl rfl rfl Y48 rfl mM (by first | exact Cut.get_fHeight (by first | (simp [hA.l_fPrev, hB.l_fPrev]; done) | exact oK  | exact hA | exact hB) | exact (by first | rfl | exact Ar (by first | omega | (simp [hA.l_fPrev, hB.l_fPrev]; done) | (simp [hA.l_fPrev, hB.l_fPrev]; omega)) | exact A0 (by first | omega | (simp [hA.l_fPrev, hB.l_fPrev]; done) | (simp [hA.l_fPrev, hB.l_fPrev]; omega)) | exact Bk (by first | omega | (simp [hA.l_fPrev, hB.l_fPrev]; done) | (simp [hA.l_fPrev, hB.l_fPrev]; omega)))) ?_
 refine Tr.fld rfl rfl rfl Y53 rfl B7 dE _ rfl ?_
 refine Tr.load1 rfl rfl rfl Y48 rfl mM (by first | exact Cut.get_fHeight (by first | (simp [hA.l_fPrev, hB.l_fPrev]; done) | exact oK  | exact hA | exact hB) | exact (by first | rfl | exact Ar (by first | omega | (simp [hA.l_fPrev, hB.l_fPrev]; done) | (simp [hA.l_fPrev, hB.l_fPrev]; omega)) | exact A0 (by first | omega | (simp [hA.l_fPrev, hB.l_fPrev]; done) | (simp [hA.l_fPrev, hB.l_fPrev]; omega)) | exact Bk (by first | omega | (simp [hA.l_fPrev, hB.l_fPrev]; done) | (simp [hA.l_fPrev, hB.l_fPrev]; omega)))) ?_
 refine two (fun r hr k => Tr.eqi rfl rfl rfl rfl hr k) (fun hs1_40 => ?_) (fun hs1_40 => ?_)
 ·
  first | have hs1_4 := of_decide_eq_true hs1_40 | have hs1_4 := of_decide_eq_false hs1_40 | have hs1_4 := Bs hs1_40 | have hs1_4 := Bt hs1_40 | have hs1_4 := hs1_40
  refine Tr.m rfl rfl rfl ?_
  refine Tr.fld rfl rfl rfl Y53 rfl Bf dE _ rfl ?_
  first
   | refine Tr.lN (Ab _) rfl rfl rfl Y50 rfl Bf mM (Cut.row_fPrev (by first | (simp [hA.l_fPrev, hB.l_fPrev]; done) | exact oK  | exact hA | exact hB)) (Cut.rl_fPrev (by first | (simp [hA.l_fPrev, hB.l_fPrev]; done) | exact oK  | exact hA | exact hB)) ?_
  refine Tr.fld rfl rfl rfl Y53 rfl Bf dE _ rfl ?_
  first
   | refine Tr.lN (Ab _) rfl rfl rfl Y50 rfl Bf mM (Cut.row_fPrev (by first | (simp [hA.l_fPrev, hB.l_fPrev]; done) | exact oK  | exact hA | exact hB)) (Cut.rl_fPrev (by first | (simp [hA.l_fPrev, hB.l_fPrev]; done) | exact oK  | exact hA | exact hB)) ?_
  refine two (fun r hr k => Tr.eql_bytes rfl rfl rfl rfl Tryz.eqGuardType50 Y50 Y5 Sz5 (by first | (simp [hA.l_fPrev, hB.l_fPrev]; done) | assumption | (rw [Ab, List.length_map]; assumption)) (by first | (simp [hA.l_fPrev, hB.l_fPrev]; done) | assumption | (rw [Ab, List.length_map]; assumption)) hr k) (fun hs1_100 => ?_) (fun hs1_100 => ?_)
  ·
   first | have hs1_10 := of_decide_eq_true hs1_100 | have hs1_10 := of_decide_eq_false hs1_100 | have hs1_10 := Bs hs1_100 | have hs1_10 := Bt hs1_100 | have hs1_10 := hs1_100
   refine Tr.pick rfl rfl rfl rfl rfl rfl ?_
   refine Tr.m rfl rfl rfl ?_
   refine Tr.fld rfl rfl rfl Y53 rfl Sz51 dE _ rfl ?_
   refine Tr.load1 rfl rfl rfl Y51 rfl mM (by first | exact Cut.get_fHeads (by first | (simp [hA.l_fPrev, hB.l_fPrev]; done) | exact oK  | exact hA | exact hB) | exact (by first | rfl | exact Ar (by first | omega | (simp [hA.l_fPrev, hB.l_fPrev]; done) | (simp [hA.l_fPrev, hB.l_fPrev]; omega)) | exact A0 (by first | omega | (simp [hA.l_fPrev, hB.l_fPrev]; done) | (simp [hA.l_fPrev, hB.l_fPrev]; omega)) | exact Bk (by first | omega | (simp [hA.l_fPrev, hB.l_fPrev]; done) | (simp [hA.l_fPrev, hB.l_fPrev]; omega)))) ?_
   refine Tr.fld rfl rfl rfl Y53 rfl Sz51 dE _ rfl ?_
   refine Tr.load1 rfl rfl rfl Y51 rfl mM (by first | exact Cut.get_fHeads (by first | (simp [hA.l_fPrev, hB.l_fPrev]; done) | exact oK  | exact hA | exact hB) | exact (by first | rfl | exact Ar (by first | omega | (simp [hA.l_fPrev, hB.l_fPrev]; done) | (simp [hA.l_fPrev, hB.l_fPrev]; omega)) | exact A0 (by first | omega | (simp [hA.l_fPrev, hB.l_fPrev]; done) | (simp [hA.l_fPrev, hB.l_fPrev]; omega)) | exact Bk (by first | omega | (simp [hA.l_fPrev, hB.l_fPrev]; done) | (simp [hA.l_fPrev, hB.l_fPrev]; omega)))) ?_
   refine Tr.cV rfl rfl rfl rfl Body130 (digests_any2 _ _ _ _ _ _ a.dHeads b.dHeads hW.1.fHeads.row hW.2.fHeads.row hW.1.fHeads.len hW.2.fHeads.len hn) (fun w h => ⟨Az h rfl hW.1.fHeads.see, Az h rfl hW.2.fHeads.see⟩) ?_
   refine Tr.pick rfl rfl rfl rfl rfl rfl ?_
   refine Tr.a rfl rfl rfl ?_
   refine Tr.nil (Aa (Sat.ret (Am ?_)))
   refine ⟨_, [], Ad rfl rfl, sP, sP, ?_, rfl⟩
   unfold sameC
   simp_all
  ·
   first | have hs1_10 := of_decide_eq_true hs1_100 | have hs1_10 := of_decide_eq_false hs1_100 | have hs1_10 := Bs hs1_100 | have hs1_10 := Bt hs1_100 | have hs1_10 := hs1_100
   refine Tr.pick rfl rfl rfl rfl rfl rfl ?_
   refine Tr.m rfl rfl rfl ?_
   refine Tr.skp rfl rfl ?_
   refine Tr.skp rfl rfl ?_
   refine Tr.skp rfl rfl ?_
   refine Tr.skp rfl rfl ?_
   refine Tr.skp rfl rfl ?_
   refine Tr.pick rfl rfl rfl rfl rfl rfl ?_
   refine Tr.a rfl rfl rfl ?_
   refine Tr.nil (Aa (Sat.ret (Am ?_)))
   refine ⟨_, [], Ad rfl rfl, sP, sP, ?_, rfl⟩
   unfold sameC
   simp_all
 ·
  first | have hs1_4 := of_decide_eq_true hs1_40 | have hs1_4 := of_decide_eq_false hs1_40 | have hs1_4 := Bs hs1_40 | have hs1_4 := Bt hs1_40 | have hs1_4 := hs1_40
  refine Tr.m rfl rfl rfl ?_
  refine Tr.skp rfl rfl ?_
  refine Tr.skp rfl rfl ?_
  refine Tr.skp rfl rfl ?_
  refine Tr.skp rfl rfl ?_
  refine Tr.skp rfl rfl ?_
  refine Tr.pick rfl rfl rfl rfl rfl rfl ?_
  refine Tr.m rfl rfl rfl ?_
  refine Tr.skp rfl rfl ?_
  refine Tr.skp rfl rfl ?_
  refine Tr.skp rfl rfl ?_
  refine Tr.skp rfl rfl ?_
  refine Tr.skp rfl rfl ?_
  refine Tr.pick rfl rfl rfl rfl rfl rfl ?_
  refine Tr.a rfl rfl rfl ?_
  refine Tr.nil (Aa (Sat.ret (Am ?_)))
  refine ⟨_, [], Ad rfl rfl, sP, sP, ?_, rfl⟩
  unfold sameC
  simp_all

def sameL {D : Type} (f : D → D → Bool) (xs ys : List D) : Bool := decide (xs.length = ys.length) && (xs.zip ys).all fun p => f p.1 p.2
theorem sameL_yes {D : Type} {f : D → D → Bool} {xs ys : List D} (hl : xs.length = ys.length) (h : ∀ (j : Nat) (a b : D), j < xs.length → xs[j]? = some a → ys[j]? = some b → f a b = true) : sameL f xs ys = true := by
  have e : ((xs.zip ys).all fun p => f p.1 p.2) = true := by
    rw [List.all_eq_true]
    rintro ⟨a, b⟩ hm
    obtain ⟨j, hj⟩ := List.getElem?_of_mem hm
    obtain ⟨h1, h2⟩ := List.getElem?_zip_eq_some.1 hj
    exact h j a b (List.getElem?_eq_some_iff.1 h1).1 h1 h2
  rw [sameL, e, decide_eq_true hl]; rfl
theorem sameL_no {D : Type} {f : D → D → Bool} {xs ys : List D} {k : Nat} {a b : D} (ha : xs[k]? = some a) (hb : ys[k]? = some b) (h : f a b = false) : sameL f xs ys = false := by
  have e : ((xs.zip ys).all fun p => f p.1 p.2) = false := by
    rw [List.all_eq_false]
    exact ⟨(a, b), List.mem_of_getElem? (List.getElem?_zip_eq_some.2 ⟨ha, hb⟩), by rw [h]; simp⟩
  rw [sameL, e, Bool.and_false]
theorem sameL_len {D : Type} {f : D → D → Bool} {xs ys : List D} (h : ¬ xs.length = ys.length) : sameL f xs ys = false := by rw [sameL, decide_eq_false h]; rfl

theorem kit_cuts (s u : Sl) (xs ys : List DCut) (hsm : ∀ d ∈ xs, d.dHeads.length ≤ 1000000) : Meets Tryz.prog 22 [s.v, u.v] [] (fun W => CutsAt W s xs ∧ CutsAt W u ys) (fun v out => v = .bool (sameL sameC xs ys) ∧ out = []) := by
 intro W hW
 obtain ⟨⟨rs, hs⟩, ⟨ru, hu⟩⟩ := hW
 have hnd := hs.nd
 have hnu := hu.nd
 have hmax := hs.max
 have hmaxu := hu.max
 simp only [maxLen] at hmax hmaxu
 refine Ak Tryz.func22 rfl 27 Tryz.ntmps22 rfl ?_
 refine Sat.seq (Sat.region ?_)
 refine Tr.a rfl rfl rfl ?_
 refine Tr.nil (Aa (Sat.seq (Sat.seq (Sat.region ?_))))
 refine Tr.m rfl rfl rfl ?_
 refine Tr.lenSl rfl rfl rfl Y25 ?_
 refine Tr.m rfl rfl rfl ?_
 refine Tr.lenSl rfl rfl rfl Y25 ?_
 refine Tr.nei rfl rfl rfl rfl rfl ?_
 refine Tr.nil (Aa ?_)
 first
  | refine Sat.condP rfl (fun hc0 => ?_) (fun hc0 => ?_)
  | refine Sat.condNP rfl (fun hc0 => ?_) (fun hc0 => ?_)
  | refine Sat.cond rfl (fun hc0 => ?_) (fun hc0 => ?_)
 ·
  refine Sat.seq (Sat.region ?_)
  refine Tr.a rfl rfl rfl ?_
  refine Tr.nil (Aa (Sat.ret (Ao (Am ?_))))
  refine ⟨_, [], Ad rfl rfl, sP, sP, ?_, rfl⟩
  first
   | exact congrArg Value.bool (sameL_len (by rw [hnd, hnu]; omega)).symm
   | exact congrArg Value.bool (sameL_yes (by rw [hnd, hnu]; omega) (by rw [hnd]; exact hg)).symm
   | exact congrArg Value.bool (sameL_no hd hdu (by simp_all; done)).symm
 ·
  refine Sat.skip (Aa (Sat.seq (Sat.seq (Sat.region ?_))))
  refine Tr.a rfl rfl rfl ?_
  refine Tr.nil (Aa (Sat.block ?_))
  refine Sat.loop (ι := Nat) (fun k => ⟨[(0, s.v), (1, u.v), (5, i64 (k : Int))], []⟩) (fun k => k ≤ s.n ∧ s.n = u.n ∧ ∀ (j : Nat) (a b : DCut), j < k → xs[j]? = some a → ys[j]? = some b → sameC a b = true) (fun k => s.n - k) (0) ?_ ?_ ?_
  · exact ⟨by omega, by omega, fun j a b hj => by omega⟩
  · exact Ap (wk1 rfl (wk1 rfl (wk1 rfl wk0))) wh0 nD
  ·
   rintro k ⟨hk, hsu, hg⟩
   refine Sat.seq (Sat.seq (Sat.region ?_))
   refine Tr.m rfl rfl rfl ?_
   refine Tr.m rfl rfl rfl ?_
   refine Tr.lenSl rfl rfl rfl Y25 ?_
   refine Tr.lss rfl rfl rfl rfl rfl ?_
   refine Tr.nil (Aa ?_)
   first
    | refine Sat.condP rfl (fun hc1 => ?_) (fun hc1 => ?_)
    | refine Sat.condNP rfl (fun hc1 => ?_) (fun hc1 => ?_)
    | refine Sat.cond rfl (fun hc1 => ?_) (fun hc1 => ?_)
   ·
    have hk2 : k < s.n := by omega
    obtain ⟨b, o, r, d, hsp, hr, hd, his, hlen, hsee⟩ := hs.at dE hk2
    obtain ⟨b2, o2, r2, d2, hspu, hru, hdu, hiu, hlenu, hseeu⟩ := hu.at dE (show k < u.n by omega)
    refine Sat.skip (Aa (Sat.seq (Sat.block (Sat.seq ?_))))
    refine Sat.draw [(0, 0), (0, 1), (0, 2), (1, 3), (0, 4), (0, 5), (0, 6), (1, 7), (3, 8), (0, 9)] Bv zK ?_
    refine Tr.m rfl rfl rfl ?_
    refine Tr.m rfl rfl rfl ?_
    refine Tr.idxSlP 34 rfl rfl rfl hsp rfl Y25 Sz53 k rfl oM ?_
    refine Tr.loadEN r.cells rfl rfl rfl Y53 rfl Sz53 sP hlen hsee ?_
    refine Tr.m rfl rfl rfl ?_
    refine Tr.m rfl rfl rfl ?_
    refine Tr.idxSlP 34 rfl rfl rfl hspu rfl Y25 Sz53 k rfl oM ?_
    refine Tr.loadEN r2.cells rfl rfl rfl Y53 rfl Sz53 sP hlenu hseeu ?_
    refine Tr.cV rfl rfl rfl rfl Body90 (kit_cut r r2 d d2 (by rw [← his.fHeads.len]; exact hsm d (List.mem_of_getElem? hd))) (fun w h => ⟨his.ext h rfl, hiu.ext h rfl⟩) ?_
    refine Tr.not rfl rfl rfl ?_
    refine Tr.nil (Aa ?_)
    first
     | refine Sat.condP rfl (fun hc2 => ?_) (fun hc2 => ?_)
     | refine Sat.condNP rfl (fun hc2 => ?_) (fun hc2 => ?_)
     | refine Sat.cond rfl (fun hc2 => ?_) (fun hc2 => ?_)
    ·
     refine Sat.seq (Sat.region ?_)
     refine Tr.a rfl rfl rfl ?_
     refine Tr.nil (Aa (Sat.ret (Bw (Ao (Ao (Bw (Ao (Am ?_))))))))
     refine ⟨_, [], Ad rfl rfl, sP, sP, ?_, rfl⟩
     first
      | exact congrArg Value.bool (sameL_len (by rw [hnd, hnu]; omega)).symm
      | exact congrArg Value.bool (sameL_yes (by rw [hnd, hnu]; omega) (by rw [hnd]; exact hg)).symm
      | exact congrArg Value.bool (sameL_no hd hdu (by simp_all; done)).symm
    ·
     refine Sat.skip (Bx (Aa (Sat.region ?_)))
     refine Tr.m rfl rfl rfl ?_
     refine Tr.aI rfl rfl rfl rfl oM ?_
     refine Tr.a rfl rfl rfl ?_
     refine Tr.nil (Aa ?_)
     exact ⟨k + 1, ⟨by omega, hsu, fun j a b hj ha hb => by rcases Nat.lt_succ_iff_lt_or_eq.1 hj with h | rfl; exact hg j a b h ha hb; exact (by rw [hd] at ha; rw [hdu] at hb; cases ha; cases hb; simp_all)⟩, by omega, Ap (wk1 rfl (wk1 rfl (wk1 rfl wk0))) wh0 nD⟩
   ·
    obtain rfl : k = s.n := by omega
    refine Sat.exit (Bc (Bc (bl_h (Aa (Sat.seq (Sat.region ?_))))))
    refine Tr.a rfl rfl rfl ?_
    refine Tr.nil (Aa (Sat.ret (Am ?_)))
    refine ⟨_, [], Ad rfl rfl, sP, sP, ?_, rfl⟩
    first
     | exact congrArg Value.bool (sameL_len (by rw [hnd, hnu]; omega)).symm
     | exact congrArg Value.bool (sameL_yes (by rw [hnd, hnu]; omega) (by rw [hnd]; exact hg)).symm
     | exact congrArg Value.bool (sameL_no hd hdu (by simp_all; done)).symm

open Classical in
noncomputable def sameV (a b : Vote) : Bool := decide (a = b)
theorem sameV_eq {a b : Vote} (h : a = b) : sameV a b = true := by unfold sameV; simp [h]
theorem sameV_ne {a b : Vote} (h : ¬ a = b) : sameV a b = false := by unfold sameV; simp [h]

theorem kit_votes (s u : Sl) (xs ys : List Vote) : Meets Tryz.prog 21 [s.v, u.v] [] (fun W => VotesAt W s xs ∧ VotesAt W u ys) (fun v out => v = .bool (sameL sameV xs ys) ∧ out = []) := by
 intro W hW
 obtain ⟨⟨rs, hs⟩, ⟨ru, hu⟩⟩ := hW
 have hnd := hs.nd
 have hnu := hu.nd
 have hmax := hs.max
 have hmaxu := hu.max
 simp only [maxLen] at hmax hmaxu
 refine Ak Tryz.func21 rfl 26 Tryz.ntmps21 rfl ?_
 refine Sat.seq (Sat.region ?_)
 refine Tr.a rfl rfl rfl ?_
 refine Tr.nil (Aa (Sat.seq (Sat.seq (Sat.region ?_))))
 refine Tr.m rfl rfl rfl ?_
 refine Tr.lenSl rfl rfl rfl Y24 ?_
 refine Tr.m rfl rfl rfl ?_
 refine Tr.lenSl rfl rfl rfl Y24 ?_
 refine Tr.nei rfl rfl rfl rfl rfl ?_
 refine Tr.nil (Aa ?_)
 first
  | refine Sat.condP rfl (fun hc0 => ?_) (fun hc0 => ?_)
  | refine Sat.condNP rfl (fun hc0 => ?_) (fun hc0 => ?_)
  | refine Sat.cond rfl (fun hc0 => ?_) (fun hc0 => ?_)
 ·
  refine Sat.seq (Sat.region ?_)
  refine Tr.a rfl rfl rfl ?_
  refine Tr.nil (Aa (Sat.ret (Ao (Am ?_))))
  refine ⟨_, [], Ad rfl rfl, sP, sP, ?_, rfl⟩
  first
   | exact congrArg Value.bool (sameL_len (by rw [hnd, hnu]; omega)).symm
   | exact congrArg Value.bool (sameL_yes (by rw [hnd, hnu]; omega) (by rw [hnd]; exact hg)).symm
   | exact congrArg Value.bool (sameL_no hd hdu (sameV_ne (by first | assumption | (intro h9; simp_all; done)))).symm
 ·
  refine Sat.skip (Aa (Sat.seq (Sat.seq (Sat.region ?_))))
  refine Tr.a rfl rfl rfl ?_
  refine Tr.nil (Aa (Sat.block ?_))
  refine Sat.loop (ι := Nat) (fun k => ⟨[(0, s.v), (1, u.v), (5, i64 (k : Int))], []⟩) (fun k => k ≤ s.n ∧ s.n = u.n ∧ ∀ (j : Nat) (a b : Vote), j < k → xs[j]? = some a → ys[j]? = some b → sameV a b = true) (fun k => s.n - k) (0) ?_ ?_ ?_
  · exact ⟨by omega, by omega, fun j a b hj => by omega⟩
  · exact Ap (wk1 rfl (wk1 rfl (wk1 rfl wk0))) wh0 nD
  ·
   rintro k ⟨hk, hsu, hg⟩
   refine Sat.seq (Sat.seq (Sat.region ?_))
   refine Tr.m rfl rfl rfl ?_
   refine Tr.m rfl rfl rfl ?_
   refine Tr.lenSl rfl rfl rfl Y24 ?_
   refine Tr.lss rfl rfl rfl rfl rfl ?_
   refine Tr.nil (Aa ?_)
   first
    | refine Sat.condP rfl (fun hc1 => ?_) (fun hc1 => ?_)
    | refine Sat.condNP rfl (fun hc1 => ?_) (fun hc1 => ?_)
    | refine Sat.cond rfl (fun hc1 => ?_) (fun hc1 => ?_)
   ·
    have hk2 : k < s.n := by omega
    obtain ⟨b, o, r, d, hsp, hr, hd, his, hlen, hsee⟩ := hs.at dE hk2
    obtain ⟨b2, o2, r2, d2, hspu, hru, hdu, hiu, hlenu, hseeu⟩ := hu.at dE (show k < u.n by omega)
    obtain rfl := his.eq
    obtain rfl := hiu.eq
    refine Sat.skip (Aa (Sat.seq (Sat.block (Sat.seq ?_))))
    refine Sat.draw [(0, 0), (0, 1), (0, 2), (1, 3), (0, 4), (0, 5), (0, 6), (1, 7), (0, 8)] Bv zK ?_
    refine Tr.m rfl rfl rfl ?_
    refine Tr.m rfl rfl rfl ?_
    refine Tr.idxSlP 132 rfl rfl rfl hsp rfl Y24 Sz81 k rfl oM ?_
    refine Tr.loadEN r.cells rfl rfl rfl Y81 rfl Sz81 sP hlen hsee ?_
    refine Tr.m rfl rfl rfl ?_
    refine Tr.m rfl rfl rfl ?_
    refine Tr.idxSlP 132 rfl rfl rfl hspu rfl Y24 Sz81 k rfl oM ?_
    refine Tr.loadEN r2.cells rfl rfl rfl Y81 rfl Sz81 sP hlenu hseeu ?_
    refine Tr.neq_rec rfl rfl rfl rfl Vote.eg (fun w => Vote.eq_runC (by first | exact oK  | exact his.ok | exact hiu.ok) (by first | exact oK  | exact his.ok | exact hiu.ok) w) rfl ?_
    refine Tr.nil (Aa ?_)
    first
     | refine Sat.condP rfl (fun hc2 => ?_) (fun hc2 => ?_)
     | refine Sat.condNP rfl (fun hc2 => ?_) (fun hc2 => ?_)
     | refine Sat.cond rfl (fun hc2 => ?_) (fun hc2 => ?_)
    ·
     refine Sat.seq (Sat.region ?_)
     refine Tr.a rfl rfl rfl ?_
     refine Tr.nil (Aa (Sat.ret (Bw (Ao (Ao (Bw (Ao (Am ?_))))))))
     refine ⟨_, [], Ad rfl rfl, sP, sP, ?_, rfl⟩
     first
      | exact congrArg Value.bool (sameL_len (by rw [hnd, hnu]; omega)).symm
      | exact congrArg Value.bool (sameL_yes (by rw [hnd, hnu]; omega) (by rw [hnd]; exact hg)).symm
      | exact congrArg Value.bool (sameL_no hd hdu (sameV_ne (by first | assumption | (intro h9; simp_all; done)))).symm
    ·
     refine Sat.skip (Bx (Aa (Sat.region ?_)))
     refine Tr.m rfl rfl rfl ?_
     refine Tr.aI rfl rfl rfl rfl oM ?_
     refine Tr.a rfl rfl rfl ?_
     refine Tr.nil (Aa ?_)
     exact ⟨k + 1, ⟨by omega, hsu, fun j a b hj ha hb => by rcases Nat.lt_succ_iff_lt_or_eq.1 hj with h | rfl; exact hg j a b h ha hb; exact (by rw [hd] at ha; rw [hdu] at hb; cases ha; cases hb; exact sameV_eq (by first | assumption | (simp_all; done)))⟩, by omega, Ap (wk1 rfl (wk1 rfl (wk1 rfl wk0))) wh0 nD⟩
   ·
    obtain rfl : k = s.n := by omega
    refine Sat.exit (Bc (Bc (bl_h (Aa (Sat.seq (Sat.region ?_))))))
    refine Tr.a rfl rfl rfl ?_
    refine Tr.nil (Aa (Sat.ret (Am ?_)))
    refine ⟨_, [], Ad rfl rfl, sP, sP, ?_, rfl⟩
    first
     | exact congrArg Value.bool (sameL_len (by rw [hnd, hnu]; omega)).symm
     | exact congrArg Value.bool (sameL_yes (by rw [hnd, hnu]; omega) (by rw [hnd]; exact hg)).symm
     | exact congrArg Value.bool (sameL_no hd hdu (sameV_ne (by first | assumption | (intro h9; simp_all; done)))).symm

noncomputable def sameE (a b : DCert) : Bool := sameC a.dCut b.dCut && sameL sameV a.dVotes b.dVotes

theorem kit_cert (A B : Cert) (a b : DCert) (hn : A.fCut.fHeads.n ≤ 1000000) : Meets Tryz.prog 32 [agg A.cells, agg B.cells] [] (fun W => CertIs W A a ∧ CertIs W B b) (fun v out => v = .bool (sameE a b) ∧ out = []) := by
 intro W hW
 have hA := hW.1.ok
 have hB := hW.2.ok
 refine Ak Tryz.func32 rfl 17 Tryz.ntmps32 rfl ?_
 refine Sat.seq (Sat.region ?_)
 refine Tr.boxA rfl rfl ?_
 intro n2 hn2 hf2
 refine Tr.boxA rfl rfl ?_
 intro n3 hn3 hf3
 refine Tr.a rfl rfl rfl ?_
 refine Tr.nil (Aa (Sat.seq (Sat.region ?_)))
 refine Tr.fld rfl rfl rfl Y55 rfl Sz53 dE _ rfl ?_
 refine Tr.lN (Cut.cells _) rfl rfl rfl Y53 rfl Sz53 mM (Cert.row_fCut (by first | exact oK  | exact hA | exact hB)) (Cert.rl_fCut (by first | exact oK  | exact hA | exact hB)) ?_
 refine Tr.fld rfl rfl rfl Y55 rfl Sz53 dE _ rfl ?_
 refine Tr.lN (Cut.cells _) rfl rfl rfl Y53 rfl Sz53 mM (Cert.row_fCut (by first | exact oK  | exact hA | exact hB)) (Cert.rl_fCut (by first | exact oK  | exact hA | exact hB)) ?_
 refine Tr.callB rfl rfl rfl rfl Body90 (kit_cut A.fCut B.fCut a.dCut b.dCut hn) (fun w h => ⟨hW.1.fCut.ext h rfl, hW.2.fCut.ext h rfl⟩) (fun hs1_40 => ?_) (fun hs1_40 => ?_)
 ·
  first | have hs1_4 := of_decide_eq_true hs1_40 | have hs1_4 := of_decide_eq_false hs1_40 | have hs1_4 := Bs hs1_40 | have hs1_4 := Bt hs1_40 | have hs1_4 := hs1_40
  refine Tr.m rfl rfl rfl ?_
  refine Tr.fld rfl rfl rfl Y55 rfl Sz24 dE _ rfl ?_
  refine Tr.load1 rfl rfl rfl Y24 rfl mM (by first | exact Cert.get_fVotes (by first | exact oK  | exact hA | exact hB) | exact vL) ?_
  refine Tr.fld rfl rfl rfl Y55 rfl Sz24 dE _ rfl ?_
  refine Tr.load1 rfl rfl rfl Y24 rfl mM (by first | exact Cert.get_fVotes (by first | exact oK  | exact hA | exact hB) | exact vL) ?_
  refine Tr.cV rfl rfl rfl rfl Body21 (kit_votes A.fVotes B.fVotes a.dVotes b.dVotes) (fun w h => ⟨Votes_ext h rfl hW.1.fVotes, Votes_ext h rfl hW.2.fVotes⟩) ?_
  refine Tr.pick rfl rfl rfl rfl rfl rfl ?_
  refine Tr.a rfl rfl rfl ?_
  refine Tr.nil (Aa (Sat.ret (Am ?_)))
  refine ⟨_, [], Ad rfl rfl, sP, sP, ?_, rfl⟩
  simp_all [sameE]
 ·
  first | have hs1_4 := of_decide_eq_true hs1_40 | have hs1_4 := of_decide_eq_false hs1_40 | have hs1_4 := Bs hs1_40 | have hs1_4 := Bt hs1_40 | have hs1_4 := hs1_40
  refine Tr.m rfl rfl rfl ?_
  refine Tr.skp rfl rfl ?_
  refine Tr.skp rfl rfl ?_
  refine Tr.skp rfl rfl ?_
  refine Tr.skp rfl rfl ?_
  refine Tr.skp rfl rfl ?_
  refine Tr.pick rfl rfl rfl rfl rfl rfl ?_
  refine Tr.a rfl rfl rfl ?_
  refine Tr.nil (Aa (Sat.ret (Am ?_)))
  refine ⟨_, [], Ad rfl rfl, sP, sP, ?_, rfl⟩
  simp_all [sameE]

theorem kit_certs (s u : Sl) (xs ys : List DCert) (hsm : ∀ d ∈ xs, d.dCut.dHeads.length ≤ 1000000) : Meets Tryz.prog 20 [s.v, u.v] [] (fun W => CertsAt W s xs ∧ CertsAt W u ys) (fun v out => v = .bool (sameL sameE xs ys) ∧ out = []) := by
 intro W hW
 obtain ⟨⟨rs, hs⟩, ⟨ru, hu⟩⟩ := hW
 have hnd := hs.nd
 have hnu := hu.nd
 have hmax := hs.max
 have hmaxu := hu.max
 simp only [maxLen] at hmax hmaxu
 refine Ak Tryz.func20 rfl 27 Tryz.ntmps20 rfl ?_
 refine Sat.seq (Sat.region ?_)
 refine Tr.a rfl rfl rfl ?_
 refine Tr.nil (Aa (Sat.seq (Sat.seq (Sat.region ?_))))
 refine Tr.m rfl rfl rfl ?_
 refine Tr.lenSl rfl rfl rfl Y23 ?_
 refine Tr.m rfl rfl rfl ?_
 refine Tr.lenSl rfl rfl rfl Y23 ?_
 refine Tr.nei rfl rfl rfl rfl rfl ?_
 refine Tr.nil (Aa ?_)
 first
  | refine Sat.condP rfl (fun hc0 => ?_) (fun hc0 => ?_)
  | refine Sat.condNP rfl (fun hc0 => ?_) (fun hc0 => ?_)
  | refine Sat.cond rfl (fun hc0 => ?_) (fun hc0 => ?_)
 ·
  refine Sat.seq (Sat.region ?_)
  refine Tr.a rfl rfl rfl ?_
  refine Tr.nil (Aa (Sat.ret (Ao (Am ?_))))
  refine ⟨_, [], Ad rfl rfl, sP, sP, ?_, rfl⟩
  first
   | exact congrArg Value.bool (sameL_len (by rw [hnd, hnu]; omega)).symm
   | exact congrArg Value.bool (sameL_yes (by rw [hnd, hnu]; omega) (by rw [hnd]; exact hg)).symm
   | exact congrArg Value.bool (sameL_no hd hdu (by simp_all; done)).symm
 ·
  refine Sat.skip (Aa (Sat.seq (Sat.seq (Sat.region ?_))))
  refine Tr.a rfl rfl rfl ?_
  refine Tr.nil (Aa (Sat.block ?_))
  refine Sat.loop (ι := Nat) (fun k => ⟨[(0, s.v), (1, u.v), (5, i64 (k : Int))], []⟩) (fun k => k ≤ s.n ∧ s.n = u.n ∧ ∀ (j : Nat) (a b : DCert), j < k → xs[j]? = some a → ys[j]? = some b → sameE a b = true) (fun k => s.n - k) (0) ?_ ?_ ?_
  · exact ⟨by omega, by omega, fun j a b hj => by omega⟩
  · exact Ap (wk1 rfl (wk1 rfl (wk1 rfl wk0))) wh0 nD
  ·
   rintro k ⟨hk, hsu, hg⟩
   refine Sat.seq (Sat.seq (Sat.region ?_))
   refine Tr.m rfl rfl rfl ?_
   refine Tr.m rfl rfl rfl ?_
   refine Tr.lenSl rfl rfl rfl Y23 ?_
   refine Tr.lss rfl rfl rfl rfl rfl ?_
   refine Tr.nil (Aa ?_)
   first
    | refine Sat.condP rfl (fun hc1 => ?_) (fun hc1 => ?_)
    | refine Sat.condNP rfl (fun hc1 => ?_) (fun hc1 => ?_)
    | refine Sat.cond rfl (fun hc1 => ?_) (fun hc1 => ?_)
   ·
    have hk2 : k < s.n := by omega
    obtain ⟨b, o, r, d, hsp, hr, hd, his, hlen, hsee⟩ := hs.at dE hk2
    obtain ⟨b2, o2, r2, d2, hspu, hru, hdu, hiu, hlenu, hseeu⟩ := hu.at dE (show k < u.n by omega)
    refine Sat.skip (Aa (Sat.seq (Sat.block (Sat.seq ?_))))
    refine Sat.draw [(0, 0), (0, 1), (0, 2), (1, 3), (0, 4), (0, 5), (0, 6), (1, 7), (3, 8), (0, 9)] Bv zK ?_
    refine Tr.m rfl rfl rfl ?_
    refine Tr.m rfl rfl rfl ?_
    refine Tr.idxSlP 35 rfl rfl rfl hsp rfl Y23 Sz55 k rfl oM ?_
    refine Tr.loadEN r.cells rfl rfl rfl Y55 rfl Sz55 sP hlen hsee ?_
    refine Tr.m rfl rfl rfl ?_
    refine Tr.m rfl rfl rfl ?_
    refine Tr.idxSlP 35 rfl rfl rfl hspu rfl Y23 Sz55 k rfl oM ?_
    refine Tr.loadEN r2.cells rfl rfl rfl Y55 rfl Sz55 sP hlenu hseeu ?_
    refine Tr.cV rfl rfl rfl rfl Body32 (kit_cert r r2 d d2 (by rw [← his.fCut.fHeads.len]; exact hsm d (List.mem_of_getElem? hd))) (fun w h => ⟨his.ext h rfl, hiu.ext h rfl⟩) ?_
    refine Tr.not rfl rfl rfl ?_
    refine Tr.nil (Aa ?_)
    first
     | refine Sat.condP rfl (fun hc2 => ?_) (fun hc2 => ?_)
     | refine Sat.condNP rfl (fun hc2 => ?_) (fun hc2 => ?_)
     | refine Sat.cond rfl (fun hc2 => ?_) (fun hc2 => ?_)
    ·
     refine Sat.seq (Sat.region ?_)
     refine Tr.a rfl rfl rfl ?_
     refine Tr.nil (Aa (Sat.ret (Bw (Ao (Ao (Bw (Ao (Am ?_))))))))
     refine ⟨_, [], Ad rfl rfl, sP, sP, ?_, rfl⟩
     first
      | exact congrArg Value.bool (sameL_len (by rw [hnd, hnu]; omega)).symm
      | exact congrArg Value.bool (sameL_yes (by rw [hnd, hnu]; omega) (by rw [hnd]; exact hg)).symm
      | exact congrArg Value.bool (sameL_no hd hdu (by simp_all; done)).symm
    ·
     refine Sat.skip (Bx (Aa (Sat.region ?_)))
     refine Tr.m rfl rfl rfl ?_
     refine Tr.aI rfl rfl rfl rfl oM ?_
     refine Tr.a rfl rfl rfl ?_
     refine Tr.nil (Aa ?_)
     exact ⟨k + 1, ⟨by omega, hsu, fun j a b hj ha hb => by rcases Nat.lt_succ_iff_lt_or_eq.1 hj with h | rfl; exact hg j a b h ha hb; exact (by rw [hd] at ha; rw [hdu] at hb; cases ha; cases hb; simp_all)⟩, by omega, Ap (wk1 rfl (wk1 rfl (wk1 rfl wk0))) wh0 nD⟩
   ·
    obtain rfl : k = s.n := by omega
    refine Sat.exit (Bc (Bc (bl_h (Aa (Sat.seq (Sat.region ?_))))))
    refine Tr.a rfl rfl rfl ?_
    refine Tr.nil (Aa (Sat.ret (Am ?_)))
    refine ⟨_, [], Ad rfl rfl, sP, sP, ?_, rfl⟩
    first
     | exact congrArg Value.bool (sameL_len (by rw [hnd, hnu]; omega)).symm
     | exact congrArg Value.bool (sameL_yes (by rw [hnd, hnu]; omega) (by rw [hnd]; exact hg)).symm
     | exact congrArg Value.bool (sameL_no hd hdu (by simp_all; done)).symm

def sameBk (a b : DB) : Bool := decide (a.w = b.w) && (decide ((a.seq.toNat : Int) = (b.seq.toNat : Int)) && (decide (a.prev = b.prev) && (decide (a.ls = b.ls) && (decide (a.ds = b.ds) && decide (a.sg = b.sg)))))
theorem sameB_Bk {W : World} {A B : Block} {a b : DB} (h1 : BlockIs W A a) (h2 : BlockIs W B b) : sameB A B a.ls b.ls a.ds b.ds = sameBk a b := by
  simp only [sameB, sameBk, h1.w, h2.w, h1.seq, h2.seq, h1.prev, h2.prev, h1.sg, h2.sg]
theorem kit_blockD (A B : Block) (a b : DB) (hn : A.fLinks.n ≤ 1000000) : Meets Tryz.prog 89 [agg A.cells, agg B.cells] [] (fun W => BlockIs W A a ∧ BlockIs W B b) (fun v out => v = .bool (sameBk a b) ∧ out = []) := fun W hW => by
  rw [← sameB_Bk hW.1 hW.2]
  exact kit_block A B hW.1.ok hW.2.ok a.ls b.ls a.ds b.ds hn W ⟨⟨hW.1.ls, hW.1.ds⟩, ⟨hW.2.ls, hW.2.ds⟩⟩

theorem kit_blocks (s u : Sl) (xs ys : List DB) (hsm : ∀ d ∈ xs, d.ls.length ≤ 1000000) : Meets Tryz.prog 19 [s.v, u.v] [] (fun W => BlocksAt W s xs ∧ BlocksAt W u ys) (fun v out => v = .bool (sameL sameBk xs ys) ∧ out = []) := by
 intro W hW
 obtain ⟨⟨rs, hs⟩, ⟨ru, hu⟩⟩ := hW
 have hnd := hs.nd
 have hnu := hu.nd
 have hmax := hs.max
 have hmaxu := hu.max
 simp only [maxLen] at hmax hmaxu
 refine Ak Tryz.func19 rfl 27 Tryz.ntmps19 rfl ?_
 refine Sat.seq (Sat.region ?_)
 refine Tr.a rfl rfl rfl ?_
 refine Tr.nil (Aa (Sat.seq (Sat.seq (Sat.region ?_))))
 refine Tr.m rfl rfl rfl ?_
 refine Tr.lenSl rfl rfl rfl Y22 ?_
 refine Tr.m rfl rfl rfl ?_
 refine Tr.lenSl rfl rfl rfl Y22 ?_
 refine Tr.nei rfl rfl rfl rfl rfl ?_
 refine Tr.nil (Aa ?_)
 first
  | refine Sat.condP rfl (fun hc0 => ?_) (fun hc0 => ?_)
  | refine Sat.condNP rfl (fun hc0 => ?_) (fun hc0 => ?_)
  | refine Sat.cond rfl (fun hc0 => ?_) (fun hc0 => ?_)
 ·
  refine Sat.seq (Sat.region ?_)
  refine Tr.a rfl rfl rfl ?_
  refine Tr.nil (Aa (Sat.ret (Ao (Am ?_))))
  refine ⟨_, [], Ad rfl rfl, sP, sP, ?_, rfl⟩
  first
   | exact congrArg Value.bool (sameL_len (by rw [hnd, hnu]; omega)).symm
   | exact congrArg Value.bool (sameL_yes (by rw [hnd, hnu]; omega) (by rw [hnd]; exact hg)).symm
   | exact congrArg Value.bool (sameL_no hd hdu (by simp_all; done)).symm
 ·
  refine Sat.skip (Aa (Sat.seq (Sat.seq (Sat.region ?_))))
  refine Tr.a rfl rfl rfl ?_
  refine Tr.nil (Aa (Sat.block ?_))
  refine Sat.loop (ι := Nat) (fun k => ⟨[(0, s.v), (1, u.v), (5, i64 (k : Int))], []⟩) (fun k => k ≤ s.n ∧ s.n = u.n ∧ ∀ (j : Nat) (a b : DB), j < k → xs[j]? = some a → ys[j]? = some b → sameBk a b = true) (fun k => s.n - k) (0) ?_ ?_ ?_
  · exact ⟨by omega, by omega, fun j a b hj => by omega⟩
  · exact Ap (wk1 rfl (wk1 rfl (wk1 rfl wk0))) wh0 nD
  ·
   rintro k ⟨hk, hsu, hg⟩
   refine Sat.seq (Sat.seq (Sat.region ?_))
   refine Tr.m rfl rfl rfl ?_
   refine Tr.m rfl rfl rfl ?_
   refine Tr.lenSl rfl rfl rfl Y22 ?_
   refine Tr.lss rfl rfl rfl rfl rfl ?_
   refine Tr.nil (Aa ?_)
   first
    | refine Sat.condP rfl (fun hc1 => ?_) (fun hc1 => ?_)
    | refine Sat.condNP rfl (fun hc1 => ?_) (fun hc1 => ?_)
    | refine Sat.cond rfl (fun hc1 => ?_) (fun hc1 => ?_)
   ·
    have hk2 : k < s.n := by omega
    obtain ⟨b, o, r, d, hsp, hr, hd, his, hlen, hsee⟩ := hs.at dE hk2
    obtain ⟨b2, o2, r2, d2, hspu, hru, hdu, hiu, hlenu, hseeu⟩ := hu.at dE (show k < u.n by omega)
    refine Sat.skip (Aa (Sat.seq (Sat.block (Sat.seq ?_))))
    refine Sat.draw [(0, 0), (0, 1), (0, 2), (1, 3), (0, 4), (0, 5), (0, 6), (1, 7), (3, 8), (0, 9)] Bv zK ?_
    refine Tr.m rfl rfl rfl ?_
    refine Tr.m rfl rfl rfl ?_
    refine Tr.idxSlP 131 rfl rfl rfl hsp rfl Y22 Sz79 k rfl oM ?_
    refine Tr.loadEN r.cells rfl rfl rfl Y79 rfl Sz79 sP hlen hsee ?_
    refine Tr.m rfl rfl rfl ?_
    refine Tr.m rfl rfl rfl ?_
    refine Tr.idxSlP 131 rfl rfl rfl hspu rfl Y22 Sz79 k rfl oM ?_
    refine Tr.loadEN r2.cells rfl rfl rfl Y79 rfl Sz79 sP hlenu hseeu ?_
    refine Tr.cV rfl rfl rfl rfl Body89 (kit_blockD r r2 d d2 (by rw [← his.ls.len]; exact hsm d (List.mem_of_getElem? hd))) (fun w h => ⟨his.ext h rfl, hiu.ext h rfl⟩) ?_
    refine Tr.not rfl rfl rfl ?_
    refine Tr.nil (Aa ?_)
    first
     | refine Sat.condP rfl (fun hc2 => ?_) (fun hc2 => ?_)
     | refine Sat.condNP rfl (fun hc2 => ?_) (fun hc2 => ?_)
     | refine Sat.cond rfl (fun hc2 => ?_) (fun hc2 => ?_)
    ·
     refine Sat.seq (Sat.region ?_)
     refine Tr.a rfl rfl rfl ?_
     refine Tr.nil (Aa (Sat.ret (Bw (Ao (Ao (Bw (Ao (Am ?_))))))))
     refine ⟨_, [], Ad rfl rfl, sP, sP, ?_, rfl⟩
     first
      | exact congrArg Value.bool (sameL_len (by rw [hnd, hnu]; omega)).symm
      | exact congrArg Value.bool (sameL_yes (by rw [hnd, hnu]; omega) (by rw [hnd]; exact hg)).symm
      | exact congrArg Value.bool (sameL_no hd hdu (by simp_all; done)).symm
    ·
     refine Sat.skip (Bx (Aa (Sat.region ?_)))
     refine Tr.m rfl rfl rfl ?_
     refine Tr.aI rfl rfl rfl rfl oM ?_
     refine Tr.a rfl rfl rfl ?_
     refine Tr.nil (Aa ?_)
     exact ⟨k + 1, ⟨by omega, hsu, fun j a b hj ha hb => by rcases Nat.lt_succ_iff_lt_or_eq.1 hj with h | rfl; exact hg j a b h ha hb; exact (by rw [hd] at ha; rw [hdu] at hb; cases ha; cases hb; simp_all)⟩, by omega, Ap (wk1 rfl (wk1 rfl (wk1 rfl wk0))) wh0 nD⟩
   ·
    obtain rfl : k = s.n := by omega
    refine Sat.exit (Bc (Bc (bl_h (Aa (Sat.seq (Sat.region ?_))))))
    refine Tr.a rfl rfl rfl ?_
    refine Tr.nil (Aa (Sat.ret (Am ?_)))
    refine ⟨_, [], Ad rfl rfl, sP, sP, ?_, rfl⟩
    first
     | exact congrArg Value.bool (sameL_len (by rw [hnd, hnu]; omega)).symm
     | exact congrArg Value.bool (sameL_yes (by rw [hnd, hnu]; omega) (by rw [hnd]; exact hg)).symm
     | exact congrArg Value.bool (sameL_no hd hdu (by simp_all; done)).symm

noncomputable def sameK (a b : DKept) : Bool := sameL sameBk a.dBlocks b.dBlocks && (sameL sameE a.dCerts b.dCerts && (sameL sameV a.dVotes b.dVotes && sameL sameC a.dCuts b.dCuts))
def DKept.small (a : DKept) : Prop := (∀ d ∈ a.dBlocks, d.ls.length ≤ 1000000) ∧ (∀ d ∈ a.dCerts, d.dCut.dHeads.length ≤ 1000000) ∧ ∀ d ∈ a.dCuts, d.dHeads.length ≤ 1000000

theorem kit_kept (A B : Kept) (a b : DKept) (hsm : a.small) : Meets Tryz.prog 14 [agg A.cells, agg B.cells] [] (fun W => KeptIs W A a ∧ KeptIs W B b) (fun v out => v = .bool (sameK a b) ∧ out = []) := by
 intro W hW
 have hA := hW.1.ok
 have hB := hW.2.ok
 refine Ak Tryz.func14 rfl 31 Tryz.ntmps14 rfl ?_
 refine Sat.seq (Sat.region ?_)
 refine Tr.boxA rfl rfl ?_
 intro n2 hn2 hf2
 refine Tr.boxA rfl rfl ?_
 intro n3 hn3 hf3
 refine Tr.a rfl rfl rfl ?_
 refine Tr.nil (Aa (Sat.seq (Sat.region ?_)))
 refine Tr.fld rfl rfl rfl Y27 rfl Sz22 dE _ rfl ?_
 refine Tr.load1 rfl rfl rfl Y22 rfl mM (by first | exact Kept.get_fBlocks (by first | exact oK  | exact hA | exact hB) | exact vL) ?_
 refine Tr.fld rfl rfl rfl Y27 rfl Sz22 dE _ rfl ?_
 refine Tr.load1 rfl rfl rfl Y22 rfl mM (by first | exact Kept.get_fBlocks (by first | exact oK  | exact hA | exact hB) | exact vL) ?_
 refine Tr.callB rfl rfl rfl rfl Body19 (kit_blocks A.fBlocks B.fBlocks a.dBlocks b.dBlocks hsm.1) (fun w h => ⟨Blocks_ext h rfl hW.1.fBlocks, Blocks_ext h rfl hW.2.fBlocks⟩) (fun hs1_40 => ?_) (fun hs1_40 => ?_)
 ·
  first | have hs1_4 := of_decide_eq_true hs1_40 | have hs1_4 := of_decide_eq_false hs1_40 | have hs1_4 := Bs hs1_40 | have hs1_4 := Bt hs1_40 | have hs1_4 := hs1_40
  refine Tr.m rfl rfl rfl ?_
  refine Tr.fld rfl rfl rfl Y27 rfl Sz23 dE _ rfl ?_
  refine Tr.load1 rfl rfl rfl Y23 rfl mM (by first | exact Kept.get_fCerts (by first | exact oK  | exact hA | exact hB) | exact vL) ?_
  refine Tr.fld rfl rfl rfl Y27 rfl Sz23 dE _ rfl ?_
  refine Tr.load1 rfl rfl rfl Y23 rfl mM (by first | exact Kept.get_fCerts (by first | exact oK  | exact hA | exact hB) | exact vL) ?_
  refine Tr.callB rfl rfl rfl rfl Body20 (kit_certs A.fCerts B.fCerts a.dCerts b.dCerts hsm.2.1) (fun w h => ⟨Certs_ext h rfl hW.1.fCerts, Certs_ext h rfl hW.2.fCerts⟩) (fun hs1_100 => ?_) (fun hs1_100 => ?_)
  ·
   first | have hs1_10 := of_decide_eq_true hs1_100 | have hs1_10 := of_decide_eq_false hs1_100 | have hs1_10 := Bs hs1_100 | have hs1_10 := Bt hs1_100 | have hs1_10 := hs1_100
   refine Tr.pick rfl rfl rfl rfl rfl rfl ?_
   refine Tr.m rfl rfl rfl ?_
   refine Tr.fld rfl rfl rfl Y27 rfl Sz24 dE _ rfl ?_
   refine Tr.load1 rfl rfl rfl Y24 rfl mM (by first | exact Kept.get_fVotes (by first | exact oK  | exact hA | exact hB) | exact vL) ?_
   refine Tr.fld rfl rfl rfl Y27 rfl Sz24 dE _ rfl ?_
   refine Tr.load1 rfl rfl rfl Y24 rfl mM (by first | exact Kept.get_fVotes (by first | exact oK  | exact hA | exact hB) | exact vL) ?_
   refine Tr.callB rfl rfl rfl rfl Body21 (kit_votes A.fVotes B.fVotes a.dVotes b.dVotes) (fun w h => ⟨Votes_ext h rfl hW.1.fVotes, Votes_ext h rfl hW.2.fVotes⟩) (fun hs1_170 => ?_) (fun hs1_170 => ?_)
   ·
    first | have hs1_17 := of_decide_eq_true hs1_170 | have hs1_17 := of_decide_eq_false hs1_170 | have hs1_17 := Bs hs1_170 | have hs1_17 := Bt hs1_170 | have hs1_17 := hs1_170
    refine Tr.pick rfl rfl rfl rfl rfl rfl ?_
    refine Tr.m rfl rfl rfl ?_
    refine Tr.fld rfl rfl rfl Y27 rfl Sz25 dE _ rfl ?_
    refine Tr.load1 rfl rfl rfl Y25 rfl mM (by first | exact Kept.get_fCuts (by first | exact oK  | exact hA | exact hB) | exact vL) ?_
    refine Tr.fld rfl rfl rfl Y27 rfl Sz25 dE _ rfl ?_
    refine Tr.load1 rfl rfl rfl Y25 rfl mM (by first | exact Kept.get_fCuts (by first | exact oK  | exact hA | exact hB) | exact vL) ?_
    refine Tr.cV rfl rfl rfl rfl Body22 (kit_cuts A.fCuts B.fCuts a.dCuts b.dCuts hsm.2.2) (fun w h => ⟨Cuts_ext h rfl hW.1.fCuts, Cuts_ext h rfl hW.2.fCuts⟩) ?_
    refine Tr.pick rfl rfl rfl rfl rfl rfl ?_
    refine Tr.a rfl rfl rfl ?_
    refine Tr.nil (Aa (Sat.ret (Am ?_)))
    refine ⟨_, [], Ad rfl rfl, sP, sP, ?_, rfl⟩
    simp_all [sameK]
   ·
    first | have hs1_17 := of_decide_eq_true hs1_170 | have hs1_17 := of_decide_eq_false hs1_170 | have hs1_17 := Bs hs1_170 | have hs1_17 := Bt hs1_170 | have hs1_17 := hs1_170
    refine Tr.pick rfl rfl rfl rfl rfl rfl ?_
    refine Tr.m rfl rfl rfl ?_
    refine Tr.skp rfl rfl ?_
    refine Tr.skp rfl rfl ?_
    refine Tr.skp rfl rfl ?_
    refine Tr.skp rfl rfl ?_
    refine Tr.skp rfl rfl ?_
    refine Tr.pick rfl rfl rfl rfl rfl rfl ?_
    refine Tr.a rfl rfl rfl ?_
    refine Tr.nil (Aa (Sat.ret (Am ?_)))
    refine ⟨_, [], Ad rfl rfl, sP, sP, ?_, rfl⟩
    simp_all [sameK]
  ·
   first | have hs1_10 := of_decide_eq_true hs1_100 | have hs1_10 := of_decide_eq_false hs1_100 | have hs1_10 := Bs hs1_100 | have hs1_10 := Bt hs1_100 | have hs1_10 := hs1_100
   refine Tr.pick rfl rfl rfl rfl rfl rfl ?_
   refine Tr.m rfl rfl rfl ?_
   refine Tr.skp rfl rfl ?_
   refine Tr.skp rfl rfl ?_
   refine Tr.skp rfl rfl ?_
   refine Tr.skp rfl rfl ?_
   refine Tr.skp rfl rfl ?_
   refine Tr.pick rfl rfl rfl rfl rfl rfl ?_
   refine Tr.m rfl rfl rfl ?_
   refine Tr.skp rfl rfl ?_
   refine Tr.skp rfl rfl ?_
   refine Tr.skp rfl rfl ?_
   refine Tr.skp rfl rfl ?_
   refine Tr.skp rfl rfl ?_
   refine Tr.pick rfl rfl rfl rfl rfl rfl ?_
   refine Tr.a rfl rfl rfl ?_
   refine Tr.nil (Aa (Sat.ret (Am ?_)))
   refine ⟨_, [], Ad rfl rfl, sP, sP, ?_, rfl⟩
   simp_all [sameK]
 ·
  first | have hs1_4 := of_decide_eq_true hs1_40 | have hs1_4 := of_decide_eq_false hs1_40 | have hs1_4 := Bs hs1_40 | have hs1_4 := Bt hs1_40 | have hs1_4 := hs1_40
  refine Tr.m rfl rfl rfl ?_
  refine Tr.skp rfl rfl ?_
  refine Tr.skp rfl rfl ?_
  refine Tr.skp rfl rfl ?_
  refine Tr.skp rfl rfl ?_
  refine Tr.skp rfl rfl ?_
  refine Tr.pick rfl rfl rfl rfl rfl rfl ?_
  refine Tr.m rfl rfl rfl ?_
  refine Tr.skp rfl rfl ?_
  refine Tr.skp rfl rfl ?_
  refine Tr.skp rfl rfl ?_
  refine Tr.skp rfl rfl ?_
  refine Tr.skp rfl rfl ?_
  refine Tr.pick rfl rfl rfl rfl rfl rfl ?_
  refine Tr.m rfl rfl rfl ?_
  refine Tr.skp rfl rfl ?_
  refine Tr.skp rfl rfl ?_
  refine Tr.skp rfl rfl ?_
  refine Tr.skp rfl rfl ?_
  refine Tr.skp rfl rfl ?_
  refine Tr.pick rfl rfl rfl rfl rfl rfl ?_
  refine Tr.a rfl rfl rfl ?_
  refine Tr.nil (Aa (Sat.ret (Am ?_)))
  refine ⟨_, [], Ad rfl rfl, sP, sP, ?_, rfl⟩
  simp_all [sameK]

end Go.Proofs.YtdifpjmfabhpiaaGreat
end

section
namespace Go.Proofs.YtdifpjmfabhpiaaGreat
open Go Hw

theorem seq_one {R D : Type} {cells : R → List Value} {k : Nat} {Is : World → R → D → Prop} {w : World} (q : Nat) (E : TypeId) (r : R) {m : Nat} {d : D} (hl : Lies [⟨q, cells r, E, m⟩] w) (hlen : (cells r).length = k) (hm : m = 1 * k) (hi : Is w r d) : SeqIs cells k Is w ⟨some ⟨q, 0, none⟩, 1, 1⟩ [r] [d] := by
  subst hm
  have ha : Hw.Acc ⟨some ⟨q, 0, none⟩, 1, 1⟩ [⟨q, cells r, E, 1 * k⟩] (cells r) E 1 k := Acc.some (Nat.le_refl _) (by rw [hlen, Nat.one_mul])
  have e : ([r].map cells).flatten = cells r := by simp
  refine acc_seq (by rw [e]; exact ha) hl rfl rfl (fun x hx => by rw [List.mem_singleton.1 hx]; exact hlen) sP fun i x y hx hy => ?_
  obtain ⟨hi1, rfl⟩ := List.getElem?_eq_some_iff.1 hx
  obtain ⟨hi2, rfl⟩ := List.getElem?_eq_some_iff.1 hy
  have e0 : i = 0 := by simp at hi1; exact hi1
  subst e0
  exact hi
theorem sameC_self (a : DCut) : sameC a a = true := by simp [sameC]
theorem sameV_self (a : Vote) : sameV a a = true := sameV_eq rfl
theorem sameL_self {D : Type} {f : D → D → Bool} (h : ∀ a, f a a = true) (l : List D) : sameL f l l = true := sameL_yes rfl fun j a b _ ha hb => by rw [ha] at hb; cases hb; exact h a
theorem sameE_self (a : DCert) : sameE a a = true := by simp only [sameE, sameC_self, sameL_self sameV_self, Bool.and_self]
theorem sameBk_self (a : DB) : sameBk a a = true := by simp [sameBk]
theorem sameK_self (a : DKept) : sameK a a = true := by simp only [sameK, sameL_self sameBk_self, sameL_self sameE_self, sameL_self sameV_self, sameL_self sameC_self, Bool.and_self]
theorem kit_kept_same (A B : Kept) (a : DKept) (h : a.small) : Meets Tryz.prog 14 [agg A.cells, agg B.cells] [] (fun W => KeptIs W A a ∧ KeptIs W B a) (fun v out => v = .bool true ∧ out = []) := by
  have h := kit_kept A B a a h
  rwa [sameK_self] at h
theorem dkz_small : dkz.small := ⟨fun d h => (by cases h), fun d h => (by cases h), fun d h => (by cases h)⟩
def oneB : List UInt8 := 1 :: List.replicate 31 0
def sevB : List UInt8 := 7 :: List.replicate 31 0
def exCut (q : Nat) : Cut := ⟨1, List.replicate 32 0, ⟨some ⟨q, 0, none⟩, 1, 1⟩⟩
def exCutD : DCut := ⟨1, List.replicate 32 0, [oneB]⟩
def exVote : Vote := ⟨1, 0, 3, sevB, 0, List.replicate 32 0, List.replicate 64 0⟩
def exCert (q r : Nat) : Cert := ⟨exCut q, ⟨some ⟨r, 0, none⟩, 1, 1⟩⟩
def exD : DCert := ⟨exCutD, [exVote]⟩
theorem exCut_ok (q : Nat) : (exCut q).ok := ⟨rfl⟩
theorem B3 : exVote.ok := ⟨rfl, rfl, rfl⟩
theorem exCert_ok (q r : Nat) : (exCert q r).ok := ⟨exCut_ok q⟩
theorem ex_name : (decide (sevB = cnameD exCutD)) = false := by kernel_rfl
theorem ex_check : exD.check = 2 := cert_bad2 (k := 0) dE (.inr (.inr (.inr (.inl (of_decide_eq_false ex_name)))))
theorem ex_by : B6 exD = [] := if_neg (by rw [ex_check]; decide)
theorem ex_rec : (A6 2 (B6 exD) exD.check).2 = 2 := by rw [A6, if_neg (by rw [ex_check]; decide)]; exact ex_check
theorem ex_r0 : B2 [] = (dkz, 0) := keepRd_ok keepR_nil rfl
theorem keepR_one (r : DRecord) : keepR [r] = Be dkz r := rfl
theorem step_no {D : DKept} {r : DRecord} (h : 4 < r.dKind.toNat) : Be D r = none := by
  have hn : ∀ k : UInt8, k.toNat ≤ 4 → ¬ r.dKind = k := fun k hk e => by rw [e] at h; omega
  rw [Be, if_neg (hn 1 dE), if_neg (hn 2 dE), if_neg (hn 3 dE), if_neg (hn 4 dE)]
theorem rd_kind {r : DRecord} (h : 4 < r.dKind.toNat) : B2 [r] = (dkz, 4) := keepRd_bad (by rw [keepR_one, step_no h])
theorem exCut_is {w : World} {q : Nat} {m : Nat} (hl : Lies [⟨q, flatB [oneB], 50, m⟩] w) (hm : m = 1 * 32) : CutIs w (exCut q) exCutD := by
  subst hm
  exact ⟨exCut_ok q, rfl, rfl, acc_rows (Acc.some (E := 50) (cells := flatB [oneB]) (Nat.le_refl _) rfl) hl (fun l h => by rw [List.mem_singleton.1 h]; rfl) rfl dE⟩

theorem law26_lives  : Meets Tryz.prog 8 [] [] (fun _ => True) (fun v out => v = .bool true ∧ out = []) := by
 intro W hW
 refine Ak Tryz.func8 rfl 45 Tryz.ntmps8 rfl ?_
 refine Sat.seq (Sat.region ?_)
 refine Tr.a rfl rfl rfl ?_
 refine Tr.nil (Aa (Sat.seq (Sat.region ?_)))
 refine Tr.build (cs := Ab oneB) rfl rfl rfl (fun w => by kernel_rfl) ?_
 refine Tr.mkRow2 (z := agg (Ab (List.replicate 32 0))) [agg (Ab oneB)] (flatB [oneB]) rfl rfl Y51 Bf Zr50 rfl rfl (by intro v hv; rw [List.mem_singleton.1 hv]; rfl) dE (by rfl) ?_
 intro q9
 refine Tr.build (cs := (exCut q9).cells) rfl rfl rfl (fun w => by kernel_rfl) ?_
 refine Tr.build (cs := Ab sevB) rfl rfl rfl (fun w => by kernel_rfl) ?_
 refine Tr.build (cs := exVote.cells) rfl rfl rfl (fun w => by kernel_rfl) ?_
 refine Tr.mkRow2 (z := agg Vote.zero.cells) [agg exVote.cells] exVote.cells rfl rfl Y24 Sz81 Vote.zr rfl rfl (by intro v hv; rw [List.mem_singleton.1 hv]; exact Vote.length B3) dE (by simp [Value.cells]) ?_
 intro q13
 refine Tr.build (cs := (exCert q9 q13).cells) rfl rfl rfl (fun w => by kernel_rfl) ?_
 refine Tr.alloc (cs := Cert.zero.cells) rfl Cert.zr rfl ?_
 intro n1 hn1 hf1
 refine Tr.sA rfl rfl rfl rfl (Cert.isCell (by first | exact oK  | exact exCert_ok _ _ | exact exCut_ok _ | exact B3 | exact ok16 | exact ok22 | exact ok27 | exact ⟨trivial⟩)) Sz55 (Cert.length (by first | exact oK  | exact exCert_ok _ _ | exact exCut_ok _ | exact B3 | exact ok16 | exact ok22 | exact ok27 | exact ⟨trivial⟩)) mM (Cert.length (by first | exact oK  | exact exCert_ok _ _ | exact exCut_ok _ | exact B3 | exact ok16 | exact ok22 | exact ok27 | exact ⟨trivial⟩)) uU ?_
 refine Tr.nil (Aa (Sat.seq (Sat.region ?_)))
 refine Tr.call4 rfl rfl rfl rfl rfl Body13 (keep_read Sl.nil [] dE (fun d h => by cases h)) (fun w h => ⟨[], SeqIs.none⟩) ?_
 rintro v16 out16 ⟨X16, ok16, rfl, h16⟩
 rw [ex_r0] at h16 ⊢
 refine Tr.m rfl rfl rfl ?_
 refine Tr.eX rfl rfl rfl rfl ?_
 refine Tr.eX rfl rfl rfl rfl ?_
 refine Tr.alloc (cs := Kept.zero.cells) rfl Kept.zr rfl ?_
 intro n2 hn2 hf2
 refine Tr.sA rfl rfl rfl rfl (Kept.isCell (by first | exact oK  | exact exCert_ok _ _ | exact exCut_ok _ | exact B3 | exact ok16 | exact ok22 | exact ok27 | exact ⟨trivial⟩)) Sz27 (Kept.length (by first | exact oK  | exact exCert_ok _ _ | exact exCut_ok _ | exact B3 | exact ok16 | exact ok22 | exact ok27 | exact ⟨trivial⟩)) mM (Kept.length (by first | exact oK  | exact exCert_ok _ _ | exact exCut_ok _ | exact B3 | exact ok16 | exact ok22 | exact ok27 | exact ⟨trivial⟩)) uU ?_
 refine Tr.a rfl rfl rfl ?_
 refine Tr.nil (Aa (Sat.seq (Sat.region ?_)))
 refine Tr.build (cs := (⟨5, Sl.nil⟩ : Record).cells) rfl rfl rfl (fun w => by kernel_rfl) ?_
 refine Tr.mkRow2 (z := agg Record.zero.cells) [agg (⟨5, Sl.nil⟩ : Record).cells] (⟨5, Sl.nil⟩ : Record).cells rfl rfl Y28 Bo Record.zr rfl rfl (by intro v hv; rw [List.mem_singleton.1 hv]; exact rfl) dE (by simp [Value.cells]) ?_
 intro q21
 refine Tr.call4 rfl rfl rfl rfl rfl Body13 (keep_read ⟨some ⟨q21, 0, none⟩, 1, 1⟩ [⟨5, []⟩] sP (fun d h => by rw [List.mem_singleton.1 h]; decide)) (fun w h => ⟨_, seq_one q21 91 (⟨5, Sl.nil⟩ : Record) (Lies.of h (by intro b hb; rw [List.mem_singleton.1 hb]; repeat (first | exact List.mem_cons_self | refine List.mem_cons_of_mem _ ?_ | refine mem_seg ?_))) (Record.length (show (⟨5, Sl.nil⟩ : Record).ok from ⟨trivial⟩)) (by rw [Record.length (show (⟨5, Sl.nil⟩ : Record).ok from ⟨trivial⟩)]) ⟨⟨trivial⟩, rfl, ⟨rfl, Nat.le_refl _, SeesP.nil, by decide, fun _ => rfl⟩⟩⟩) ?_
 rintro v22 out22 ⟨X22, ok22, rfl, h22⟩
 rw [rd_kind dE] at h22 ⊢
 refine Tr.m rfl rfl rfl ?_
 refine Tr.eX rfl rfl rfl rfl ?_
 refine Tr.eX rfl rfl rfl rfl ?_
 refine Tr.alloc (cs := Kept.zero.cells) rfl Kept.zr rfl ?_
 intro n4 hn4 hf4
 refine Tr.sA rfl rfl rfl rfl (Kept.isCell (by first | exact oK  | exact exCert_ok _ _ | exact exCut_ok _ | exact B3 | exact ok16 | exact ok22 | exact ok27 | exact ⟨trivial⟩)) Sz27 (Kept.length (by first | exact oK  | exact exCert_ok _ _ | exact exCut_ok _ | exact B3 | exact ok16 | exact ok22 | exact ok27 | exact ⟨trivial⟩)) mM (Kept.length (by first | exact oK  | exact exCert_ok _ _ | exact exCut_ok _ | exact B3 | exact ok16 | exact ok22 | exact ok27 | exact ⟨trivial⟩)) uU ?_
 refine Tr.a rfl rfl rfl ?_
 refine Tr.nil (Aa (Sat.seq (Sat.region ?_)))
 refine Tr.lA rfl rfl rfl Y55 rfl Sz55 mM (Cert.length (by first | exact oK  | exact exCert_ok _ _ | exact exCut_ok _ | exact B3 | exact ok16 | exact ok22 | exact ok27 | exact ⟨trivial⟩)) ?_
 refine Tr.call4 rfl rfl rfl rfl rfl Body52 (keep_cert (exCert q9 q13) exD (by rw [ex_by]; decide)) (fun w h => ⟨exCert_ok _ _, exCut_is (q := q9) (Lies.of h (by intro b hb; rw [List.mem_singleton.1 hb]; repeat (first | exact List.mem_cons_self | refine List.mem_cons_of_mem _ ?_ | refine mem_seg ?_))) rfl, ⟨_, seq_one q13 81 exVote (Lies.of h (by intro b hb; rw [List.mem_singleton.1 hb]; repeat (first | exact List.mem_cons_self | refine List.mem_cons_of_mem _ ?_ | refine mem_seg ?_))) (Vote.length B3) rfl ⟨B3, rfl, by decide⟩⟩⟩) ?_
 rintro v27 out27 ⟨X27, ok27, rfl, k27, h27⟩
 refine Tr.m rfl rfl rfl ?_
 refine Tr.eX rfl rfl rfl rfl ?_
 refine Tr.eX rfl rfl rfl rfl ?_
 refine Tr.alloc (cs := Record.zero.cells) rfl Record.zr rfl ?_
 intro n6 hn6 hf6
 refine Tr.sA rfl rfl rfl rfl (Record.isCell (by first | exact oK  | exact exCert_ok _ _ | exact exCut_ok _ | exact B3 | exact ok16 | exact ok22 | exact ok27 | exact ⟨trivial⟩)) Bo (Record.length (by first | exact oK  | exact exCert_ok _ _ | exact exCut_ok _ | exact B3 | exact ok16 | exact ok22 | exact ok27 | exact ⟨trivial⟩)) mM (Record.length (by first | exact oK  | exact exCert_ok _ _ | exact exCut_ok _ | exact B3 | exact ok16 | exact ok22 | exact ok27 | exact ⟨trivial⟩)) uU ?_
 refine Tr.a rfl rfl rfl ?_
 refine Tr.nil (Aa (Sat.seq (Sat.region ?_)))
 refine Tr.m rfl rfl rfl ?_
 refine Tr.eqi rfl rfl rfl rfl (decide_eq_true (rfl)) ?_
 refine Tr.m rfl rfl rfl ?_
 refine Tr.lA rfl rfl rfl Y27 rfl Sz27 mM (Kept.length (by first | exact oK  | exact exCert_ok _ _ | exact exCut_ok _ | exact B3 | exact ok16 | exact ok22 | exact ok27 | exact ⟨trivial⟩)) ?_
 refine Tr.build (cs := Kept.zero.cells) rfl rfl rfl (fun w => by kernel_rfl) ?_
 refine Tr.cV rfl rfl rfl rfl Body14 (kit_kept_same X16 Kept.zero dkz dkz_small) (fun w h => ⟨h16 w (Lies.of h iN), keptz_is w⟩) ?_
 refine Tr.pick rfl rfl rfl rfl rfl rfl ?_
 refine Tr.m rfl rfl rfl ?_
 refine Tr.m rfl rfl rfl ?_
 refine Tr.eqi rfl rfl rfl rfl (decide_eq_true (rfl)) ?_
 refine Tr.pick rfl rfl rfl rfl rfl rfl ?_
 refine Tr.m rfl rfl rfl ?_
 refine Tr.m rfl rfl rfl ?_
 refine Tr.eqi rfl rfl rfl rfl (decide_eq_true (ex_rec)) ?_
 refine Tr.pick rfl rfl rfl rfl rfl rfl ?_
 refine Tr.a rfl rfl rfl ?_
 refine Tr.nil (Aa (Sat.ret (Am ?_)))
 refine ⟨_, [], Ad rfl rfl, sP, sP, ?_, rfl⟩
 rfl

end Go.Proofs.YtdifpjmfabhpiaaGreat
end
