/- Contracts of functions of the loaded program, and the lemmas that they need (part 4). It proves no statement by itself; it has no conditions. -/
import Derived.WalkKit
import Derived.Orders
import Derived.Deep.LoopGhost
import Derived.IntWalk
import Derived.Laws.StructEq
import Derived.ArgAppend
import Derived.Deep.AppendSrc
import Derived.Lib.Bytealg
import Derived.Lib.BytesEntry
import Derived.Laws.IdiomStrings
import Derived.WideKeyArr2
import Derived.ProofKit
import Derived.OpenShut
import Derived.Deep.Slices
import Derived.Laws.Pointers
import Derived.Laws.Cover3
import Derived.LaidEqlPtr
import Derived.LoopN
import Derived.RangeFuncLeaves
import Derived.RangeFuncSeq
import Derived.OrdersIn
import Derived.Test.YtdifpjmfabhpiaaGreatRows
import Derived.KernelRfl
import Derived.Laws.Externs
import Derived.Defers
import Derived.Laws.MathBits
import Derived.ChangeOld
import Derived.Below
import Derived.Test.YtdifpjmfabhpiaaGreatKClD3
set_option maxRecDepth 100000
set_option maxHeartbeats 8000000
set_option linter.unusedVariables false
set_option linter.unusedSimpArgs false
section
namespace Go.Proofs.YtdifpjmfabhpiaaGreat
open Go Hw

theorem seesP_na0 {C : Cx} {hp : List Blk} {w : World} {p : Option Addr} {xs : List UInt8} {k : Nat} (h : HRep C hp w) (hs : SeesP C.W0 p (Aa xs)) (hl : xs.length = k) (hna : 0 < k → ∀ a, p = some a → a.block ∉ C.lent) : SeesP w p (Aa xs) := fun j v hj => by
  have h1 : j < (Aa xs).length := (List.getElem?_eq_some_iff.1 hj).1
  rw [Aa, List.length_map] at h1
  exact seesP_na h hs (hna oM) j v hj
def KB (n : Nat) (K : Kept) : Blk := ⟨n, K.cells, 27, 4⟩
theorem take_hrep {P : Program} {W : World} {N n : Nat} {K : Kept} {s : Sl} {bl : List Blk} {cells : List Value} {E : TypeId} {m size : Nat} (h : Hw.Acc s bl cells E m size) (hk : BlkOk W (KB n K)) (hl : Lies bl W) (hn : ∀ b ∈ bl, b.n ≠ n) : HRep ⟨P, W, N, n :: bl.map (·.n), [], []⟩ (KB n K :: (bl ++ [])) W := by
  rw [List.append_nil]
  have h1 := Acc.hrep (P := P) (N := N) h hl
  refine ⟨fun b hb => ?_, ?_, fun b hb => ?_, Keeps.refl _ _, fun _ h => (by cases h), fun _ _ _ h => (by cases h)⟩
  · rcases List.mem_cons.1 hb with rfl | hb
    · exact hk
    · exact hl b hb
  · refine List.nodup_cons.2 ⟨fun hm => ?_, h1.nodup⟩
    obtain ⟨b, hb, e⟩ := List.mem_map.1 hm
    exact hn b hb e
  · rcases List.mem_cons.1 hb with rfl | hb
    · exact .inr List.mem_cons_self
    · exact .inr (List.mem_cons_of_mem _ (List.mem_map.2 ⟨b, hb, rfl⟩))
theorem take_vote (n : Nat) (K : Kept) (hK : K.ok) (bl : List Blk) (rs : List Vote) (m : Nat) (hac : Hw.Acc K.fVotes bl (rs.map Vote.cells).flatten 81 m 132) (hm : m ≤ 100000) (p : Option Addr) (k c : Nat) (xs : List UInt8) (hl : xs.length = k) (hp : p = none → k = 0) (hk : k ≤ 90000) : Meets Tryz.prog 76 [ptr n 2, .slice p k c, .func (.func 77) #[] #[]] (n :: bl.map (·.n)) (fun W => BlkOk W (KB n K) ∧ Lies bl W ∧ SeesP W p (Aa xs) ∧ (0 < k → ∀ a, p = some a → a.block ∉ n :: bl.map (·.n)) ∧ ∀ b ∈ bl, b.n ≠ n) (fun v out => ∃ (s2 : Sl) (bl2 : List Blk), v = .bool (decide ((A1 xs).2 = 0)) ∧ ((¬ (A1 xs).2 = 0 ∧ out = KB n K :: (bl ++ [])) ∨ ((A1 xs).2 = 0 ∧ out = KB n { K with fVotes := s2 } :: (bl2 ++ []) ∧ Hw.Acc s2 bl2 ((rs ++ [(A1 xs).1]).map Vote.cells).flatten 81 (m + 1) 132))) := by
 intro W hW
 refine A3 (hp0 := KB n K :: (bl ++ [])) Tryz.func76 J 25 Tryz.ntmps76 J (take_hrep hac hW.1 hW.2.1 hW.2.2.2.2) (G9 ?_)
 refine .call4 J J J J J Body77 (vote_read p k c xs hl hp hk) (fun w h => seesP_na0 h hW.2.2.1 hl hW.2.2.2.1) ?_
 rintro v12 out12 ⟨rfl, rfl⟩
 refine G3 ?_
 refine .alloc (cs := Vote.zero.cells) J Vote.zr J ?_
 intro n7 hn7 hf7
 refine G11 ?_
 first
  | refine Sat.condP rfl (fun hc0 => ?_) (fun hc0 => ?_)
  | refine Sat.condNP rfl (fun hc0 => ?_) (fun hc0 => ?_)
  | refine Sat.cond rfl (fun hc0 => ?_) (fun hc0 => ?_)
 ·
  refine G8 ?_
  refine Ah (out := (KB n K :: (bl ++ []))) (Ad J J) (Ac rM (Ab sG Ae)) ?_
  exact ⟨Sl.nil, [], by simp; omega, .inl ⟨by omega, rfl⟩⟩
 refine G3 ?_
 refine .draw [(0, 0), (0, 1), (0, 2), (1, 3), (1, 4), (2, 5), (4, 6), (0, 7), (4, 8)] Ba zK (G3 ?_)
 refine .load1 J J J Y24.h J mM (Kept.get_fVotes hK) ?_
 refine G1 ?_
 refine .mkRow2 (z := agg Vote.zero.cells) [agg (A1 xs).1.cells] (A1 xs).1.cells J J Y24.h Sz81 Vote.zr J J (by intro v hv; rw [List.mem_singleton.1 hv]; exact Vote.length (Be _)) dE (by simp [Value.cells]) ?_
 intro q22
 refine .appendAcc (z := agg Vote.zero.cells) (by' := 160) ((A1 xs).1.cells) J J J J J Y24.h Y24.h Sz81 Zr81 (by unfold By; kernel_rfl) J hac sG (fun w h => SeesP.of (Aj h mM)) (fun e => by cases e) (Vote.isCell (Be _)) oM oM (by rw [Vote.length (Be _)]) ?_
 intro s23 bl23 hac23
 refine G1 ?_
 refine .s1 J J J J J Sz24 mM (by rw [Kept.length hK]; decide) (Kept.setS_fVotes hK _ _ _) uU ?_
 refine G9 ?_
 refine Ah (out := (KB n { K with fVotes := s23 } :: (bl23 ++ []))) (Ad J J) (Ac rM (Ab sG Ae)) ?_
 exact ⟨s23, bl23, by simp; omega, .inr ⟨by omega, rfl, by simpa using hac23⟩⟩
theorem take_cut (n : Nat) (K : Kept) (hK : K.ok) (bl : List Blk) (rs : List Cut) (m : Nat) (hac : Hw.Acc K.fCuts bl (rs.map Cut.cells).flatten 53 m 34) (hm : m ≤ 100000) (p : Option Addr) (k c : Nat) (xs : List UInt8) (hl : xs.length = k) (hp : p = none → k = 0) (hk : k ≤ 90000) : Meets Tryz.prog 78 [ptr n 3, .slice p k c, .func (.func 79) #[] #[]] (n :: bl.map (·.n)) (fun W => BlkOk W (KB n K) ∧ Lies bl W ∧ SeesP W p (Aa xs) ∧ (0 < k → ∀ a, p = some a → a.block ∉ n :: bl.map (·.n)) ∧ ∀ b ∈ bl, b.n ≠ n) (fun v out => ∃ (s2 : Sl) (bl2 o : List Blk) (X : Cut), v = .bool (decide ((Bk xs).2 = 0)) ∧ X.ok ∧ (∀ W2, Lies o W2 → CutIs W2 X (Bk xs).1) ∧ ((¬ (Bk xs).2 = 0 ∧ out = KB n K :: (bl ++ [])) ∨ ((Bk xs).2 = 0 ∧ out = KB n { K with fCuts := s2 } :: (bl2 ++ (o ++ [])) ∧ Hw.Acc s2 bl2 ((rs ++ [X]).map Cut.cells).flatten 53 (m + 1) 34))) := by
 intro W hW
 refine A3 (hp0 := KB n K :: (bl ++ [])) Tryz.func78 J 25 Tryz.ntmps78 J (take_hrep hac hW.1 hW.2.1 hW.2.2.2.2) (G9 ?_)
 refine .call4 J J J J J Body79 (cut_read p k c xs hl hp hk) (fun w h => seesP_na0 h hW.2.2.1 hl hW.2.2.2.1) ?_
 rintro v12 out12 ⟨C12, okC, rfl, hC12⟩
 refine G3 ?_
 refine .alloc (cs := Cut.zero.cells) J Cut.zr J ?_
 intro n7 hn7 hf7
 refine G11 ?_
 first
  | refine Sat.condP rfl (fun hc0 => ?_) (fun hc0 => ?_)
  | refine Sat.condNP rfl (fun hc0 => ?_) (fun hc0 => ?_)
  | refine Sat.cond rfl (fun hc0 => ?_) (fun hc0 => ?_)
 ·
  refine G8 ?_
  refine Ah (out := (KB n K :: (bl ++ []))) (Ad J J) (Ac rM (Ab sG Ae)) ?_
  exact ⟨Sl.nil, [], out12, C12, by simp; omega, okC, hC12, .inl ⟨by omega, rfl⟩⟩
 refine G3 ?_
 refine .draw [(0, 0), (0, 1), (0, 2), (1, 3), (1, 4), (2, 5), (4, 6), (0, 7), (4, 8)] Ba zK (G3 ?_)
 refine .load1 J J J Y25.h J mM (Kept.get_fCuts hK) ?_
 refine G1 ?_
 refine .mkRow2 (z := agg Cut.zero.cells) [agg C12.cells] C12.cells J J Y25.h Sz53 Cut.zr J J (by intro v hv; rw [List.mem_singleton.1 hv]; exact Cut.length okC) dE (by simp [Value.cells]) ?_
 intro q22
 refine .appendAcc (z := agg Cut.zero.cells) (by' := 64) (C12.cells) J J J J J Y25.h Y25.h Sz53 Zr53 (by unfold By; kernel_rfl) J hac sG (fun w h => SeesP.of (Aj h mM)) (fun e => by cases e) (Cut.isCell okC) oM oM (by rw [Cut.length okC]) ?_
 intro s23 bl23 hac23
 refine G1 ?_
 refine .s1 J J J J J Sz25 mM (by rw [Kept.length hK]; decide) (Kept.setS_fCuts hK _ _ _) uU ?_
 refine G9 ?_
 refine Ah (out := (KB n { K with fCuts := s23 } :: (bl23 ++ (out12 ++ [])))) (Ad J J) (Ac rM (Ab sG (Ab sG Ae))) ?_
 exact ⟨s23, bl23, out12, C12, by simp; omega, okC, hC12, .inr ⟨by omega, rfl, by simpa using hac23⟩⟩
theorem take_cert (n : Nat) (K : Kept) (hK : K.ok) (bl : List Blk) (rs : List Cert) (m : Nat) (hac : Hw.Acc K.fCerts bl (rs.map Cert.cells).flatten 55 m 35) (hm : m ≤ 100000) (p : Option Addr) (k c : Nat) (xs : List UInt8) (hl : xs.length = k) (hp : p = none → k = 0) (hk : k ≤ 90000) : Meets Tryz.prog 75 [ptr n 1, .slice p k c, .func (.func 29) #[] #[]] (n :: bl.map (·.n)) (fun W => BlkOk W (KB n K) ∧ Lies bl W ∧ SeesP W p (Aa xs) ∧ (0 < k → ∀ a, p = some a → a.block ∉ n :: bl.map (·.n)) ∧ ∀ b ∈ bl, b.n ≠ n) (fun v out => ∃ (s2 : Sl) (bl2 o : List Blk) (X : Cert), v = .bool (decide ((Bj xs).2 = 0)) ∧ X.ok ∧ (∀ W2, Lies o W2 → CertIs W2 X (Bj xs).1) ∧ ((¬ (Bj xs).2 = 0 ∧ out = KB n K :: (bl ++ [])) ∨ ((Bj xs).2 = 0 ∧ out = KB n { K with fCerts := s2 } :: (bl2 ++ (o ++ [])) ∧ Hw.Acc s2 bl2 ((rs ++ [X]).map Cert.cells).flatten 55 (m + 1) 35))) := by
 intro W hW
 refine A3 (hp0 := KB n K :: (bl ++ [])) Tryz.func75 J 25 Tryz.ntmps75 J (take_hrep hac hW.1 hW.2.1 hW.2.2.2.2) (G9 ?_)
 refine .call4 J J J J J Body29 (cert_read p k c xs hl hp hk) (fun w h => seesP_na0 h hW.2.2.1 hl hW.2.2.2.1) ?_
 rintro v12 out12 ⟨C12, okC, rfl, hC12⟩
 refine G3 ?_
 refine .alloc (cs := Cert.zero.cells) J Cert.zr J ?_
 intro n7 hn7 hf7
 refine G11 ?_
 first
  | refine Sat.condP rfl (fun hc0 => ?_) (fun hc0 => ?_)
  | refine Sat.condNP rfl (fun hc0 => ?_) (fun hc0 => ?_)
  | refine Sat.cond rfl (fun hc0 => ?_) (fun hc0 => ?_)
 ·
  refine G8 ?_
  refine Ah (out := (KB n K :: (bl ++ []))) (Ad J J) (Ac rM (Ab sG Ae)) ?_
  exact ⟨Sl.nil, [], out12, C12, by simp; omega, okC, hC12, .inl ⟨by omega, rfl⟩⟩
 refine G3 ?_
 refine .draw [(0, 0), (0, 1), (0, 2), (1, 3), (1, 4), (2, 5), (4, 6), (0, 7), (4, 8)] Ba zK (G3 ?_)
 refine .load1 J J J Y23.h J mM (Kept.get_fCerts hK) ?_
 refine G1 ?_
 refine .mkRow2 (z := agg Cert.zero.cells) [agg C12.cells] C12.cells J J Y23.h Sz55 Cert.zr J J (by intro v hv; rw [List.mem_singleton.1 hv]; exact Cert.length okC) dE (by simp [Value.cells]) ?_
 intro q22
 refine .appendAcc (z := agg Cert.zero.cells) (by' := 88) (C12.cells) J J J J J Y23.h Y23.h Sz55 Zr55 (by unfold By; kernel_rfl) J hac sG (fun w h => SeesP.of (Aj h mM)) (fun e => by cases e) (Cert.isCell okC) oM oM (by rw [Cert.length okC]) ?_
 intro s23 bl23 hac23
 refine G1 ?_
 refine .s1 J J J J J Sz23 mM (by rw [Kept.length hK]; decide) (Kept.setS_fCerts hK _ _ _) uU ?_
 refine G9 ?_
 refine Ah (out := (KB n { K with fCerts := s23 } :: (bl23 ++ (out12 ++ [])))) (Ad J J) (Ac rM (Ab sG (Ab sG Ae))) ?_
 exact ⟨s23, bl23, out12, C12, by simp; omega, okC, hC12, .inr ⟨by omega, rfl, by simpa using hac23⟩⟩
theorem take_block (n : Nat) (K : Kept) (hK : K.ok) (bl : List Blk) (rs : List Block) (m : Nat) (hac : Hw.Acc K.fBlocks bl (rs.map Block.cells).flatten 79 m 131) (hm : m ≤ 100000) (p : Option Addr) (k c : Nat) (xs : List UInt8) (hl : xs.length = k) (hp : p = none → k = 0) (hk : k ≤ 90000) : Meets Tryz.prog 73 [ptr n 0, .slice p k c, .func (.func 74) #[] #[]] (n :: bl.map (·.n)) (fun W => BlkOk W (KB n K) ∧ Lies bl W ∧ SeesP W p (Aa xs) ∧ (0 < k → ∀ a, p = some a → a.block ∉ n :: bl.map (·.n)) ∧ ∀ b ∈ bl, b.n ≠ n) (fun v out => ∃ (s2 : Sl) (bl2 o : List Blk) (X : Block), v = .bool (decide ((B3 xs).2 = 0)) ∧ X.ok ∧ (∀ W2, Lies o W2 → BlockIs W2 X (B3 xs).1) ∧ ((¬ (B3 xs).2 = 0 ∧ out = KB n K :: (bl ++ [])) ∨ ((B3 xs).2 = 0 ∧ out = KB n { K with fBlocks := s2 } :: (bl2 ++ (o ++ [])) ∧ Hw.Acc s2 bl2 ((rs ++ [X]).map Block.cells).flatten 79 (m + 1) 131))) := by
 intro W hW
 refine A3 (hp0 := KB n K :: (bl ++ [])) Tryz.func73 J 25 Tryz.ntmps73 J (take_hrep hac hW.1 hW.2.1 hW.2.2.2.2) (G9 ?_)
 refine .call4 J J J J J Body74 (block_read p k c xs hl hp hk) (fun w h => seesP_na0 h hW.2.2.1 hl hW.2.2.2.1) ?_
 rintro v12 out12 ⟨C12, okC, rfl, hC12⟩
 refine G3 ?_
 refine .alloc (cs := Block.zero.cells) J Block.zr J ?_
 intro n7 hn7 hf7
 refine G11 ?_
 first
  | refine Sat.condP rfl (fun hc0 => ?_) (fun hc0 => ?_)
  | refine Sat.condNP rfl (fun hc0 => ?_) (fun hc0 => ?_)
  | refine Sat.cond rfl (fun hc0 => ?_) (fun hc0 => ?_)
 ·
  refine G8 ?_
  refine Ah (out := (KB n K :: (bl ++ []))) (Ad J J) (Ac rM (Ab sG Ae)) ?_
  exact ⟨Sl.nil, [], out12, C12, by simp; omega, okC, hC12, .inl ⟨by omega, rfl⟩⟩
 refine G3 ?_
 refine .draw [(0, 0), (0, 1), (0, 2), (1, 3), (1, 4), (2, 5), (4, 6), (0, 7), (4, 8)] Ba zK (G3 ?_)
 refine .load1 J J J Y22.h J mM (Kept.get_fBlocks hK) ?_
 refine G1 ?_
 refine .mkRow2 (z := agg Block.zero.cells) [agg C12.cells] C12.cells J J Y22.h Sz79 Block.zr J J (by intro v hv; rw [List.mem_singleton.1 hv]; exact Block.length okC) dE (by simp [Value.cells]) ?_
 intro q22
 refine .appendAcc (z := agg Block.zero.cells) (by' := 184) (C12.cells) J J J J J Y22.h Y22.h Sz79 Zr79 (by unfold By; kernel_rfl) J hac sG (fun w h => SeesP.of (Aj h mM)) (fun e => by cases e) (Block.isCell okC) oM oM (by rw [Block.length okC]) ?_
 intro s23 bl23 hac23
 refine G1 ?_
 refine .s1 J J J J J Sz22 mM (by rw [Kept.length hK]; decide) (Kept.setS_fBlocks hK _ _ _) uU ?_
 refine G9 ?_
 refine Ah (out := (KB n { K with fBlocks := s23 } :: (bl23 ++ (out12 ++ [])))) (Ad J J) (Ac rM (Ab sG (Ab sG Ae))) ?_
 exact ⟨s23, bl23, out12, C12, by simp; omega, okC, hC12, .inr ⟨by omega, rfl, by simpa using hac23⟩⟩

def dkz : DKept := ⟨[], [], [], []⟩
noncomputable def B5 (D : DKept) (r : DRecord) : Option DKept :=
  if r.dKind = 1 then (if (B3 r.dData).2 = 0 then some { D with dBlocks := D.dBlocks ++ [(B3 r.dData).1] } else none)
  else if r.dKind = 2 then (if (Bj r.dData).2 = 0 then some { D with dCerts := D.dCerts ++ [(Bj r.dData).1] } else none)
  else if r.dKind = 3 then (if (A1 r.dData).2 = 0 then some { D with dVotes := D.dVotes ++ [(A1 r.dData).1] } else none)
  else if r.dKind = 4 then (if (Bk r.dData).2 = 0 then some { D with dCuts := D.dCuts ++ [(Bk r.dData).1] } else none)
  else none
noncomputable def keepR (ds : List DRecord) : Option DKept := ds.foldl (fun o r => o.bind fun D => B5 D r) (some dkz)
noncomputable def keepRd (ds : List DRecord) : DKept × Int := match keepR ds with
  | some D => if inOrd D.dCerts = true then (D, 0) else (dkz, 4)
  | none => (dkz, 4)
theorem keepR_nil : keepR [] = some dkz := rfl
theorem keepR_snoc (l : List DRecord) (d : DRecord) : keepR (l ++ [d]) = (keepR l).bind fun D => B5 D d := by simp [keepR, List.foldl_append]
theorem fold_none (l : List DRecord) : l.foldl (fun o r => o.bind fun D => B5 D r) none = none := by
  induction l with
  | nil => rfl
  | cons a l ih => exact ih
theorem keepR_none {ds : List DRecord} {j : Nat} (h : keepR (ds.take j) = none) : keepR ds = none := by
  have e : keepR ds = keepR (ds.take j ++ ds.drop j) := by rw [List.take_append_drop]
  rw [e, keepR, List.foldl_append]
  have h' : (ds.take j).foldl (fun o r => o.bind fun D => B5 D r) (some dkz) = none := h
  rw [h', fold_none]
theorem keepR_step {ds : List DRecord} {k : Nat} {d : DRecord} (h : ds[k]? = some d) {D : DKept} (hD : keepR (ds.take k) = some D) : keepR (ds.take (k + 1)) = B5 D d := by
  rw [take_snoc h, keepR_snoc, hD]; rfl
theorem keepRd_bad {ds : List DRecord} (h : keepR ds = none) : keepRd ds = (dkz, 4) := by rw [keepRd, h]
theorem keepRd_ord {ds : List DRecord} {D : DKept} (h : keepR ds = some D) (h2 : inOrd D.dCerts = false) : keepRd ds = (dkz, 4) := by simp only [keepRd, h, h2]; rfl
theorem keepRd_ok {ds : List DRecord} {D : DKept} (h : keepR ds = some D) (h2 : inOrd D.dCerts = true) : keepRd ds = (D, 0) := by simp only [keepRd, h, h2]; rfl
def KeepRead (ds : List DRecord) (v : Value) (out : List Blk) : Prop := ∃ X : Kept, X.ok ∧ v = .tuple #[agg X.cells, i64 (keepRd ds).2] ∧ ∀ W2, Lies out W2 → KeptIs W2 X (keepRd ds).1
theorem keptz_is (W : World) : KeptIs W Kept.zero dkz := ⟨Kept.zero_ok, ⟨[], SeqIs.none⟩, ⟨[], SeqIs.none⟩, ⟨[], SeqIs.none⟩, ⟨[], SeqIs.none⟩⟩
theorem keep_bad {ds : List DRecord} {out : List Blk} (h : keepRd ds = (dkz, 4)) : KeepRead ds (.tuple #[agg Kept.zero.cells, i64 4]) out :=
  ⟨Kept.zero, Kept.zero_ok, by rw [h], fun W2 _ => by rw [h]; exact keptz_is W2⟩
structure KSt where
  i : Nat
  K : Kept
  D : DKept
  m1 : Nat
  m2 : Nat
  m3 : Nat
  m4 : Nat
  b1 : List Blk
  o1 : List Blk
  r1 : List Block
  b2 : List Blk
  o2 : List Blk
  r2 : List Cert
  b3 : List Blk
  r3 : List Vote
  b4 : List Blk
  o4 : List Blk
  r4 : List Cut
structure KInv (ds : List DRecord) (p : KSt) : Prop where
  fold : keepR (ds.take p.i) = some p.D
  ok : p.K.ok
  q1 : OwnSeq Block.cells 131 BlockIs 79 p.K.fBlocks p.b1 p.o1 p.r1 p.D.dBlocks p.m1
  q2 : OwnSeq Cert.cells 35 CertIs 55 p.K.fCerts p.b2 p.o2 p.r2 p.D.dCerts p.m2
  q3 : OwnSeq Vote.cells 132 VoteIs 81 p.K.fVotes p.b3 [] p.r3 p.D.dVotes p.m3
  q4 : OwnSeq Cut.cells 34 CutIs 53 p.K.fCuts p.b4 p.o4 p.r4 p.D.dCuts p.m4
  le : p.m1 ≤ p.i ∧ p.m2 ≤ p.i ∧ p.m3 ≤ p.i ∧ p.m4 ≤ p.i
def ks0 : KSt := ⟨0, Kept.zero, dkz, 0, 0, 0, 0, [], [], [], [], [], [], [], [], [], [], []⟩
theorem KInv.first (ds : List DRecord) : KInv ds ks0 := ⟨rfl, Kept.zero_ok, OwnSeq.none, OwnSeq.none, OwnSeq.none, OwnSeq.none, ⟨Nat.le_refl _, Nat.le_refl _, Nat.le_refl _, Nat.le_refl _⟩⟩
theorem uniO {A : Prop} {n : Nat} {K K' : Kept} {bl bl2 o out : List Blk} {Q : Prop} (h : (¬ A ∧ out = KB n K :: (bl ++ [])) ∨ (A ∧ out = KB n K' :: (bl2 ++ (o ++ [])) ∧ Q)) : ∃ K2 bl3 o3, out = KB n K2 :: (bl3 ++ (o3 ++ [])) ∧ (A → K2 = K' ∧ bl3 = bl2 ∧ o3 = o ∧ Q) := by
  rcases h with ⟨h, rfl⟩ | ⟨h, rfl, q⟩
  · exact ⟨K, bl, [], by simp, fun a => absurd a h⟩
  · exact ⟨K', bl2, o, rfl, fun _ => ⟨rfl, rfl, rfl, q⟩⟩
theorem uniV {A : Prop} {n : Nat} {K K' : Kept} {bl bl2 out : List Blk} {Q : Prop} (h : (¬ A ∧ out = KB n K :: (bl ++ [])) ∨ (A ∧ out = KB n K' :: (bl2 ++ []) ∧ Q)) : ∃ K2 bl3, out = KB n K2 :: (bl3 ++ []) ∧ (A → K2 = K' ∧ bl3 = bl2 ∧ Q) := by
  rcases h with ⟨h, rfl⟩ | ⟨h, rfl, q⟩
  · exact ⟨K, bl, rfl, fun a => absurd a h⟩
  · exact ⟨K', bl2, rfl, fun _ => ⟨rfl, rfl, q⟩⟩
theorem seesP_lt {W : World} {p : Option Addr} {xs : List UInt8} (hs : SeesP W p (Aa xs)) (h : 0 < xs.length) {a : Addr} (ha : p = some a) : a.block < W.heap.size := by
  cases xs with
  | nil => simp at h
  | cons x xs =>
    obtain ⟨b, o, e, hc⟩ := hs 0 (u8 x) rfl
    rw [ha] at e
    obtain rfl : a = ⟨b, o, none⟩ := Option.some.inj e
    rcases Nat.lt_or_ge b W.heap.size with h1 | h1
    · exact h1
    · exact absurd hc (by rw [World.cell?]; simp [Array.getElem?_eq_none h1])
theorem take_pre {C : Cx} {hp R bl : List Blk} {w : World} {n : Nat} {K : Kept} {s : Sl} {xs : List UInt8} (h : HRep C hp w) (hl : C.lent = []) (hb : BytesAt C.W0 s xs) (hp' : hp.Perm ((KB n K :: bl) ++ R)) :
    BlkOk w (KB n K) ∧ Lies bl w ∧ SeesP w s.p (Aa xs) ∧ (0 < s.n → ∀ a, s.p = some a → a.block ∉ n :: bl.map (·.n)) ∧ ∀ b ∈ bl, b.n ≠ n := by
  have hK : KB n K ∈ hp := hp'.mem_iff.2 sP
  have hB : ∀ b ∈ bl, b ∈ hp := fun b hb => hp'.mem_iff.2 (by simp [hb])
  have own : ∀ b ∈ hp, C.W0.heap.size ≤ b.n := fun b hb => by
    rcases h.own b hb with h1 | h1
    · exact h1
    · rw [hl] at h1; cases h1
  have nd := ((hp'.map (·.n)).nodup_iff.1 h.nodup)
  rw [List.cons_append, List.map_cons, List.nodup_cons] at nd
  refine ⟨h.cells _ hK, Lies.of h hB, Ao h hl hb.see, fun h0 a ha hm => ?_, fun b hb e => nd.1 ?_⟩
  · have h1 := seesP_lt hb.see (by rw [hb.len]; exact h0) ha
    rcases List.mem_cons.1 hm with e | hm
    · have := own _ hK
      simp only [KB] at this
      omega
    · obtain ⟨b, hb, e⟩ := List.mem_map.1 hm
      have := own b (hB b hb)
      omega
  · exact List.mem_map.2 ⟨b, List.mem_append_left _ hb, e⟩
theorem KInv.end' {ds : List DRecord} {p : KSt} (h : KInv ds p) (hi : ds.length ≤ p.i) (hs : p.i ≤ 100000) (ho : inOrd p.D.dCerts = true) {W2 : World} (l1 : Lies p.b1 W2) (l2 : Lies p.o1 W2) (l3 : Lies p.b2 W2) (l4 : Lies p.o2 W2) (l5 : Lies p.b3 W2) (l6 : Lies p.b4 W2) (l7 : Lies p.o4 W2) : KeptIs W2 p.K (keepRd ds).1 := by
  have hf := h.fold
  rw [List.take_of_length_le hi] at hf
  rw [keepRd_ok hf ho]
  have := h.le
  exact ⟨h.ok, ⟨_, h.q1.seq l1 l2 oM⟩, ⟨_, h.q2.seq l3 l4 oM⟩, ⟨_, h.q3.seq l5 (fun b hb => (by cases hb)) oM⟩, ⟨_, h.q4.seq l6 l7 oM⟩⟩

def JI (ds : List DRecord) (i : Nat) (pb : Bool × KSt) : Prop := (pb.1 = true → KInv ds pb.2 ∧ pb.2.i = i + 1) ∧ (pb.1 = false → keepR ds = none)
theorem KInv.fail {ds : List DRecord} {p : KSt} {d : DRecord} (h : KInv ds p) (hd : ds[p.i]? = some d) (h1 : d.dKind = 1 → ¬ (B3 d.dData).2 = 0) (h2 : d.dKind = 2 → ¬ (Bj d.dData).2 = 0) (h3 : d.dKind = 3 → ¬ (A1 d.dData).2 = 0) (h4 : d.dKind = 4 → ¬ (Bk d.dData).2 = 0) : keepR ds = none := by
  refine keepR_none (j := p.i + 1) ?_
  rw [keepR_step hd h.fold, B5]
  split
  · rename_i e; rw [if_neg (h1 e)]
  · split
    · rename_i e; rw [if_neg (h2 e)]
    · split
      · rename_i e; rw [if_neg (h3 e)]
      · split
        · rename_i e; rw [if_neg (h4 e)]
        · rfl
theorem kind_of {x y : UInt8} {n : Nat} (h : x = y) (hn : n < 256) (e : (x.toNat : Int) = n) : y = UInt8.ofNat n := by
  subst h
  refine UInt8.toNat_inj.1 ?_
  rw [UInt8.toNat_ofNat', Nat.mod_eq_of_lt oM]; omega
theorem kind_no {x y : UInt8} {n : Nat} (h : x = y) (hn : n < 256) (e : ¬ (x.toNat : Int) = n) : ¬ y = UInt8.ofNat n := fun h2 => by
  subst h
  rw [h2, UInt8.toNat_ofNat', Nat.mod_eq_of_lt oM] at e
  exact e rfl
theorem voteRd_is (xs : List UInt8) (W : World) : VoteIs W (A1 xs).1 (A1 xs).1 := ⟨(voteRd_good xs).ok, rfl, (voteRd_good xs).wf⟩
theorem KInv.skip {ds : List DRecord} {p : KSt} {d : DRecord} (h : KInv ds p) (hd : ds[p.i]? = some d) (h1 : ¬ d.dKind = 1) (h2 : ¬ d.dKind = 2) (h3 : ¬ d.dKind = 3) (h4 : ¬ d.dKind = 4) : JI ds p.i (false, p) :=
  ⟨fun e => (by cases e), fun _ => h.fail hd (fun e => absurd e h1) (fun e => absurd e h2) (fun e => absurd e h3) (fun e => absurd e h4)⟩

theorem KInv.j1 {ds : List DRecord} {p : KSt} {d : DRecord} (h : KInv ds p) (hd : ds[p.i]? = some d) (hk : d.dKind = 1) {K2 : Kept} {s2 : Sl} {b3 o3 bl2 o2 : List Blk} {X : Block} (hX : ∀ W2, Lies o2 W2 → BlockIs W2 X (B3 d.dData).1) (hlen : X.cells.length = 131)
    (hg : (B3 d.dData).2 = 0 → K2 = { p.K with fBlocks := s2 } ∧ b3 = bl2 ∧ o3 = o2 ∧ Hw.Acc s2 bl2 ((p.r1 ++ [X]).map Block.cells).flatten 79 (p.m1 + 1) 131) :
    JI ds p.i (decide ((B3 d.dData).2 = 0), { p with i := p.i + 1, K := K2, D := { p.D with dBlocks := p.D.dBlocks ++ [(B3 d.dData).1] }, m1 := p.m1 + 1, b1 := b3, o1 := o3 ++ p.o1, r1 := p.r1 ++ [X] }) := by
  refine ⟨fun e => ?_, fun e => h.fail hd (fun _ => of_decide_eq_false e) (fun e => absurd (hk.symm.trans e) dE) (fun e => absurd (hk.symm.trans e) dE) (fun e => absurd (hk.symm.trans e) dE)⟩
  have hz : (B3 d.dData).2 = 0 := of_decide_eq_true e
  obtain ⟨rfl, rfl, rfl, ha⟩ := hg hz
  have hle := h.le
  have hs : OwnSeq Block.cells 131 BlockIs 79 s2 b3 (o3 ++ p.o1) (p.r1 ++ [X]) (p.D.dBlocks ++ [(B3 d.dData).1]) (p.m1 + 1) := h.q1.snoc (by simpa using ha) hlen hX
  refine ⟨⟨?_, ⟨trivial⟩, hs, h.q2, h.q3, h.q4, by simp only []; omega⟩, rfl⟩
  show keepR (ds.take (p.i + 1)) = _
  rw [keepR_step hd h.fold, B5, if_pos hk, if_pos hz]
theorem KInv.j2 {ds : List DRecord} {p : KSt} {d : DRecord} (h : KInv ds p) (hd : ds[p.i]? = some d) (hk : d.dKind = 2) {K2 : Kept} {s2 : Sl} {b3 o3 bl2 o2 : List Blk} {X : Cert} (hX : ∀ W2, Lies o2 W2 → CertIs W2 X (Bj d.dData).1) (hlen : X.cells.length = 35)
    (hg : (Bj d.dData).2 = 0 → K2 = { p.K with fCerts := s2 } ∧ b3 = bl2 ∧ o3 = o2 ∧ Hw.Acc s2 bl2 ((p.r2 ++ [X]).map Cert.cells).flatten 55 (p.m2 + 1) 35) :
    JI ds p.i (decide ((Bj d.dData).2 = 0), { p with i := p.i + 1, K := K2, D := { p.D with dCerts := p.D.dCerts ++ [(Bj d.dData).1] }, m2 := p.m2 + 1, b2 := b3, o2 := o3 ++ p.o2, r2 := p.r2 ++ [X] }) := by
  refine ⟨fun e => ?_, fun e => h.fail hd (fun e => absurd (hk.symm.trans e) dE) (fun _ => of_decide_eq_false e) (fun e => absurd (hk.symm.trans e) dE) (fun e => absurd (hk.symm.trans e) dE)⟩
  have hz : (Bj d.dData).2 = 0 := of_decide_eq_true e
  obtain ⟨rfl, rfl, rfl, ha⟩ := hg hz
  have hle := h.le
  have hs : OwnSeq Cert.cells 35 CertIs 55 s2 b3 (o3 ++ p.o2) (p.r2 ++ [X]) (p.D.dCerts ++ [(Bj d.dData).1]) (p.m2 + 1) := h.q2.snoc (by simpa using ha) hlen hX
  refine ⟨⟨?_, ⟨trivial⟩, h.q1, hs, h.q3, h.q4, by simp only []; omega⟩, rfl⟩
  show keepR (ds.take (p.i + 1)) = _
  rw [keepR_step hd h.fold, B5, if_neg (by rw [hk]; decide), if_pos hk, if_pos hz]
theorem KInv.j3 {ds : List DRecord} {p : KSt} {d : DRecord} (h : KInv ds p) (hd : ds[p.i]? = some d) (hk : d.dKind = 3) {K2 : Kept} {s2 : Sl} {b3 bl2 : List Blk} {X : Vote} (hX : ∀ W2, Lies [] W2 → VoteIs W2 X (A1 d.dData).1) (hlen : X.cells.length = 132)
    (hg : (A1 d.dData).2 = 0 → K2 = { p.K with fVotes := s2 } ∧ b3 = bl2 ∧ Hw.Acc s2 bl2 ((p.r3 ++ [X]).map Vote.cells).flatten 81 (p.m3 + 1) 132) :
    JI ds p.i (decide ((A1 d.dData).2 = 0), { p with i := p.i + 1, K := K2, D := { p.D with dVotes := p.D.dVotes ++ [(A1 d.dData).1] }, m3 := p.m3 + 1, b3 := b3, r3 := p.r3 ++ [X] }) := by
  refine ⟨fun e => ?_, fun e => h.fail hd (fun e => absurd (hk.symm.trans e) dE) (fun e => absurd (hk.symm.trans e) dE) (fun _ => of_decide_eq_false e) (fun e => absurd (hk.symm.trans e) dE)⟩
  have hz : (A1 d.dData).2 = 0 := of_decide_eq_true e
  obtain ⟨rfl, rfl, ha⟩ := hg hz
  have hle := h.le
  have hs : OwnSeq Vote.cells 132 VoteIs 81 s2 b3 ([] ++ []) (p.r3 ++ [X]) (p.D.dVotes ++ [(A1 d.dData).1]) (p.m3 + 1) := h.q3.snoc (by simpa using ha) hlen hX
  refine ⟨⟨?_, ⟨trivial⟩, h.q1, h.q2, hs, h.q4, by simp only []; omega⟩, rfl⟩
  show keepR (ds.take (p.i + 1)) = _
  rw [keepR_step hd h.fold, B5, if_neg (by rw [hk]; decide), if_neg (by rw [hk]; decide), if_pos hk, if_pos hz]
theorem KInv.j4 {ds : List DRecord} {p : KSt} {d : DRecord} (h : KInv ds p) (hd : ds[p.i]? = some d) (hk : d.dKind = 4) {K2 : Kept} {s2 : Sl} {b3 o3 bl2 o2 : List Blk} {X : Cut} (hX : ∀ W2, Lies o2 W2 → CutIs W2 X (Bk d.dData).1) (hlen : X.cells.length = 34)
    (hg : (Bk d.dData).2 = 0 → K2 = { p.K with fCuts := s2 } ∧ b3 = bl2 ∧ o3 = o2 ∧ Hw.Acc s2 bl2 ((p.r4 ++ [X]).map Cut.cells).flatten 53 (p.m4 + 1) 34) :
    JI ds p.i (decide ((Bk d.dData).2 = 0), { p with i := p.i + 1, K := K2, D := { p.D with dCuts := p.D.dCuts ++ [(Bk d.dData).1] }, m4 := p.m4 + 1, b4 := b3, o4 := o3 ++ p.o4, r4 := p.r4 ++ [X] }) := by
  refine ⟨fun e => ?_, fun e => h.fail hd (fun e => absurd (hk.symm.trans e) dE) (fun e => absurd (hk.symm.trans e) dE) (fun e => absurd (hk.symm.trans e) dE) (fun _ => of_decide_eq_false e)⟩
  have hz : (Bk d.dData).2 = 0 := of_decide_eq_true e
  obtain ⟨rfl, rfl, rfl, ha⟩ := hg hz
  have hle := h.le
  have hs : OwnSeq Cut.cells 34 CutIs 53 s2 b3 (o3 ++ p.o4) (p.r4 ++ [X]) (p.D.dCuts ++ [(Bk d.dData).1]) (p.m4 + 1) := h.q4.snoc (by simpa using ha) hlen hX
  refine ⟨⟨?_, ⟨trivial⟩, h.q1, h.q2, h.q3, hs, by simp only []; omega⟩, rfl⟩
  show keepR (ds.take (p.i + 1)) = _
  rw [keepR_step hd h.fold, B5, if_neg (by rw [hk]; decide), if_neg (by rw [hk]; decide), if_neg (by rw [hk]; decide), if_pos hk, if_pos hz]

theorem keep_read (s : Sl) (ds : List DRecord) (hsn : s.n ≤ 1000) (hsm : ∀ d ∈ ds, d.dData.length ≤ 90000) : Meets Tryz.prog 13 [s.v] [] (fun W => RecordsAt W s ds) (KeepRead ds) := by
 intro W hW
 obtain ⟨rs, hs⟩ := hW
 have hnd := hs.nd
 refine Ag Tryz.func13 J 50 Tryz.ntmps13 J (G2 ?_)
 refine .alloc (cs := Kept.zero.cells) J Kept.zr J ?_
 intro n2 hn2 hf2
 refine G5 ?_
 refine .alloc (cs := Kept.zero.cells) J Kept.zr J ?_
 intro n4 hn4 hf4
 refine G11 ?_
 refine .loop (ι := KSt) (fun p => ⟨[(2, ptr n2 0), (4, ptr n4 0), (8, s.v), (9, i64 (s.n : Int)), (10, i64 (p.i : Int))], (⟨n2, Kept.zero.cells, 27, 4⟩ :: (KB n4 p.K :: (p.b1 ++ (p.o1 ++ (p.b2 ++ (p.o2 ++ (p.b3 ++ (p.b4 ++ (p.o4 ++ [])))))))))⟩) (fun p => KInv ds p ∧ p.i ≤ s.n) (fun p => s.n - p.i) (ks0) ?_ ?_ ?_
 · exact ⟨KInv.first ds, Nat.zero_le _⟩
 · exact Af (wk1 rfl (wk1 rfl (wk1 rfl (wk1 rfl (wk1 rfl wk0))))) (Ac rM (Ac rM (Bh (Bh (Bh (Bh (Bh (Bh (Bh Ae)))))))))
 rintro p ⟨hi, hile⟩
 obtain ⟨i, K, D, m1, m2, m3, m4, b1, o1, r1, b2, o2, r2, b3, r3, b4, o4, r4⟩ := p
 have hle := hi.le
 dsimp only at hile hle ⊢
 refine G6 ?_
 first
  | refine Sat.condP rfl (fun hc0 => ?_) (fun hc0 => ?_)
  | refine Sat.condNP rfl (fun hc0 => ?_) (fun hc0 => ?_)
  | refine Sat.cond rfl (fun hc0 => ?_) (fun hc0 => ?_)
 ·
  have hk0 : i < s.n := by omega
  obtain ⟨b, o, r, d, hsp, hr, hd, his, hlen, hsee⟩ := hs.at dE hk0
  refine G6 ?_
  refine .idxSlP 2 J J J hsp J Y28.h Sz91 i J oM (.loadEN r.cells J J J Y91.h J Sz91 sP hlen hsee (.alloc (cs := Record.zero.cells) J Record.zr J ?_))
  intro n6 hn6 hf6
  refine G8 ?_
  refine .join (ι := Bool × KSt) (fun pj => ⟨[(2, ptr n2 0), (4, ptr n4 0), (7, .bool pj.1), (8, s.v), (9, i64 (s.n : Int)), (10, i64 (i : Int))], (⟨n2, Kept.zero.cells, 27, 4⟩ :: (KB n4 pj.2.K :: (pj.2.b1 ++ (pj.2.o1 ++ (pj.2.b2 ++ (pj.2.o2 ++ (pj.2.b3 ++ (pj.2.b4 ++ (pj.2.o4 ++ [])))))))))⟩) (fun pj => JI ds i pj) ?_ ?_
  ·
   refine G3 ?_
   refine .load1 J J J Y5.h J mM (by first | exact Record.get_fKind (by first | exact oK  | exact his.ok | exact hi.ok) | exact vL) ?_
   refine G9 ?_
   first
    | refine Sat.condP rfl (fun hc1 => ?_) (fun hc1 => ?_)
    | refine Sat.condNP rfl (fun hc1 => ?_) (fun hc1 => ?_)
    | refine Sat.cond rfl (fun hc1 => ?_) (fun hc1 => ?_)
   ·
    have hk1 : d.dKind = 1 := kind_of (n := 1) his.fKind dE hc1
    refine G3 ?_
    refine .load1 J J J Y58.h J mM (by first | exact Record.get_fData (by first | exact oK  | exact his.ok | exact hi.ok) | exact vL) ?_
    refine .callL (L := KB n4 K :: b1) J J J J J Body73 (take_block n4 K hi.ok b1 r1 m1 hi.q1.acc oM r.fData.p r.fData.n r.fData.c d.dData his.fData.len (fun e => by have := his.fData.nil e; have := his.fData.cap; omega) (by rw [← his.fData.len]; exact hsm d (List.mem_of_getElem? hd))) (Ac rM sG) (Ay J) (fun w h => take_pre h J his.fData (Ac rM sG)) ?_
    rintro v21 out21 ⟨s21, bl21, o21, X21, rfl, okX, hX, hor⟩
    obtain ⟨K21, b21, p21, rfl, hgd⟩ := uniO hor
    simp only [List.cons_append, List.append_assoc, List.nil_append]
    refine G4 ?_
    first
     | exact ⟨(decide ((B3 d.dData).2 = 0), ⟨i + 1, K21, { D with dBlocks := D.dBlocks ++ [(B3 d.dData).1] }, m1 + 1, m2, m3, m4, b21, p21 ++ o1, r1 ++ [X21], b2, o2, r2, b3, r3, b4, o4, r4⟩), hi.j1 hd hk1 hX (Block.length okX) hgd, Af (wk1 rfl (wk1 rfl (wk1 rfl (wk1 rfl (wk1 rfl (wk1 rfl wk0)))))) (Ac rM (Ac rM (Ab sG (Br (Ab sG (Ab sG (Ab sG (Ab sG (Ab sG (Ab sG (Ab sG Ae)))))))))))⟩
     | exact ⟨(decide ((Bj d.dData).2 = 0), ⟨i + 1, K27, { D with dCerts := D.dCerts ++ [(Bj d.dData).1] }, m1, m2 + 1, m3, m4, b1, o1, r1, b27, p27 ++ o2, r2 ++ [X27], b3, r3, b4, o4, r4⟩), hi.j2 hd hk2 hX (Cert.length okX) hgd, Af (wk1 rfl (wk1 rfl (wk1 rfl (wk1 rfl (wk1 rfl (wk1 rfl wk0)))))) (Ac rM (Ac rM (Ab sG (Ab sG (Ab sG (Br (Ab sG (Ab sG (Ab sG (Ab sG (Ab sG Ae)))))))))))⟩
     | exact ⟨(decide ((A1 d.dData).2 = 0), ⟨i + 1, K33, { D with dVotes := D.dVotes ++ [(A1 d.dData).1] }, m1, m2, m3 + 1, m4, b1, o1, r1, b2, o2, r2, b33, r3 ++ [(A1 d.dData).1], b4, o4, r4⟩), hi.j3 hd hk3 (fun W2 _ => voteRd_is _ W2) (Vote.length (Be _)) hgd, Af (wk1 rfl (wk1 rfl (wk1 rfl (wk1 rfl (wk1 rfl (wk1 rfl wk0)))))) (Ac rM (Ac rM (Ab sG (Ab sG (Ab sG (Ab sG (Ab sG (Ab sG (Ab sG Ae)))))))))⟩
     | exact ⟨(decide ((Bk d.dData).2 = 0), ⟨i + 1, K39, { D with dCuts := D.dCuts ++ [(Bk d.dData).1] }, m1, m2, m3, m4 + 1, b1, o1, r1, b2, o2, r2, b3, r3, b39, p39 ++ o4, r4 ++ [X39]⟩), hi.j4 hd hk4 hX (Cut.length okX) hgd, Af (wk1 rfl (wk1 rfl (wk1 rfl (wk1 rfl (wk1 rfl (wk1 rfl wk0)))))) (Ac rM (Ac rM (Ab sG (Ab sG (Ab sG (Ab sG (Ab sG (Ab sG (Br (Ab sG (Ab sG Ae)))))))))))⟩
     | exact ⟨(false, ⟨i, K, D, m1, m2, m3, m4, b1, o1, r1, b2, o2, r2, b3, r3, b4, o4, r4⟩), hi.skip hd hn1 hn2 hn3 hn4, Af (wk1 rfl (wk1 rfl (wk1 rfl (wk1 rfl (wk1 rfl (wk1 rfl wk0)))))) (Ac rM (Ac rM (Ab sG (Ab sG (Ab sG (Ab sG (Ab sG (Ab sG (Ab sG Ae)))))))))⟩
   have hn1 : ¬ d.dKind = 1 := kind_no (n := 1) his.fKind dE hc1
   refine G6 ?_
   first
    | refine Sat.condP rfl (fun hc2 => ?_) (fun hc2 => ?_)
    | refine Sat.condNP rfl (fun hc2 => ?_) (fun hc2 => ?_)
    | refine Sat.cond rfl (fun hc2 => ?_) (fun hc2 => ?_)
   ·
    have hk2 : d.dKind = 2 := kind_of (n := 2) his.fKind dE hc2
    refine G3 ?_
    refine .load1 J J J Y58.h J mM (by first | exact Record.get_fData (by first | exact oK  | exact his.ok | exact hi.ok) | exact vL) ?_
    refine .callL (L := KB n4 K :: b2) J J J J J Body75 (take_cert n4 K hi.ok b2 r2 m2 hi.q2.acc oM r.fData.p r.fData.n r.fData.c d.dData his.fData.len (fun e => by have := his.fData.nil e; have := his.fData.cap; omega) (by rw [← his.fData.len]; exact hsm d (List.mem_of_getElem? hd))) (Ac rM sG) (Ay J) (fun w h => take_pre h J his.fData (Ac rM sG)) ?_
    rintro v27 out27 ⟨s27, bl27, o27, X27, rfl, okX, hX, hor⟩
    obtain ⟨K27, b27, p27, rfl, hgd⟩ := uniO hor
    simp only [List.cons_append, List.append_assoc, List.nil_append]
    refine G4 ?_
    first
     | exact ⟨(decide ((B3 d.dData).2 = 0), ⟨i + 1, K21, { D with dBlocks := D.dBlocks ++ [(B3 d.dData).1] }, m1 + 1, m2, m3, m4, b21, p21 ++ o1, r1 ++ [X21], b2, o2, r2, b3, r3, b4, o4, r4⟩), hi.j1 hd hk1 hX (Block.length okX) hgd, Af (wk1 rfl (wk1 rfl (wk1 rfl (wk1 rfl (wk1 rfl (wk1 rfl wk0)))))) (Ac rM (Ac rM (Ab sG (Br (Ab sG (Ab sG (Ab sG (Ab sG (Ab sG (Ab sG (Ab sG Ae)))))))))))⟩
     | exact ⟨(decide ((Bj d.dData).2 = 0), ⟨i + 1, K27, { D with dCerts := D.dCerts ++ [(Bj d.dData).1] }, m1, m2 + 1, m3, m4, b1, o1, r1, b27, p27 ++ o2, r2 ++ [X27], b3, r3, b4, o4, r4⟩), hi.j2 hd hk2 hX (Cert.length okX) hgd, Af (wk1 rfl (wk1 rfl (wk1 rfl (wk1 rfl (wk1 rfl (wk1 rfl wk0)))))) (Ac rM (Ac rM (Ab sG (Ab sG (Ab sG (Br (Ab sG (Ab sG (Ab sG (Ab sG (Ab sG Ae)))))))))))⟩
     | exact ⟨(decide ((A1 d.dData).2 = 0), ⟨i + 1, K33, { D with dVotes := D.dVotes ++ [(A1 d.dData).1] }, m1, m2, m3 + 1, m4, b1, o1, r1, b2, o2, r2, b33, r3 ++ [(A1 d.dData).1], b4, o4, r4⟩), hi.j3 hd hk3 (fun W2 _ => voteRd_is _ W2) (Vote.length (Be _)) hgd, Af (wk1 rfl (wk1 rfl (wk1 rfl (wk1 rfl (wk1 rfl (wk1 rfl wk0)))))) (Ac rM (Ac rM (Ab sG (Ab sG (Ab sG (Ab sG (Ab sG (Ab sG (Ab sG Ae)))))))))⟩
     | exact ⟨(decide ((Bk d.dData).2 = 0), ⟨i + 1, K39, { D with dCuts := D.dCuts ++ [(Bk d.dData).1] }, m1, m2, m3, m4 + 1, b1, o1, r1, b2, o2, r2, b3, r3, b39, p39 ++ o4, r4 ++ [X39]⟩), hi.j4 hd hk4 hX (Cut.length okX) hgd, Af (wk1 rfl (wk1 rfl (wk1 rfl (wk1 rfl (wk1 rfl (wk1 rfl wk0)))))) (Ac rM (Ac rM (Ab sG (Ab sG (Ab sG (Ab sG (Ab sG (Ab sG (Br (Ab sG (Ab sG Ae)))))))))))⟩
     | exact ⟨(false, ⟨i, K, D, m1, m2, m3, m4, b1, o1, r1, b2, o2, r2, b3, r3, b4, o4, r4⟩), hi.skip hd hn1 hn2 hn3 hn4, Af (wk1 rfl (wk1 rfl (wk1 rfl (wk1 rfl (wk1 rfl (wk1 rfl wk0)))))) (Ac rM (Ac rM (Ab sG (Ab sG (Ab sG (Ab sG (Ab sG (Ab sG (Ab sG Ae)))))))))⟩
   have hn2 : ¬ d.dKind = 2 := kind_no (n := 2) his.fKind dE hc2
   refine G6 ?_
   first
    | refine Sat.condP rfl (fun hc3 => ?_) (fun hc3 => ?_)
    | refine Sat.condNP rfl (fun hc3 => ?_) (fun hc3 => ?_)
    | refine Sat.cond rfl (fun hc3 => ?_) (fun hc3 => ?_)
   ·
    have hk3 : d.dKind = 3 := kind_of (n := 3) his.fKind dE hc3
    refine G3 ?_
    refine .load1 J J J Y58.h J mM (by first | exact Record.get_fData (by first | exact oK  | exact his.ok | exact hi.ok) | exact vL) ?_
    refine .callL (L := KB n4 K :: b3) J J J J J Body76 (take_vote n4 K hi.ok b3 r3 m3 hi.q3.acc oM r.fData.p r.fData.n r.fData.c d.dData his.fData.len (fun e => by have := his.fData.nil e; have := his.fData.cap; omega) (by rw [← his.fData.len]; exact hsm d (List.mem_of_getElem? hd))) (Ac rM sG) (Ay J) (fun w h => take_pre h J his.fData (Ac rM sG)) ?_
    rintro v33 out33 ⟨s33, bl33, rfl, hor⟩
    obtain ⟨K33, b33, rfl, hgd⟩ := uniV hor
    simp only [List.cons_append, List.append_assoc, List.nil_append]
    refine G4 ?_
    first
     | exact ⟨(decide ((B3 d.dData).2 = 0), ⟨i + 1, K21, { D with dBlocks := D.dBlocks ++ [(B3 d.dData).1] }, m1 + 1, m2, m3, m4, b21, p21 ++ o1, r1 ++ [X21], b2, o2, r2, b3, r3, b4, o4, r4⟩), hi.j1 hd hk1 hX (Block.length okX) hgd, Af (wk1 rfl (wk1 rfl (wk1 rfl (wk1 rfl (wk1 rfl (wk1 rfl wk0)))))) (Ac rM (Ac rM (Ab sG (Br (Ab sG (Ab sG (Ab sG (Ab sG (Ab sG (Ab sG (Ab sG Ae)))))))))))⟩
     | exact ⟨(decide ((Bj d.dData).2 = 0), ⟨i + 1, K27, { D with dCerts := D.dCerts ++ [(Bj d.dData).1] }, m1, m2 + 1, m3, m4, b1, o1, r1, b27, p27 ++ o2, r2 ++ [X27], b3, r3, b4, o4, r4⟩), hi.j2 hd hk2 hX (Cert.length okX) hgd, Af (wk1 rfl (wk1 rfl (wk1 rfl (wk1 rfl (wk1 rfl (wk1 rfl wk0)))))) (Ac rM (Ac rM (Ab sG (Ab sG (Ab sG (Br (Ab sG (Ab sG (Ab sG (Ab sG (Ab sG Ae)))))))))))⟩
     | exact ⟨(decide ((A1 d.dData).2 = 0), ⟨i + 1, K33, { D with dVotes := D.dVotes ++ [(A1 d.dData).1] }, m1, m2, m3 + 1, m4, b1, o1, r1, b2, o2, r2, b33, r3 ++ [(A1 d.dData).1], b4, o4, r4⟩), hi.j3 hd hk3 (fun W2 _ => voteRd_is _ W2) (Vote.length (Be _)) hgd, Af (wk1 rfl (wk1 rfl (wk1 rfl (wk1 rfl (wk1 rfl (wk1 rfl wk0)))))) (Ac rM (Ac rM (Ab sG (Ab sG (Ab sG (Ab sG (Ab sG (Ab sG (Ab sG Ae)))))))))⟩
     | exact ⟨(decide ((Bk d.dData).2 = 0), ⟨i + 1, K39, { D with dCuts := D.dCuts ++ [(Bk d.dData).1] }, m1, m2, m3, m4 + 1, b1, o1, r1, b2, o2, r2, b3, r3, b39, p39 ++ o4, r4 ++ [X39]⟩), hi.j4 hd hk4 hX (Cut.length okX) hgd, Af (wk1 rfl (wk1 rfl (wk1 rfl (wk1 rfl (wk1 rfl (wk1 rfl wk0)))))) (Ac rM (Ac rM (Ab sG (Ab sG (Ab sG (Ab sG (Ab sG (Ab sG (Br (Ab sG (Ab sG Ae)))))))))))⟩
     | exact ⟨(false, ⟨i, K, D, m1, m2, m3, m4, b1, o1, r1, b2, o2, r2, b3, r3, b4, o4, r4⟩), hi.skip hd hn1 hn2 hn3 hn4, Af (wk1 rfl (wk1 rfl (wk1 rfl (wk1 rfl (wk1 rfl (wk1 rfl wk0)))))) (Ac rM (Ac rM (Ab sG (Ab sG (Ab sG (Ab sG (Ab sG (Ab sG (Ab sG Ae)))))))))⟩
   have hn3 : ¬ d.dKind = 3 := kind_no (n := 3) his.fKind dE hc3
   refine G6 ?_
   first
    | refine Sat.condP rfl (fun hc4 => ?_) (fun hc4 => ?_)
    | refine Sat.condNP rfl (fun hc4 => ?_) (fun hc4 => ?_)
    | refine Sat.cond rfl (fun hc4 => ?_) (fun hc4 => ?_)
   ·
    have hk4 : d.dKind = 4 := kind_of (n := 4) his.fKind dE hc4
    refine G3 ?_
    refine .load1 J J J Y58.h J mM (by first | exact Record.get_fData (by first | exact oK  | exact his.ok | exact hi.ok) | exact vL) ?_
    refine .callL (L := KB n4 K :: b4) J J J J J Body78 (take_cut n4 K hi.ok b4 r4 m4 hi.q4.acc oM r.fData.p r.fData.n r.fData.c d.dData his.fData.len (fun e => by have := his.fData.nil e; have := his.fData.cap; omega) (by rw [← his.fData.len]; exact hsm d (List.mem_of_getElem? hd))) (Ac rM sG) (Ay J) (fun w h => take_pre h J his.fData (Ac rM sG)) ?_
    rintro v39 out39 ⟨s39, bl39, o39, X39, rfl, okX, hX, hor⟩
    obtain ⟨K39, b39, p39, rfl, hgd⟩ := uniO hor
    simp only [List.cons_append, List.append_assoc, List.nil_append]
    refine G4 ?_
    first
     | exact ⟨(decide ((B3 d.dData).2 = 0), ⟨i + 1, K21, { D with dBlocks := D.dBlocks ++ [(B3 d.dData).1] }, m1 + 1, m2, m3, m4, b21, p21 ++ o1, r1 ++ [X21], b2, o2, r2, b3, r3, b4, o4, r4⟩), hi.j1 hd hk1 hX (Block.length okX) hgd, Af (wk1 rfl (wk1 rfl (wk1 rfl (wk1 rfl (wk1 rfl (wk1 rfl wk0)))))) (Ac rM (Ac rM (Ab sG (Br (Ab sG (Ab sG (Ab sG (Ab sG (Ab sG (Ab sG (Ab sG Ae)))))))))))⟩
     | exact ⟨(decide ((Bj d.dData).2 = 0), ⟨i + 1, K27, { D with dCerts := D.dCerts ++ [(Bj d.dData).1] }, m1, m2 + 1, m3, m4, b1, o1, r1, b27, p27 ++ o2, r2 ++ [X27], b3, r3, b4, o4, r4⟩), hi.j2 hd hk2 hX (Cert.length okX) hgd, Af (wk1 rfl (wk1 rfl (wk1 rfl (wk1 rfl (wk1 rfl (wk1 rfl wk0)))))) (Ac rM (Ac rM (Ab sG (Ab sG (Ab sG (Br (Ab sG (Ab sG (Ab sG (Ab sG (Ab sG Ae)))))))))))⟩
     | exact ⟨(decide ((A1 d.dData).2 = 0), ⟨i + 1, K33, { D with dVotes := D.dVotes ++ [(A1 d.dData).1] }, m1, m2, m3 + 1, m4, b1, o1, r1, b2, o2, r2, b33, r3 ++ [(A1 d.dData).1], b4, o4, r4⟩), hi.j3 hd hk3 (fun W2 _ => voteRd_is _ W2) (Vote.length (Be _)) hgd, Af (wk1 rfl (wk1 rfl (wk1 rfl (wk1 rfl (wk1 rfl (wk1 rfl wk0)))))) (Ac rM (Ac rM (Ab sG (Ab sG (Ab sG (Ab sG (Ab sG (Ab sG (Ab sG Ae)))))))))⟩
     | exact ⟨(decide ((Bk d.dData).2 = 0), ⟨i + 1, K39, { D with dCuts := D.dCuts ++ [(Bk d.dData).1] }, m1, m2, m3, m4 + 1, b1, o1, r1, b2, o2, r2, b3, r3, b39, p39 ++ o4, r4 ++ [X39]⟩), hi.j4 hd hk4 hX (Cut.length okX) hgd, Af (wk1 rfl (wk1 rfl (wk1 rfl (wk1 rfl (wk1 rfl (wk1 rfl wk0)))))) (Ac rM (Ac rM (Ab sG (Ab sG (Ab sG (Ab sG (Ab sG (Ab sG (Br (Ab sG (Ab sG Ae)))))))))))⟩
     | exact ⟨(false, ⟨i, K, D, m1, m2, m3, m4, b1, o1, r1, b2, o2, r2, b3, r3, b4, o4, r4⟩), hi.skip hd hn1 hn2 hn3 hn4, Af (wk1 rfl (wk1 rfl (wk1 rfl (wk1 rfl (wk1 rfl (wk1 rfl wk0)))))) (Ac rM (Ac rM (Ab sG (Ab sG (Ab sG (Ab sG (Ab sG (Ab sG (Ab sG Ae)))))))))⟩
   have hn4 : ¬ d.dKind = 4 := kind_no (n := 4) his.fKind dE hc4
   refine G3 ?_
   first
    | exact ⟨(decide ((B3 d.dData).2 = 0), ⟨i + 1, K21, { D with dBlocks := D.dBlocks ++ [(B3 d.dData).1] }, m1 + 1, m2, m3, m4, b21, p21 ++ o1, r1 ++ [X21], b2, o2, r2, b3, r3, b4, o4, r4⟩), hi.j1 hd hk1 hX (Block.length okX) hgd, Af (wk1 rfl (wk1 rfl (wk1 rfl (wk1 rfl (wk1 rfl (wk1 rfl wk0)))))) (Ac rM (Ac rM (Ab sG (Br (Ab sG (Ab sG (Ab sG (Ab sG (Ab sG (Ab sG (Ab sG Ae)))))))))))⟩
    | exact ⟨(decide ((Bj d.dData).2 = 0), ⟨i + 1, K27, { D with dCerts := D.dCerts ++ [(Bj d.dData).1] }, m1, m2 + 1, m3, m4, b1, o1, r1, b27, p27 ++ o2, r2 ++ [X27], b3, r3, b4, o4, r4⟩), hi.j2 hd hk2 hX (Cert.length okX) hgd, Af (wk1 rfl (wk1 rfl (wk1 rfl (wk1 rfl (wk1 rfl (wk1 rfl wk0)))))) (Ac rM (Ac rM (Ab sG (Ab sG (Ab sG (Br (Ab sG (Ab sG (Ab sG (Ab sG (Ab sG Ae)))))))))))⟩
    | exact ⟨(decide ((A1 d.dData).2 = 0), ⟨i + 1, K33, { D with dVotes := D.dVotes ++ [(A1 d.dData).1] }, m1, m2, m3 + 1, m4, b1, o1, r1, b2, o2, r2, b33, r3 ++ [(A1 d.dData).1], b4, o4, r4⟩), hi.j3 hd hk3 (fun W2 _ => voteRd_is _ W2) (Vote.length (Be _)) hgd, Af (wk1 rfl (wk1 rfl (wk1 rfl (wk1 rfl (wk1 rfl (wk1 rfl wk0)))))) (Ac rM (Ac rM (Ab sG (Ab sG (Ab sG (Ab sG (Ab sG (Ab sG (Ab sG Ae)))))))))⟩
    | exact ⟨(decide ((Bk d.dData).2 = 0), ⟨i + 1, K39, { D with dCuts := D.dCuts ++ [(Bk d.dData).1] }, m1, m2, m3, m4 + 1, b1, o1, r1, b2, o2, r2, b3, r3, b39, p39 ++ o4, r4 ++ [X39]⟩), hi.j4 hd hk4 hX (Cut.length okX) hgd, Af (wk1 rfl (wk1 rfl (wk1 rfl (wk1 rfl (wk1 rfl (wk1 rfl wk0)))))) (Ac rM (Ac rM (Ab sG (Ab sG (Ab sG (Ab sG (Ab sG (Ab sG (Br (Ab sG (Ab sG Ae)))))))))))⟩
    | exact ⟨(false, ⟨i, K, D, m1, m2, m3, m4, b1, o1, r1, b2, o2, r2, b3, r3, b4, o4, r4⟩), hi.skip hd hn1 hn2 hn3 hn4, Af (wk1 rfl (wk1 rfl (wk1 rfl (wk1 rfl (wk1 rfl (wk1 rfl wk0)))))) (Ac rM (Ac rM (Ab sG (Ab sG (Ab sG (Ab sG (Ab sG (Ab sG (Ab sG Ae)))))))))⟩
  intro pj hj
  skip
  refine G6 ?_
  refine .cond J (fun hc5 => ?_) (fun hc5 => ?_)
  ·
   have hnone := hj.2 (by simpa using hc5)
   refine G2 ?_
   refine .build (cs := Kept.zero.cells) J J J (fun w => by kernel_rfl) ?_
   refine G11 ?_
   refine Ah (out := []) (Am J J J Y27.h J Sz27 mM (by first | (simp; done) | exact Kept.length (by first | exact oK  | exact his.ok | exact hi.ok))) Ae ?_
   exact keep_bad (keepRd_bad hnone)
  have hj2 := hj.1 (by simpa using hc5)
  refine G8 ?_
  exact ⟨pj.2, ⟨hj2.1, by omega⟩, by omega, Af (wk1 rfl (wk1 rfl (wk1 rfl (wk1 rfl (wk1 (congrArg (fun z : Nat => some (i64 (z : Int))) hj2.2.symm) wk0))))) (Ac rM (Ac rM (Ab sG (Ab sG (Ab sG (Ab sG (Ab sG (Ab sG (Ab sG Ae)))))))))⟩
 have hie : i = s.n := by omega
 refine G9 ?_
 refine .load1 J J J Y23.h J mM (by first | exact Kept.get_fCerts (by first | exact oK  | exact his.ok | exact hi.ok) | exact vL) ?_
 refine .cV J J J J Body80 (in_order K.fCerts D.dCerts) (fun w h => ⟨_, hi.q2.seq (Lies.of h iN) (Lies.of h iN) (by dsimp only; omega)⟩) ?_
 refine G3 ?_
 refine .cond J (fun hc6 => ?_) (fun hc6 => ?_)
 ·
  have ho : inOrd D.dCerts = false := by simpa using hc6
  have hf := hi.fold
  dsimp only at hf
  rw [List.take_of_length_le oM] at hf
  refine G2 ?_
  refine .build (cs := Kept.zero.cells) J J J (fun w => by kernel_rfl) ?_
  refine G7 ?_
  refine Ah (out := []) (Am J J J Y27.h J Sz27 mM (by first | (simp; done) | exact Kept.length (by first | exact oK  | exact his.ok | exact hi.ok))) Ae ?_
  exact keep_bad (keepRd_ord hf ho)
 have ho : inOrd D.dCerts = true := by simpa using hc6
 refine G11 ?_
 refine Ah (out := (b1 ++ (o1 ++ (b2 ++ (o2 ++ (b3 ++ (b4 ++ (o4 ++ [])))))))) (Am J J J Y27.h J Sz27 mM (by first | (simp; done) | exact Kept.length (by first | exact oK  | exact his.ok | exact hi.ok))) (Ab sG (Ab sG (Ab sG (Ab sG (Ab sG (Ab sG (Ab sG Ae))))))) ?_
 refine ⟨K, hi.ok, ?_, fun W2 hl => hi.end' (by simp only []; omega) (by simp only []; omega) ho (hl.sub iN) (hl.sub iN) (hl.sub iN) (hl.sub iN) (hl.sub iN) (hl.sub iN) (hl.sub iN)⟩
 have hf := hi.fold
 dsimp only at hf
 rw [List.take_of_length_le oM] at hf
 rw [keepRd_ok hf ho]

def sameC (a b : DCut) : Bool := decide ((a.dHeight.toNat : Int) = (b.dHeight.toNat : Int)) && (decide (a.dPrev = b.dPrev) && decide (a.dHeads = b.dHeads))

theorem kit_cut (A B : Cut) (a b : DCut) (hn : A.fHeads.n ≤ 1000000) : Meets Tryz.prog 90 [agg A.cells, agg B.cells] [] (fun W => CutIs W A a ∧ CutIs W B b) (fun v out => v = .bool (sameC a b) ∧ out = []) := by
 intro W hW
 have hA := hW.1.ok
 have hB := hW.2.ok
 have e1 := hW.1.fHeight
 have e2 := hW.2.fHeight
 have e3 := hW.1.fPrev
 have e4 := hW.2.fPrev
 refine Ag Tryz.func90 J 24 Tryz.ntmps90 J (G3 ?_)
 intro n2 hn2 hf2
 refine G1 ?_
 intro n3 hn3 hf3
 refine G9 ?_
 refine two (fun r hr k => Tr.eqi J J J J hr k) (fun hs1_40 => ?_) (fun hs1_40 => ?_)
 ·
  have hs1_4 := of_decide_eq_true hs1_40
  refine G2 ?_
  refine .lN (Aa _) J J J Y50.h J Sz50 Z1 (Cut.row_fPrev zA) (Cut.rl_fPrev zA) ?_
  refine G1 ?_
  refine .lN (Aa _) J J J Y50.h J Sz50 Z0 (Cut.row_fPrev zA) (Cut.rl_fPrev zA) ?_
  refine two (fun r hr k => Tr.eql_bytes J J J J Tryz.eqGuardType50 Y50.h Y5.h Sz5 (by (simp [hA.l_fPrev]; done)) (by (simp [hB.l_fPrev]; done)) hr k) (fun hs1_100 => ?_) (fun hs1_100 => ?_)
  ·
   have hs1_10 := of_decide_eq_true hs1_100
   refine G6 ?_
   refine .cV J J J J Body130 (digests_any2 _ _ _ _ _ _ a.dHeads b.dHeads hW.1.fHeads.row hW.2.fHeads.row hW.1.fHeads.len hW.2.fHeads.len hn) (fun w h => ⟨Ao h J hW.1.fHeads.see, Ao h J hW.2.fHeads.see⟩) (G6 ?_)
   refine ⟨_, [], Ad J J, sP, sP, ?_, rfl⟩
   unfold sameC
   simp_all
  have hs1_10 := of_decide_eq_false hs1_100
  refine G13 ?_
  refine ⟨_, [], Ad J J, sP, sP, ?_, rfl⟩
  unfold sameC
  simp_all
 have hs1_4 := of_decide_eq_false hs1_40
 refine G19 ?_
 refine ⟨_, [], Ad J J, sP, sP, ?_, rfl⟩
 unfold sameC
 simp_all
def sameL {D : Type} (f : D → D → Bool) (xs ys : List D) : Bool := decide (xs.length = ys.length) && (xs.zip ys).all fun p => f p.1 p.2
theorem sameL_yes {D : Type} {f : D → D → Bool} {xs ys : List D} (hl : xs.length = ys.length) (h : ∀ (j : Nat) (a b : D), j < xs.length → xs[j]? = some a → ys[j]? = some b → f a b = true) : sameL f xs ys = true := by
  have e : ((xs.zip ys).all fun p => f p.1 p.2) = true := by
    rw [List.all_eq_true]
    rintro ⟨a, b⟩ hm
    obtain ⟨j, hj⟩ := List.getElem?_of_mem hm
    obtain ⟨h1, h2⟩ := List.getElem?_zip_eq_some.1 hj
    exact h j a b (List.getElem?_eq_some_iff.1 h1).1 h1 h2
  rw [sameL, e, decide_eq_true hl]; rfl
theorem sameL_no {D : Type} {f : D → D → Bool} {xs ys : List D} {k : Nat} {a b : D} (ha : xs[k]? = some a) (hb : ys[k]? = some b) (h : f a b = false) : sameL f xs ys = false := by
  have e : ((xs.zip ys).all fun p => f p.1 p.2) = false := by
    rw [List.all_eq_false]
    exact ⟨(a, b), List.mem_of_getElem? (List.getElem?_zip_eq_some.2 ⟨ha, hb⟩), by rw [h]; simp⟩
  rw [sameL, e, Bool.and_false]
theorem sameL_len {D : Type} {f : D → D → Bool} {xs ys : List D} (h : ¬ xs.length = ys.length) : sameL f xs ys = false := by rw [sameL, decide_eq_false h]; rfl

theorem kit_cuts (s u : Sl) (xs ys : List DCut) (hsm : ∀ d ∈ xs, d.dHeads.length ≤ 1000000) : Meets Tryz.prog 22 [s.v, u.v] [] (fun W => CutsAt W s xs ∧ CutsAt W u ys) (fun v out => v = .bool (sameL sameC xs ys) ∧ out = []) := by
 intro W hW
 obtain ⟨⟨rs, hs⟩, ⟨ru, hu⟩⟩ := hW
 have hnd := hs.nd
 have hnu := hu.nd
 have hmax := hs.max
 have hmaxu := hu.max
 simp only [maxLen] at hmax hmaxu
 refine Ag Tryz.func22 J 27 Tryz.ntmps22 J (G15 ?_)
 refine .condNP J (fun hc0 => ?_) (fun hc0 => ?_)
 ·
  refine G8 ?_
  refine ⟨_, [], Ad J J, sP, sP, ?_, rfl⟩
  exact congrArg Value.bool (sameL_len (by rw [hnd, hnu]; omega)).symm
 refine G9 ?_
 refine .loop (ι := Nat) (fun k => ⟨[(0, s.v), (1, u.v), (5, i64 (k : Int))], []⟩) (fun k => k ≤ s.n ∧ s.n = u.n ∧ ∀ (j : Nat) (a b : DCut), j < k → xs[j]? = some a → ys[j]? = some b → sameC a b = true) (fun k => s.n - k) (0) ?_ ?_ ?_
 · exact ⟨by omega, by omega, fun j a b hj => by omega⟩
 · exact Ai (wk1 rfl (wk1 rfl (wk1 rfl wk0))) wh0 nD
 rintro k ⟨hk, hsu, hg⟩
 refine G9 ?_
 refine .condP J (fun hc1 => ?_) (fun hc1 => ?_)
 ·
  have hk2 : k < s.n := by omega
  obtain ⟨b, o, r, d, hsp, hr, hd, his, hlen, hsee⟩ := hs.at dE hk2
  obtain ⟨b2, o2, r2, d2, hspu, hru, hdu, hiu, hlenu, hseeu⟩ := hu.at dE (show k < u.n by omega)
  refine G5 ?_
  refine .draw [(0, 0), (0, 1), (0, 2), (1, 3), (0, 4), (0, 5), (0, 6), (1, 7), (3, 8), (0, 9)] Ba zK (G2 ?_)
  refine .idxSlP 34 J J J hsp J Y25.h Sz53 k J oM (.loadEN r.cells J J J Y53.h J Sz53 sP hlen hsee (G2 ?_))
  refine .idxSlP 34 J J J hspu J Y25.h Sz53 k J oM (.loadEN r2.cells J J J Y53.h J Sz53 sP hlenu hseeu (.cV J J J J Body90 (kit_cut r r2 d d2 (by rw [← his.fHeads.len]; exact hsm d (List.mem_of_getElem? hd))) (fun w h => ⟨his.ext h J, hiu.ext h J⟩) ?_))
  refine G3 ?_
  refine .cond J (fun hc2 => ?_) (fun hc2 => ?_)
  ·
   refine G12 ?_
   refine ⟨_, [], Ad J J, sP, sP, ?_, rfl⟩
   exact congrArg Value.bool (sameL_no hd hdu (by simp_all; done)).symm
  refine G9 ?_
  exact ⟨k + 1, ⟨by omega, hsu, fun j a b hj ha hb => by rcases Nat.lt_succ_iff_lt_or_eq.1 hj with h | rfl; exact hg j a b h ha hb; exact (by rw [hd] at ha; rw [hdu] at hb; cases ha; cases hb; simp_all)⟩, by omega, Ai (wk1 rfl (wk1 rfl (wk1 rfl wk0))) wh0 nD⟩
 obtain rfl : k = s.n := by omega
 refine G12 ?_
 refine ⟨_, [], Ad J J, sP, sP, ?_, rfl⟩
 exact congrArg Value.bool (sameL_yes (by rw [hnd, hnu]; omega) (by rw [hnd]; exact hg)).symm
open Classical in
noncomputable def sameV (a b : Vote) : Bool := decide (a = b)
theorem sameV_eq {a b : Vote} (h : a = b) : sameV a b = true := by unfold sameV; simp [h]
theorem sameV_ne {a b : Vote} (h : ¬ a = b) : sameV a b = false := by unfold sameV; simp [h]

theorem kit_votes (s u : Sl) (xs ys : List Vote) : Meets Tryz.prog 21 [s.v, u.v] [] (fun W => VotesAt W s xs ∧ VotesAt W u ys) (fun v out => v = .bool (sameL sameV xs ys) ∧ out = []) := by
 intro W hW
 obtain ⟨⟨rs, hs⟩, ⟨ru, hu⟩⟩ := hW
 have hnd := hs.nd
 have hnu := hu.nd
 have hmax := hs.max
 have hmaxu := hu.max
 simp only [maxLen] at hmax hmaxu
 refine Ag Tryz.func21 J 26 Tryz.ntmps21 J (G15 ?_)
 refine .condNP J (fun hc0 => ?_) (fun hc0 => ?_)
 ·
  refine G8 ?_
  refine ⟨_, [], Ad J J, sP, sP, ?_, rfl⟩
  exact congrArg Value.bool (sameL_len (by rw [hnd, hnu]; omega)).symm
 refine G9 ?_
 refine .loop (ι := Nat) (fun k => ⟨[(0, s.v), (1, u.v), (5, i64 (k : Int))], []⟩) (fun k => k ≤ s.n ∧ s.n = u.n ∧ ∀ (j : Nat) (a b : Vote), j < k → xs[j]? = some a → ys[j]? = some b → sameV a b = true) (fun k => s.n - k) (0) ?_ ?_ ?_
 · exact ⟨by omega, by omega, fun j a b hj => by omega⟩
 · exact Ai (wk1 rfl (wk1 rfl (wk1 rfl wk0))) wh0 nD
 rintro k ⟨hk, hsu, hg⟩
 refine G9 ?_
 refine .condP J (fun hc1 => ?_) (fun hc1 => ?_)
 ·
  have hk2 : k < s.n := by omega
  obtain ⟨b, o, r, d, hsp, hr, hd, his, hlen, hsee⟩ := hs.at dE hk2
  obtain ⟨b2, o2, r2, d2, hspu, hru, hdu, hiu, hlenu, hseeu⟩ := hu.at dE (show k < u.n by omega)
  obtain rfl := his.eq
  obtain rfl := hiu.eq
  refine G5 ?_
  refine .draw [(0, 0), (0, 1), (0, 2), (1, 3), (0, 4), (0, 5), (0, 6), (1, 7), (0, 8)] Ba zK (G2 ?_)
  refine .idxSlP 132 J J J hsp J Y24.h Sz81 k J oM (.loadEN r.cells J J J Y81.h J Sz81 sP hlen hsee (G2 ?_))
  refine .idxSlP 132 J J J hspu J Y24.h Sz81 k J oM (.loadEN r2.cells J J J Y81.h J Sz81 sP hlenu hseeu (.neq_rec J J J J Vote.eg (fun w => Vote.eq_runC (by exact his.ok) (by exact hiu.ok) w) J ?_))
  refine G2 ?_
  refine .cond J (fun hc2 => ?_) (fun hc2 => ?_)
  ·
   refine G12 ?_
   refine ⟨_, [], Ad J J, sP, sP, ?_, rfl⟩
   exact congrArg Value.bool (sameL_no hd hdu (sameV_ne (by (intro h9; simp_all; done)))).symm
  refine G9 ?_
  exact ⟨k + 1, ⟨by omega, hsu, fun j a b hj ha hb => by rcases Nat.lt_succ_iff_lt_or_eq.1 hj with h | rfl; exact hg j a b h ha hb; exact (by rw [hd] at ha; rw [hdu] at hb; cases ha; cases hb; exact sameV_eq (by (simp_all; done)))⟩, by omega, Ai (wk1 rfl (wk1 rfl (wk1 rfl wk0))) wh0 nD⟩
 obtain rfl : k = s.n := by omega
 refine G12 ?_
 refine ⟨_, [], Ad J J, sP, sP, ?_, rfl⟩
 exact congrArg Value.bool (sameL_yes (by rw [hnd, hnu]; omega) (by rw [hnd]; exact hg)).symm
noncomputable def sameE (a b : DCert) : Bool := sameC a.dCut b.dCut && sameL sameV a.dVotes b.dVotes

theorem kit_cert (A B : Cert) (a b : DCert) (hn : A.fCut.fHeads.n ≤ 1000000) : Meets Tryz.prog 32 [agg A.cells, agg B.cells] [] (fun W => CertIs W A a ∧ CertIs W B b) (fun v out => v = .bool (sameE a b) ∧ out = []) := by
 intro W hW
 have hA := hW.1.ok
 have hB := hW.2.ok
 refine Ag Tryz.func32 J 17 Tryz.ntmps32 J (G3 ?_)
 intro n2 hn2 hf2
 refine G1 ?_
 intro n3 hn3 hf3
 refine G6 ?_
 refine .lN (Cut.cells _) J J J Y53.h J Sz53 Z1 (Cert.row_fCut zA) (Cert.rl_fCut zA) ?_
 refine G1 ?_
 refine .lN (Cut.cells _) J J J Y53.h J Sz53 Z0 (Cert.row_fCut zA) (Cert.rl_fCut zA) ?_
 refine .callB J J J J Body90 (kit_cut A.fCut B.fCut a.dCut b.dCut hn) (fun w h => ⟨hW.1.fCut.ext h J, hW.2.fCut.ext h J⟩) (fun hs1_40 => ?_) (fun hs1_40 => ?_)
 ·
  have hs1_4 := hs1_40
  refine G5 ?_
  refine .cV J J J J Body21 (kit_votes A.fVotes B.fVotes a.dVotes b.dVotes) (fun w h => ⟨Cj h J hW.1.fVotes, Cj h J hW.2.fVotes⟩) (G6 ?_)
  refine ⟨_, [], Ad J J, sP, sP, ?_, rfl⟩
  simp_all [sameE]
 have hs1_4 := hs1_40
 refine G12 ?_
 refine ⟨_, [], Ad J J, sP, sP, ?_, rfl⟩
 simp_all [sameE]
theorem kit_certs (s u : Sl) (xs ys : List DCert) (hsm : ∀ d ∈ xs, d.dCut.dHeads.length ≤ 1000000) : Meets Tryz.prog 20 [s.v, u.v] [] (fun W => CertsAt W s xs ∧ CertsAt W u ys) (fun v out => v = .bool (sameL sameE xs ys) ∧ out = []) := by
 intro W hW
 obtain ⟨⟨rs, hs⟩, ⟨ru, hu⟩⟩ := hW
 have hnd := hs.nd
 have hnu := hu.nd
 have hmax := hs.max
 have hmaxu := hu.max
 simp only [maxLen] at hmax hmaxu
 refine Ag Tryz.func20 J 27 Tryz.ntmps20 J (G15 ?_)
 refine .condNP J (fun hc0 => ?_) (fun hc0 => ?_)
 ·
  refine G8 ?_
  refine ⟨_, [], Ad J J, sP, sP, ?_, rfl⟩
  exact congrArg Value.bool (sameL_len (by rw [hnd, hnu]; omega)).symm
 refine G9 ?_
 refine .loop (ι := Nat) (fun k => ⟨[(0, s.v), (1, u.v), (5, i64 (k : Int))], []⟩) (fun k => k ≤ s.n ∧ s.n = u.n ∧ ∀ (j : Nat) (a b : DCert), j < k → xs[j]? = some a → ys[j]? = some b → sameE a b = true) (fun k => s.n - k) (0) ?_ ?_ ?_
 · exact ⟨by omega, by omega, fun j a b hj => by omega⟩
 · exact Ai (wk1 rfl (wk1 rfl (wk1 rfl wk0))) wh0 nD
 rintro k ⟨hk, hsu, hg⟩
 refine G9 ?_
 refine .condP J (fun hc1 => ?_) (fun hc1 => ?_)
 ·
  have hk2 : k < s.n := by omega
  obtain ⟨b, o, r, d, hsp, hr, hd, his, hlen, hsee⟩ := hs.at dE hk2
  obtain ⟨b2, o2, r2, d2, hspu, hru, hdu, hiu, hlenu, hseeu⟩ := hu.at dE (show k < u.n by omega)
  refine G5 ?_
  refine .draw [(0, 0), (0, 1), (0, 2), (1, 3), (0, 4), (0, 5), (0, 6), (1, 7), (3, 8), (0, 9)] Ba zK (G2 ?_)
  refine .idxSlP 35 J J J hsp J Y23.h Sz55 k J oM (.loadEN r.cells J J J Y55.h J Sz55 sP hlen hsee (G2 ?_))
  refine .idxSlP 35 J J J hspu J Y23.h Sz55 k J oM (.loadEN r2.cells J J J Y55.h J Sz55 sP hlenu hseeu (.cV J J J J Body32 (kit_cert r r2 d d2 (by rw [← his.fCut.fHeads.len]; exact hsm d (List.mem_of_getElem? hd))) (fun w h => ⟨his.ext h J, hiu.ext h J⟩) ?_))
  refine G3 ?_
  refine .cond J (fun hc2 => ?_) (fun hc2 => ?_)
  ·
   refine G12 ?_
   refine ⟨_, [], Ad J J, sP, sP, ?_, rfl⟩
   exact congrArg Value.bool (sameL_no hd hdu (by simp_all; done)).symm
  refine G9 ?_
  exact ⟨k + 1, ⟨by omega, hsu, fun j a b hj ha hb => by rcases Nat.lt_succ_iff_lt_or_eq.1 hj with h | rfl; exact hg j a b h ha hb; exact (by rw [hd] at ha; rw [hdu] at hb; cases ha; cases hb; simp_all)⟩, by omega, Ai (wk1 rfl (wk1 rfl (wk1 rfl wk0))) wh0 nD⟩
 obtain rfl : k = s.n := by omega
 refine G12 ?_
 refine ⟨_, [], Ad J J, sP, sP, ?_, rfl⟩
 exact congrArg Value.bool (sameL_yes (by rw [hnd, hnu]; omega) (by rw [hnd]; exact hg)).symm
def sameBk (a b : DB) : Bool := decide (a.w = b.w) && (decide ((a.seq.toNat : Int) = (b.seq.toNat : Int)) && (decide (a.prev = b.prev) && (decide (a.ls = b.ls) && (decide (a.ds = b.ds) && decide (a.sg = b.sg)))))
theorem sameB_Bk {W : World} {A B : Block} {a b : DB} (h1 : BlockIs W A a) (h2 : BlockIs W B b) : sameB A B a.ls b.ls a.ds b.ds = sameBk a b := by
  simp only [sameB, sameBk, h1.w, h2.w, h1.seq, h2.seq, h1.prev, h2.prev, h1.sg, h2.sg]
theorem kit_blockD (A B : Block) (a b : DB) (hn : A.fLinks.n ≤ 1000000) : Meets Tryz.prog 89 [agg A.cells, agg B.cells] [] (fun W => BlockIs W A a ∧ BlockIs W B b) (fun v out => v = .bool (sameBk a b) ∧ out = []) := fun W hW => by
  rw [← sameB_Bk hW.1 hW.2]
  exact kit_block A B hW.1.ok hW.2.ok a.ls b.ls a.ds b.ds hn W ⟨⟨hW.1.ls, hW.1.ds⟩, ⟨hW.2.ls, hW.2.ds⟩⟩

theorem kit_blocks (s u : Sl) (xs ys : List DB) (hsm : ∀ d ∈ xs, d.ls.length ≤ 1000000) : Meets Tryz.prog 19 [s.v, u.v] [] (fun W => BlocksAt W s xs ∧ BlocksAt W u ys) (fun v out => v = .bool (sameL sameBk xs ys) ∧ out = []) := by
 intro W hW
 obtain ⟨⟨rs, hs⟩, ⟨ru, hu⟩⟩ := hW
 have hnd := hs.nd
 have hnu := hu.nd
 have hmax := hs.max
 have hmaxu := hu.max
 simp only [maxLen] at hmax hmaxu
 refine Ag Tryz.func19 J 27 Tryz.ntmps19 J (G15 ?_)
 refine .condNP J (fun hc0 => ?_) (fun hc0 => ?_)
 ·
  refine G8 ?_
  refine ⟨_, [], Ad J J, sP, sP, ?_, rfl⟩
  exact congrArg Value.bool (sameL_len (by rw [hnd, hnu]; omega)).symm
 refine G9 ?_
 refine .loop (ι := Nat) (fun k => ⟨[(0, s.v), (1, u.v), (5, i64 (k : Int))], []⟩) (fun k => k ≤ s.n ∧ s.n = u.n ∧ ∀ (j : Nat) (a b : DB), j < k → xs[j]? = some a → ys[j]? = some b → sameBk a b = true) (fun k => s.n - k) (0) ?_ ?_ ?_
 · exact ⟨by omega, by omega, fun j a b hj => by omega⟩
 · exact Ai (wk1 rfl (wk1 rfl (wk1 rfl wk0))) wh0 nD
 rintro k ⟨hk, hsu, hg⟩
 refine G9 ?_
 refine .condP J (fun hc1 => ?_) (fun hc1 => ?_)
 ·
  have hk2 : k < s.n := by omega
  obtain ⟨b, o, r, d, hsp, hr, hd, his, hlen, hsee⟩ := hs.at dE hk2
  obtain ⟨b2, o2, r2, d2, hspu, hru, hdu, hiu, hlenu, hseeu⟩ := hu.at dE (show k < u.n by omega)
  refine G5 ?_
  refine .draw [(0, 0), (0, 1), (0, 2), (1, 3), (0, 4), (0, 5), (0, 6), (1, 7), (3, 8), (0, 9)] Ba zK (G2 ?_)
  refine .idxSlP 131 J J J hsp J Y22.h Sz79 k J oM (.loadEN r.cells J J J Y79.h J Sz79 sP hlen hsee (G2 ?_))
  refine .idxSlP 131 J J J hspu J Y22.h Sz79 k J oM (.loadEN r2.cells J J J Y79.h J Sz79 sP hlenu hseeu (.cV J J J J Body89 (kit_blockD r r2 d d2 (by rw [← his.ls.len]; exact hsm d (List.mem_of_getElem? hd))) (fun w h => ⟨his.ext h J, hiu.ext h J⟩) ?_))
  refine G3 ?_
  refine .cond J (fun hc2 => ?_) (fun hc2 => ?_)
  ·
   refine G12 ?_
   refine ⟨_, [], Ad J J, sP, sP, ?_, rfl⟩
   exact congrArg Value.bool (sameL_no hd hdu (by simp_all; done)).symm
  refine G9 ?_
  exact ⟨k + 1, ⟨by omega, hsu, fun j a b hj ha hb => by rcases Nat.lt_succ_iff_lt_or_eq.1 hj with h | rfl; exact hg j a b h ha hb; exact (by rw [hd] at ha; rw [hdu] at hb; cases ha; cases hb; simp_all)⟩, by omega, Ai (wk1 rfl (wk1 rfl (wk1 rfl wk0))) wh0 nD⟩
 obtain rfl : k = s.n := by omega
 refine G12 ?_
 refine ⟨_, [], Ad J J, sP, sP, ?_, rfl⟩
 exact congrArg Value.bool (sameL_yes (by rw [hnd, hnu]; omega) (by rw [hnd]; exact hg)).symm
noncomputable def sameK (a b : DKept) : Bool := sameL sameBk a.dBlocks b.dBlocks && (sameL sameE a.dCerts b.dCerts && (sameL sameV a.dVotes b.dVotes && sameL sameC a.dCuts b.dCuts))
def DKept.small (a : DKept) : Prop := (∀ d ∈ a.dBlocks, d.ls.length ≤ 1000000) ∧ (∀ d ∈ a.dCerts, d.dCut.dHeads.length ≤ 1000000) ∧ ∀ d ∈ a.dCuts, d.dHeads.length ≤ 1000000

theorem kit_kept (A B : Kept) (a b : DKept) (hsm : a.small) : Meets Tryz.prog 14 [agg A.cells, agg B.cells] [] (fun W => KeptIs W A a ∧ KeptIs W B b) (fun v out => v = .bool (sameK a b) ∧ out = []) := by
 intro W hW
 have hA := hW.1.ok
 have hB := hW.2.ok
 refine Ag Tryz.func14 J 31 Tryz.ntmps14 J (G3 ?_)
 intro n2 hn2 hf2
 refine G1 ?_
 intro n3 hn3 hf3
 refine G9 ?_
 refine .callB J J J J Body19 (kit_blocks A.fBlocks B.fBlocks a.dBlocks b.dBlocks hsm.1) (fun w h => ⟨Blocks_ext h J hW.1.fBlocks, Blocks_ext h J hW.2.fBlocks⟩) (fun hs1_40 => ?_) (fun hs1_40 => ?_)
 ·
  have hs1_4 := hs1_40
  refine G5 ?_
  refine .callB J J J J Body20 (kit_certs A.fCerts B.fCerts a.dCerts b.dCerts hsm.2.1) (fun w h => ⟨Certs_ext h J hW.1.fCerts, Certs_ext h J hW.2.fCerts⟩) (fun hs1_100 => ?_) (fun hs1_100 => ?_)
  ·
   have hs1_10 := hs1_100
   refine G6 ?_
   refine .callB J J J J Body21 (kit_votes A.fVotes B.fVotes a.dVotes b.dVotes) (fun w h => ⟨Cj h J hW.1.fVotes, Cj h J hW.2.fVotes⟩) (fun hs1_170 => ?_) (fun hs1_170 => ?_)
   ·
    have hs1_17 := hs1_170
    refine G6 ?_
    refine .cV J J J J Body22 (kit_cuts A.fCuts B.fCuts a.dCuts b.dCuts hsm.2.2) (fun w h => ⟨Cuts_ext h J hW.1.fCuts, Cuts_ext h J hW.2.fCuts⟩) (G6 ?_)
    refine ⟨_, [], Ad J J, sP, sP, ?_, rfl⟩
    simp_all [sameK]
   have hs1_17 := hs1_170
   refine G13 ?_
   refine ⟨_, [], Ad J J, sP, sP, ?_, rfl⟩
   simp_all [sameK]
  have hs1_10 := hs1_100
  refine G20 ?_
  refine ⟨_, [], Ad J J, sP, sP, ?_, rfl⟩
  simp_all [sameK]
 have hs1_4 := hs1_40
 refine G26 ?_
 refine ⟨_, [], Ad J J, sP, sP, ?_, rfl⟩
 simp_all [sameK]
end Go.Proofs.YtdifpjmfabhpiaaGreat
end

section
namespace Go.Proofs.YtdifpjmfabhpiaaGreat
open Go Hw

theorem seq_one {R D : Type} {cells : R → List Value} {k : Nat} {Is : World → R → D → Prop} {w : World} (q : Nat) (E : TypeId) (r : R) {m : Nat} {d : D} (hl : Lies [⟨q, cells r, E, m⟩] w) (hlen : (cells r).length = k) (hm : m = 1 * k) (hi : Is w r d) : SeqIs cells k Is w ⟨some ⟨q, 0, none⟩, 1, 1⟩ [r] [d] := by
  subst hm
  have ha : Hw.Acc ⟨some ⟨q, 0, none⟩, 1, 1⟩ [⟨q, cells r, E, 1 * k⟩] (cells r) E 1 k := Acc.some (Nat.le_refl _) (by rw [hlen, Nat.one_mul])
  have e : ([r].map cells).flatten = cells r := by simp
  refine acc_seq (by rw [e]; exact ha) hl rfl rfl (fun x hx => by rw [List.mem_singleton.1 hx]; exact hlen) sP fun i x y hx hy => ?_
  obtain ⟨hi1, rfl⟩ := List.getElem?_eq_some_iff.1 hx
  obtain ⟨hi2, rfl⟩ := List.getElem?_eq_some_iff.1 hy
  have e0 : i = 0 := by simp at hi1; exact hi1
  subst e0
  exact hi
theorem sameC_self (a : DCut) : sameC a a = true := by simp [sameC]
theorem sameV_self (a : Vote) : sameV a a = true := sameV_eq rfl
theorem sameL_self {D : Type} {f : D → D → Bool} (h : ∀ a, f a a = true) (l : List D) : sameL f l l = true := sameL_yes rfl fun j a b _ ha hb => by rw [ha] at hb; cases hb; exact h a
theorem sameE_self (a : DCert) : sameE a a = true := by simp only [sameE, sameC_self, sameL_self sameV_self, Bool.and_self]
theorem sameBk_self (a : DB) : sameBk a a = true := by simp [sameBk]
theorem sameK_self (a : DKept) : sameK a a = true := by simp only [sameK, sameL_self sameBk_self, sameL_self sameE_self, sameL_self sameV_self, sameL_self sameC_self, Bool.and_self]
theorem kit_kept_same (A B : Kept) (a : DKept) (h : a.small) : Meets Tryz.prog 14 [agg A.cells, agg B.cells] [] (fun W => KeptIs W A a ∧ KeptIs W B a) (fun v out => v = .bool true ∧ out = []) := by
  have h := kit_kept A B a a h
  rwa [sameK_self] at h
theorem dkz_small : dkz.small := ⟨fun d h => (by cases h), fun d h => (by cases h), fun d h => (by cases h)⟩
def oneB : List UInt8 := 1 :: List.replicate 31 0
def sevB : List UInt8 := 7 :: List.replicate 31 0
def exCut (q : Nat) : Cut := ⟨1, List.replicate 32 0, ⟨some ⟨q, 0, none⟩, 1, 1⟩⟩
def exCutD : DCut := ⟨1, List.replicate 32 0, [oneB]⟩
def exVote : Vote := ⟨1, 0, 3, sevB, 0, List.replicate 32 0, List.replicate 64 0⟩
def exCert (q r : Nat) : Cert := ⟨exCut q, ⟨some ⟨r, 0, none⟩, 1, 1⟩⟩
def exD : DCert := ⟨exCutD, [exVote]⟩
theorem exCut_ok (q : Nat) : (exCut q).ok := ⟨rfl⟩
theorem exVote_ok : exVote.ok := ⟨rfl, rfl, rfl⟩
theorem exCert_ok (q r : Nat) : (exCert q r).ok := ⟨exCut_ok q⟩
theorem ex_name : (decide (sevB = cnameD exCutD)) = false := by kernel_rfl
theorem ex_check : exD.check = 2 := B0 (k := 0) dE (.inr (.inr (.inr (.inl (of_decide_eq_false ex_name)))))
theorem ex_by : Bd exD = [] := if_neg (by rw [ex_check]; decide)
theorem ex_rec : (Ar 2 (Bd exD) exD.check).2 = 2 := by rw [Ar, if_neg (by rw [ex_check]; decide)]; exact ex_check
theorem ex_r0 : keepRd [] = (dkz, 0) := keepRd_ok keepR_nil rfl
theorem keepR_one (r : DRecord) : keepR [r] = B5 dkz r := rfl
theorem step_no {D : DKept} {r : DRecord} (h : 4 < r.dKind.toNat) : B5 D r = none := by
  have hn : ∀ k : UInt8, k.toNat ≤ 4 → ¬ r.dKind = k := fun k hk e => by rw [e] at h; omega
  rw [B5, if_neg (hn 1 dE), if_neg (hn 2 dE), if_neg (hn 3 dE), if_neg (hn 4 dE)]
theorem rd_kind {r : DRecord} (h : 4 < r.dKind.toNat) : keepRd [r] = (dkz, 4) := keepRd_bad (by rw [keepR_one, step_no h])
theorem exCut_is {w : World} {q : Nat} {m : Nat} (hl : Lies [⟨q, Bs [oneB], 50, m⟩] w) (hm : m = 1 * 32) : CutIs w (exCut q) exCutD := by
  subst hm
  exact ⟨exCut_ok q, rfl, rfl, acc_rows (Acc.some (E := 50) (cells := Bs [oneB]) (Nat.le_refl _) rfl) hl (fun l h => by rw [List.mem_singleton.1 h]; rfl) rfl dE⟩

theorem law26_lives  : Meets Tryz.prog 8 [] [] (fun _ => True) (fun v out => v = .bool true ∧ out = []) := by
 intro W hW
 refine Ag Tryz.func8 J 45 Tryz.ntmps8 J (G7 ?_)
 refine .build (cs := Aa oneB) J J J (fun w => by kernel_rfl) ?_
 refine .mkRow2 (z := agg (Aa (List.replicate 32 0))) [agg (Aa oneB)] (Bs [oneB]) J J Y51.h Sz50 Zr50 J J (by intro v hv; rw [List.mem_singleton.1 hv]; rfl) dE (by rfl) ?_
 intro q9
 refine .build (cs := (exCut q9).cells) J J J (fun w => by kernel_rfl) ?_
 refine .build (cs := Aa sevB) J J J (fun w => by kernel_rfl) ?_
 refine .build (cs := exVote.cells) J J J (fun w => by kernel_rfl) ?_
 refine .mkRow2 (z := agg Vote.zero.cells) [agg exVote.cells] exVote.cells J J Y24.h Sz81 Vote.zr J J (by intro v hv; rw [List.mem_singleton.1 hv]; exact Vote.length exVote_ok) dE (by simp [Value.cells]) ?_
 intro q13
 refine .build (cs := (exCert q9 q13).cells) J J J (fun w => by kernel_rfl) ?_
 refine .alloc (cs := Cert.zero.cells) J Cert.zr J ?_
 intro n1 hn1 hf1
 refine G5 ?_
 refine .call4 J J J J J Body13 (keep_read Sl.nil [] dE (fun d h => by cases h)) (fun w h => ⟨[], SeqIs.none⟩) ?_
 rintro v16 out16 ⟨X16, ok16, rfl, h16⟩
 rw [ex_r0] at h16 ⊢
 refine G3 ?_
 refine .alloc (cs := Kept.zero.cells) J Kept.zr J ?_
 intro n2 hn2 hf2
 refine G6 ?_
 refine .build (cs := (⟨5, Sl.nil⟩ : Record).cells) J J J (fun w => by kernel_rfl) ?_
 refine .mkRow2 (z := agg Record.zero.cells) [agg (⟨5, Sl.nil⟩ : Record).cells] (⟨5, Sl.nil⟩ : Record).cells J J Y28.h Sz91 Record.zr J J (by intro v hv; rw [List.mem_singleton.1 hv]; exact rfl) dE (by simp [Value.cells]) ?_
 intro q21
 refine .call4 J J J J J Body13 (keep_read ⟨some ⟨q21, 0, none⟩, 1, 1⟩ [⟨5, []⟩] sP (fun d h => by rw [List.mem_singleton.1 h]; decide)) (fun w h => ⟨_, seq_one q21 91 (⟨5, Sl.nil⟩ : Record) (Lies.of h (by intro b hb; rw [List.mem_singleton.1 hb]; repeat (first | exact List.mem_cons_self | refine List.mem_cons_of_mem _ ?_ | refine mem_seg ?_))) (Record.length (show (⟨5, Sl.nil⟩ : Record).ok from ⟨trivial⟩)) (by rw [Record.length (show (⟨5, Sl.nil⟩ : Record).ok from ⟨trivial⟩)]) ⟨⟨trivial⟩, rfl, ⟨rfl, Nat.le_refl _, SeesP.nil, by decide, fun _ => rfl⟩⟩⟩) ?_
 rintro v22 out22 ⟨X22, ok22, rfl, h22⟩
 rw [rd_kind dE] at h22 ⊢
 refine G3 ?_
 refine .alloc (cs := Kept.zero.cells) J Kept.zr J ?_
 intro n4 hn4 hf4
 refine G7 ?_
 refine .call4 J J J J J Body52 (keep_cert (exCert q9 q13) exD (by rw [ex_by]; decide)) (fun w h => ⟨exCert_ok _ _, exCut_is (q := q9) (Lies.of h (by intro b hb; rw [List.mem_singleton.1 hb]; repeat (first | exact List.mem_cons_self | refine List.mem_cons_of_mem _ ?_ | refine mem_seg ?_))) J, ⟨_, seq_one q13 81 exVote (Lies.of h (by intro b hb; rw [List.mem_singleton.1 hb]; repeat (first | exact List.mem_cons_self | refine List.mem_cons_of_mem _ ?_ | refine mem_seg ?_))) (Vote.length exVote_ok) J ⟨exVote_ok, rfl, by decide⟩⟩⟩) ?_
 rintro v27 out27 ⟨X27, ok27, rfl, k27, h27⟩
 refine G3 ?_
 refine .alloc (cs := Record.zero.cells) J Record.zr J ?_
 intro n6 hn6 hf6
 refine G7 ?_
 refine .eqi J J J J (decide_eq_true (rfl)) (G2 ?_)
 refine .build (cs := Kept.zero.cells) J J J (fun w => by kernel_rfl) ?_
 refine .cV J J J J Body14 (kit_kept_same X16 Kept.zero dkz dkz_small) (fun w h => ⟨h16 w (Lies.of h iN), keptz_is w⟩) ?_
 refine G3 ?_
 refine .eqi J J J J (decide_eq_true (rfl)) (G3 ?_)
 refine .eqi J J J J (decide_eq_true (ex_rec)) (G6 ?_)
 refine ⟨_, [], Ad J J, sP, sP, ?_, rfl⟩
 rfl


theorem all_blockk_1 (x : Block) (d : DB) (q : Nat) : Meets Tryz.prog 177 [agg x.cells, ptr q 0] [] (fun W => BlockIs W x d ∧ W.cell? ⟨q, 0, none⟩ = some (.func (.func 82) #[] #[])) (fun v out => v = .bool (!decide (d.check = 0)) ∧ out = []) := by
 intro W hW
 refine Ag Tryz.func177 J 8 Tryz.ntmps177 J (G3 ?_)
 intro n2 hn2 hf2
 refine G5 ?_
 refine .loadE J J J Tryz.underlying120 J (by first | (simp; done) | (simp; exact hW.2.2) | (simp [Cx.with]; done) | (simp [Cx.with]; omega)) (hW.2) ?_
 refine G1 ?_
 refine .cV J J J J Body82 (db_check x d) (fun w h => hW.1.ext h J) (G6 ?_)
 refine ⟨_, [], Ad J J, sP, sP, ?_, rfl⟩
 first
  | rfl
  | simp

theorem index_blockk (s : Sl) (ds : List DB) (q : Nat) : Meets Tryz.prog 228 [s.v, .func (.func 177) #[] #[ptr q 0]] [] (fun W => BlocksAt W s ds ∧ W.cell? ⟨q, 0, none⟩ = some (.func (.func 82) #[] #[])) (fun v out => v = i64 (fstBad (fun d : DB => !decide (d.check = 0)) ds) ∧ out = []) := by
 intro W hW
 obtain ⟨⟨rs, hs⟩, hq⟩ := hW
 have hmax := hs.max
 simp only [maxLen] at hmax
 have hcap := hs.cap
 refine Ag Tryz.func228 J 19 Tryz.ntmps228 J (G14 ?_)
 refine .loop (ι := Nat) (fun k => ⟨[(0, s.v), (1, .func (.func 177) #[] #[ptr q 0]), (7, i64 (s.n : Int)), (8, i64 (k : Int))], []⟩) (fun k => k ≤ s.n ∧ ∀ j, j < k → (ds.map (fun d : DB => !decide (d.check = 0)))[j]? = some false) (fun k => s.n - k) (0) ?_ ?_ ?_
 · exact ⟨by omega, fun j hj => by omega⟩
 · exact Ai (wk1 rfl (wk1 rfl (wk1 rfl (wk1 rfl wk0)))) wh0 nD
 rintro k ⟨hk, hg⟩
 refine G6 ?_
 first
  | refine Sat.condP rfl (fun hc0 => ?_) (fun hc0 => ?_)
  | refine Sat.condNP rfl (fun hc0 => ?_) (fun hc0 => ?_)
  | refine Sat.cond rfl (fun hc0 => ?_) (fun hc0 => ?_)
 ·
  have hk2 : k < s.n := by omega
  obtain ⟨b, o, r, d, hsp, hr, hd, his, hlen, hsee⟩ := hs.at dE hk2
  refine G15 ?_
  refine .idxSlP 131 J J J hsp J Y22.h Sz79 k oM oM (.loadEN r.cells J J J Y79.h J Sz79 sP hlen hsee (.callCV J J J J J Body177 (all_blockk_1 r d q) (fun w h => ⟨his.ext h J, h.keeps.cell sP hq⟩) (G2 ?_)))
  first
   | refine Sat.condP rfl (fun hc1 => ?_) (fun hc1 => ?_)
   | refine Sat.condNP rfl (fun hc1 => ?_) (fun hc1 => ?_)
   | refine Sat.cond rfl (fun hc1 => ?_) (fun hc1 => ?_)
  ·
   refine G13 ?_
   refine ⟨_, [], Ad J J, sP, sP, ?_, rfl⟩
   first
    | exact congrArg i64 (fstBad_none (by intro j hj; exact hg j (by rw [hs.nd] at hj; exact hj))).symm
    | exact congrArg i64 (fstBad_at hg (by rw [List.getElem?_map, hd]; simpa using hc1)).symm
  refine G8 ?_
  exact ⟨k + 1, ⟨by omega, fun j hj => by rcases Nat.lt_succ_iff_lt_or_eq.1 hj with h | rfl; exact hg j h; rw [List.getElem?_map, hd]; simpa using hc1⟩, by omega, Ai (wk1 rfl (wk1 rfl (wk1 rfl (wk1 rfl wk0)))) wh0 nD⟩
 obtain rfl : k = s.n := by omega
 refine G12 ?_
 refine ⟨_, [], Ad J J, sP, sP, ?_, rfl⟩
 first
  | exact congrArg i64 (fstBad_none (by intro j hj; exact hg j (by rw [hs.nd] at hj; exact hj))).symm
  | exact congrArg i64 (fstBad_at hg (by rw [List.getElem?_map, hd]; simpa using hc1)).symm
theorem contains_blockk (s : Sl) (ds : List DB) (q : Nat) : Meets Tryz.prog 176 [s.v, .func (.func 177) #[] #[ptr q 0]] [] (fun W => BlocksAt W s ds ∧ W.cell? ⟨q, 0, none⟩ = some (.func (.func 82) #[] #[])) (fun v out => v = .bool (ds.any (fun d : DB => !decide (d.check = 0))) ∧ out = []) := by
 intro W hW
 refine Ag Tryz.func176 J 9 Tryz.ntmps176 J (G9 ?_)
 refine .cV J J J J Body228 (index_blockk s ds q) (fun w h => ⟨Blocks_ext h J hW.1, h.keeps.cell sP hW.2⟩) (G6 ?_)
 refine ⟨_, [], Ad J J, sP, sP, ?_, rfl⟩
 exact congrArg Value.bool (fstBad_ge _ _)

theorem all_blockk (s : Sl) (ds : List DB) : Meets Tryz.prog 81 [s.v, .func (.func 82) #[] #[]] [] (fun W => BlocksAt W s ds) (fun v out => v = .bool (ds.all fun d => decide (d.check = 0)) ∧ out = []) := by
 intro W hW
 refine Ag Tryz.func81 J 9 Tryz.ntmps81 J (G2 ?_)
 refine .box1 J J J ?_
 intro n3 hn3 hf3
 refine G7 ?_
 refine .cV J J J J Body176 (contains_blockk s ds n3) (fun w h => ⟨Blocks_ext h J hW, (Ak h mM).cell (o := 0) J⟩) ?_
 refine G6 ?_
 refine ⟨_, [], Ad J J, sP, sP, ?_, rfl⟩
 exact congrArg Value.bool (any_all _ _)

theorem all_certk_1 (x : Cert) (d : DCert) (q : Nat) : Meets Tryz.prog 180 [agg x.cells, ptr q 0] [] (fun W => CertIs W x d ∧ W.cell? ⟨q, 0, none⟩ = some (.func (.func 31) #[] #[])) (fun v out => v = .bool (!decide (d.check = 0)) ∧ out = []) := by
 intro W hW
 refine Ag Tryz.func180 J 8 Tryz.ntmps180 J (G3 ?_)
 intro n2 hn2 hf2
 refine G5 ?_
 refine .loadE J J J Tryz.underlying69 J (by first | (simp; done) | (simp; exact hW.2.2) | (simp [Cx.with]; done) | (simp [Cx.with]; omega)) (hW.2) ?_
 refine G1 ?_
 refine .cV J J J J Body31 (cert_check x d) (fun w h => hW.1.ext h J) (G6 ?_)
 refine ⟨_, [], Ad J J, sP, sP, ?_, rfl⟩
 first
  | rfl
  | simp

theorem index_certk (s : Sl) (ds : List DCert) (q : Nat) : Meets Tryz.prog 229 [s.v, .func (.func 180) #[] #[ptr q 0]] [] (fun W => CertsAt W s ds ∧ W.cell? ⟨q, 0, none⟩ = some (.func (.func 31) #[] #[])) (fun v out => v = i64 (fstBad (fun d : DCert => !decide (d.check = 0)) ds) ∧ out = []) := by
 intro W hW
 obtain ⟨⟨rs, hs⟩, hq⟩ := hW
 have hmax := hs.max
 simp only [maxLen] at hmax
 have hcap := hs.cap
 refine Ag Tryz.func229 J 19 Tryz.ntmps229 J (G14 ?_)
 refine .loop (ι := Nat) (fun k => ⟨[(0, s.v), (1, .func (.func 180) #[] #[ptr q 0]), (7, i64 (s.n : Int)), (8, i64 (k : Int))], []⟩) (fun k => k ≤ s.n ∧ ∀ j, j < k → (ds.map (fun d : DCert => !decide (d.check = 0)))[j]? = some false) (fun k => s.n - k) (0) ?_ ?_ ?_
 · exact ⟨by omega, fun j hj => by omega⟩
 · exact Ai (wk1 rfl (wk1 rfl (wk1 rfl (wk1 rfl wk0)))) wh0 nD
 rintro k ⟨hk, hg⟩
 refine G6 ?_
 first
  | refine Sat.condP rfl (fun hc0 => ?_) (fun hc0 => ?_)
  | refine Sat.condNP rfl (fun hc0 => ?_) (fun hc0 => ?_)
  | refine Sat.cond rfl (fun hc0 => ?_) (fun hc0 => ?_)
 ·
  have hk2 : k < s.n := by omega
  obtain ⟨b, o, r, d, hsp, hr, hd, his, hlen, hsee⟩ := hs.at dE hk2
  refine G15 ?_
  refine .idxSlP 35 J J J hsp J Y23.h Sz55 k oM oM (.loadEN r.cells J J J Y55.h J Sz55 sP hlen hsee (.callCV J J J J J Body180 (all_certk_1 r d q) (fun w h => ⟨his.ext h J, h.keeps.cell sP hq⟩) (G2 ?_)))
  first
   | refine Sat.condP rfl (fun hc1 => ?_) (fun hc1 => ?_)
   | refine Sat.condNP rfl (fun hc1 => ?_) (fun hc1 => ?_)
   | refine Sat.cond rfl (fun hc1 => ?_) (fun hc1 => ?_)
  ·
   refine G13 ?_
   refine ⟨_, [], Ad J J, sP, sP, ?_, rfl⟩
   first
    | exact congrArg i64 (fstBad_none (by intro j hj; exact hg j (by rw [hs.nd] at hj; exact hj))).symm
    | exact congrArg i64 (fstBad_at hg (by rw [List.getElem?_map, hd]; simpa using hc1)).symm
  refine G8 ?_
  exact ⟨k + 1, ⟨by omega, fun j hj => by rcases Nat.lt_succ_iff_lt_or_eq.1 hj with h | rfl; exact hg j h; rw [List.getElem?_map, hd]; simpa using hc1⟩, by omega, Ai (wk1 rfl (wk1 rfl (wk1 rfl (wk1 rfl wk0)))) wh0 nD⟩
 obtain rfl : k = s.n := by omega
 refine G12 ?_
 refine ⟨_, [], Ad J J, sP, sP, ?_, rfl⟩
 first
  | exact congrArg i64 (fstBad_none (by intro j hj; exact hg j (by rw [hs.nd] at hj; exact hj))).symm
  | exact congrArg i64 (fstBad_at hg (by rw [List.getElem?_map, hd]; simpa using hc1)).symm
theorem contains_certk (s : Sl) (ds : List DCert) (q : Nat) : Meets Tryz.prog 179 [s.v, .func (.func 180) #[] #[ptr q 0]] [] (fun W => CertsAt W s ds ∧ W.cell? ⟨q, 0, none⟩ = some (.func (.func 31) #[] #[])) (fun v out => v = .bool (ds.any (fun d : DCert => !decide (d.check = 0))) ∧ out = []) := by
 intro W hW
 refine Ag Tryz.func179 J 9 Tryz.ntmps179 J (G9 ?_)
 refine .cV J J J J Body229 (index_certk s ds q) (fun w h => ⟨Certs_ext h J hW.1, h.keeps.cell sP hW.2⟩) (G6 ?_)
 refine ⟨_, [], Ad J J, sP, sP, ?_, rfl⟩
 exact congrArg Value.bool (fstBad_ge _ _)

theorem all_certk (s : Sl) (ds : List DCert) : Meets Tryz.prog 83 [s.v, .func (.func 31) #[] #[]] [] (fun W => CertsAt W s ds) (fun v out => v = .bool (ds.all fun d => decide (d.check = 0)) ∧ out = []) := by
 intro W hW
 refine Ag Tryz.func83 J 9 Tryz.ntmps83 J (G2 ?_)
 refine .box1 J J J ?_
 intro n3 hn3 hf3
 refine G7 ?_
 refine .cV J J J J Body179 (contains_certk s ds n3) (fun w h => ⟨Certs_ext h J hW, (Ak h mM).cell (o := 0) J⟩) ?_
 refine G6 ?_
 refine ⟨_, [], Ad J J, sP, sP, ?_, rfl⟩
 exact congrArg Value.bool (any_all _ _)

theorem all_votek_1 (x : Vote) (d : Vote) (q : Nat) : Meets Tryz.prog 182 [agg x.cells, ptr q 0] [] (fun W => VoteIs W x d ∧ W.cell? ⟨q, 0, none⟩ = some (.func (.func 85) #[] #[])) (fun v out => v = .bool (!decide (Ap d = 0)) ∧ out = []) := by
 intro W hW
 refine Ag Tryz.func182 J 8 Tryz.ntmps182 J (G3 ?_)
 intro n2 hn2 hf2
 refine G5 ?_
 refine .loadE J J J Tryz.underlying123 J (by first | (simp; done) | (simp; exact hW.2.2) | (simp [Cx.with]; done) | (simp [Cx.with]; omega)) (hW.2) ?_
 refine G1 ?_
 refine .cV J J J J Body85 ((vote_check x hW.1.ok).imp (fun w h => trivial) (fun v out h => by rwa [hW.1.eq] at h)) (fun w h => hW.1.ext h J) ?_
 refine G6 ?_
 refine ⟨_, [], Ad J J, sP, sP, ?_, rfl⟩
 first
  | rfl
  | simp

theorem index_votek (s : Sl) (ds : List Vote) (q : Nat) : Meets Tryz.prog 230 [s.v, .func (.func 182) #[] #[ptr q 0]] [] (fun W => VotesAt W s ds ∧ W.cell? ⟨q, 0, none⟩ = some (.func (.func 85) #[] #[])) (fun v out => v = i64 (fstBad (fun d : Vote => !decide (Ap d = 0)) ds) ∧ out = []) := by
 intro W hW
 obtain ⟨⟨rs, hs⟩, hq⟩ := hW
 have hmax := hs.max
 simp only [maxLen] at hmax
 have hcap := hs.cap
 refine Ag Tryz.func230 J 19 Tryz.ntmps230 J (G14 ?_)
 refine .loop (ι := Nat) (fun k => ⟨[(0, s.v), (1, .func (.func 182) #[] #[ptr q 0]), (7, i64 (s.n : Int)), (8, i64 (k : Int))], []⟩) (fun k => k ≤ s.n ∧ ∀ j, j < k → (ds.map (fun d : Vote => !decide (Ap d = 0)))[j]? = some false) (fun k => s.n - k) (0) ?_ ?_ ?_
 · exact ⟨by omega, fun j hj => by omega⟩
 · exact Ai (wk1 rfl (wk1 rfl (wk1 rfl (wk1 rfl wk0)))) wh0 nD
 rintro k ⟨hk, hg⟩
 refine G6 ?_
 first
  | refine Sat.condP rfl (fun hc0 => ?_) (fun hc0 => ?_)
  | refine Sat.condNP rfl (fun hc0 => ?_) (fun hc0 => ?_)
  | refine Sat.cond rfl (fun hc0 => ?_) (fun hc0 => ?_)
 ·
  have hk2 : k < s.n := by omega
  obtain ⟨b, o, r, d, hsp, hr, hd, his, hlen, hsee⟩ := hs.at dE hk2
  refine G15 ?_
  refine .idxSlP 132 J J J hsp J Y24.h Sz81 k oM oM (.loadEN r.cells J J J Y81.h J Sz81 sP hlen hsee (.callCV J J J J J Body182 (all_votek_1 r d q) (fun w h => ⟨his.ext h J, h.keeps.cell sP hq⟩) (G2 ?_)))
  first
   | refine Sat.condP rfl (fun hc1 => ?_) (fun hc1 => ?_)
   | refine Sat.condNP rfl (fun hc1 => ?_) (fun hc1 => ?_)
   | refine Sat.cond rfl (fun hc1 => ?_) (fun hc1 => ?_)
  ·
   refine G13 ?_
   refine ⟨_, [], Ad J J, sP, sP, ?_, rfl⟩
   first
    | exact congrArg i64 (fstBad_none (by intro j hj; exact hg j (by rw [hs.nd] at hj; exact hj))).symm
    | exact congrArg i64 (fstBad_at hg (by rw [List.getElem?_map, hd]; simpa using hc1)).symm
  refine G8 ?_
  exact ⟨k + 1, ⟨by omega, fun j hj => by rcases Nat.lt_succ_iff_lt_or_eq.1 hj with h | rfl; exact hg j h; rw [List.getElem?_map, hd]; simpa using hc1⟩, by omega, Ai (wk1 rfl (wk1 rfl (wk1 rfl (wk1 rfl wk0)))) wh0 nD⟩
 obtain rfl : k = s.n := by omega
 refine G12 ?_
 refine ⟨_, [], Ad J J, sP, sP, ?_, rfl⟩
 first
  | exact congrArg i64 (fstBad_none (by intro j hj; exact hg j (by rw [hs.nd] at hj; exact hj))).symm
  | exact congrArg i64 (fstBad_at hg (by rw [List.getElem?_map, hd]; simpa using hc1)).symm
theorem contains_votek (s : Sl) (ds : List Vote) (q : Nat) : Meets Tryz.prog 181 [s.v, .func (.func 182) #[] #[ptr q 0]] [] (fun W => VotesAt W s ds ∧ W.cell? ⟨q, 0, none⟩ = some (.func (.func 85) #[] #[])) (fun v out => v = .bool (ds.any (fun d : Vote => !decide (Ap d = 0))) ∧ out = []) := by
 intro W hW
 refine Ag Tryz.func181 J 9 Tryz.ntmps181 J (G9 ?_)
 refine .cV J J J J Body230 (index_votek s ds q) (fun w h => ⟨Cj h J hW.1, h.keeps.cell sP hW.2⟩) (G6 ?_)
 refine ⟨_, [], Ad J J, sP, sP, ?_, rfl⟩
 exact congrArg Value.bool (fstBad_ge _ _)

theorem all_votek (s : Sl) (ds : List Vote) : Meets Tryz.prog 84 [s.v, .func (.func 85) #[] #[]] [] (fun W => VotesAt W s ds) (fun v out => v = .bool (ds.all fun d => decide (Ap d = 0)) ∧ out = []) := by
 intro W hW
 refine Ag Tryz.func84 J 9 Tryz.ntmps84 J (G2 ?_)
 refine .box1 J J J ?_
 intro n3 hn3 hf3
 refine G7 ?_
 refine .cV J J J J Body181 (contains_votek s ds n3) (fun w h => ⟨Cj h J hW, (Ak h mM).cell (o := 0) J⟩) ?_
 refine G6 ?_
 refine ⟨_, [], Ad J J, sP, sP, ?_, rfl⟩
 exact congrArg Value.bool (any_all _ _)

theorem all_cutk_1 (x : Cut) (d : DCut) (q : Nat) : Meets Tryz.prog 184 [agg x.cells, ptr q 0] [] (fun W => CutIs W x d ∧ W.cell? ⟨q, 0, none⟩ = some (.func (.func 87) #[] #[])) (fun v out => v = .bool (!decide (d.check = 0)) ∧ out = []) := by
 intro W hW
 refine Ag Tryz.func184 J 8 Tryz.ntmps184 J (G3 ?_)
 intro n2 hn2 hf2
 refine G5 ?_
 refine .loadE J J J Tryz.underlying125 J (by first | (simp; done) | (simp; exact hW.2.2) | (simp [Cx.with]; done) | (simp [Cx.with]; omega)) (hW.2) ?_
 refine G1 ?_
 refine .cV J J J J Body87 (cut_check x d) (fun w h => hW.1.ext h J) (G6 ?_)
 refine ⟨_, [], Ad J J, sP, sP, ?_, rfl⟩
 first
  | rfl
  | simp

theorem index_cutk (s : Sl) (ds : List DCut) (q : Nat) : Meets Tryz.prog 231 [s.v, .func (.func 184) #[] #[ptr q 0]] [] (fun W => CutsAt W s ds ∧ W.cell? ⟨q, 0, none⟩ = some (.func (.func 87) #[] #[])) (fun v out => v = i64 (fstBad (fun d : DCut => !decide (d.check = 0)) ds) ∧ out = []) := by
 intro W hW
 obtain ⟨⟨rs, hs⟩, hq⟩ := hW
 have hmax := hs.max
 simp only [maxLen] at hmax
 have hcap := hs.cap
 refine Ag Tryz.func231 J 19 Tryz.ntmps231 J (G14 ?_)
 refine .loop (ι := Nat) (fun k => ⟨[(0, s.v), (1, .func (.func 184) #[] #[ptr q 0]), (7, i64 (s.n : Int)), (8, i64 (k : Int))], []⟩) (fun k => k ≤ s.n ∧ ∀ j, j < k → (ds.map (fun d : DCut => !decide (d.check = 0)))[j]? = some false) (fun k => s.n - k) (0) ?_ ?_ ?_
 · exact ⟨by omega, fun j hj => by omega⟩
 · exact Ai (wk1 rfl (wk1 rfl (wk1 rfl (wk1 rfl wk0)))) wh0 nD
 rintro k ⟨hk, hg⟩
 refine G6 ?_
 first
  | refine Sat.condP rfl (fun hc0 => ?_) (fun hc0 => ?_)
  | refine Sat.condNP rfl (fun hc0 => ?_) (fun hc0 => ?_)
  | refine Sat.cond rfl (fun hc0 => ?_) (fun hc0 => ?_)
 ·
  have hk2 : k < s.n := by omega
  obtain ⟨b, o, r, d, hsp, hr, hd, his, hlen, hsee⟩ := hs.at dE hk2
  refine G15 ?_
  refine .idxSlP 34 J J J hsp J Y25.h Sz53 k oM oM (.loadEN r.cells J J J Y53.h J Sz53 sP hlen hsee (.callCV J J J J J Body184 (all_cutk_1 r d q) (fun w h => ⟨his.ext h J, h.keeps.cell sP hq⟩) (G2 ?_)))
  first
   | refine Sat.condP rfl (fun hc1 => ?_) (fun hc1 => ?_)
   | refine Sat.condNP rfl (fun hc1 => ?_) (fun hc1 => ?_)
   | refine Sat.cond rfl (fun hc1 => ?_) (fun hc1 => ?_)
  ·
   refine G13 ?_
   refine ⟨_, [], Ad J J, sP, sP, ?_, rfl⟩
   first
    | exact congrArg i64 (fstBad_none (by intro j hj; exact hg j (by rw [hs.nd] at hj; exact hj))).symm
    | exact congrArg i64 (fstBad_at hg (by rw [List.getElem?_map, hd]; simpa using hc1)).symm
  refine G8 ?_
  exact ⟨k + 1, ⟨by omega, fun j hj => by rcases Nat.lt_succ_iff_lt_or_eq.1 hj with h | rfl; exact hg j h; rw [List.getElem?_map, hd]; simpa using hc1⟩, by omega, Ai (wk1 rfl (wk1 rfl (wk1 rfl (wk1 rfl wk0)))) wh0 nD⟩
 obtain rfl : k = s.n := by omega
 refine G12 ?_
 refine ⟨_, [], Ad J J, sP, sP, ?_, rfl⟩
 first
  | exact congrArg i64 (fstBad_none (by intro j hj; exact hg j (by rw [hs.nd] at hj; exact hj))).symm
  | exact congrArg i64 (fstBad_at hg (by rw [List.getElem?_map, hd]; simpa using hc1)).symm
theorem contains_cutk (s : Sl) (ds : List DCut) (q : Nat) : Meets Tryz.prog 183 [s.v, .func (.func 184) #[] #[ptr q 0]] [] (fun W => CutsAt W s ds ∧ W.cell? ⟨q, 0, none⟩ = some (.func (.func 87) #[] #[])) (fun v out => v = .bool (ds.any (fun d : DCut => !decide (d.check = 0))) ∧ out = []) := by
 intro W hW
 refine Ag Tryz.func183 J 9 Tryz.ntmps183 J (G9 ?_)
 refine .cV J J J J Body231 (index_cutk s ds q) (fun w h => ⟨Cuts_ext h J hW.1, h.keeps.cell sP hW.2⟩) (G6 ?_)
 refine ⟨_, [], Ad J J, sP, sP, ?_, rfl⟩
 exact congrArg Value.bool (fstBad_ge _ _)

theorem all_cutk (s : Sl) (ds : List DCut) : Meets Tryz.prog 86 [s.v, .func (.func 87) #[] #[]] [] (fun W => CutsAt W s ds) (fun v out => v = .bool (ds.all fun d => decide (d.check = 0)) ∧ out = []) := by
 intro W hW
 refine Ag Tryz.func86 J 9 Tryz.ntmps86 J (G2 ?_)
 refine .box1 J J J ?_
 intro n3 hn3 hf3
 refine G7 ?_
 refine .cV J J J J Body183 (contains_cutk s ds n3) (fun w h => ⟨Cuts_ext h J hW, (Ak h mM).cell (o := 0) J⟩) ?_
 refine G6 ?_
 refine ⟨_, [], Ad J J, sP, sP, ?_, rfl⟩
 exact congrArg Value.bool (any_all _ _)

noncomputable def DKept.good (D : DKept) : Bool := (D.dBlocks.all fun d => decide (d.check = 0)) && ((D.dCerts.all fun d => decide (d.check = 0)) && ((D.dVotes.all fun d => decide (Ap d = 0)) && ((D.dCuts.all fun d => decide (d.check = 0)) && inOrd D.dCerts)))
noncomputable def DKept.check (D : DKept) : Int := if D.good = true then 0 else 2

theorem keep_check (X : Kept) (D : DKept) : Meets Tryz.prog 16 [agg X.cells] [] (fun W => KeptIs W X D) (fun v out => v = i64 D.check ∧ out = []) := by
 intro W hW
 have hok := hW.ok
 refine Ag Tryz.func16 J 31 Tryz.ntmps16 J (G3 ?_)
 intro n1 hn1 hf1
 refine G7 ?_
 refine .load1 J J J Y22.h J mM (by first | exact Kept.get_fBlocks (by first | exact oK  | exact hok) | exact vL) ?_
 refine .callB J J J J Body81 (all_blockk X.fBlocks D.dBlocks) (fun w h => Blocks_ext h J hW.fBlocks) (fun hs1_20 => ?_) (fun hs1_20 => ?_)
 ·
  first | have hs1_2 := of_decide_eq_true hs1_20 | have hs1_2 := of_decide_eq_false hs1_20 | have hs1_2 := nd_t hs1_20 | have hs1_2 := nd_f hs1_20 | have hs1_2 := hs1_20
  refine G3 ?_
  refine .load1 J J J Y23.h J mM (by first | exact Kept.get_fCerts (by first | exact oK  | exact hok) | exact vL) ?_
  refine .callB J J J J Body83 (all_certk X.fCerts D.dCerts) (fun w h => Certs_ext h J hW.fCerts) (fun hs1_70 => ?_) (fun hs1_70 => ?_)
  ·
   first | have hs1_7 := of_decide_eq_true hs1_70 | have hs1_7 := of_decide_eq_false hs1_70 | have hs1_7 := nd_t hs1_70 | have hs1_7 := nd_f hs1_70 | have hs1_7 := hs1_70
   refine G4 ?_
   refine .load1 J J J Y24.h J mM (by first | exact Kept.get_fVotes (by first | exact oK  | exact hok) | exact vL) ?_
   refine .callB J J J J Body84 (all_votek X.fVotes D.dVotes) (fun w h => Cj h J hW.fVotes) (fun hs1_130 => ?_) (fun hs1_130 => ?_)
   ·
    first | have hs1_13 := of_decide_eq_true hs1_130 | have hs1_13 := of_decide_eq_false hs1_130 | have hs1_13 := nd_t hs1_130 | have hs1_13 := nd_f hs1_130 | have hs1_13 := hs1_130
    refine G4 ?_
    refine .load1 J J J Y25.h J mM (by first | exact Kept.get_fCuts (by first | exact oK  | exact hok) | exact vL) ?_
    refine .callB J J J J Body86 (all_cutk X.fCuts D.dCuts) (fun w h => Cuts_ext h J hW.fCuts) (fun hs1_190 => ?_) (fun hs1_190 => ?_)
    ·
     first | have hs1_19 := of_decide_eq_true hs1_190 | have hs1_19 := of_decide_eq_false hs1_190 | have hs1_19 := nd_t hs1_190 | have hs1_19 := nd_f hs1_190 | have hs1_19 := hs1_190
     refine G4 ?_
     refine .load1 J J J Y23.h J mM (by first | exact Kept.get_fCerts (by first | exact oK  | exact hok) | exact vL) ?_
     refine .cV J J J J Body80 (in_order X.fCerts D.dCerts) (fun w h => Certs_ext h J hW.fCerts) (G4 ?_)
     first
      | refine Sat.condP rfl (fun hc0 => ?_) (fun hc0 => ?_)
      | refine Sat.condNP rfl (fun hc0 => ?_) (fun hc0 => ?_)
      | refine Sat.cond rfl (fun hc0 => ?_) (fun hc0 => ?_)
     ·
      refine G8 ?_
      refine ⟨_, [], Ad J J, sP, sP, ?_, rfl⟩
      first
       | (simp only [DKept.check, DKept.good, hs1_2, hs1_7, hs1_13, hs1_19, Bool.and_true, Bool.and_false, Bool.true_and, Bool.false_and, Bool.false_eq_true, if_true, if_false]; done)
       | (simp only [DKept.check, DKept.good, hs1_2, hs1_7, hs1_13, Bool.and_true, Bool.and_false, Bool.true_and, Bool.false_and, Bool.false_eq_true, if_true, if_false]; done)
       | (simp only [DKept.check, DKept.good, hs1_2, hs1_7, Bool.and_true, Bool.and_false, Bool.true_and, Bool.false_and, Bool.false_eq_true, if_true, if_false]; done)
       | (simp only [DKept.check, DKept.good, hs1_2, Bool.and_true, Bool.and_false, Bool.true_and, Bool.false_and, Bool.false_eq_true, if_true, if_false]; done)
       | simp_all [DKept.check, DKept.good]
     refine G9 ?_
     refine ⟨_, [], Ad J J, sP, sP, ?_, rfl⟩
     first
      | (simp only [DKept.check, DKept.good, hs1_2, hs1_7, hs1_13, hs1_19, Bool.and_true, Bool.and_false, Bool.true_and, Bool.false_and, Bool.false_eq_true, if_true, if_false]; done)
      | (simp only [DKept.check, DKept.good, hs1_2, hs1_7, hs1_13, Bool.and_true, Bool.and_false, Bool.true_and, Bool.false_and, Bool.false_eq_true, if_true, if_false]; done)
      | (simp only [DKept.check, DKept.good, hs1_2, hs1_7, Bool.and_true, Bool.and_false, Bool.true_and, Bool.false_and, Bool.false_eq_true, if_true, if_false]; done)
      | (simp only [DKept.check, DKept.good, hs1_2, Bool.and_true, Bool.and_false, Bool.true_and, Bool.false_and, Bool.false_eq_true, if_true, if_false]; done)
      | simp_all [DKept.check, DKept.good]
    first | have hs1_19 := of_decide_eq_true hs1_190 | have hs1_19 := of_decide_eq_false hs1_190 | have hs1_19 := nd_t hs1_190 | have hs1_19 := nd_f hs1_190 | have hs1_19 := hs1_190
    refine G10 ?_
    refine .cond_t J J (G8 ?_)
    refine ⟨_, [], Ad J J, sP, sP, ?_, rfl⟩
    first
     | (simp only [DKept.check, DKept.good, hs1_2, hs1_7, hs1_13, hs1_19, Bool.and_true, Bool.and_false, Bool.true_and, Bool.false_and, Bool.false_eq_true, if_true, if_false]; done)
     | (simp only [DKept.check, DKept.good, hs1_2, hs1_7, hs1_13, Bool.and_true, Bool.and_false, Bool.true_and, Bool.false_and, Bool.false_eq_true, if_true, if_false]; done)
     | (simp only [DKept.check, DKept.good, hs1_2, hs1_7, Bool.and_true, Bool.and_false, Bool.true_and, Bool.false_and, Bool.false_eq_true, if_true, if_false]; done)
     | (simp only [DKept.check, DKept.good, hs1_2, Bool.and_true, Bool.and_false, Bool.true_and, Bool.false_and, Bool.false_eq_true, if_true, if_false]; done)
     | simp_all [DKept.check, DKept.good]
   first | have hs1_13 := of_decide_eq_true hs1_130 | have hs1_13 := of_decide_eq_false hs1_130 | have hs1_13 := nd_t hs1_130 | have hs1_13 := nd_f hs1_130 | have hs1_13 := hs1_130
   refine G16 ?_
   refine .cond_t J J (G8 ?_)
   refine ⟨_, [], Ad J J, sP, sP, ?_, rfl⟩
   first
    | (simp only [DKept.check, DKept.good, hs1_2, hs1_7, hs1_13, hs1_19, Bool.and_true, Bool.and_false, Bool.true_and, Bool.false_and, Bool.false_eq_true, if_true, if_false]; done)
    | (simp only [DKept.check, DKept.good, hs1_2, hs1_7, hs1_13, Bool.and_true, Bool.and_false, Bool.true_and, Bool.false_and, Bool.false_eq_true, if_true, if_false]; done)
    | (simp only [DKept.check, DKept.good, hs1_2, hs1_7, Bool.and_true, Bool.and_false, Bool.true_and, Bool.false_and, Bool.false_eq_true, if_true, if_false]; done)
    | (simp only [DKept.check, DKept.good, hs1_2, Bool.and_true, Bool.and_false, Bool.true_and, Bool.false_and, Bool.false_eq_true, if_true, if_false]; done)
    | simp_all [DKept.check, DKept.good]
  first | have hs1_7 := of_decide_eq_true hs1_70 | have hs1_7 := of_decide_eq_false hs1_70 | have hs1_7 := nd_t hs1_70 | have hs1_7 := nd_f hs1_70 | have hs1_7 := hs1_70
  refine G22 ?_
  refine .cond_t J J (G8 ?_)
  refine ⟨_, [], Ad J J, sP, sP, ?_, rfl⟩
  first
   | (simp only [DKept.check, DKept.good, hs1_2, hs1_7, hs1_13, hs1_19, Bool.and_true, Bool.and_false, Bool.true_and, Bool.false_and, Bool.false_eq_true, if_true, if_false]; done)
   | (simp only [DKept.check, DKept.good, hs1_2, hs1_7, hs1_13, Bool.and_true, Bool.and_false, Bool.true_and, Bool.false_and, Bool.false_eq_true, if_true, if_false]; done)
   | (simp only [DKept.check, DKept.good, hs1_2, hs1_7, Bool.and_true, Bool.and_false, Bool.true_and, Bool.false_and, Bool.false_eq_true, if_true, if_false]; done)
   | (simp only [DKept.check, DKept.good, hs1_2, Bool.and_true, Bool.and_false, Bool.true_and, Bool.false_and, Bool.false_eq_true, if_true, if_false]; done)
   | simp_all [DKept.check, DKept.good]
 first | have hs1_2 := of_decide_eq_true hs1_20 | have hs1_2 := of_decide_eq_false hs1_20 | have hs1_2 := nd_t hs1_20 | have hs1_2 := nd_f hs1_20 | have hs1_2 := hs1_20
 refine G27 ?_
 refine .cond_t J J (G8 ?_)
 refine ⟨_, [], Ad J J, sP, sP, ?_, rfl⟩
 first
  | (simp only [DKept.check, DKept.good, hs1_2, hs1_7, hs1_13, hs1_19, Bool.and_true, Bool.and_false, Bool.true_and, Bool.false_and, Bool.false_eq_true, if_true, if_false]; done)
  | (simp only [DKept.check, DKept.good, hs1_2, hs1_7, hs1_13, Bool.and_true, Bool.and_false, Bool.true_and, Bool.false_and, Bool.false_eq_true, if_true, if_false]; done)
  | (simp only [DKept.check, DKept.good, hs1_2, hs1_7, Bool.and_true, Bool.and_false, Bool.true_and, Bool.false_and, Bool.false_eq_true, if_true, if_false]; done)
  | (simp only [DKept.check, DKept.good, hs1_2, Bool.and_true, Bool.and_false, Bool.true_and, Bool.false_and, Bool.false_eq_true, if_true, if_false]; done)
  | simp_all [DKept.check, DKept.good]

def LenR (k : Nat) (v : Value) (out : List Blk) : Prop := ∃ s : Sl, v = s.v ∧ s.n = k
theorem LenR.loose (k : Nat) : Loose (LenR k) := fun l hl => ⟨(⟨none, k, 0⟩ : Sl).v, [], ⟨_, rfl, rfl⟩, hl⟩

def putE {D : Type} (f : D → DRecord × Int) : List D → Int
  | [] => 0
  | d :: l => if (f d).2 = 0 then putE f l else (f d).2
def putD {D : Type} (f : D → DRecord × Int) (ds : List D) : List DRecord := ds.map fun d => (f d).1
theorem putE_step {D : Type} (f : D → DRecord × Int) : ∀ (ds : List D) (k : Nat) (d : D), ds[k]? = some d → putE f (ds.take k) = 0 → (f d).2 = 0 → putE f (ds.take (k + 1)) = 0
  | [], k, d, h, _, _ => by simp at h
  | x :: l, 0, d, h, _, h2 => by
    obtain rfl : x = d := by simpa using h
    simp [putE, h2]
  | x :: l, k + 1, d, h, h1, h2 => by
    rw [List.take_succ_cons, putE] at h1
    rw [List.take_succ_cons, putE]
    by_cases hx : (f x).2 = 0
    · rw [if_pos hx] at h1 ⊢
      exact putE_step f l k d (by simpa using h) h1 h2
    · rw [if_neg hx] at h1; exact absurd h1 hx
theorem putE_fail {D : Type} (f : D → DRecord × Int) : ∀ (ds : List D) (k : Nat) (d : D), ds[k]? = some d → putE f (ds.take k) = 0 → ¬ (f d).2 = 0 → putE f ds = (f d).2
  | [], k, d, h, _, _ => by simp at h
  | x :: l, 0, d, h, _, h2 => by
    obtain rfl : x = d := by simpa using h
    rw [putE, if_neg h2]
  | x :: l, k + 1, d, h, h1, h2 => by
    rw [List.take_succ_cons, putE] at h1
    rw [putE]
    by_cases hx : (f x).2 = 0
    · rw [if_pos hx] at h1 ⊢
      exact putE_fail f l k d (by simpa using h) h1 h2
    · rw [if_neg hx] at h1; exact absurd h1 hx
theorem putD_step {D : Type} (f : D → DRecord × Int) {ds : List D} {k : Nat} {d : D} (h : ds[k]? = some d) : putD f (ds.take (k + 1)) = putD f (ds.take k) ++ [(f d).1] := by
  rw [putD, take_snoc h, List.map_append]; rfl
def Stay (L : List Nat) (W : World) (F : World → Prop) : Prop := ∀ W2, Keeps L W W2 → F W2
theorem seq_sees {R D : Type} {cells : R → List Value} {k : Nat} {Is : World → R → D → Prop} {w : World} {s : Sl} {rs : List R} {ds : List D} (h : SeqIs cells k Is w s rs ds) (hk : 0 < k) {i b o : Nat} {r : R} {d : D} (hp : s.p = some ⟨b, o, none⟩) (hr : rs[i]? = some r) (hd : ds[i]? = some d) : B8 w b (o + i * k) (cells r) ∧ Is w r d := by
  have hi : i < s.n := by rw [← h.nr]; exact (List.getElem?_eq_some_iff.1 hr).1
  obtain ⟨b', o', r', d', hp', hr', hd', hi', hl', hs'⟩ := h.at hk hi
  rw [hp] at hp'; cases hp'
  rw [hr] at hr'; cases hr'
  rw [hd] at hd'; cases hd'
  exact ⟨hs', hi'⟩
theorem put_hrep {P : Program} {W : World} {N m size : Nat} {s : Sl} {bl : List Blk} {cells : List Value} {E : TypeId} (h : Hw.Acc s bl cells E m size) (hl : Lies bl W) : HRep ⟨P, W, N, bl.map (·.n), [], []⟩ (bl ++ []) W := by
  rw [List.append_nil]
  exact Acc.hrep (P := P) (N := N) h hl
def PutR {D : Type} (f : D → DRecord × Int) (ds : List D) (m n : Nat) (o0 : List Blk) (dr : List DRecord) (v : Value) (out : List Blk) : Prop := ∃ (s2 : Sl) (b2 o2 : List Blk) (rs2 : List Record), v = .tuple #[s2.v, i64 (putE f ds)] ∧ out = b2 ++ (o2 ++ []) ∧ (putE f ds = 0 → OwnSeq Record.cells 2 RecordIs 91 s2 b2 (o2 ++ o0) rs2 (dr ++ putD f ds) (m + n)) ∧ (¬ putE f ds = 0 → s2 = Sl.nil ∧ b2 = [] ∧ o2 = [])

theorem put_snoc {D : Type} {f : D → DRecord × Int} {ds : List D} {k m : Nat} {d : D} {s s2 : Sl} {b b2 o o0 out : List Blk} {rs : List Record} {dr : List DRecord} {X : Record} (h : OwnSeq Record.cells 2 RecordIs 91 s b (o ++ o0) rs (dr ++ putD f (ds.take k)) (m + k)) (hd : ds[k]? = some d) (ha : Hw.Acc s2 b2 ((rs.map Record.cells).flatten ++ X.cells) 91 (m + k + 1) 2) (ok : X.ok) (hX : ∀ W2, Lies out W2 → RecordIs W2 X (f d).1) :
    OwnSeq Record.cells 2 RecordIs 91 s2 b2 ((out ++ o) ++ o0) (rs ++ [X]) (dr ++ putD f (ds.take (k + 1))) (m + (k + 1)) := by
  rw [putD_step f hd, ← List.append_assoc, List.append_assoc out]
  exact h.snoc ha (Record.length ok) hX

theorem kput_vote (s : Sl) (bl o0 : List Blk) (rs : List Record) (dr : List DRecord) (m : Nat) (hq : OwnSeq Record.cells 2 RecordIs 91 s bl o0 rs dr m) (hm : m ≤ 100000) (t : Sl) (rt : List Vote) (ds : List Vote) (hsn : t.n ≤ 1000) (hsz : ∀ d ∈ ds, (A0 d).length ≤ 40000) : Meets Tryz.prog 71 [s.v, t.v, .func (.func 54) #[] #[]] (bl.map (·.n)) (fun W => Lies bl W ∧ Stay (bl.map (·.n)) W (fun W2 => SeqIs Vote.cells 132 VoteIs W2 t rt ds)) (PutR (fun X : Vote => Ar 3 (A0 X) (Ap X)) ds m t.n o0 dr) := by
 intro W hW
 have hs := hW.2 W (Keeps.refl _ _)
 have hnd := hs.nd
 refine A3 (hp0 := (bl ++ [])) Tryz.func71 J 33 Tryz.ntmps71 J (put_hrep hq.acc hW.1) (G15 ?_)
 refine .loop (ι := Nat × Sl × List Blk × List Blk × List Record) (fun p => ⟨[(0, p.2.1.v), (2, .func (.func 54) #[] #[]), (12, t.v), (13, i64 (t.n : Int)), (14, i64 (p.1 : Int))], (p.2.2.1 ++ (p.2.2.2.1 ++ []))⟩) (fun p => p.1 ≤ t.n ∧ putE (fun X : Vote => Ar 3 (A0 X) (Ap X)) (ds.take p.1) = 0 ∧ OwnSeq Record.cells 2 RecordIs 91 p.2.1 p.2.2.1 (p.2.2.2.1 ++ o0) p.2.2.2.2 (dr ++ putD (fun X : Vote => Ar 3 (A0 X) (Ap X)) (ds.take p.1)) (m + p.1)) (fun p => t.n - p.1) ((0, s, bl, [], rs)) ?_ ?_ ?_
 · exact ⟨Nat.zero_le _, rfl, by simpa [putD] using hq⟩
 · exact Af (wk1 rfl (wk1 rfl (wk1 rfl (wk1 rfl (wk1 rfl wk0))))) (Ab sG (Bh Ae))
 rintro p ⟨hp1, hp2, hp3⟩
 refine G6 ?_
 first
  | refine Sat.condP rfl (fun hc0 => ?_) (fun hc0 => ?_)
  | refine Sat.condNP rfl (fun hc0 => ?_) (fun hc0 => ?_)
  | refine Sat.cond rfl (fun hc0 => ?_) (fun hc0 => ?_)
 ·
  have hk2 : p.1 < t.n := by omega
  obtain ⟨b, o, r, d, hsp, hr, hd, his, hlen, hsee⟩ := hs.at dE hk2
  have okr : r.ok := his.ok
  refine G6 ?_
  refine .idxSlP 132 J J J hsp J Y24.h Sz81 p.1 J oM ?_
  refine .loadAny J J J (v := agg r.cells) (fun w h => by
   have := run_row (P := Tryz.prog) (w := w) hlen ((seq_sees (hW.2 w h.keeps) dE hsp hr hd).1)
   simp [loadVar, run_isAgg_arr Y81.h rfl, Ck Sz81, this]) ?_
  refine .alloc (cs := Vote.zero.cells) J Vote.zr J ?_
  intro n9 hn9 hf9
  refine G7 ?_
  refine .call4 J J J J J Body54 (keep_vote r d (hsz d (List.mem_of_getElem? hd))) (fun w h => (seq_sees (hW.2 w h.keeps) dE hsp hr hd).2) ?_
  rintro v21 out21 ⟨X21, ok21, rfl, k21, h21⟩
  refine G3 ?_
  refine .alloc (cs := Record.zero.cells) J Record.zr J ?_
  intro n10 hn10 hf10
  refine G11 ?_
  first
   | refine Sat.condP rfl (fun hc1 => ?_) (fun hc1 => ?_)
   | refine Sat.condNP rfl (fun hc1 => ?_) (fun hc1 => ?_)
   | refine Sat.cond rfl (fun hc1 => ?_) (fun hc1 => ?_)
  ·
   have he1 : ¬ ((fun X : Vote => Ar 3 (A0 X) (Ap X)) d).2 = 0 := by omega
   refine G15 ?_
   refine Ah (out := []) (A9 J J J) Ae ?_
   exact ⟨Sl.nil, [], [], [], by rw [putE_fail _ _ _ _ hd hp2 he1]; rfl, rfl, fun e => absurd (by rw [putE_fail _ _ _ _ hd hp2 he1] at e; exact e) he1, fun _ => ⟨rfl, rfl, rfl⟩⟩
  have he0 : ((fun X : Vote => Ar 3 (A0 X) (Ap X)) d).2 = 0 := by omega
  refine G5 ?_
  refine .mkRow2 (z := agg Record.zero.cells) [agg X21.cells] X21.cells J J Y28.h Sz91 Record.zr J J (by intro v hv; rw [List.mem_singleton.1 hv]; exact Record.length ok21) dE (by simp [Value.cells]) ?_
  intro q29
  refine .appendAcc (z := agg Record.zero.cells) (by' := 32) (X21.cells) J J J J J Y28.h Y28.h Sz91 Record.zr (by unfold By; kernel_rfl) J hp3.acc sG (fun w h => SeesP.of (Aj h mM)) (fun e => by cases e) (Record.isCell ok21) oM oM (by rw [Record.length ok21]) ?_
  intro s30 bl30 hac30
  refine G9 ?_
  exact ⟨(p.1 + 1, s30, bl30, out21 ++ p.2.2.2.1, p.2.2.2.2 ++ [X21]), ⟨by simp only []; omega, putE_step _ _ _ _ hd hp2 he0, put_snoc hp3 hd hac30 ok21 h21⟩, by simp only []; omega, Af (wk1 rfl (wk1 rfl (wk1 rfl (wk1 rfl (wk1 (by rw [Int.natCast_add]; rfl) wk0))))) (Ab sG (Br (Ab sG (Ab sG Ae))))⟩
 have hpe : p.1 = t.n := by omega
 refine G14 ?_
 refine Ah (out := (p.2.2.1 ++ (p.2.2.2.1 ++ []))) (A9 J J J) (Ab sG (Ab sG Ae)) ?_
 rw [List.take_of_length_le oM] at hp2
 rw [List.take_of_length_le oM, hpe] at hp3
 exact ⟨p.2.1, p.2.2.1, p.2.2.2.1, p.2.2.2.2, by rw [hp2], rfl, fun _ => hp3, fun e => absurd hp2 e⟩
theorem kput_cut (s : Sl) (bl o0 : List Blk) (rs : List Record) (dr : List DRecord) (m : Nat) (hq : OwnSeq Record.cells 2 RecordIs 91 s bl o0 rs dr m) (hm : m ≤ 100000) (t : Sl) (rt : List Cut) (ds : List DCut) (hsn : t.n ≤ 1000) (hsz : ∀ d ∈ ds, (Bp d).length ≤ 40000) : Meets Tryz.prog 70 [s.v, t.v, .func (.func 56) #[] #[]] (bl.map (·.n)) (fun W => Lies bl W ∧ Stay (bl.map (·.n)) W (fun W2 => SeqIs Cut.cells 34 CutIs W2 t rt ds)) (PutR (fun X : DCut => Ar 4 (Bp X) (DCut.check X)) ds m t.n o0 dr) := by
 intro W hW
 have hs := hW.2 W (Keeps.refl _ _)
 have hnd := hs.nd
 refine A3 (hp0 := (bl ++ [])) Tryz.func70 J 33 Tryz.ntmps70 J (put_hrep hq.acc hW.1) (G15 ?_)
 refine .loop (ι := Nat × Sl × List Blk × List Blk × List Record) (fun p => ⟨[(0, p.2.1.v), (2, .func (.func 56) #[] #[]), (12, t.v), (13, i64 (t.n : Int)), (14, i64 (p.1 : Int))], (p.2.2.1 ++ (p.2.2.2.1 ++ []))⟩) (fun p => p.1 ≤ t.n ∧ putE (fun X : DCut => Ar 4 (Bp X) (DCut.check X)) (ds.take p.1) = 0 ∧ OwnSeq Record.cells 2 RecordIs 91 p.2.1 p.2.2.1 (p.2.2.2.1 ++ o0) p.2.2.2.2 (dr ++ putD (fun X : DCut => Ar 4 (Bp X) (DCut.check X)) (ds.take p.1)) (m + p.1)) (fun p => t.n - p.1) ((0, s, bl, [], rs)) ?_ ?_ ?_
 · exact ⟨Nat.zero_le _, rfl, by simpa [putD] using hq⟩
 · exact Af (wk1 rfl (wk1 rfl (wk1 rfl (wk1 rfl (wk1 rfl wk0))))) (Ab sG (Bh Ae))
 rintro p ⟨hp1, hp2, hp3⟩
 refine G6 ?_
 first
  | refine Sat.condP rfl (fun hc0 => ?_) (fun hc0 => ?_)
  | refine Sat.condNP rfl (fun hc0 => ?_) (fun hc0 => ?_)
  | refine Sat.cond rfl (fun hc0 => ?_) (fun hc0 => ?_)
 ·
  have hk2 : p.1 < t.n := by omega
  obtain ⟨b, o, r, d, hsp, hr, hd, his, hlen, hsee⟩ := hs.at dE hk2
  have okr : r.ok := his.ok
  refine G6 ?_
  refine .idxSlP 34 J J J hsp J Y25.h Sz53 p.1 J oM ?_
  refine .loadAny J J J (v := agg r.cells) (fun w h => by
   have := run_row (P := Tryz.prog) (w := w) hlen ((seq_sees (hW.2 w h.keeps) dE hsp hr hd).1)
   simp [loadVar, run_isAgg_arr Y53.h rfl, Ck Sz53, this]) ?_
  refine .alloc (cs := Cut.zero.cells) J Cut.zr J ?_
  intro n9 hn9 hf9
  refine G7 ?_
  refine .call4 J J J J J Body56 (keep_cut r d (hsz d (List.mem_of_getElem? hd))) (fun w h => (seq_sees (hW.2 w h.keeps) dE hsp hr hd).2) ?_
  rintro v21 out21 ⟨X21, ok21, rfl, k21, h21⟩
  refine G3 ?_
  refine .alloc (cs := Record.zero.cells) J Record.zr J ?_
  intro n10 hn10 hf10
  refine G11 ?_
  first
   | refine Sat.condP rfl (fun hc1 => ?_) (fun hc1 => ?_)
   | refine Sat.condNP rfl (fun hc1 => ?_) (fun hc1 => ?_)
   | refine Sat.cond rfl (fun hc1 => ?_) (fun hc1 => ?_)
  ·
   have he1 : ¬ ((fun X : DCut => Ar 4 (Bp X) (DCut.check X)) d).2 = 0 := by omega
   refine G15 ?_
   refine Ah (out := []) (A9 J J J) Ae ?_
   exact ⟨Sl.nil, [], [], [], by rw [putE_fail _ _ _ _ hd hp2 he1]; rfl, rfl, fun e => absurd (by rw [putE_fail _ _ _ _ hd hp2 he1] at e; exact e) he1, fun _ => ⟨rfl, rfl, rfl⟩⟩
  have he0 : ((fun X : DCut => Ar 4 (Bp X) (DCut.check X)) d).2 = 0 := by omega
  refine G5 ?_
  refine .mkRow2 (z := agg Record.zero.cells) [agg X21.cells] X21.cells J J Y28.h Sz91 Record.zr J J (by intro v hv; rw [List.mem_singleton.1 hv]; exact Record.length ok21) dE (by simp [Value.cells]) ?_
  intro q29
  refine .appendAcc (z := agg Record.zero.cells) (by' := 32) (X21.cells) J J J J J Y28.h Y28.h Sz91 Record.zr (by unfold By; kernel_rfl) J hp3.acc sG (fun w h => SeesP.of (Aj h mM)) (fun e => by cases e) (Record.isCell ok21) oM oM (by rw [Record.length ok21]) ?_
  intro s30 bl30 hac30
  refine G9 ?_
  exact ⟨(p.1 + 1, s30, bl30, out21 ++ p.2.2.2.1, p.2.2.2.2 ++ [X21]), ⟨by simp only []; omega, putE_step _ _ _ _ hd hp2 he0, put_snoc hp3 hd hac30 ok21 h21⟩, by simp only []; omega, Af (wk1 rfl (wk1 rfl (wk1 rfl (wk1 rfl (wk1 (by rw [Int.natCast_add]; rfl) wk0))))) (Ab sG (Br (Ab sG (Ab sG Ae))))⟩
 have hpe : p.1 = t.n := by omega
 refine G14 ?_
 refine Ah (out := (p.2.2.1 ++ (p.2.2.2.1 ++ []))) (A9 J J J) (Ab sG (Ab sG Ae)) ?_
 rw [List.take_of_length_le oM] at hp2
 rw [List.take_of_length_le oM, hpe] at hp3
 exact ⟨p.2.1, p.2.2.1, p.2.2.2.1, p.2.2.2.2, by rw [hp2], rfl, fun _ => hp3, fun e => absurd hp2 e⟩
theorem kput_cert (s : Sl) (bl o0 : List Blk) (rs : List Record) (dr : List DRecord) (m : Nat) (hq : OwnSeq Record.cells 2 RecordIs 91 s bl o0 rs dr m) (hm : m ≤ 100000) (t : Sl) (rt : List Cert) (ds : List DCert) (hsn : t.n ≤ 1000) (hsz : ∀ d ∈ ds, (Bd d).length ≤ 40000) : Meets Tryz.prog 68 [s.v, t.v, .func (.func 52) #[] #[]] (bl.map (·.n)) (fun W => Lies bl W ∧ Stay (bl.map (·.n)) W (fun W2 => SeqIs Cert.cells 35 CertIs W2 t rt ds)) (PutR (fun X : DCert => Ar 2 (Bd X) (DCert.check X)) ds m t.n o0 dr) := by
 intro W hW
 have hs := hW.2 W (Keeps.refl _ _)
 have hnd := hs.nd
 refine A3 (hp0 := (bl ++ [])) Tryz.func68 J 33 Tryz.ntmps68 J (put_hrep hq.acc hW.1) (G15 ?_)
 refine .loop (ι := Nat × Sl × List Blk × List Blk × List Record) (fun p => ⟨[(0, p.2.1.v), (2, .func (.func 52) #[] #[]), (12, t.v), (13, i64 (t.n : Int)), (14, i64 (p.1 : Int))], (p.2.2.1 ++ (p.2.2.2.1 ++ []))⟩) (fun p => p.1 ≤ t.n ∧ putE (fun X : DCert => Ar 2 (Bd X) (DCert.check X)) (ds.take p.1) = 0 ∧ OwnSeq Record.cells 2 RecordIs 91 p.2.1 p.2.2.1 (p.2.2.2.1 ++ o0) p.2.2.2.2 (dr ++ putD (fun X : DCert => Ar 2 (Bd X) (DCert.check X)) (ds.take p.1)) (m + p.1)) (fun p => t.n - p.1) ((0, s, bl, [], rs)) ?_ ?_ ?_
 · exact ⟨Nat.zero_le _, rfl, by simpa [putD] using hq⟩
 · exact Af (wk1 rfl (wk1 rfl (wk1 rfl (wk1 rfl (wk1 rfl wk0))))) (Ab sG (Bh Ae))
 rintro p ⟨hp1, hp2, hp3⟩
 refine G6 ?_
 first
  | refine Sat.condP rfl (fun hc0 => ?_) (fun hc0 => ?_)
  | refine Sat.condNP rfl (fun hc0 => ?_) (fun hc0 => ?_)
  | refine Sat.cond rfl (fun hc0 => ?_) (fun hc0 => ?_)
 ·
  have hk2 : p.1 < t.n := by omega
  obtain ⟨b, o, r, d, hsp, hr, hd, his, hlen, hsee⟩ := hs.at dE hk2
  have okr : r.ok := his.ok
  refine G6 ?_
  refine .idxSlP 35 J J J hsp J Y23.h Sz55 p.1 J oM ?_
  refine .loadAny J J J (v := agg r.cells) (fun w h => by
   have := run_row (P := Tryz.prog) (w := w) hlen ((seq_sees (hW.2 w h.keeps) dE hsp hr hd).1)
   simp [loadVar, run_isAgg_arr Y55.h rfl, Ck Sz55, this]) ?_
  refine .alloc (cs := Cert.zero.cells) J Cert.zr J ?_
  intro n9 hn9 hf9
  refine G7 ?_
  refine .call4 J J J J J Body52 (keep_cert r d (hsz d (List.mem_of_getElem? hd))) (fun w h => (seq_sees (hW.2 w h.keeps) dE hsp hr hd).2) ?_
  rintro v21 out21 ⟨X21, ok21, rfl, k21, h21⟩
  refine G3 ?_
  refine .alloc (cs := Record.zero.cells) J Record.zr J ?_
  intro n10 hn10 hf10
  refine G11 ?_
  first
   | refine Sat.condP rfl (fun hc1 => ?_) (fun hc1 => ?_)
   | refine Sat.condNP rfl (fun hc1 => ?_) (fun hc1 => ?_)
   | refine Sat.cond rfl (fun hc1 => ?_) (fun hc1 => ?_)
  ·
   have he1 : ¬ ((fun X : DCert => Ar 2 (Bd X) (DCert.check X)) d).2 = 0 := by omega
   refine G15 ?_
   refine Ah (out := []) (A9 J J J) Ae ?_
   exact ⟨Sl.nil, [], [], [], by rw [putE_fail _ _ _ _ hd hp2 he1]; rfl, rfl, fun e => absurd (by rw [putE_fail _ _ _ _ hd hp2 he1] at e; exact e) he1, fun _ => ⟨rfl, rfl, rfl⟩⟩
  have he0 : ((fun X : DCert => Ar 2 (Bd X) (DCert.check X)) d).2 = 0 := by omega
  refine G5 ?_
  refine .mkRow2 (z := agg Record.zero.cells) [agg X21.cells] X21.cells J J Y28.h Sz91 Record.zr J J (by intro v hv; rw [List.mem_singleton.1 hv]; exact Record.length ok21) dE (by simp [Value.cells]) ?_
  intro q29
  refine .appendAcc (z := agg Record.zero.cells) (by' := 32) (X21.cells) J J J J J Y28.h Y28.h Sz91 Record.zr (by unfold By; kernel_rfl) J hp3.acc sG (fun w h => SeesP.of (Aj h mM)) (fun e => by cases e) (Record.isCell ok21) oM oM (by rw [Record.length ok21]) ?_
  intro s30 bl30 hac30
  refine G9 ?_
  exact ⟨(p.1 + 1, s30, bl30, out21 ++ p.2.2.2.1, p.2.2.2.2 ++ [X21]), ⟨by simp only []; omega, putE_step _ _ _ _ hd hp2 he0, put_snoc hp3 hd hac30 ok21 h21⟩, by simp only []; omega, Af (wk1 rfl (wk1 rfl (wk1 rfl (wk1 rfl (wk1 (by rw [Int.natCast_add]; rfl) wk0))))) (Ab sG (Br (Ab sG (Ab sG Ae))))⟩
 have hpe : p.1 = t.n := by omega
 refine G14 ?_
 refine Ah (out := (p.2.2.1 ++ (p.2.2.2.1 ++ []))) (A9 J J J) (Ab sG (Ab sG Ae)) ?_
 rw [List.take_of_length_le oM] at hp2
 rw [List.take_of_length_le oM, hpe] at hp3
 exact ⟨p.2.1, p.2.2.1, p.2.2.2.1, p.2.2.2.2, by rw [hp2], rfl, fun _ => hp3, fun e => absurd hp2 e⟩
theorem kput_block (s : Sl) (bl o0 : List Blk) (rs : List Record) (dr : List DRecord) (m : Nat) (hq : OwnSeq Record.cells 2 RecordIs 91 s bl o0 rs dr m) (hm : m ≤ 100000) (t : Sl) (rt : List Block) (ds : List DB) (hsn : t.n ≤ 1000) (hsz : ∀ d ∈ ds, (A7 d).length ≤ 40000) : Meets Tryz.prog 69 [s.v, t.v, .func (.func 49) #[] #[]] (bl.map (·.n)) (fun W => Lies bl W ∧ Stay (bl.map (·.n)) W (fun W2 => SeqIs Block.cells 131 BlockIs W2 t rt ds)) (PutR (fun X : DB => Ar 1 (A7 X) (DB.check X)) ds m t.n o0 dr) := by
 intro W hW
 have hs := hW.2 W (Keeps.refl _ _)
 have hnd := hs.nd
 refine A3 (hp0 := (bl ++ [])) Tryz.func69 J 33 Tryz.ntmps69 J (put_hrep hq.acc hW.1) (G15 ?_)
 refine .loop (ι := Nat × Sl × List Blk × List Blk × List Record) (fun p => ⟨[(0, p.2.1.v), (2, .func (.func 49) #[] #[]), (12, t.v), (13, i64 (t.n : Int)), (14, i64 (p.1 : Int))], (p.2.2.1 ++ (p.2.2.2.1 ++ []))⟩) (fun p => p.1 ≤ t.n ∧ putE (fun X : DB => Ar 1 (A7 X) (DB.check X)) (ds.take p.1) = 0 ∧ OwnSeq Record.cells 2 RecordIs 91 p.2.1 p.2.2.1 (p.2.2.2.1 ++ o0) p.2.2.2.2 (dr ++ putD (fun X : DB => Ar 1 (A7 X) (DB.check X)) (ds.take p.1)) (m + p.1)) (fun p => t.n - p.1) ((0, s, bl, [], rs)) ?_ ?_ ?_
 · exact ⟨Nat.zero_le _, rfl, by simpa [putD] using hq⟩
 · exact Af (wk1 rfl (wk1 rfl (wk1 rfl (wk1 rfl (wk1 rfl wk0))))) (Ab sG (Bh Ae))
 rintro p ⟨hp1, hp2, hp3⟩
 refine G6 ?_
 first
  | refine Sat.condP rfl (fun hc0 => ?_) (fun hc0 => ?_)
  | refine Sat.condNP rfl (fun hc0 => ?_) (fun hc0 => ?_)
  | refine Sat.cond rfl (fun hc0 => ?_) (fun hc0 => ?_)
 ·
  have hk2 : p.1 < t.n := by omega
  obtain ⟨b, o, r, d, hsp, hr, hd, his, hlen, hsee⟩ := hs.at dE hk2
  have okr : r.ok := his.ok
  refine G6 ?_
  refine .idxSlP 131 J J J hsp J Y22.h Sz79 p.1 J oM ?_
  refine .loadAny J J J (v := agg r.cells) (fun w h => by
   have := run_row (P := Tryz.prog) (w := w) hlen ((seq_sees (hW.2 w h.keeps) dE hsp hr hd).1)
   simp [loadVar, run_isAgg_arr Y79.h rfl, Ck Sz79, this]) ?_
  refine .alloc (cs := Block.zero.cells) J Block.zr J ?_
  intro n9 hn9 hf9
  refine G7 ?_
  refine .call4 J J J J J Body49 (keep_block r d (hsz d (List.mem_of_getElem? hd))) (fun w h => (seq_sees (hW.2 w h.keeps) dE hsp hr hd).2) ?_
  rintro v21 out21 ⟨X21, ok21, rfl, k21, h21⟩
  refine G3 ?_
  refine .alloc (cs := Record.zero.cells) J Record.zr J ?_
  intro n10 hn10 hf10
  refine G11 ?_
  first
   | refine Sat.condP rfl (fun hc1 => ?_) (fun hc1 => ?_)
   | refine Sat.condNP rfl (fun hc1 => ?_) (fun hc1 => ?_)
   | refine Sat.cond rfl (fun hc1 => ?_) (fun hc1 => ?_)
  ·
   have he1 : ¬ ((fun X : DB => Ar 1 (A7 X) (DB.check X)) d).2 = 0 := by omega
   refine G15 ?_
   refine Ah (out := []) (A9 J J J) Ae ?_
   exact ⟨Sl.nil, [], [], [], by rw [putE_fail _ _ _ _ hd hp2 he1]; rfl, rfl, fun e => absurd (by rw [putE_fail _ _ _ _ hd hp2 he1] at e; exact e) he1, fun _ => ⟨rfl, rfl, rfl⟩⟩
  have he0 : ((fun X : DB => Ar 1 (A7 X) (DB.check X)) d).2 = 0 := by omega
  refine G5 ?_
  refine .mkRow2 (z := agg Record.zero.cells) [agg X21.cells] X21.cells J J Y28.h Sz91 Record.zr J J (by intro v hv; rw [List.mem_singleton.1 hv]; exact Record.length ok21) dE (by simp [Value.cells]) ?_
  intro q29
  refine .appendAcc (z := agg Record.zero.cells) (by' := 32) (X21.cells) J J J J J Y28.h Y28.h Sz91 Record.zr (by unfold By; kernel_rfl) J hp3.acc sG (fun w h => SeesP.of (Aj h mM)) (fun e => by cases e) (Record.isCell ok21) oM oM (by rw [Record.length ok21]) ?_
  intro s30 bl30 hac30
  refine G9 ?_
  exact ⟨(p.1 + 1, s30, bl30, out21 ++ p.2.2.2.1, p.2.2.2.2 ++ [X21]), ⟨by simp only []; omega, putE_step _ _ _ _ hd hp2 he0, put_snoc hp3 hd hac30 ok21 h21⟩, by simp only []; omega, Af (wk1 rfl (wk1 rfl (wk1 rfl (wk1 rfl (wk1 (by rw [Int.natCast_add]; rfl) wk0))))) (Ab sG (Br (Ab sG (Ab sG Ae))))⟩
 have hpe : p.1 = t.n := by omega
 refine G14 ?_
 refine Ah (out := (p.2.2.1 ++ (p.2.2.2.1 ++ []))) (A9 J J J) (Ab sG (Ab sG Ae)) ?_
 rw [List.take_of_length_le oM] at hp2
 rw [List.take_of_length_le oM, hpe] at hp3
 exact ⟨p.2.1, p.2.2.1, p.2.2.2.1, p.2.2.2.2, by rw [hp2], rfl, fun _ => hp3, fun e => absurd hp2 e⟩

theorem certBy_le {C : Cert} {D : DCert} {W : World} (h : CertIs W C D) : (Bd D).length ≤ 40000 := by
  unfold Bd
  split
  · rename_i hc
    obtain ⟨h1, h2, h3⟩ := DCert.facts hc
    have hcl := cutR_le h.fCut
    obtain ⟨rs, hvs⟩ := h.fVotes
    have h4 := listB_le A0 164 dE D.dVotes (fun d hd => voteBy_le (seqv_ok hvs d hd))
    have h5 : D.dVotes.length * (164 + 9) ≤ 16 * (164 + 9) := Nat.mul_le_mul_right _ h3
    have hz := A2 (Bp D.dCut).length
    have hz2 := A2 (UInt64.ofNat D.dVotes.length).toNat
    rw [DCert.bytes, List.length_append, List.length_append, blkB_length oM, Ax]
    omega
  · simp
theorem blockBy_le {D : DB} (ok : D.ok) : (A7 D).length ≤ 40000 := by
  unfold A7
  split
  · rename_i hc
    have := D.bytes_small hc ok
    omega
  · simp
theorem stay_of {C : Cx} {hp bl : List Blk} {w : World} {F : World → Prop} (h : HRep C hp w) (hl : C.lent = []) (hk : C.kb = []) (hb : ∀ b ∈ bl, b ∈ hp) (hF : ∀ w2, HRep C [] w2 → F w2) : Stay (bl.map (·.n)) w F := fun W2 k => by
  refine hF W2 ⟨fun b h => (by cases h), List.nodup_nil, fun b h => (by cases h), ⟨k.os.trans h.keeps.os, k.tape.trans h.keeps.tape, k.output.trans h.keeps.output, Nat.le_trans h.keeps.size k.size, fun i hi hn => ?_⟩, fun b hb => (by rw [hk] at hb; cases hb), fun b h => (by cases h)⟩
  rw [k.block i (Nat.lt_of_lt_of_le hi h.keeps.size) (fun hm => ?_), h.keeps.block i hi hn]
  obtain ⟨b, hb', e⟩ := List.mem_map.1 hm
  rcases h.own b (hb b hb') with h1 | h1
  · omega
  · rw [hl] at h1; cases h1
noncomputable def stg {D : Type} (f : D → DRecord × Int) (ds : List D) (q : List DRecord × Int) : List DRecord × Int := if q.2 = 0 then (if putE f ds = 0 then (q.1 ++ putD f ds, 0) else ([], putE f ds)) else q
structure QI (q : List DRecord × Int) (e : Int) (s : Sl) (b o : List Blk) (rs : List Record) (M : Nat) : Prop where
  err : e = q.2
  own : q.2 = 0 → OwnSeq Record.cells 2 RecordIs 91 s b o rs q.1 q.1.length
  bad : ¬ q.2 = 0 → q.1 = []
  le : q.1.length ≤ M
theorem QI.then' {D : Type} {f : D → DRecord × Int} {ds : List D} {q : List DRecord × Int} {e : Int} {s s2 : Sl} {b o b2 o2 : List Blk} {rs rs2 : List Record} {M n : Nat} (h : QI q e s b o rs M) (h0 : e = 0) (hd : ds.length = n) (hn : n ≤ 1000) (hy : putE f ds = 0 → OwnSeq Record.cells 2 RecordIs 91 s2 b2 (o2 ++ o) rs2 (q.1 ++ putD f ds) (q.1.length + n)) : QI (stg f ds q) (putE f ds) s2 b2 (o2 ++ o) rs2 (M + 1000) := by
  have hz : q.2 = 0 := by rw [← h.err, h0]
  have hle := h.le
  have hl : (q.1 ++ putD f ds).length = q.1.length + n := by rw [List.length_append, putD, List.length_map, hd]
  by_cases hp : putE f ds = 0
  · have e1 : stg f ds q = (q.1 ++ putD f ds, 0) := by rw [stg, if_pos hz, if_pos hp]
    rw [e1]
    refine ⟨hp, fun _ => ?_, fun c => absurd rfl c, ?_⟩
    · dsimp only; rw [hl]; exact hy hp
    · dsimp only; rw [hl]; omega
  · have e1 : stg f ds q = ([], putE f ds) := by rw [stg, if_pos hz, if_neg hp]
    rw [e1]
    exact ⟨rfl, fun c => absurd c hp, fun _ => rfl, Nat.zero_le _⟩
theorem QI.skip' {D : Type} {f : D → DRecord × Int} {ds : List D} {q : List DRecord × Int} {e : Int} {s : Sl} {b o : List Blk} {rs : List Record} {M : Nat} (h : QI q e s b o rs M) (h0 : ¬ e = 0) : QI (stg f ds q) e s b o rs (M + 1000) := by
  have hz : ¬ q.2 = 0 := by rw [← h.err]; exact h0
  have hle := h.le
  have e1 : stg f ds q = q := by rw [stg, if_neg hz]
  rw [e1]
  exact ⟨h.err, h.own, h.bad, by omega⟩
theorem QI.first' (e : Int) : QI ([], e) e Sl.nil [] [] [] 0 := ⟨rfl, fun _ => OwnSeq.none, fun _ => rfl, Nat.le_refl _⟩
noncomputable def rsE (D : DKept) : List DRecord × Int := stg (fun X : DCert => Ar 2 (Bd X) (DCert.check X)) D.dCerts ([], D.check)
noncomputable def rsB (D : DKept) : List DRecord × Int := stg (fun X : DB => Ar 1 (A7 X) (DB.check X)) D.dBlocks (rsE D)
noncomputable def rsC (D : DKept) : List DRecord × Int := stg (fun X : DCut => Ar 4 (Bp X) (DCut.check X)) D.dCuts (rsB D)
noncomputable def recsRd (D : DKept) : List DRecord × Int := stg (fun X : Vote => Ar 3 (A0 X) (Ap X)) D.dVotes (rsC D)
def RecsR (D : DKept) (v : Value) (out : List Blk) : Prop := ∃ (s : Sl) (rs : List Record), v = .tuple #[s.v, i64 (recsRd D).2] ∧ s.n = (recsRd D).1.length ∧ ∀ W2, Lies out W2 → SeqIs Record.cells 2 RecordIs W2 s rs (recsRd D).1
theorem recs_bad {D : DKept} {e : Int} {s : Sl} {b o : List Blk} {rs : List Record} {M : Nat} (h : QI (recsRd D) e s b o rs M) (h0 : ¬ e = 0) : RecsR D (.tuple #[Sl.nil.v, i64 e]) [] := by
  have hz : ¬ (recsRd D).2 = 0 := by rw [← h.err]; exact h0
  refine ⟨Sl.nil, [], by rw [h.err], by rw [h.bad hz]; rfl, fun W2 _ => ?_⟩
  rw [h.bad hz]
  exact SeqIs.none
theorem recs_ok {D : DKept} {e : Int} {s : Sl} {b o : List Blk} {rs : List Record} {M : Nat} (h : QI (recsRd D) e s b o rs M) (h0 : e = 0) (hM : M ≤ 100000) : RecsR D (.tuple #[s.v, i64 0]) (b ++ (o ++ [])) := by
  have hz : (recsRd D).2 = 0 := by rw [← h.err]; exact h0
  have ho := h.own hz
  have := h.le
  refine ⟨s, rs, by rw [hz], ho.acc.num, fun W2 hl => ho.seq (hl.sub fun b h => by simp [h]) (hl.sub fun b h => by simp [h]) oM⟩

theorem keep_records (X : Kept) (D : DKept) (h1 : X.fBlocks.n ≤ 1000) (h2 : X.fCerts.n ≤ 1000) (h3 : X.fVotes.n ≤ 1000) (h4 : X.fCuts.n ≤ 1000) : Meets Tryz.prog 11 [agg X.cells] [] (fun W => KeptIs W X D) (RecsR D) := by
 intro W hW
 obtain ⟨rsE_, hE⟩ := hW.fCerts
 obtain ⟨rsB_, hB⟩ := hW.fBlocks
 obtain ⟨rsC_, hC⟩ := hW.fCuts
 obtain ⟨rsV_, hV⟩ := hW.fVotes
 refine Ag Tryz.func11 J 48 Tryz.ntmps11 J (G3 ?_)
 intro n1 hn1 hf1
 refine G7 ?_
 refine .cV J J J J Body16 (keep_check X D) (fun w h => hW.ext h J) (G8 ?_)
 refine .join (ι := Int × Sl × List Blk × List Blk × List Record) (fun p1 => ⟨[(1, ptr n1 0), (4, i64 p1.1), (5, p1.2.1.v)], (⟨n1, X.cells, 27, X.cells.length⟩ :: (p1.2.2.1 ++ (p1.2.2.2.1 ++ [])))⟩) (fun p1 => QI (rsE D) p1.1 p1.2.1 p1.2.2.1 p1.2.2.2.1 p1.2.2.2.2 1000) ?_ ?_
 ·
  refine G6 ?_
  first
   | refine Sat.condP rfl (fun hc0 => ?_) (fun hc0 => ?_)
   | refine Sat.condNP rfl (fun hc0 => ?_) (fun hc0 => ?_)
   | refine Sat.cond rfl (fun hc0 => ?_) (fun hc0 => ?_)
  ·
   refine G3 ?_
   refine .load1 J J J Y23.h J mM (by first | exact Kept.get_fCerts (by first | exact oK  | exact hW.ok) | exact vL) ?_
   refine .call4 J J J J J Body68 (kput_cert Sl.nil [] [] [] [] 0 OwnSeq.none dE X.fCerts rsE_ D.dCerts oM (fun d hd => by obtain ⟨i, hi⟩ := List.getElem?_of_mem hd; obtain ⟨b, o, r, d', hp, hr, hd', hI, _⟩ := hE.at dE (show i < X.fCerts.n by rw [← hE.nd]; exact (List.getElem?_eq_some_iff.1 hi).1); rw [hi] at hd'; cases hd'; exact certBy_le hI)) (fun w h => ⟨fun b hb => (by cases hb), stay_of h J J (bl := []) (fun b hb => (by cases hb)) (fun w2 h2 => hE.ext h2 J (fun r d h3 => h3.ext h2 J))⟩) ?_
   rintro v14 out14 ⟨s14, b14, o14, rs14, rfl, rfl, hy14, hn14⟩
   clear hn14
   simp only [List.append_assoc, List.nil_append]
   refine G7 ?_
   first
    | exact ⟨(putE (fun X : DCert => Ar 2 (Bd X) (DCert.check X)) D.dCerts, s14, b14, o14 ++ [], rs14), (QI.first' D.check).then' hc0 hE.nd oM hy14, Af (wk1 rfl (wk1 rfl (wk1 rfl wk0))) (Ac rM (Ab sG (Br (Ab sG (Ab sG Ae)))))⟩
    | exact ⟨(D.check, Sl.nil, [], [], []), (QI.first' D.check).skip' hc0, Af (wk1 rfl (wk1 rfl (wk1 rfl wk0))) (Ac rM (Ab sG (Ab sG Ae)))⟩
  refine G2 ?_
  first
   | exact ⟨(putE (fun X : DCert => Ar 2 (Bd X) (DCert.check X)) D.dCerts, s14, b14, o14 ++ [], rs14), (QI.first' D.check).then' hc0 hE.nd oM hy14, Af (wk1 rfl (wk1 rfl (wk1 rfl wk0))) (Ac rM (Ab sG (Br (Ab sG (Ab sG Ae)))))⟩
   | exact ⟨(D.check, Sl.nil, [], [], []), (QI.first' D.check).skip' hc0, Af (wk1 rfl (wk1 rfl (wk1 rfl wk0))) (Ac rM (Ab sG (Ab sG Ae)))⟩
 intro p1 hj
 have hp1 := hj
 refine .join (ι := Int × Sl × List Blk × List Blk × List Record) (fun p2 => ⟨[(1, ptr n1 0), (4, i64 p2.1), (5, p2.2.1.v)], (⟨n1, X.cells, 27, X.cells.length⟩ :: (p2.2.2.1 ++ (p2.2.2.2.1 ++ [])))⟩) (fun p2 => QI (rsB D) p2.1 p2.2.1 p2.2.2.1 p2.2.2.2.1 p2.2.2.2.2 2000) ?_ ?_
 ·
  refine G6 ?_
  first
   | refine Sat.condP rfl (fun hc1 => ?_) (fun hc1 => ?_)
   | refine Sat.condNP rfl (fun hc1 => ?_) (fun hc1 => ?_)
   | refine Sat.cond rfl (fun hc1 => ?_) (fun hc1 => ?_)
  ·
   refine G3 ?_
   refine .load1 J J J Y22.h J mM (by first | exact Kept.get_fBlocks (by first | exact oK  | exact hW.ok) | exact vL) ?_
   refine .callL (L := p1.2.2.1) J J J J J Body69 (kput_block p1.2.1 p1.2.2.1 p1.2.2.2.1 p1.2.2.2.2 (rsE D).1 (rsE D).1.length (hp1.own (by rw [← hp1.err]; exact hc1)) (by have := hp1.le; omega) X.fBlocks rsB_ D.dBlocks oM (fun d hd => by obtain ⟨i, hi⟩ := List.getElem?_of_mem hd; obtain ⟨b, o, r, d', hp, hr, hd', hI, _⟩ := hB.at dE (show i < X.fBlocks.n by rw [← hB.nd]; exact (List.getElem?_eq_some_iff.1 hi).1); rw [hi] at hd'; cases hd'; exact blockBy_le hI.dok)) sG (Ay J) (fun w h => ⟨Lies.of h iN, stay_of h J J iN (fun w2 h2 => hB.ext h2 J (fun r d h3 => h3.ext h2 J))⟩) ?_
   rintro v23 out23 ⟨s23, b23, o23, rs23, rfl, rfl, hy23, hn23⟩
   clear hn23
   simp only [List.append_assoc, List.nil_append]
   refine G7 ?_
   first
    | exact ⟨(putE (fun X : DB => Ar 1 (A7 X) (DB.check X)) D.dBlocks, s23, b23, o23 ++ p1.2.2.2.1, rs23), hp1.then' hc1 hB.nd oM hy23, Af (wk1 rfl (wk1 rfl (wk1 rfl wk0))) (Ac rM (Ab sG (Br (Ab sG (Ab sG Ae)))))⟩
    | exact ⟨p1, hp1.skip' hc1, Af (wk1 rfl (wk1 rfl (wk1 rfl wk0))) (Ac rM (Ab sG (Ab sG Ae)))⟩
  refine G2 ?_
  first
   | exact ⟨(putE (fun X : DB => Ar 1 (A7 X) (DB.check X)) D.dBlocks, s23, b23, o23 ++ p1.2.2.2.1, rs23), hp1.then' hc1 hB.nd oM hy23, Af (wk1 rfl (wk1 rfl (wk1 rfl wk0))) (Ac rM (Ab sG (Br (Ab sG (Ab sG Ae)))))⟩
   | exact ⟨p1, hp1.skip' hc1, Af (wk1 rfl (wk1 rfl (wk1 rfl wk0))) (Ac rM (Ab sG (Ab sG Ae)))⟩
 intro p2 hj
 have hp2 := hj
 refine .join (ι := Int × Sl × List Blk × List Blk × List Record) (fun p3 => ⟨[(1, ptr n1 0), (4, i64 p3.1), (5, p3.2.1.v)], (⟨n1, X.cells, 27, X.cells.length⟩ :: (p3.2.2.1 ++ (p3.2.2.2.1 ++ [])))⟩) (fun p3 => QI (rsC D) p3.1 p3.2.1 p3.2.2.1 p3.2.2.2.1 p3.2.2.2.2 3000) ?_ ?_
 ·
  refine G6 ?_
  first
   | refine Sat.condP rfl (fun hc2 => ?_) (fun hc2 => ?_)
   | refine Sat.condNP rfl (fun hc2 => ?_) (fun hc2 => ?_)
   | refine Sat.cond rfl (fun hc2 => ?_) (fun hc2 => ?_)
  ·
   refine G3 ?_
   refine .load1 J J J Y25.h J mM (by first | exact Kept.get_fCuts (by first | exact oK  | exact hW.ok) | exact vL) ?_
   refine .callL (L := p2.2.2.1) J J J J J Body70 (kput_cut p2.2.1 p2.2.2.1 p2.2.2.2.1 p2.2.2.2.2 (rsB D).1 (rsB D).1.length (hp2.own (by rw [← hp2.err]; exact hc2)) (by have := hp2.le; omega) X.fCuts rsC_ D.dCuts oM (fun d hd => by obtain ⟨i, hi⟩ := List.getElem?_of_mem hd; obtain ⟨b, o, r, d', hp, hr, hd', hI, _⟩ := hC.at dE (show i < X.fCuts.n by rw [← hC.nd]; exact (List.getElem?_eq_some_iff.1 hi).1); rw [hi] at hd'; cases hd'; exact Nat.le_trans (cutR_le hI) dE)) sG (Ay J) (fun w h => ⟨Lies.of h iN, stay_of h J J iN (fun w2 h2 => hC.ext h2 J (fun r d h3 => h3.ext h2 J))⟩) ?_
   rintro v32 out32 ⟨s32, b32, o32, rs32, rfl, rfl, hy32, hn32⟩
   clear hn32
   simp only [List.append_assoc, List.nil_append]
   refine G7 ?_
   first
    | exact ⟨(putE (fun X : DCut => Ar 4 (Bp X) (DCut.check X)) D.dCuts, s32, b32, o32 ++ p2.2.2.2.1, rs32), hp2.then' hc2 hC.nd oM hy32, Af (wk1 rfl (wk1 rfl (wk1 rfl wk0))) (Ac rM (Ab sG (Br (Ab sG (Ab sG Ae)))))⟩
    | exact ⟨p2, hp2.skip' hc2, Af (wk1 rfl (wk1 rfl (wk1 rfl wk0))) (Ac rM (Ab sG (Ab sG Ae)))⟩
  refine G2 ?_
  first
   | exact ⟨(putE (fun X : DCut => Ar 4 (Bp X) (DCut.check X)) D.dCuts, s32, b32, o32 ++ p2.2.2.2.1, rs32), hp2.then' hc2 hC.nd oM hy32, Af (wk1 rfl (wk1 rfl (wk1 rfl wk0))) (Ac rM (Ab sG (Br (Ab sG (Ab sG Ae)))))⟩
   | exact ⟨p2, hp2.skip' hc2, Af (wk1 rfl (wk1 rfl (wk1 rfl wk0))) (Ac rM (Ab sG (Ab sG Ae)))⟩
 intro p3 hj
 have hp3 := hj
 refine .join (ι := Int × Sl × List Blk × List Blk × List Record) (fun p4 => ⟨[(1, ptr n1 0), (4, i64 p4.1), (5, p4.2.1.v)], (⟨n1, X.cells, 27, X.cells.length⟩ :: (p4.2.2.1 ++ (p4.2.2.2.1 ++ [])))⟩) (fun p4 => QI (recsRd D) p4.1 p4.2.1 p4.2.2.1 p4.2.2.2.1 p4.2.2.2.2 4000) ?_ ?_
 ·
  refine G6 ?_
  first
   | refine Sat.condP rfl (fun hc3 => ?_) (fun hc3 => ?_)
   | refine Sat.condNP rfl (fun hc3 => ?_) (fun hc3 => ?_)
   | refine Sat.cond rfl (fun hc3 => ?_) (fun hc3 => ?_)
  ·
   refine G3 ?_
   refine .load1 J J J Y24.h J mM (by first | exact Kept.get_fVotes (by first | exact oK  | exact hW.ok) | exact vL) ?_
   refine .callL (L := p3.2.2.1) J J J J J Body71 (kput_vote p3.2.1 p3.2.2.1 p3.2.2.2.1 p3.2.2.2.2 (rsC D).1 (rsC D).1.length (hp3.own (by rw [← hp3.err]; exact hc3)) (by have := hp3.le; omega) X.fVotes rsV_ D.dVotes oM (fun d hd => Nat.le_trans (voteBy_le (seqv_ok hV d hd)) dE)) sG (Ay J) (fun w h => ⟨Lies.of h iN, stay_of h J J iN (fun w2 h2 => hV.ext h2 J (fun r d h3 => h3.ext h2 J))⟩) ?_
   rintro v41 out41 ⟨s41, b41, o41, rs41, rfl, rfl, hy41, hn41⟩
   clear hn41
   simp only [List.append_assoc, List.nil_append]
   refine G7 ?_
   first
    | exact ⟨(putE (fun X : Vote => Ar 3 (A0 X) (Ap X)) D.dVotes, s41, b41, o41 ++ p3.2.2.2.1, rs41), hp3.then' hc3 hV.nd oM hy41, Af (wk1 rfl (wk1 rfl (wk1 rfl wk0))) (Ac rM (Ab sG (Br (Ab sG (Ab sG Ae)))))⟩
    | exact ⟨p3, hp3.skip' hc3, Af (wk1 rfl (wk1 rfl (wk1 rfl wk0))) (Ac rM (Ab sG (Ab sG Ae)))⟩
  refine G2 ?_
  first
   | exact ⟨(putE (fun X : Vote => Ar 3 (A0 X) (Ap X)) D.dVotes, s41, b41, o41 ++ p3.2.2.2.1, rs41), hp3.then' hc3 hV.nd oM hy41, Af (wk1 rfl (wk1 rfl (wk1 rfl wk0))) (Ac rM (Ab sG (Br (Ab sG (Ab sG Ae)))))⟩
   | exact ⟨p3, hp3.skip' hc3, Af (wk1 rfl (wk1 rfl (wk1 rfl wk0))) (Ac rM (Ab sG (Ab sG Ae)))⟩
 intro p4 hj
 have hp4 := hj
 refine G7 ?_
 first
  | refine Sat.condP rfl (fun hc4 => ?_) (fun hc4 => ?_)
  | refine Sat.condNP rfl (fun hc4 => ?_) (fun hc4 => ?_)
  | refine Sat.cond rfl (fun hc4 => ?_) (fun hc4 => ?_)
 ·
  refine G10 ?_
  refine Ah (out := []) (A9 J J J) Ae ?_
  exact recs_bad hp4 hc4
 refine G11 ?_
 refine Ah (out := (p4.2.2.1 ++ (p4.2.2.2.1 ++ []))) (A9 J J J) (Ab sG (Ab sG Ae)) ?_
 exact recs_ok hp4 oM dE

def DKept.light (D : DKept) (n : Int) : Bool := lightOf lightBf D.dBlocks n && (lightOf lightEf D.dCerts n && (decide ((D.dVotes.length : Int) ≤ n) && lightOf lightCf D.dCuts n))
structure LightK (D : DKept) : Prop where
  nB : D.dBlocks.length ≤ 12
  nE : D.dCerts.length ≤ 12
  nV : D.dVotes.length ≤ 12
  nC : D.dCuts.length ≤ 12
  blocks : ∀ d ∈ D.dBlocks, d.ls.length ≤ 500000 ∧ d.ds.length ≤ 500000
  cuts : ∀ d ∈ D.dCuts, d.dHeads.length ≤ 500000
  certs : ∀ d ∈ D.dCerts, d.dCut.dHeads.length ≤ 500000 ∧ d.dVotes.length ≤ 500000
theorem lightk_small {D : DKept} (h : D.light 12 = true) : LightK D := by
  simp only [DKept.light, lightOf, lightBf, lightCf, lightEf, Bool.and_eq_true, decide_eq_true_eq, Bool.not_eq_true', decide_eq_false_iff_not, List.all_eq_true] at h
  obtain ⟨⟨h3, h4⟩, ⟨h8, h9⟩, h5, ⟨h6, h7⟩⟩ := h
  exact ⟨by omega, by omega, by omega, by omega, fun d hd => by have := h4 d hd; omega, fun d hd => by have := h7 d hd; omega, fun d hd => by have := h9 d hd; omega⟩
theorem no_lie0 {n : Nat} {v : Value} {T : TypeId} {W : World} (h : Lies [⟨n, [v], T, 0⟩] W) : False := by
  obtain ⟨full, fr, hb⟩ := h _ (List.mem_singleton.2 rfl)
  have h1 := hb.pre.length_le
  have h2 := hb.size
  simp at h1
  simp only at h2
  omega
theorem flat_len0 {R : Type} {cells : R → List Value} {k : Nat} : ∀ (rs : List R), (∀ r ∈ rs, (cells r).length = k) → (rs.map cells).flatten.length = rs.length * k
  | [], _ => by simp
  | r :: l, h => by
    rw [List.map_cons, List.flatten_cons, List.length_append, flat_len0 l (fun x hx => h x (List.mem_cons_of_mem _ hx)), h r List.mem_cons_self, List.length_cons, Nat.add_mul, Nat.one_mul, Nat.add_comm]
theorem ownseq_loose {R D : Type} {cells : R → List Value} {k : Nat} {Is : World → R → D → Prop} {E : TypeId} (r0 : R) (hr : (cells r0).length = k) {ds : List D} {n : Nat} (hd : ds.length = n) : Loose (fun v out => ∃ (sl : Sl) (bl bl2 : List Blk) (rs : List R), v = sl.v ∧ out = bl ++ bl2 ∧ OwnSeq cells k Is E sl bl bl2 rs ds n) := fun l hl => by
  obtain ⟨q, _, hq⟩ := Ch 0 l
  obtain ⟨q2, h2, hq2⟩ := Ch (q + 1) l
  refine ⟨_, _, ⟨⟨some ⟨q, 0, none⟩, n, n⟩, [⟨q, ((List.replicate n r0).map cells).flatten, E, n * k⟩], [⟨q2, [undef], 0, 0⟩], List.replicate n r0, rfl, rfl, Acc.some (Nat.le_refl _) ?_, by simp, hd, fun r h => by rw [(List.mem_replicate.1 h).2]; exact hr, fun W2 h => (no_lie0 h).elim⟩, ?_⟩
  · rw [flat_len0 (k := k) _ (fun r h => by rw [(List.mem_replicate.1 h).2]; exact hr), List.length_replicate]
  · rw [List.map_append, List.nodup_append]
    refine ⟨by simp; omega, hl, fun i hi j hj => ?_⟩
    obtain ⟨b, hb, rfl⟩ := List.mem_map.1 hj
    simp at hi
    rcases hi with rfl | rfl
    · exact fun e => hq b hb e.symm
    · exact fun e => hq2 b hb e.symm
def OwnedKept (D : DKept) (v : Value) (out : List Blk) : Prop := ∃ X : Kept, X.ok ∧ v = agg X.cells ∧ ∀ W2, Lies out W2 → KeptIs W2 X D
theorem kept_lens {W : World} {X : Kept} {D : DKept} (h : KeptIs W X D) : D.dBlocks.length = X.fBlocks.n ∧ D.dCerts.length = X.fCerts.n ∧ D.dVotes.length = X.fVotes.n ∧ D.dCuts.length = X.fCuts.n := by
  obtain ⟨_, h1⟩ := h.fBlocks
  obtain ⟨_, h2⟩ := h.fCerts
  obtain ⟨_, h3⟩ := h.fVotes
  obtain ⟨_, h4⟩ := h.fCuts
  exact ⟨h1.nd, h2.nd, h3.nd, h4.nd⟩

theorem light_kept (X : Kept) (D : DKept) (n : Int) : Meets Tryz.prog 9 [agg X.cells, i64 n] [] (fun W => KeptIs W X D) (fun v out => v = .bool (D.light n) ∧ out = []) := by
 intro W hW
 have hok := hW.ok
 obtain ⟨l1, l2, l3, l4⟩ := kept_lens hW
 refine Ag Tryz.func9 J 28 Tryz.ntmps9 J (G3 ?_)
 intro n2 hn2 hf2
 refine G6 ?_
 refine .load1 J J J Y22.h J mM (by first | exact Kept.get_fBlocks (by first | exact oK  | exact hok) | exact vL) ?_
 refine G1 ?_
 refine .callB J J J J Body36 (lightd_blocks X.fBlocks D.dBlocks n) (fun w h => Blocks_ext h J hW.fBlocks) (fun hs1_30 => ?_) (fun hs1_30 => ?_)
 ·
  first | have hs1_3 := of_decide_eq_true hs1_30 | have hs1_3 := of_decide_eq_false hs1_30 | have hs1_3 := nd_t hs1_30 | have hs1_3 := nd_f hs1_30 | have hs1_3 := hs1_30
  refine G2 ?_
  refine .load1 J J J Y23.h J mM (by first | exact Kept.get_fCerts (by first | exact oK  | exact hok) | exact vL) ?_
  refine G1 ?_
  refine .callB J J J J Body24 (lightd_certs X.fCerts D.dCerts n) (fun w h => Certs_ext h J hW.fCerts) (fun hs1_80 => ?_) (fun hs1_80 => ?_)
  ·
   first | have hs1_8 := of_decide_eq_true hs1_80 | have hs1_8 := of_decide_eq_false hs1_80 | have hs1_8 := nd_t hs1_80 | have hs1_8 := nd_f hs1_80 | have hs1_8 := hs1_80
   refine G3 ?_
   refine .load1 J J J Y24.h J mM (by first | exact Kept.get_fVotes (by first | exact oK  | exact hok) | exact vL) ?_
   refine G2 ?_
   refine two (fun r hr k => Tr.leq J J J J hr k) (fun hs1_150 => ?_) (fun hs1_150 => ?_)
   ·
    first | have hs1_15 := of_decide_eq_true hs1_150 | have hs1_15 := of_decide_eq_false hs1_150 | have hs1_15 := nd_t hs1_150 | have hs1_15 := nd_f hs1_150 | have hs1_15 := hs1_150
    refine G3 ?_
    refine .load1 J J J Y25.h J mM (by first | exact Kept.get_fCuts (by first | exact oK  | exact hok) | exact vL) ?_
    refine G1 ?_
    refine .cV J J J J Body48 (lightd_cuts X.fCuts D.dCuts n) (fun w h => Cuts_ext h J hW.fCuts) (G6 ?_)
    refine ⟨_, [], Ad J J, sP, sP, ?_, rfl⟩
    refine congrArg Value.bool ?_
    simp only [DKept.light, ← l3]
    first
     | (simp [*]; done)
     | (simp_all; done)
   first | have hs1_15 := of_decide_eq_true hs1_150 | have hs1_15 := of_decide_eq_false hs1_150 | have hs1_15 := nd_t hs1_150 | have hs1_15 := nd_f hs1_150 | have hs1_15 := hs1_150
   refine G12 ?_
   refine ⟨_, [], Ad J J, sP, sP, ?_, rfl⟩
   refine congrArg Value.bool ?_
   simp only [DKept.light, ← l3]
   first
    | (simp [*]; done)
    | (simp_all; done)
  first | have hs1_8 := of_decide_eq_true hs1_80 | have hs1_8 := of_decide_eq_false hs1_80 | have hs1_8 := nd_t hs1_80 | have hs1_8 := nd_f hs1_80 | have hs1_8 := hs1_80
  refine G19 ?_
  refine ⟨_, [], Ad J J, sP, sP, ?_, rfl⟩
  refine congrArg Value.bool ?_
  simp only [DKept.light, ← l3]
  first
   | (simp [*]; done)
   | (simp_all; done)
 first | have hs1_3 := of_decide_eq_true hs1_30 | have hs1_3 := of_decide_eq_false hs1_30 | have hs1_3 := nd_t hs1_30 | have hs1_3 := nd_f hs1_30 | have hs1_3 := hs1_30
 refine G24 ?_
 refine ⟨_, [], Ad J J, sP, sP, ?_, rfl⟩
 refine congrArg Value.bool ?_
 simp only [DKept.light, ← l3]
 first
  | (simp [*]; done)
  | (simp_all; done)
theorem kit_own_kept (X : Kept) (D : DKept) (hl : D.light 12 = true) : Meets Tryz.prog 12 [agg X.cells] [] (fun W => KeptIs W X D) (OwnedKept D) := by
 intro W hW
 obtain ⟨vs, hvs⟩ := hW.fVotes
 have hok := hW.ok
 obtain ⟨l1, l2, l3, l4⟩ := kept_lens hW
 have hsm := lightk_small hl
 have f1 := hsm.nB
 have f2 := hsm.nE
 have f3 := hsm.nV
 have f4 := hsm.nC
 clear hl
 refine Ag Tryz.func12 J 17 Tryz.ntmps12 J (G3 ?_)
 intro n1 hn1 hf1
 refine .alloc (cs := Kept.zero.cells) J Kept.zr J ?_
 intro n2 hn2 hf2
 refine G3 ?_
 refine .withK (sp_v (sp_k sp_n)) J (.draw [(0, 0), (0, 1), (0, 3), (0, 4), (0, 7), (0, 8), (0, 10), (0, 11), (3, 2), (3, 5), (2, 6), (4, 9), (4, 12), (0, 13), (4, 14)] Ba zK (G1 ?_))
 refine .kload1 J J J Y22.h J mM (by first | exact Kept.get_fBlocks (by first | exact oK  | exact hW.ok | exact ⟨trivial⟩) | exact vL) ?_
 refine G1 ?_
 refine .kload1 J J J Y23.h J mM (by first | exact Kept.get_fCerts (by first | exact oK  | exact hW.ok | exact ⟨trivial⟩) | exact vL) ?_
 refine G1 ?_
 refine .kload1 J J J Y24.h J mM (by first | exact Kept.get_fVotes (by first | exact oK  | exact hW.ok | exact ⟨trivial⟩) | exact vL) ?_
 refine G1 ?_
 refine .kload1 J J J Y25.h J mM (by first | exact Kept.get_fCuts (by first | exact oK  | exact hW.ok | exact ⟨trivial⟩) | exact vL) ?_
 refine .call J J J J Body72 (kit_own_blocks X.fBlocks D.dBlocks oM hsm.blocks) (ownseq_loose Block.zero J l1) (fun w h => Blocks_ext h J hW.fBlocks) ?_
 rintro v5 out5 ⟨sB, bB, bB2, rB, rfl, rfl, hoB⟩
 simp only [List.append_assoc, List.cons_append, List.nil_append]
 refine .call J J J J Body39 (kit_own_certs X.fCerts D.dCerts oM hsm.certs) (ownseq_loose Cert.zero J l2) (fun w h => Certs_ext h J hW.fCerts) ?_
 rintro v8 out8 ⟨sE, bE, bE2, rE, rfl, rfl, hoE⟩
 simp only [List.append_assoc, List.cons_append, List.nil_append]
 refine .mkRow2 (z := agg Vote.zero.cells) [] [] rfl J Y24.h Sz81 Vote.zr J J (by intro v hv; cases hv) dE J ?_
 intro q9
 refine .appendSl (z := agg Vote.zero.cells) (by' := 160) ((vs.map Vote.cells).flatten) J J J J J Y24.h Y24.h Sz81 Zr81 (by unfold By; kernel_rfl) J (fun w h => Ao h J hvs.see) (fun e => by have := hvs.nil e; have := hvs.cap; omega) (votes_cell (seq_votes hvs)) rM J J oM oM oM hvs.flat ?_
 intro q12 c12 hq12
 rw [Nat.zero_add X.fVotes.n]
 refine .call4 J J J J J Body38 (kit_own_cuts X.fCuts D.dCuts oM hsm.cuts) (fun w h => Cuts_ext h J hW.fCuts) ?_
 rintro v15 out15 ⟨sC, bC, bC2, rC, rfl, rfl, hoC⟩
 simp only [List.append_assoc, List.cons_append, List.nil_append]
 refine .build (cs := (⟨sB, sE, ⟨some ⟨q12, 0, none⟩, X.fVotes.n, c12⟩, sC⟩ : Kept).cells) J J J (fun w => by kernel_rfl) ?_
 refine G5 ?_
 simp only [List.cons_append, List.nil_append, List.append_nil, List.append_assoc]
 refine Ah (out := (bB ++ (bB2 ++ (bE ++ (bE2 ++ (⟨q12, (vs.map Vote.cells).flatten, 81, c12 * 132⟩ :: (bC ++ (bC2 ++ [])))))))) (Bo J J Y27.h J Sz27 mM (by first | (simp; done) | exact Kept.length (by first | exact oK  | exact hW.ok | exact ⟨trivial⟩))) (Ab sG (Ab sG (Ab sG (Ab sG (Ac rM (Ab sG (Ab sG Ae))))))) ?_
 refine ⟨(⟨sB, sE, ⟨some ⟨q12, 0, none⟩, X.fVotes.n, c12⟩, sC⟩ : Kept), ⟨trivial⟩, rfl, fun W2 hl => ⟨⟨trivial⟩, ⟨_, hoB.seq (hl.sub iN) (hl.sub iN) oM⟩, ⟨_, hoE.seq (hl.sub iN) (hl.sub iN) oM⟩, ⟨vs, ?_⟩, ⟨_, hoC.seq (hl.sub iN) (hl.sub iN) oM⟩⟩⟩
 exact acc_seq (Acc.some (E := 81) (show X.fVotes.n ≤ c12 by omega) hvs.flat) (hl.sub (by intro b hb; rw [List.mem_singleton.1 hb]; repeat (first | exact List.mem_cons_self | refine List.mem_cons_of_mem _ ?_ | refine mem_seg ?_))) hvs.nr hvs.nd hvs.len oM fun i r d hr hd => (by
  have := hvs.is i r d hr hd
  exact ⟨this.ok, this.eq, this.wf⟩)


def AccR (xs : List Value) (E : TypeId) (n size : Nat) (v : Value) (out : List Blk) : Prop := ∃ s : Sl, v = s.v ∧ Hw.Acc s out xs E n size
theorem AccR.loose {xs : List Value} {E : TypeId} {n size : Nat} (h : xs.length = n * size) : Loose (AccR xs E n size) := fun l hl => by
  obtain ⟨q, _, hq⟩ := Ch 0 l
  refine ⟨_, [⟨q, xs, E, n * size⟩], ⟨⟨some ⟨q, 0, none⟩, n, n⟩, rfl, Acc.some (Nat.le_refl _) h⟩, ?_⟩
  rw [List.map_append, List.nodup_append]
  refine ⟨by simp, hl, fun i hi j hj => ?_⟩
  obtain ⟨b, hb, rfl⟩ := List.mem_map.1 hj
  simp at hi
  subst hi
  exact fun e => hq b hb e.symm

theorem clone_by_some (a : Addr) (n c : Nat) (xs : List Value) (hc : ∀ u ∈ xs, isCell u = true) (hl : xs.length = n * 1) (hn : n ≤ 90000) : Meets Tryz.prog 223 [.slice (some a) n c] [] (fun W => SeesP W (some a) xs) (AccR xs 5 n 1) := by
 intro W hW
 refine Ag Tryz.func223 J 8 Tryz.ntmps223 J (G9 ?_)
 refine .eqNilS (r := false) J J J J Y58.h J (G2 ?_)
 refine .cond_f J (rfl) (G4 ?_)
 refine .mkRow (z := u8 0) [] [] rfl J J Y58.h Sz5 Zr5 J J (by intro v hv; cases hv) dE J ?_
 intro q0
 refine G1 ?_
 refine .appendSl (z := u8 0) (by' := 1) (xs) J J J J J Y58.h Y58.h Sz5 Zr5 (by unfold By; kernel_rfl) J (fun w h => Ao h J hW) (fun e => by cases e) hc Az J J oM oM oM hl ?_
 intro q1 c1 hq1
 rw [Nat.zero_add n, List.nil_append]
 refine G5 ?_
 refine ⟨_, [⟨q1, xs, 5, c1 * 1⟩], Ad J J, (by intro b hb; rw [List.mem_singleton.1 hb]; exact B7), B2, ⟨⟨some ⟨q1, 0, none⟩, n, c1⟩, rfl, Acc.some oM hl⟩⟩

theorem clone_by_nil (n c : Nat) : Meets Tryz.prog 223 [.slice none n c] [] (fun _ => True) (fun v out => v = .slice none 0 0 ∧ out = []) := by
 intro W hW
 refine Ag Tryz.func223 J 8 Tryz.ntmps223 J (G9 ?_)
 refine .eqNilS (r := true) J J J J Y58.h J (G2 ?_)
 refine .cond_t J (rfl) (G8 ?_)
 refine ⟨_, [], Ad J J, sP, sP, ?_, rfl⟩
 rfl

theorem clone_by (s : Sl) (xs : List Value) (hc : ∀ u ∈ xs, isCell u = true) (hl : xs.length = s.n * 1) (hp : s.p = none → s.n = 0) (hn : s.n ≤ 90000) : Meets Tryz.prog 223 [s.v] [] (fun W => SeesP W s.p xs) (AccR xs 5 s.n 1) := by
  obtain ⟨p, n, c⟩ := s
  cases p with
  | none =>
    have h0 : n = 0 := hp rfl
    subst h0
    have hx : xs = [] := List.eq_nil_of_length_eq_zero (by simpa using hl)
    subst hx
    exact (clone_by_nil 0 c).imp (fun w h => trivial) (fun v out h => by obtain ⟨rfl, rfl⟩ := h; exact ⟨Sl.nil, rfl, Acc.none⟩)
  | some a => exact clone_by_some a n c xs hc hl hn

theorem clone_dg_some (a : Addr) (n c : Nat) (xs : List Value) (hc : ∀ u ∈ xs, isCell u = true) (hl : xs.length = n * 32) (hn : n ≤ 90000) : Meets Tryz.prog 222 [.slice (some a) n c] [] (fun W => SeesP W (some a) xs) (AccR xs 50 n 32) := by
 intro W hW
 refine Ag Tryz.func222 J 8 Tryz.ntmps222 J (G9 ?_)
 refine .eqNilS (r := false) J J J J Y51.h J (G2 ?_)
 refine .cond_f J (rfl) (G4 ?_)
 refine .mkRow (z := agg (Aa (List.replicate 32 0))) [] [] rfl J J Y51.h Sz50 Zr50 J J (by intro v hv; cases hv) dE J ?_
 intro q0
 refine G1 ?_
 refine .appendSl (z := agg (Aa (List.replicate 32 0))) (by' := 32) (xs) J J J J J Y51.h Y51.h Sz50 Zr50 (by unfold By; kernel_rfl) J (fun w h => Ao h J hW) (fun e => by cases e) hc Az J J oM oM oM hl ?_
 intro q1 c1 hq1
 rw [Nat.zero_add n, List.nil_append]
 refine G5 ?_
 refine ⟨_, [⟨q1, xs, 50, c1 * 32⟩], Ad J J, (by intro b hb; rw [List.mem_singleton.1 hb]; exact B7), B2, ⟨⟨some ⟨q1, 0, none⟩, n, c1⟩, rfl, Acc.some oM hl⟩⟩

theorem clone_dg_nil (n c : Nat) : Meets Tryz.prog 222 [.slice none n c] [] (fun _ => True) (fun v out => v = .slice none 0 0 ∧ out = []) := by
 intro W hW
 refine Ag Tryz.func222 J 8 Tryz.ntmps222 J (G9 ?_)
 refine .eqNilS (r := true) J J J J Y51.h J (G2 ?_)
 refine .cond_t J (rfl) (G8 ?_)
 refine ⟨_, [], Ad J J, sP, sP, ?_, rfl⟩
 rfl

theorem clone_dg (s : Sl) (xs : List Value) (hc : ∀ u ∈ xs, isCell u = true) (hl : xs.length = s.n * 32) (hp : s.p = none → s.n = 0) (hn : s.n ≤ 90000) : Meets Tryz.prog 222 [s.v] [] (fun W => SeesP W s.p xs) (AccR xs 50 s.n 32) := by
  obtain ⟨p, n, c⟩ := s
  cases p with
  | none =>
    have h0 : n = 0 := hp rfl
    subst h0
    have hx : xs = [] := List.eq_nil_of_length_eq_zero (by simpa using hl)
    subst hx
    exact (clone_dg_nil 0 c).imp (fun w h => trivial) (fun v out h => by obtain ⟨rfl, rfl⟩ := h; exact ⟨Sl.nil, rfl, Acc.none⟩)
  | some a => exact clone_dg_some a n c xs hc hl hn

theorem clone_vt_some (a : Addr) (n c : Nat) (xs : List Value) (hc : ∀ u ∈ xs, isCell u = true) (hl : xs.length = n * 132) (hn : n ≤ 90000) : Meets Tryz.prog 167 [.slice (some a) n c] [] (fun W => SeesP W (some a) xs) (AccR xs 81 n 132) := by
 intro W hW
 refine Ag Tryz.func167 J 8 Tryz.ntmps167 J (G9 ?_)
 refine .eqNilS (r := false) J J J J Y24.h J (G2 ?_)
 refine .cond_f J (rfl) (G4 ?_)
 refine .mkRow (z := agg Vote.zero.cells) [] [] rfl J J Y24.h Sz81 Vote.zr J J (by intro v hv; cases hv) dE J ?_
 intro q0
 refine G1 ?_
 refine .appendSl (z := agg Vote.zero.cells) (by' := 160) (xs) J J J J J Y24.h Y24.h Sz81 Zr81 (by unfold By; kernel_rfl) J (fun w h => Ao h J hW) (fun e => by cases e) hc Az J J oM oM oM hl ?_
 intro q1 c1 hq1
 rw [Nat.zero_add n, List.nil_append]
 refine G5 ?_
 refine ⟨_, [⟨q1, xs, 81, c1 * 132⟩], Ad J J, (by intro b hb; rw [List.mem_singleton.1 hb]; exact B7), B2, ⟨⟨some ⟨q1, 0, none⟩, n, c1⟩, rfl, Acc.some oM hl⟩⟩

theorem clone_vt_nil (n c : Nat) : Meets Tryz.prog 167 [.slice none n c] [] (fun _ => True) (fun v out => v = .slice none 0 0 ∧ out = []) := by
 intro W hW
 refine Ag Tryz.func167 J 8 Tryz.ntmps167 J (G9 ?_)
 refine .eqNilS (r := true) J J J J Y24.h J (G2 ?_)
 refine .cond_t J (rfl) (G8 ?_)
 refine ⟨_, [], Ad J J, sP, sP, ?_, rfl⟩
 rfl

theorem clone_vt (s : Sl) (xs : List Value) (hc : ∀ u ∈ xs, isCell u = true) (hl : xs.length = s.n * 132) (hp : s.p = none → s.n = 0) (hn : s.n ≤ 90000) : Meets Tryz.prog 167 [s.v] [] (fun W => SeesP W s.p xs) (AccR xs 81 s.n 132) := by
  obtain ⟨p, n, c⟩ := s
  cases p with
  | none =>
    have h0 : n = 0 := hp rfl
    subst h0
    have hx : xs = [] := List.eq_nil_of_length_eq_zero (by simpa using hl)
    subst hx
    exact (clone_vt_nil 0 c).imp (fun w h => trivial) (fun v out h => by obtain ⟨rfl, rfl⟩ := h; exact ⟨Sl.nil, rfl, Acc.none⟩)
  | some a => exact clone_vt_some a n c xs hc hl hn

def CutOwn (D : DCut) (v : Value) (out : List Blk) : Prop := ∃ C : Cut, C.ok ∧ v = agg C.cells ∧ ∀ W2, Lies out W2 → CutIs W2 C D
def BlockOwn (D : DB) (v : Value) (out : List Blk) : Prop := ∃ B : Block, B.ok ∧ v = agg B.cells ∧ ∀ W2, Lies out W2 → BlockIs W2 B D

theorem keep_copycut (C : Cut) (D : DCut) (hn : C.fHeads.n ≤ 90000) : Meets Tryz.prog 166 [agg C.cells] [] (fun W => CutIs W C D) (CutOwn D) := by
 intro W hW
 refine Ag Tryz.func166 J 8 Tryz.ntmps166 J (G3 ?_)
 intro n1 hn1 hf1
 refine .alloc (cs := Cut.zero.cells) J Cut.zr J ?_
 intro n2 hn2 hf2
 refine G5 ?_
 refine .load1 J J J Y51.h J mM (by first | exact Cut.get_fHeads (by first | (simp [hW.ok.l_fPrev]; done) | exact oK  | exact hW.ok | exact ⟨hW.ok.l_fPrev⟩) | exact (by first | rfl | exact get_words (by first | omega | (simp [hW.ok.l_fPrev]; done) | (simp [hW.ok.l_fPrev]; omega)) | exact Bw (by first | omega | (simp [hW.ok.l_fPrev]; done) | (simp [hW.ok.l_fPrev]; omega)) | exact get_ints (by first | omega | (simp [hW.ok.l_fPrev]; done) | (simp [hW.ok.l_fPrev]; omega)))) ?_
 refine .call4 J J J J J Body222 (clone_dg C.fHeads (Bs D.dHeads) (flatB_cell _) (by rw [Bi hW.fHeads.row, hW.fHeads.len]) (fun e => by have := hW.fHeads.nil e; have := hW.fHeads.cap; omega) hn) (fun w h => Ao h J hW.fHeads.see) ?_
 rintro v5 out5 ⟨⟨p5, n5, c5⟩, rfl, hac5⟩
 refine G1 ?_
 refine .s1 J J J J J Sz51 mM (by rw [Cut.length (by first | (simp [hW.ok.l_fPrev]; done) | exact oK  | exact hW.ok | exact ⟨hW.ok.l_fPrev⟩)]; decide) (by first | exact Cut.set_fHeads (by first | (simp [hW.ok.l_fPrev]; done) | exact oK  | exact hW.ok | exact ⟨hW.ok.l_fPrev⟩) _ | exact Cut.setS_fHeads (by first | (simp [hW.ok.l_fPrev]; done) | exact oK  | exact hW.ok | exact ⟨hW.ok.l_fPrev⟩) _ _ _) uU ?_
 refine G4 ?_
 refine .lA J J J Y53.h J Sz53 mM (Cut.length (by first | (simp [hW.ok.l_fPrev]; done) | exact oK  | exact hW.ok | exact ⟨hW.ok.l_fPrev⟩)) ?_
 refine .sA J J J J (Cut.isCell (by first | (simp [hW.ok.l_fPrev]; done) | exact oK  | exact hW.ok | exact ⟨hW.ok.l_fPrev⟩)) Sz53 (Cut.length (by first | (simp [hW.ok.l_fPrev]; done) | exact oK  | exact hW.ok | exact ⟨hW.ok.l_fPrev⟩)) mM (Cut.length (by first | (simp [hW.ok.l_fPrev]; done) | exact oK  | exact hW.ok | exact ⟨hW.ok.l_fPrev⟩)) uU ?_
 refine G4 ?_
 refine Ah (out := (out5 ++ [])) (Bo J J Y53.h J Sz53 mM (by first | (simp [hW.ok.l_fPrev]; done) | exact Cut.length (by first | (simp [hW.ok.l_fPrev]; done) | exact oK  | exact hW.ok | exact ⟨hW.ok.l_fPrev⟩))) (Ab sG Ae) ?_
 exact ⟨{ C with fHeads := ⟨p5, n5, c5⟩ }, ⟨hW.ok.l_fPrev⟩, rfl, fun W2 hl => ⟨⟨hW.ok.l_fPrev⟩, hW.fHeight, hW.fPrev, acc_rows hac5 (hl.sub iN) hW.fHeads.row hW.fHeads.len oM⟩⟩

theorem keep_copyblock (B : Block) (D : DB) (hn : B.fLinks.n ≤ 90000) (hd : B.fData.n ≤ 90000) : Meets Tryz.prog 165 [agg B.cells] [] (fun W => BlockIs W B D) (BlockOwn D) := by
 intro W hW
 refine Ag Tryz.func165 J 12 Tryz.ntmps165 J (G3 ?_)
 intro n1 hn1 hf1
 refine .alloc (cs := Block.zero.cells) J Block.zr J ?_
 intro n2 hn2 hf2
 refine G3 ?_
 refine .draw [(0, 0), (1, 1), (0, 3), (1, 4), (3, 2), (0, 6), (3, 5), (4, 7), (0, 8), (4, 9)] Ba zK (G1 ?_)
 refine .load1 J J J Y51.h J mM (by first | exact Block.get_fLinks (by first | (simp [hW.ok.l_fWriter, hW.ok.l_fPrev, hW.ok.l_fSig]; done) | exact oK  | exact hW.ok | exact ⟨hW.ok.l_fWriter, hW.ok.l_fPrev, hW.ok.l_fSig⟩) | exact (by first | rfl | exact get_words (by first | omega | (simp [hW.ok.l_fWriter, hW.ok.l_fPrev, hW.ok.l_fSig]; done) | (simp [hW.ok.l_fWriter, hW.ok.l_fPrev, hW.ok.l_fSig]; omega)) | exact Bw (by first | omega | (simp [hW.ok.l_fWriter, hW.ok.l_fPrev, hW.ok.l_fSig]; done) | (simp [hW.ok.l_fWriter, hW.ok.l_fPrev, hW.ok.l_fSig]; omega)) | exact get_ints (by first | omega | (simp [hW.ok.l_fWriter, hW.ok.l_fPrev, hW.ok.l_fSig]; done) | (simp [hW.ok.l_fWriter, hW.ok.l_fPrev, hW.ok.l_fSig]; omega)))) ?_
 refine G1 ?_
 refine .load1 J J J Y58.h J mM (by first | exact Block.get_fData (by first | (simp [hW.ok.l_fWriter, hW.ok.l_fPrev, hW.ok.l_fSig]; done) | exact oK  | exact hW.ok | exact ⟨hW.ok.l_fWriter, hW.ok.l_fPrev, hW.ok.l_fSig⟩) | exact (by first | rfl | exact get_words (by first | omega | (simp [hW.ok.l_fWriter, hW.ok.l_fPrev, hW.ok.l_fSig]; done) | (simp [hW.ok.l_fWriter, hW.ok.l_fPrev, hW.ok.l_fSig]; omega)) | exact Bw (by first | omega | (simp [hW.ok.l_fWriter, hW.ok.l_fPrev, hW.ok.l_fSig]; done) | (simp [hW.ok.l_fWriter, hW.ok.l_fPrev, hW.ok.l_fSig]; omega)) | exact get_ints (by first | omega | (simp [hW.ok.l_fWriter, hW.ok.l_fPrev, hW.ok.l_fSig]; done) | (simp [hW.ok.l_fWriter, hW.ok.l_fPrev, hW.ok.l_fSig]; omega)))) ?_
 refine .call J J J J Body222 (clone_dg B.fLinks (Bs D.ls) (flatB_cell _) (by rw [Bi hW.ls.row, hW.ls.len]) (fun e => by have := hW.ls.nil e; have := hW.ls.cap; omega) hn) (AccR.loose (by rw [Bi hW.ls.row, hW.ls.len])) (fun w h => Ao h J hW.ls.see) ?_
 rintro v5 out5 ⟨⟨p5, n5, c5⟩, rfl, hac5⟩
 refine G1 ?_
 refine .call J J J J Body223 (clone_by B.fData (Aa D.ds) (by simp [Aa, isCell, u8]) (by rw [Aa, List.length_map, hW.ds.len, Nat.mul_one]) (fun e => by have := hW.ds.nil e; have := hW.ds.cap; omega) hd) (AccR.loose (by rw [Aa, List.length_map, hW.ds.len, Nat.mul_one])) (fun w h => Ao h J hW.ds.see) ?_
 rintro v8 out8 ⟨⟨p8, n8, c8⟩, rfl, hac8⟩
 refine .s1 J J J J J Sz51 mM (by rw [Block.length (by first | (simp [hW.ok.l_fWriter, hW.ok.l_fPrev, hW.ok.l_fSig]; done) | exact oK  | exact hW.ok | exact ⟨hW.ok.l_fWriter, hW.ok.l_fPrev, hW.ok.l_fSig⟩)]; decide) (by first | exact Block.set_fLinks (by first | (simp [hW.ok.l_fWriter, hW.ok.l_fPrev, hW.ok.l_fSig]; done) | exact oK  | exact hW.ok | exact ⟨hW.ok.l_fWriter, hW.ok.l_fPrev, hW.ok.l_fSig⟩) _ | exact Block.setS_fLinks (by first | (simp [hW.ok.l_fWriter, hW.ok.l_fPrev, hW.ok.l_fSig]; done) | exact oK  | exact hW.ok | exact ⟨hW.ok.l_fWriter, hW.ok.l_fPrev, hW.ok.l_fSig⟩) _ _ _) uU ?_
 refine G1 ?_
 refine .s1 J J J J J Sz58 mM (by rw [Block.length (by first | (simp [hW.ok.l_fWriter, hW.ok.l_fPrev, hW.ok.l_fSig]; done) | exact oK  | exact hW.ok | exact ⟨hW.ok.l_fWriter, hW.ok.l_fPrev, hW.ok.l_fSig⟩)]; decide) (by first | exact Block.set_fData (by first | (simp [hW.ok.l_fWriter, hW.ok.l_fPrev, hW.ok.l_fSig]; done) | exact oK  | exact hW.ok | exact ⟨hW.ok.l_fWriter, hW.ok.l_fPrev, hW.ok.l_fSig⟩) _ | exact Block.setS_fData (by first | (simp [hW.ok.l_fWriter, hW.ok.l_fPrev, hW.ok.l_fSig]; done) | exact oK  | exact hW.ok | exact ⟨hW.ok.l_fWriter, hW.ok.l_fPrev, hW.ok.l_fSig⟩) _ _ _) uU ?_
 refine G4 ?_
 refine .lA J J J Y79.h J Sz79 mM (Block.length (by first | (simp [hW.ok.l_fWriter, hW.ok.l_fPrev, hW.ok.l_fSig]; done) | exact oK  | exact hW.ok | exact ⟨hW.ok.l_fWriter, hW.ok.l_fPrev, hW.ok.l_fSig⟩)) ?_
 refine .sA J J J J (Block.isCell (by first | (simp [hW.ok.l_fWriter, hW.ok.l_fPrev, hW.ok.l_fSig]; done) | exact oK  | exact hW.ok | exact ⟨hW.ok.l_fWriter, hW.ok.l_fPrev, hW.ok.l_fSig⟩)) Sz79 (Block.length (by first | (simp [hW.ok.l_fWriter, hW.ok.l_fPrev, hW.ok.l_fSig]; done) | exact oK  | exact hW.ok | exact ⟨hW.ok.l_fWriter, hW.ok.l_fPrev, hW.ok.l_fSig⟩)) mM (Block.length (by first | (simp [hW.ok.l_fWriter, hW.ok.l_fPrev, hW.ok.l_fSig]; done) | exact oK  | exact hW.ok | exact ⟨hW.ok.l_fWriter, hW.ok.l_fPrev, hW.ok.l_fSig⟩)) uU ?_
 refine G4 ?_
 refine Ah (out := (out8 ++ (out5 ++ []))) (Bo J J Y79.h J Sz79 mM (by first | (simp [hW.ok.l_fWriter, hW.ok.l_fPrev, hW.ok.l_fSig]; done) | exact Block.length (by first | (simp [hW.ok.l_fWriter, hW.ok.l_fPrev, hW.ok.l_fSig]; done) | exact oK  | exact hW.ok | exact ⟨hW.ok.l_fWriter, hW.ok.l_fPrev, hW.ok.l_fSig⟩))) (Ab sG (Ab sG Ae)) ?_
 exact ⟨{ B with fLinks := ⟨p5, n5, c5⟩, fData := ⟨p8, n8, c8⟩ }, ⟨hW.ok.l_fWriter, hW.ok.l_fPrev, hW.ok.l_fSig⟩, rfl, fun W2 hl => ⟨⟨hW.ok.l_fWriter, hW.ok.l_fPrev, hW.ok.l_fSig⟩, hW.w, hW.seq, hW.prev, acc_rows hac5 (hl.sub iN) hW.ls.row hW.ls.len oM, Ci hac8 (hl.sub iN) hW.ds.len oM, hW.sg⟩⟩


theorem cons_of {α : Type} {l : List α} {n : Nat} (h : l.length = n + 1) : ∃ a t, l = a :: t ∧ t.length = n := by
  cases l with
  | nil => cases h
  | cons a t => exact ⟨a, t, rfl, by simpa using h⟩
theorem build_cert {C : Cut} (hC : C.ok) (s : Sl) (w : World) : (Instr.build 55 #[(0, agg C.cells), (1, s.v)]).run Tryz.prog w = .ok (agg (⟨C, s⟩ : Cert).cells) w := by
  obtain ⟨ht, l, hd⟩ := C
  have h : l.length = 32 := hC.l_fPrev
  clear hC
  iterate 32 (obtain ⟨a, l, e, h2⟩ := cons_of h; clear h; subst e; have h := h2; clear h2)
  obtain rfl := List.eq_nil_of_length_eq_zero h
  first
    | (refine Eq.trans ?_ rfl; kernel_rfl)
    | rfl
def gtV (h : Nat) (V : Vote) : Bool := decide ((h : Int) < (V.fHeight.toNat : Int))
def gtC (h : Nat) (C : DCut) : Bool := decide ((h : Int) < (C.dHeight.toNat : Int))
noncomputable def neededRd (D : DKept) : DKept × Int := if D.check = 0 then (⟨D.dBlocks, D.dCerts, D.dVotes.filter (gtV D.dCerts.length), D.dCuts.filter (gtC D.dCerts.length)⟩, 0) else (dkz, D.check)
def NeedR (D : DKept) (v : Value) (out : List Blk) : Prop := ∃ Y : Kept, Y.ok ∧ v = .tuple #[agg Y.cells, i64 (neededRd D).2] ∧ ∀ W2, Lies out W2 → KeptIs W2 Y (neededRd D).1
structure MidK (D : DKept) : Prop where
  blocks : ∀ d ∈ D.dBlocks, d.ls.length ≤ 90000 ∧ d.ds.length ≤ 90000
  certs : ∀ d ∈ D.dCerts, d.dCut.dHeads.length ≤ 90000 ∧ d.dVotes.length ≤ 90000
  cuts : ∀ d ∈ D.dCuts, d.dHeads.length ≤ 90000
theorem BlockOwn.loose (D : DB) : Loose (BlockOwn D) := fun l hl => by
  obtain ⟨n, _, hn⟩ := Ch 0 l
  exact ⟨agg Block.zero.cells, [⟨n, [undef], 0, 0⟩], ⟨Block.zero, Block.zero_ok, rfl, fun W2 h => (no_lie0 h).elim⟩, by
    rw [List.map_append, List.nodup_append]
    refine ⟨by simp, hl, fun i hi j hj => ?_⟩
    obtain ⟨b, hb, rfl⟩ := List.mem_map.1 hj
    simp at hi
    subst hi
    exact fun e => hn b hb e.symm⟩
theorem CutOwn.loose (D : DCut) : Loose (CutOwn D) := fun l hl => by
  obtain ⟨n, _, hn⟩ := Ch 0 l
  exact ⟨agg Cut.zero.cells, [⟨n, [undef], 0, 0⟩], ⟨Cut.zero, Cut.zero_ok, rfl, fun W2 h => (no_lie0 h).elim⟩, by
    rw [List.map_append, List.nodup_append]
    refine ⟨by simp, hl, fun i hi j hj => ?_⟩
    obtain ⟨b, hb, rfl⟩ := List.mem_map.1 hj
    simp at hi
    subst hi
    exact fun e => hn b hb e.symm⟩
theorem filt_yes {D : Type} {F : D → Bool} {ds : List D} {k : Nat} {d : D} (h : ds[k]? = some d) (hf : F d = true) : (ds.take (k + 1)).filter F = (ds.take k).filter F ++ [d] := by
  rw [take_snoc h, List.filter_append]; simp [hf]
theorem filt_no {D : Type} {F : D → Bool} {ds : List D} {k : Nat} {d : D} (h : ds[k]? = some d) (hf : F d = false) : (ds.take (k + 1)).filter F = (ds.take k).filter F := by
  rw [take_snoc h, List.filter_append]; simp [hf]

theorem keep_needed (X : Kept) (D : DKept) (hX : X.ok) (hm : MidK D) (h1 : X.fBlocks.n ≤ 1000) (h2 : X.fCerts.n ≤ 1000) (h3 : X.fVotes.n ≤ 1000) (h4 : X.fCuts.n ≤ 1000) : Meets Tryz.prog 59 [agg X.cells] [] (fun W => KeptIs W X D) (NeedR D) := by
 intro W hW
 obtain ⟨rsB_, hB⟩ := hW.fBlocks
 obtain ⟨rsE_, hE⟩ := hW.fCerts
 obtain ⟨rsV_, hV⟩ := hW.fVotes
 obtain ⟨rsC_, hC⟩ := hW.fCuts
 have nB := hB.nd
 have nE := hE.nd
 have nV := hV.nd
 have nC := hC.nd
 obtain ⟨w0, hw0⟩ : ∃ w, A8 (X.fCerts.n : Int) = w := ⟨_, rfl⟩
 have hw1 : w0.toNat = X.fCerts.n := by rw [← hw0, word_nat oM, Bc oM]
 refine Ag Tryz.func59 J 98 Tryz.ntmps59 J (G3 ?_)
 intro n1 hn1 hf1
 refine .alloc (cs := Kept.zero.cells) J Kept.zr J ?_
 intro n2 hn2 hf2
 refine G7 ?_
 refine .cV J J J J Body16 (keep_check X D) (fun w h => hW.ext h J) (G9 ?_)
 first
  | refine Sat.condP rfl (fun hc0 => ?_) (fun hc0 => ?_)
  | refine Sat.condNP rfl (fun hc0 => ?_) (fun hc0 => ?_)
  | refine Sat.cond rfl (fun hc0 => ?_) (fun hc0 => ?_)
 ·
  have hcz : ¬ D.check = 0 := by omega
  refine G2 ?_
  refine .build (cs := Kept.zero.cells) J J J (fun w => by kernel_rfl) ?_
  refine G8 ?_
  refine Ah (out := []) (Am J J J Y27.h J Sz27 mM (by first | (simp; done) | exact Kept.length (by first | exact oK  | exact hX | exact okr | exact ⟨trivial⟩ | exact Kept.zero_ok | exact okB35 | exact okC92 | exact ⟨okC51⟩ | exact okr.o_fCut))) Ae ?_
  exact ⟨Kept.zero, Kept.zero_ok, by rw [neededRd, if_neg hcz], fun W2 _ => by rw [neededRd, if_neg hcz]; exact keptz_is W2⟩
 have hcz : D.check = 0 := by omega
 refine G5 ?_
 refine .load1 J J J Y23.h J mM (by first | exact Kept.get_fCerts (by first | exact oK  | exact hX | exact okr | exact ⟨trivial⟩ | exact Kept.zero_ok | exact okB35 | exact okC92 | exact ⟨okC51⟩ | exact okr.o_fCut) | exact vL) ?_
 refine G2 ?_
 rw [hw0]
 refine G5 ?_
 refine .alloc (cs := Kept.zero.cells) J Kept.zr J ?_
 intro n6 hn6 hf6
 refine G6 ?_
 refine .load1 J J J Y22.h J mM (by first | exact Kept.get_fBlocks (by first | exact oK  | exact hX | exact okr | exact ⟨trivial⟩ | exact Kept.zero_ok | exact okB35 | exact okC92 | exact ⟨okC51⟩ | exact okr.o_fCut) | exact vL) ?_
 refine G5 ?_
 refine .loop (ι := Nat × Sl × List Blk × List Blk × List Block) (fun a => ⟨[(1, ptr n1 0), (2, ptr n2 0), (5, u64 w0), (6, ptr n6 0), (26, X.fBlocks.v), (27, i64 (X.fBlocks.n : Int)), (28, i64 (a.1 : Int))], (⟨n6, ({ Kept.zero with fBlocks := a.2.1 } : Kept).cells, 27, 4⟩ :: (⟨n2, Kept.zero.cells, 27, 4⟩ :: (⟨n1, X.cells, 27, X.cells.length⟩ :: (a.2.2.1 ++ (a.2.2.2.1 ++ [])))))⟩) (fun a => a.1 ≤ X.fBlocks.n ∧ OwnSeq Block.cells 131 BlockIs 79 a.2.1 a.2.2.1 a.2.2.2.1 a.2.2.2.2 (D.dBlocks.take a.1) a.1) (fun a => X.fBlocks.n - a.1) ((0, Sl.nil, [], [], [])) ?_ ?_ ?_
 · exact ⟨Nat.zero_le _, OwnSeq.none⟩
 · exact Af (wk1 rfl (wk1 rfl (wk1 rfl (wk1 rfl (wk1 rfl (wk1 rfl (wk1 rfl wk0))))))) (Ac rM (Ac rM (Ac rM (Bh (Bh Ae)))))
 rintro a ⟨ha1, hoa⟩
 refine G6 ?_
 first
  | refine Sat.condP rfl (fun hc1 => ?_) (fun hc1 => ?_)
  | refine Sat.condNP rfl (fun hc1 => ?_) (fun hc1 => ?_)
  | refine Sat.cond rfl (fun hc1 => ?_) (fun hc1 => ?_)
 ·
  have hk2 : a.1 < X.fBlocks.n := by omega
  obtain ⟨b, o, r, d, hsp, hr, hd, his, hlen, hsee⟩ := hB.at dE hk2
  have okr := his.ok
  refine G6 ?_
  refine .idxSlP 131 J J J hsp J Y22.h Sz79 a.1 J oM (.loadEN r.cells J J J Y79.h J Sz79 sP hlen hsee (.alloc (cs := Block.zero.cells) J Block.zr J ?_))
  intro n8 hn8 hf8
  refine G3 ?_
  refine .draw [(0, 0), (1, 1), (1, 2), (3, 3), (2, 4), (4, 5), (0, 6), (4, 7)] Ba zK (G1 ?_)
  refine .load1 J J J Y22.h J mM (by first | exact Kept.get_fBlocks (by first | exact oK  | exact hX | exact okr | exact ⟨trivial⟩ | exact Kept.zero_ok | exact okB35 | exact okC92 | exact ⟨okC51⟩ | exact okr.o_fCut) | exact vL) ?_
  refine G1 ?_
  refine .call J J J J Body165 (keep_copyblock r d (by rw [← his.ls.len]; exact (hm.blocks d (List.mem_of_getElem? hd)).1) (by rw [← his.ds.len]; exact (hm.blocks d (List.mem_of_getElem? hd)).2)) (BlockOwn.loose _) (fun w h => his.ext h J) ?_
  rintro v35 out35 ⟨B35, okB35, rfl, hB35⟩
  refine .mkRow2 (z := agg Block.zero.cells) [agg B35.cells] B35.cells J J Y22.h Sz79 Block.zr J J (by intro v hv; rw [List.mem_singleton.1 hv]; exact Block.length okB35) dE (by simp [Value.cells]) ?_
  intro q36
  refine .appendAcc (z := agg Block.zero.cells) (by' := 184) (B35.cells) J J J J J Y22.h Y22.h Sz79 Block.zr (by unfold By; kernel_rfl) J hoa.acc sG (fun w h => SeesP.of (Aj h mM)) (fun e => by cases e) (Block.isCell okB35) oM oM (by rw [Block.length okB35]) ?_
  intro s37 bl37 hac37
  refine G10 ?_
  exact ⟨(a.1 + 1, s37, bl37, out35 ++ a.2.2.2.1, a.2.2.2.2 ++ [B35]), ⟨by simp only []; omega, by simp only [take_snoc hd]; exact hoa.snoc hac37 (Block.length okB35) hB35⟩, by simp only []; omega, Af (wk1 rfl (wk1 rfl (wk1 rfl (wk1 rfl (wk1 rfl (wk1 rfl (wk1 (by rw [Int.natCast_add]; rfl) wk0))))))) (Ac rM (Ac rM (Ac rM (Ab sG (Br (Ab sG (Ab sG Ae)))))))⟩
 have hae : a.1 = X.fBlocks.n := by omega
 refine G9 ?_
 refine .load1 J J J Y23.h J mM (by first | exact Kept.get_fCerts (by first | exact oK  | exact hX | exact okr | exact ⟨trivial⟩ | exact Kept.zero_ok | exact okB35 | exact okC92 | exact ⟨okC51⟩ | exact okr.o_fCut) | exact vL) ?_
 refine G5 ?_
 refine .loop (ι := Nat × Sl × List Blk × List Blk × List Cert) (fun e => ⟨[(1, ptr n1 0), (2, ptr n2 0), (5, u64 w0), (6, ptr n6 0), (41, X.fCerts.v), (42, i64 (X.fCerts.n : Int)), (43, i64 (e.1 : Int))], (⟨n6, ({ Kept.zero with fBlocks := a.2.1, fCerts := e.2.1 } : Kept).cells, 27, 4⟩ :: (⟨n2, Kept.zero.cells, 27, 4⟩ :: (⟨n1, X.cells, 27, X.cells.length⟩ :: (a.2.2.1 ++ (a.2.2.2.1 ++ (e.2.2.1 ++ (e.2.2.2.1 ++ [])))))))⟩) (fun e => e.1 ≤ X.fCerts.n ∧ OwnSeq Cert.cells 35 CertIs 55 e.2.1 e.2.2.1 e.2.2.2.1 e.2.2.2.2 (D.dCerts.take e.1) e.1) (fun e => X.fCerts.n - e.1) ((0, Sl.nil, [], [], [])) ?_ ?_ ?_
 · exact ⟨Nat.zero_le _, OwnSeq.none⟩
 · exact Af (wk1 rfl (wk1 rfl (wk1 rfl (wk1 rfl (wk1 rfl (wk1 rfl (wk1 rfl wk0))))))) (Ac rM (Ac rM (Ac rM (Ab sG (Ab sG (Bh (Bh Ae)))))))
 rintro e ⟨he1, hoe⟩
 refine G6 ?_
 first
  | refine Sat.condP rfl (fun hc2 => ?_) (fun hc2 => ?_)
  | refine Sat.condNP rfl (fun hc2 => ?_) (fun hc2 => ?_)
  | refine Sat.cond rfl (fun hc2 => ?_) (fun hc2 => ?_)
 ·
  have hk2 : e.1 < X.fCerts.n := by omega
  obtain ⟨b, o, r, d, hsp, hr, hd, his, hlen, hsee⟩ := hE.at dE hk2
  have okr := his.ok
  obtain ⟨vs, hvs⟩ := his.fVotes
  have hs2 := (hm.certs d (List.mem_of_getElem? hd)).2
  rw [hvs.nd] at hs2
  refine G6 ?_
  refine .idxSlP 35 J J J hsp J Y23.h Sz55 e.1 J oM (.loadEN r.cells J J J Y55.h J Sz55 sP hlen hsee (.alloc (cs := Cert.zero.cells) J Cert.zr J ?_))
  intro n10 hn10 hf10
  refine G3 ?_
  refine .draw [(0, 0), (1, 1), (0, 2), (1, 3), (0, 5), (1, 6), (3, 4), (3, 7), (0, 8), (2, 9), (4, 10), (0, 11), (4, 12)] Ba zK (G1 ?_)
  refine .load1 J J J Y23.h J mM (by first | exact Kept.get_fCerts (by first | exact oK  | exact hX | exact okr | exact ⟨trivial⟩ | exact Kept.zero_ok | exact okB35 | exact okC92 | exact ⟨okC51⟩ | exact okr.o_fCut) | exact vL) ?_
  refine G1 ?_
  refine .lN (Cut.cells _) J J J Y53.h J Sz53 mM (Cert.row_fCut (by first | exact oK  | exact hX | exact okr | exact ⟨trivial⟩ | exact Kept.zero_ok | exact okB35 | exact okC92 | exact ⟨okC51⟩ | exact okr.o_fCut)) (Cert.rl_fCut (by first | exact oK  | exact hX | exact okr | exact ⟨trivial⟩ | exact Kept.zero_ok | exact okB35 | exact okC92 | exact ⟨okC51⟩ | exact okr.o_fCut)) ?_
  refine G1 ?_
  refine .load1 J J J Y24.h J mM (by first | exact Cert.get_fVotes (by first | exact oK  | exact hX | exact okr | exact ⟨trivial⟩ | exact Kept.zero_ok | exact okB35 | exact okC92 | exact ⟨okC51⟩ | exact okr.o_fCut) | exact vL) ?_
  refine .call J J J J Body166 (keep_copycut r.fCut d.dCut (by rw [← his.fCut.fHeads.len]; exact (hm.certs d (List.mem_of_getElem? hd)).1)) (CutOwn.loose _) (fun w h => his.fCut.ext h J) ?_
  rintro v51 out51 ⟨C51, okC51, rfl, hC51⟩
  refine .call J J J J Body167 (clone_vt r.fVotes (vs.map Vote.cells).flatten (votes_cell (seq_votes hvs)) hvs.flat (fun e => by have := hvs.nil e; have := hvs.cap; omega) (by rw [← hvs.nd]; exact (hm.certs d (List.mem_of_getElem? hd)).2)) (AccR.loose hvs.flat) (fun w h => Ao h J hvs.see) ?_
  rintro v54 out54 ⟨⟨p54, n54, c54⟩, rfl, hac54⟩
  refine .build (cs := (⟨C51, ⟨p54, n54, c54⟩⟩ : Cert).cells) J J J (fun w => by exact build_cert okC51 ⟨p54, n54, c54⟩ w) ?_
  refine .mkRow2 (z := agg Cert.zero.cells) [agg (⟨C51, ⟨p54, n54, c54⟩⟩ : Cert).cells] (⟨C51, ⟨p54, n54, c54⟩⟩ : Cert).cells J J Y23.h Sz55 Cert.zr J J (by intro v hv; rw [List.mem_singleton.1 hv]; exact Cert.length ⟨okC51⟩) dE (by simp [Value.cells]) ?_
  intro q56
  refine .appendAcc (z := agg Cert.zero.cells) (by' := 88) ((⟨C51, ⟨p54, n54, c54⟩⟩ : Cert).cells) J J J J J Y23.h Y23.h Sz55 Cert.zr (by unfold By; kernel_rfl) J hoe.acc sG (fun w h => SeesP.of (Aj h mM)) (fun e => by cases e) (Cert.isCell ⟨okC51⟩) oM oM (by rw [Cert.length ⟨okC51⟩]) ?_
  intro s57 bl57 hac57
  refine G10 ?_
  exact ⟨(e.1 + 1, s57, bl57, (out54 ++ out51) ++ e.2.2.2.1, e.2.2.2.2 ++ [⟨C51, ⟨p54, n54, c54⟩⟩]), ⟨by simp only []; omega, by simp only [take_snoc hd]; exact hoe.snoc hac57 (Cert.length ⟨okC51⟩) (fun W2 hl => ⟨⟨okC51⟩, hC51 W2 (hl.sub iN), ⟨vs, acc_seq hac54 (hl.sub iN) hvs.nr hvs.nd hvs.len oM fun i r d hr hd => (by
   have := hvs.is i r d hr hd
   exact ⟨this.ok, this.eq, this.wf⟩)⟩⟩)⟩, by simp only []; omega, Af (wk1 rfl (wk1 rfl (wk1 rfl (wk1 rfl (wk1 rfl (wk1 rfl (wk1 (by rw [Int.natCast_add]; rfl) wk0))))))) (Ac rM (Ac rM (Ac rM (Ab sG (Ab sG (Ab sG (Br (Br (Ab sG (Ab sG (Ab sG Ae)))))))))))⟩
 have hee : e.1 = X.fCerts.n := by omega
 refine G9 ?_
 refine .load1 J J J Y24.h J mM (by first | exact Kept.get_fVotes (by first | exact oK  | exact hX | exact okr | exact ⟨trivial⟩ | exact Kept.zero_ok | exact okB35 | exact okC92 | exact ⟨okC51⟩ | exact okr.o_fCut) | exact vL) ?_
 refine G5 ?_
 refine .loop (ι := Nat × Sl × List Blk × Nat × List Vote) (fun v => ⟨[(1, ptr n1 0), (2, ptr n2 0), (5, u64 w0), (6, ptr n6 0), (61, X.fVotes.v), (62, i64 (X.fVotes.n : Int)), (63, i64 (v.1 : Int))], (⟨n6, ({ Kept.zero with fBlocks := a.2.1, fCerts := e.2.1, fVotes := v.2.1 } : Kept).cells, 27, 4⟩ :: (⟨n2, Kept.zero.cells, 27, 4⟩ :: (⟨n1, X.cells, 27, X.cells.length⟩ :: (a.2.2.1 ++ (a.2.2.2.1 ++ (e.2.2.1 ++ (e.2.2.2.1 ++ (v.2.2.1 ++ []))))))))⟩) (fun v => v.1 ≤ X.fVotes.n ∧ v.2.2.2.1 ≤ v.1 ∧ OwnSeq Vote.cells 132 VoteIs 81 v.2.1 v.2.2.1 [] v.2.2.2.2 ((D.dVotes.take v.1).filter (gtV X.fCerts.n)) v.2.2.2.1) (fun v => X.fVotes.n - v.1) ((0, Sl.nil, [], 0, [])) ?_ ?_ ?_
 · exact ⟨Nat.zero_le _, Nat.le_refl _, OwnSeq.none⟩
 · exact Af (wk1 rfl (wk1 rfl (wk1 rfl (wk1 rfl (wk1 rfl (wk1 rfl (wk1 rfl wk0))))))) (Ac rM (Ac rM (Ac rM (Ab sG (Ab sG (Ab sG (Ab sG (Bh Ae))))))))
 rintro v ⟨hv1, hv2, hov⟩
 refine G6 ?_
 first
  | refine Sat.condP rfl (fun hc3 => ?_) (fun hc3 => ?_)
  | refine Sat.condNP rfl (fun hc3 => ?_) (fun hc3 => ?_)
  | refine Sat.cond rfl (fun hc3 => ?_) (fun hc3 => ?_)
 ·
  have hk2 : v.1 < X.fVotes.n := by omega
  obtain ⟨b, o, r, d, hsp, hr, hd, his, hlen, hsee⟩ := hV.at dE hk2
  have okr := his.ok
  obtain rfl := his.eq
  refine G2 ?_
  refine .join (ι := Nat × Sl × List Blk × Nat × List Vote) (fun j => ⟨[(1, ptr n1 0), (2, ptr n2 0), (5, u64 w0), (6, ptr n6 0), (61, X.fVotes.v), (62, i64 (X.fVotes.n : Int)), (63, i64 (v.1 : Int))], (⟨n6, ({ Kept.zero with fBlocks := a.2.1, fCerts := e.2.1, fVotes := j.2.1 } : Kept).cells, 27, 4⟩ :: (⟨n2, Kept.zero.cells, 27, 4⟩ :: (⟨n1, X.cells, 27, X.cells.length⟩ :: (a.2.2.1 ++ (a.2.2.2.1 ++ (e.2.2.1 ++ (e.2.2.2.1 ++ (j.2.2.1 ++ []))))))))⟩) (fun j => j.2.2.2.1 ≤ v.1 + 1 ∧ OwnSeq Vote.cells 132 VoteIs 81 j.2.1 j.2.2.1 [] j.2.2.2.2 ((D.dVotes.take (v.1 + 1)).filter (gtV X.fCerts.n)) j.2.2.2.1) ?_ ?_
  ·
   refine G3 ?_
   refine .idxSlP 132 J J J hsp J Y24.h Sz81 v.1 J oM (.loadEN r.cells J J J Y81.h J Sz81 sP hlen hsee (.alloc (cs := Vote.zero.cells) J Vote.zr J ?_))
   intro n12 hn12 hf12
   refine G6 ?_
   refine .load1 J J J Y48.h J mM (by first | exact Vote.get_fHeight (by first | exact oK  | exact hX | exact okr | exact ⟨trivial⟩ | exact Kept.zero_ok | exact okB35 | exact okC92 | exact ⟨okC51⟩ | exact okr.o_fCut) | exact vL) ?_
   refine G4 ?_
   first
    | refine Sat.condP rfl (fun hc4 => ?_) (fun hc4 => ?_)
    | refine Sat.condNP rfl (fun hc4 => ?_) (fun hc4 => ?_)
    | refine Sat.cond rfl (fun hc4 => ?_) (fun hc4 => ?_)
   ·
    refine G2 ?_
    refine .load1 J J J Y24.h J mM (by first | exact Kept.get_fVotes (by first | exact oK  | exact hX | exact okr | exact ⟨trivial⟩ | exact Kept.zero_ok | exact okB35 | exact okC92 | exact ⟨okC51⟩ | exact okr.o_fCut) | exact vL) ?_
    refine G1 ?_
    refine .mkRow2 (z := agg Vote.zero.cells) [agg r.cells] r.cells J J Y24.h Sz81 Vote.zr J J (by intro v hv; rw [List.mem_singleton.1 hv]; exact Vote.length okr) dE (by simp [Value.cells]) ?_
    intro q74
    refine .appendAcc (z := agg Vote.zero.cells) (by' := 160) (r.cells) J J J J J Y24.h Y24.h Sz81 Vote.zr (by unfold By; kernel_rfl) J hov.acc sG (fun w h => SeesP.of (Aj h mM)) (fun e => by cases e) (Vote.isCell okr) oM oM (by rw [Vote.length okr]) ?_
    intro s75 bl75 hac75
    refine G5 ?_
    first
     | exact ⟨(v.1, s75, bl75, v.2.2.2.1 + 1, v.2.2.2.2 ++ [r]), ⟨by simp only []; omega, by simp only [filt_yes hd (show gtV X.fCerts.n r = true from decide_eq_true oM)]; exact hov.snoc (bl3 := []) hac75 (Vote.length okr) (fun W2 _ => ⟨his.ok, rfl, his.wf⟩)⟩, Af (wk1 rfl (wk1 rfl (wk1 rfl (wk1 rfl (wk1 rfl (wk1 rfl (wk1 rfl wk0))))))) (Ac rM (Ac rM (Ac rM (Ab sG (Ab sG (Ab sG (Ab sG (Ab sG Ae))))))))⟩
     | exact ⟨(v.1, v.2.1, v.2.2.1, v.2.2.2.1, v.2.2.2.2), ⟨by simp only []; omega, by simp only [filt_no hd (show gtV X.fCerts.n r = false from decide_eq_false oM)]; exact hov⟩, Af (wk1 rfl (wk1 rfl (wk1 rfl (wk1 rfl (wk1 rfl (wk1 rfl (wk1 rfl wk0))))))) (Ac rM (Ac rM (Ac rM (Ab sG (Ab sG (Ab sG (Ab sG (Ab sG Ae))))))))⟩
   refine G3 ?_
   first
    | exact ⟨(v.1, s75, bl75, v.2.2.2.1 + 1, v.2.2.2.2 ++ [r]), ⟨by simp only []; omega, by simp only [filt_yes hd (show gtV X.fCerts.n r = true from decide_eq_true oM)]; exact hov.snoc (bl3 := []) hac75 (Vote.length okr) (fun W2 _ => ⟨his.ok, rfl, his.wf⟩)⟩, Af (wk1 rfl (wk1 rfl (wk1 rfl (wk1 rfl (wk1 rfl (wk1 rfl (wk1 rfl wk0))))))) (Ac rM (Ac rM (Ac rM (Ab sG (Ab sG (Ab sG (Ab sG (Ab sG Ae))))))))⟩
    | exact ⟨(v.1, v.2.1, v.2.2.1, v.2.2.2.1, v.2.2.2.2), ⟨by simp only []; omega, by simp only [filt_no hd (show gtV X.fCerts.n r = false from decide_eq_false oM)]; exact hov⟩, Af (wk1 rfl (wk1 rfl (wk1 rfl (wk1 rfl (wk1 rfl (wk1 rfl (wk1 rfl wk0))))))) (Ac rM (Ac rM (Ac rM (Ab sG (Ab sG (Ab sG (Ab sG (Ab sG Ae))))))))⟩
  intro j hj
  skip
  refine G5 ?_
  exact ⟨(v.1 + 1, j.2.1, j.2.2.1, j.2.2.2.1, j.2.2.2.2), ⟨by simp only []; omega, by have := hj.1; simp only []; omega, hj.2⟩, by simp only []; omega, Af (wk1 rfl (wk1 rfl (wk1 rfl (wk1 rfl (wk1 rfl (wk1 rfl (wk1 (by rw [Int.natCast_add]; rfl) wk0))))))) (Ac rM (Ac rM (Ac rM (Ab sG (Ab sG (Ab sG (Ab sG (Ab sG Ae))))))))⟩
 have hve : v.1 = X.fVotes.n := by omega
 refine G9 ?_
 refine .load1 J J J Y25.h J mM (by first | exact Kept.get_fCuts (by first | exact oK  | exact hX | exact okr | exact ⟨trivial⟩ | exact Kept.zero_ok | exact okB35 | exact okC92 | exact ⟨okC51⟩ | exact okr.o_fCut) | exact vL) ?_
 refine G5 ?_
 refine .loop (ι := Nat × Sl × List Blk × List Blk × Nat × List Cut) (fun u => ⟨[(1, ptr n1 0), (2, ptr n2 0), (5, u64 w0), (6, ptr n6 0), (79, X.fCuts.v), (80, i64 (X.fCuts.n : Int)), (81, i64 (u.1 : Int))], (⟨n6, ({ Kept.zero with fBlocks := a.2.1, fCerts := e.2.1, fVotes := v.2.1, fCuts := u.2.1 } : Kept).cells, 27, 4⟩ :: (⟨n2, Kept.zero.cells, 27, 4⟩ :: (⟨n1, X.cells, 27, X.cells.length⟩ :: (a.2.2.1 ++ (a.2.2.2.1 ++ (e.2.2.1 ++ (e.2.2.2.1 ++ (v.2.2.1 ++ (u.2.2.1 ++ (u.2.2.2.1 ++ []))))))))))⟩) (fun u => u.1 ≤ X.fCuts.n ∧ u.2.2.2.2.1 ≤ u.1 ∧ OwnSeq Cut.cells 34 CutIs 53 u.2.1 u.2.2.1 u.2.2.2.1 u.2.2.2.2.2 ((D.dCuts.take u.1).filter (gtC X.fCerts.n)) u.2.2.2.2.1) (fun u => X.fCuts.n - u.1) ((0, Sl.nil, [], [], 0, [])) ?_ ?_ ?_
 · exact ⟨Nat.zero_le _, Nat.le_refl _, OwnSeq.none⟩
 · exact Af (wk1 rfl (wk1 rfl (wk1 rfl (wk1 rfl (wk1 rfl (wk1 rfl (wk1 rfl wk0))))))) (Ac rM (Ac rM (Ac rM (Ab sG (Ab sG (Ab sG (Ab sG (Ab sG (Bh (Bh Ae))))))))))
 rintro u ⟨hu1, hu2, hou⟩
 refine G6 ?_
 first
  | refine Sat.condP rfl (fun hc5 => ?_) (fun hc5 => ?_)
  | refine Sat.condNP rfl (fun hc5 => ?_) (fun hc5 => ?_)
  | refine Sat.cond rfl (fun hc5 => ?_) (fun hc5 => ?_)
 ·
  have hk2 : u.1 < X.fCuts.n := by omega
  obtain ⟨b, o, r, d, hsp, hr, hd, his, hlen, hsee⟩ := hC.at dE hk2
  have okr := his.ok
  refine G2 ?_
  refine .join (ι := Nat × Sl × List Blk × List Blk × Nat × List Cut) (fun j => ⟨[(1, ptr n1 0), (2, ptr n2 0), (5, u64 w0), (6, ptr n6 0), (79, X.fCuts.v), (80, i64 (X.fCuts.n : Int)), (81, i64 (u.1 : Int))], (⟨n6, ({ Kept.zero with fBlocks := a.2.1, fCerts := e.2.1, fVotes := v.2.1, fCuts := j.2.1 } : Kept).cells, 27, 4⟩ :: (⟨n2, Kept.zero.cells, 27, 4⟩ :: (⟨n1, X.cells, 27, X.cells.length⟩ :: (a.2.2.1 ++ (a.2.2.2.1 ++ (e.2.2.1 ++ (e.2.2.2.1 ++ (v.2.2.1 ++ (j.2.2.1 ++ (j.2.2.2.1 ++ []))))))))))⟩) (fun j => j.2.2.2.2.1 ≤ u.1 + 1 ∧ OwnSeq Cut.cells 34 CutIs 53 j.2.1 j.2.2.1 j.2.2.2.1 j.2.2.2.2.2 ((D.dCuts.take (u.1 + 1)).filter (gtC X.fCerts.n)) j.2.2.2.2.1) ?_ ?_
  ·
   refine G3 ?_
   refine .idxSlP 34 J J J hsp J Y25.h Sz53 u.1 J oM (.loadEN r.cells J J J Y53.h J Sz53 sP hlen hsee (.alloc (cs := Cut.zero.cells) J Cut.zr J ?_))
   intro n14 hn14 hf14
   refine G6 ?_
   refine .load1 J J J Y48.h J mM (by first | exact Cut.get_fHeight (by first | exact oK  | exact hX | exact okr | exact ⟨trivial⟩ | exact Kept.zero_ok | exact okB35 | exact okC92 | exact ⟨okC51⟩ | exact okr.o_fCut) | exact vL) ?_
   refine G4 ?_
   first
    | refine Sat.condP rfl (fun hc6 => ?_) (fun hc6 => ?_)
    | refine Sat.condNP rfl (fun hc6 => ?_) (fun hc6 => ?_)
    | refine Sat.cond rfl (fun hc6 => ?_) (fun hc6 => ?_)
   ·
    refine .draw [(0, 0), (1, 1), (1, 2), (3, 3), (2, 4), (4, 5), (0, 6), (4, 7)] Ba zK (G1 ?_)
    refine .load1 J J J Y25.h J mM (by first | exact Kept.get_fCuts (by first | exact oK  | exact hX | exact okr | exact ⟨trivial⟩ | exact Kept.zero_ok | exact okB35 | exact okC92 | exact ⟨okC51⟩ | exact okr.o_fCut) | exact vL) ?_
    refine G1 ?_
    refine .call J J J J Body166 (keep_copycut r d (by rw [← his.fHeads.len]; exact hm.cuts d (List.mem_of_getElem? hd))) (CutOwn.loose _) (fun w h => his.ext h J) ?_
    rintro v92 out92 ⟨C92, okC92, rfl, hC92⟩
    refine .mkRow2 (z := agg Cut.zero.cells) [agg C92.cells] C92.cells J J Y25.h Sz53 Cut.zr J J (by intro v hv; rw [List.mem_singleton.1 hv]; exact Cut.length okC92) dE (by simp [Value.cells]) ?_
    intro q93
    refine .appendAcc (z := agg Cut.zero.cells) (by' := 64) (C92.cells) J J J J J Y25.h Y25.h Sz53 Cut.zr (by unfold By; kernel_rfl) J hou.acc sG (fun w h => SeesP.of (Aj h mM)) (fun e => by cases e) (Cut.isCell okC92) oM oM (by rw [Cut.length okC92]) ?_
    intro s94 bl94 hac94
    refine G5 ?_
    first
     | exact ⟨(u.1, s94, bl94, out92 ++ u.2.2.2.1, u.2.2.2.2.1 + 1, u.2.2.2.2.2 ++ [C92]), ⟨by simp only []; omega, by simp only [filt_yes hd (show gtC X.fCerts.n d = true from decide_eq_true (by rw [← his.fHeight]; omega))]; exact hou.snoc hac94 (Cut.length okC92) hC92⟩, Af (wk1 rfl (wk1 rfl (wk1 rfl (wk1 rfl (wk1 rfl (wk1 rfl (wk1 rfl wk0))))))) (Ac rM (Ac rM (Ac rM (Ab sG (Ab sG (Ab sG (Ab sG (Ab sG (Ab sG (Br (Ab sG (Ab sG Ae))))))))))))⟩
     | exact ⟨(u.1, u.2.1, u.2.2.1, u.2.2.2.1, u.2.2.2.2.1, u.2.2.2.2.2), ⟨by simp only []; omega, by simp only [filt_no hd (show gtC X.fCerts.n d = false from decide_eq_false (by rw [← his.fHeight]; omega))]; exact hou⟩, Af (wk1 rfl (wk1 rfl (wk1 rfl (wk1 rfl (wk1 rfl (wk1 rfl (wk1 rfl wk0))))))) (Ac rM (Ac rM (Ac rM (Ab sG (Ab sG (Ab sG (Ab sG (Ab sG (Ab sG (Ab sG Ae))))))))))⟩
   refine G3 ?_
   first
    | exact ⟨(u.1, s94, bl94, out92 ++ u.2.2.2.1, u.2.2.2.2.1 + 1, u.2.2.2.2.2 ++ [C92]), ⟨by simp only []; omega, by simp only [filt_yes hd (show gtC X.fCerts.n d = true from decide_eq_true (by rw [← his.fHeight]; omega))]; exact hou.snoc hac94 (Cut.length okC92) hC92⟩, Af (wk1 rfl (wk1 rfl (wk1 rfl (wk1 rfl (wk1 rfl (wk1 rfl (wk1 rfl wk0))))))) (Ac rM (Ac rM (Ac rM (Ab sG (Ab sG (Ab sG (Ab sG (Ab sG (Ab sG (Br (Ab sG (Ab sG Ae))))))))))))⟩
    | exact ⟨(u.1, u.2.1, u.2.2.1, u.2.2.2.1, u.2.2.2.2.1, u.2.2.2.2.2), ⟨by simp only []; omega, by simp only [filt_no hd (show gtC X.fCerts.n d = false from decide_eq_false (by rw [← his.fHeight]; omega))]; exact hou⟩, Af (wk1 rfl (wk1 rfl (wk1 rfl (wk1 rfl (wk1 rfl (wk1 rfl (wk1 rfl wk0))))))) (Ac rM (Ac rM (Ac rM (Ab sG (Ab sG (Ab sG (Ab sG (Ab sG (Ab sG (Ab sG Ae))))))))))⟩
  intro j hj
  skip
  refine G5 ?_
  exact ⟨(u.1 + 1, j.2.1, j.2.2.1, j.2.2.2.1, j.2.2.2.2.1, j.2.2.2.2.2), ⟨by simp only []; omega, by have := hj.1; simp only []; omega, hj.2⟩, by simp only []; omega, Af (wk1 rfl (wk1 rfl (wk1 rfl (wk1 rfl (wk1 rfl (wk1 rfl (wk1 (by rw [Int.natCast_add]; rfl) wk0))))))) (Ac rM (Ac rM (Ac rM (Ab sG (Ab sG (Ab sG (Ab sG (Ab sG (Ab sG (Ab sG Ae))))))))))⟩
 have hue : u.1 = X.fCuts.n := by omega
 refine G14 ?_
 refine Ah (out := (a.2.2.1 ++ (a.2.2.2.1 ++ (e.2.2.1 ++ (e.2.2.2.1 ++ (v.2.2.1 ++ (u.2.2.1 ++ (u.2.2.2.1 ++ [])))))))) (Am J J J Y27.h J Sz27 mM (by first | (simp; done) | exact Kept.length (by first | exact oK  | exact hX | exact okr | exact ⟨trivial⟩ | exact Kept.zero_ok | exact okB35 | exact okC92 | exact ⟨okC51⟩ | exact okr.o_fCut))) (Ab sG (Ab sG (Ab sG (Ab sG (Ab sG (Ab sG (Ab sG Ae))))))) ?_
 refine ⟨({ Kept.zero with fBlocks := a.2.1, fCerts := e.2.1, fVotes := v.2.1, fCuts := u.2.1 } : Kept), ⟨trivial⟩, by rw [neededRd, if_pos hcz], fun W2 hl => ?_⟩
 rw [hae, List.take_of_length_le oM] at hoa
 rw [hee, List.take_of_length_le oM] at hoe
 rw [List.take_of_length_le oM] at hov hou
 rw [neededRd, if_pos hcz, nE]
 exact ⟨⟨trivial⟩, ⟨_, hoa.seq (hl.sub iN) (hl.sub iN) oM⟩, ⟨_, hoe.seq (hl.sub iN) (hl.sub iN) oM⟩, ⟨_, hov.seq (hl.sub iN) (fun b hb => (by cases hb)) oM⟩, ⟨_, hou.seq (hl.sub iN) (hl.sub iN) oM⟩⟩

def eqV (h : UInt64) (V : Vote) : Bool := decide ((V.fHeight.toNat : Int) = (h.toNat : Int))
def SaidR (ds : List Vote) (v : Value) (out : List Blk) : Prop := ∃ (s : Sl) (rs : List Vote), v = s.v ∧ OwnSeq Vote.cells 132 VoteIs 81 s out [] rs ds ds.length
theorem SaidR.loose {ds : List Vote} (h : ∀ d ∈ ds, d.ok ∧ (Lit.int .i64 d.fPhase).wf = true) : Loose (SaidR ds) := fun l hl => by
  obtain ⟨q, _, hq⟩ := Ch 0 l
  refine ⟨_, [⟨q, (ds.map Vote.cells).flatten, 81, ds.length * 132⟩], ⟨⟨some ⟨q, 0, none⟩, ds.length, ds.length⟩, ds, rfl, Acc.some (Nat.le_refl _) (flat_len0 ds fun r hr => Vote.length (h r hr).1), rfl, rfl, fun r hr => Vote.length (h r hr).1, fun W2 _ i r d h1 h2 => ?_⟩, ?_⟩
  · rw [h1] at h2; cases h2
    have := h r (List.mem_of_getElem? h1)
    exact ⟨this.1, rfl, this.2⟩
  · rw [List.map_append, List.nodup_append]
    refine ⟨by simp, hl, fun i hi j hj => ?_⟩
    obtain ⟨b, hb, rfl⟩ := List.mem_map.1 hj
    simp at hi
    subst hi
    exact fun e => hq b hb e.symm
def recSz (d : DRecord) : Nat := if d.check = 0 then 9 + szN d.dData.length + d.dData.length else 0
def recsSz (ds : List DRecord) : Nat := (ds.map recSz).sum
theorem recSz_le {d : DRecord} (h : d.dData.length ≤ 100000) : recSz d ≤ 100020 := by
  unfold recSz
  have := A2 d.dData.length
  split <;> omega
theorem recsSz_step {ds : List DRecord} {k : Nat} {d : DRecord} (h : ds[k]? = some d) : recsSz (ds.take (k + 1)) = recsSz (ds.take k) + recSz d := by
  rw [recsSz, take_snoc h, List.map_append, List.sum_append]; simp [recsSz]
theorem recsSz_le : ∀ (ds : List DRecord), (∀ d ∈ ds, d.dData.length ≤ 100000) → recsSz ds ≤ ds.length * 100020
  | [], _ => by simp [recsSz]
  | d :: l, h => by
    have h1 := recsSz_le l (fun x hx => h x (List.mem_cons_of_mem _ hx))
    have h2 := recSz_le (h d List.mem_cons_self)
    have e : recsSz (d :: l) = recSz d + recsSz l := by simp [recsSz]
    rw [e, List.length_cons, Nat.add_mul]; omega

theorem keep_said_all (X : Kept) (hX : X.ok) (ds : List Vote) (h : UInt64) (hsn : X.fVotes.n ≤ 1000) : Meets Tryz.prog 64 [agg X.cells, u64 h] [] (fun W => VotesAt W X.fVotes ds) (SaidR (ds.filter (eqV h))) := by
 intro W hW
 obtain ⟨rs, hs⟩ := hW
 have hnd := hs.nd
 refine Ag Tryz.func64 J 25 Tryz.ntmps64 J (G3 ?_)
 intro n2 hn2 hf2
 refine G12 ?_
 refine .load1 J J J Y24.h J mM (by first | exact Kept.get_fVotes (by first | exact oK  | exact hX | exact okr) | exact vL) ?_
 refine G5 ?_
 refine .loop (ι := Nat × Sl × List Blk × Nat × List Vote) (fun v => ⟨[(1, u64 h), (5, v.2.1.v), (9, X.fVotes.v), (10, i64 (X.fVotes.n : Int)), (11, i64 (v.1 : Int))], (v.2.2.1 ++ [])⟩) (fun v => v.1 ≤ X.fVotes.n ∧ v.2.2.2.1 ≤ v.1 ∧ OwnSeq Vote.cells 132 VoteIs 81 v.2.1 v.2.2.1 [] v.2.2.2.2 ((ds.take v.1).filter (eqV h)) v.2.2.2.1) (fun v => X.fVotes.n - v.1) ((0, Sl.nil, [], 0, [])) ?_ ?_ ?_
 · exact ⟨Nat.zero_le _, Nat.le_refl _, OwnSeq.none⟩
 · exact Af (wk1 rfl (wk1 rfl (wk1 rfl (wk1 rfl (wk1 rfl wk0))))) (Bh Ae)
 rintro v ⟨hv1, hv2, hov⟩
 refine G6 ?_
 first
  | refine Sat.condP rfl (fun hc0 => ?_) (fun hc0 => ?_)
  | refine Sat.condNP rfl (fun hc0 => ?_) (fun hc0 => ?_)
  | refine Sat.cond rfl (fun hc0 => ?_) (fun hc0 => ?_)
 ·
  have hk2 : v.1 < X.fVotes.n := by omega
  obtain ⟨b, o, r, d, hsp, hr, hd, his, hlen, hsee⟩ := hs.at dE hk2
  have okr := his.ok
  obtain rfl := his.eq
  refine G2 ?_
  refine .join (ι := Nat × Sl × List Blk × Nat × List Vote) (fun j => ⟨[(1, u64 h), (5, j.2.1.v), (9, X.fVotes.v), (10, i64 (X.fVotes.n : Int)), (11, i64 (v.1 : Int))], (j.2.2.1 ++ [])⟩) (fun j => j.2.2.2.1 ≤ v.1 + 1 ∧ OwnSeq Vote.cells 132 VoteIs 81 j.2.1 j.2.2.1 [] j.2.2.2.2 ((ds.take (v.1 + 1)).filter (eqV h)) j.2.2.2.1) ?_ ?_
  ·
   refine G3 ?_
   refine .idxSlP 132 J J J hsp J Y24.h Sz81 v.1 J oM (.loadEN r.cells J J J Y81.h J Sz81 sP hlen hsee (.alloc (cs := Vote.zero.cells) J Vote.zr J ?_))
   intro n7 hn7 hf7
   refine G6 ?_
   refine .load1 J J J Y48.h J mM (by first | exact Vote.get_fHeight (by first | exact oK  | exact hX | exact okr) | exact vL) ?_
   refine G4 ?_
   first
    | refine Sat.condP rfl (fun hc1 => ?_) (fun hc1 => ?_)
    | refine Sat.condNP rfl (fun hc1 => ?_) (fun hc1 => ?_)
    | refine Sat.cond rfl (fun hc1 => ?_) (fun hc1 => ?_)
   ·
    refine G3 ?_
    refine .mkRow2 (z := agg Vote.zero.cells) [agg r.cells] r.cells J J Y24.h Sz81 Vote.zr J J (by intro v hv; rw [List.mem_singleton.1 hv]; exact Vote.length okr) dE (by simp [Value.cells]) ?_
    intro q21
    refine .appendAcc (z := agg Vote.zero.cells) (by' := 160) (r.cells) J J J J J Y24.h Y24.h Sz81 Vote.zr (by unfold By; kernel_rfl) J hov.acc sG (fun w h => SeesP.of (Aj h mM)) (fun e => by cases e) (Vote.isCell okr) oM oM (by rw [Vote.length okr]) ?_
    intro s22 bl22 hac22
    refine G4 ?_
    first
     | exact ⟨(v.1, s22, bl22, v.2.2.2.1 + 1, v.2.2.2.2 ++ [r]), ⟨by simp only []; omega, by simp only [filt_yes hd (show eqV h r = true from decide_eq_true hc1)]; exact hov.snoc (bl3 := []) hac22 (Vote.length okr) (fun W2 _ => ⟨his.ok, rfl, his.wf⟩)⟩, Af (wk1 rfl (wk1 rfl (wk1 rfl (wk1 rfl (wk1 rfl wk0))))) (Ab sG Ae)⟩
     | exact ⟨(v.1, v.2.1, v.2.2.1, v.2.2.2.1, v.2.2.2.2), ⟨by simp only []; omega, by simp only [filt_no hd (show eqV h r = false from decide_eq_false hc1)]; exact hov⟩, Af (wk1 rfl (wk1 rfl (wk1 rfl (wk1 rfl (wk1 rfl wk0))))) (Ab sG Ae)⟩
   refine G3 ?_
   first
    | exact ⟨(v.1, s22, bl22, v.2.2.2.1 + 1, v.2.2.2.2 ++ [r]), ⟨by simp only []; omega, by simp only [filt_yes hd (show eqV h r = true from decide_eq_true hc1)]; exact hov.snoc (bl3 := []) hac22 (Vote.length okr) (fun W2 _ => ⟨his.ok, rfl, his.wf⟩)⟩, Af (wk1 rfl (wk1 rfl (wk1 rfl (wk1 rfl (wk1 rfl wk0))))) (Ab sG Ae)⟩
    | exact ⟨(v.1, v.2.1, v.2.2.1, v.2.2.2.1, v.2.2.2.2), ⟨by simp only []; omega, by simp only [filt_no hd (show eqV h r = false from decide_eq_false hc1)]; exact hov⟩, Af (wk1 rfl (wk1 rfl (wk1 rfl (wk1 rfl (wk1 rfl wk0))))) (Ab sG Ae)⟩
  intro j hj
  skip
  refine G5 ?_
  exact ⟨(v.1 + 1, j.2.1, j.2.2.1, j.2.2.2.1, j.2.2.2.2), ⟨by simp only []; omega, by have := hj.1; simp only []; omega, hj.2⟩, by simp only []; omega, Af (wk1 rfl (wk1 rfl (wk1 rfl (wk1 rfl (wk1 (by rw [Int.natCast_add]; rfl) wk0))))) (Ab sG Ae)⟩
 have hve : v.1 = X.fVotes.n := by omega
 refine G13 ?_
 refine Ah (out := (v.2.2.1 ++ [])) (Ad J J) (Ab sG Ae) ?_
 rw [List.take_of_length_le oM] at hov
 have hnn := hov.nd
 rw [← hnn] at hov
 exact ⟨v.2.1, v.2.2.2.2, rfl, by simpa using hov⟩
theorem record_size (X : Record) (d : DRecord) (hsm : d.dData.length ≤ 100000) : Meets Tryz.prog 88 [agg X.cells] [] (fun W => RecordIs W X d) (fun v out => v = i64 (recSz d : Int) ∧ out = []) := by
 intro W hW
 have hlen := hW.fData.len
 have hz10 := A2 (UInt64.ofNat X.fData.n).toNat
 have ho10 := Bc (n := X.fData.n) oM
 refine Ag Tryz.func88 J 18 Tryz.ntmps88 J (G3 ?_)
 intro n1 hn1 hf1
 refine G7 ?_
 refine .cV J J J J Body185 (record_check X d) (fun w h => hW.ext h J) (G3 ?_)
 first
  | refine Sat.condP rfl (fun hc0 => ?_) (fun hc0 => ?_)
  | refine Sat.condNP rfl (fun hc0 => ?_) (fun hc0 => ?_)
  | refine Sat.cond rfl (fun hc0 => ?_) (fun hc0 => ?_)
 ·
  have hcz : ¬ d.check = 0 := by omega
  refine G8 ?_
  refine ⟨_, [], Ad J J, sP, sP, ?_, rfl⟩
  first
   | (rw [recSz, if_neg hcz]; rfl)
   | (rw [recSz, if_pos hcz]; simp only [Bc (n := X.fData.n) oM, hlen]; congr 1; omega)
 have hcz : d.check = 0 := by omega
 refine G3 ?_
 refine .draw [(0, 0), (1, 1), (0, 2), (0, 3), (0, 7), (1, 8), (0, 9), (3, 4), (0, 5), (0, 6), (0, 10), (0, 11), (0, 12)] Ba zK (G1 ?_)
 refine .load1 J J J Y58.h J mM (by first | exact Record.get_fData (by first | exact oK  | exact hW.ok) | exact vL) ?_
 refine G3 ?_
 refine .load1 J J J Y58.h J mM (by first | exact Record.get_fData (by first | exact oK  | exact hW.ok) | exact vL) ?_
 refine G1 ?_
 rw [word_nat (n := X.fData.n) oM]
 refine .call J J J J Body106 (oct_Number none 0 0 [] (UInt64.ofNat X.fData.n) J (fun _ => rfl) oM) (FreshRow.loose _ _ _ _) (fun w h => SeesP.nil) ?_
 rintro v10 out10 ⟨q10, c10, rfl, hc10, rfl⟩
 refine G9 ?_
 refine ⟨_, [], Ad J J, sP, sP, ?_, rfl⟩
 first
  | (rw [recSz, if_neg hcz]; rfl)
  | (rw [recSz, if_pos hcz]; simp only [Bc (n := X.fData.n) oM, hlen]; congr 1; omega)
theorem keep_size (s : Sl) (ds : List DRecord) (hsn : s.n ≤ 1000) (hsm : ∀ d ∈ ds, d.dData.length ≤ 100000) : Meets Tryz.prog 18 [s.v] [] (fun W => RecordsAt W s ds) (fun v out => v = i64 (recsSz ds : Int) ∧ out = []) := by
 intro W hW
 obtain ⟨rs, hs⟩ := hW
 have hnd := hs.nd
 have hle := fun k => recsSz_le (ds.take k) (fun d hd => hsm d (List.mem_of_mem_take hd))
 have hlt : ∀ k, (ds.take k).length ≤ 1000 := fun k => by rw [List.length_take]; omega
 refine Ag Tryz.func18 J 18 Tryz.ntmps18 J (G19 ?_)
 refine .loop (ι := Nat) (fun k => ⟨[(3, i64 (recsSz (ds.take k) : Int)), (6, s.v), (7, i64 (s.n : Int)), (8, i64 (k : Int))], []⟩) (fun k => k ≤ s.n) (fun k => s.n - k) (0) ?_ ?_ ?_
 · exact Nat.zero_le _
 · exact Ai (wk1 rfl (wk1 rfl (wk1 rfl (wk1 rfl wk0)))) wh0 nD
 rintro k hi
 refine G6 ?_
 first
  | refine Sat.condP rfl (fun hc0 => ?_) (fun hc0 => ?_)
  | refine Sat.condNP rfl (fun hc0 => ?_) (fun hc0 => ?_)
  | refine Sat.cond rfl (fun hc0 => ?_) (fun hc0 => ?_)
 ·
  have hk2 : k < s.n := by omega
  obtain ⟨b, o, r, d, hsp, hr, hd, his, hlen, hsee⟩ := hs.at dE hk2
  refine G6 ?_
  refine .idxSlP 2 J J J hsp J Y28.h Sz91 k J oM (.loadEN r.cells J J J Y91.h J Sz91 sP hlen hsee (.alloc (cs := Record.zero.cells) J Record.zr J ?_))
  intro n5 hn5 hf5
  refine G6 ?_
  refine .cV J J J J Body88 (record_size r d (hsm d (List.mem_of_getElem? hd))) (fun w h => his.ext h J) ?_
  have hb1 := hle k
  have hb2 := hlt k
  have hb3 := recSz_le (hsm d (List.mem_of_getElem? hd))
  refine G10 ?_
  exact ⟨k + 1, by omega, by omega, Ai (wk1 (by rw [recsSz_step hd, Int.natCast_add]; rfl) (wk1 rfl (wk1 rfl (wk1 (by rw [Int.natCast_add]; rfl) wk0)))) wh0 nD⟩
 have hke : k = s.n := by omega
 refine G13 ?_
 refine ⟨_, [], Ad J J, sP, sP, ?_, rfl⟩
 rw [hke, List.take_of_length_le oM]

theorem need_is {D : DKept} (h : D.check = 0) : neededRd D = (⟨D.dBlocks, D.dCerts, D.dVotes.filter (gtV D.dCerts.length), D.dCuts.filter (gtC D.dCerts.length)⟩, 0) := by rw [neededRd, if_pos h]
def Lens (X : Kept) (D : DKept) : Prop := D.dBlocks.length = X.fBlocks.n ∧ D.dCerts.length = X.fCerts.n ∧ D.dVotes.length = X.fVotes.n ∧ D.dCuts.length = X.fCuts.n
theorem meets_know {P : Program} {f : FuncId} {args : List Value} {Pre : World → Prop} {R R' : Value → List Blk → Prop} (h : Meets P f args [] Pre R) (hr : ∀ v out w, R v out → Lies out w → R' v out) : Meets P f args [] Pre R' :=
  fun W hW => (h W hW).mono fun e W' ⟨v, out, h1, h2, h3⟩ => ⟨v, out, h1, hr v out W' h2 h3.cells, h3⟩
theorem own_know {D : DKept} (v : Value) (out : List Blk) (w : World) (h : OwnedKept D v out) (hl : Lies out w) : ∃ X : Kept, X.ok ∧ v = agg X.cells ∧ Lens X D ∧ ∀ W2, Lies out W2 → KeptIs W2 X D := by
  obtain ⟨X, ok, e, hx⟩ := h
  exact ⟨X, ok, e, kept_lens (hx w hl), hx⟩
theorem light_mid {D : DKept} (h : D.light 12 = true) : MidK D := by
  simp only [DKept.light, lightOf, lightBf, lightCf, lightEf, Bool.and_eq_true, decide_eq_true_eq, Bool.not_eq_true', decide_eq_false_iff_not, List.all_eq_true] at h
  obtain ⟨⟨h3, h4⟩, ⟨h8, h9⟩, h5, ⟨h6, h7⟩⟩ := h
  exact ⟨fun d hd => by have := h4 d hd; omega, fun d hd => by have := h9 d hd; omega, fun d hd => by have := h7 d hd; omega⟩


def lightR (ds : List DRecord) (n m : Int) : Bool := decide (¬ n < (ds.length : Int)) && ds.all fun d => decide (¬ m < (d.dData.length : Int))
theorem lightR_no {ds : List DRecord} {n m : Int} {k : Nat} {d : DRecord} (h : ds[k]? = some d) (hm : m < (d.dData.length : Int)) : lightR ds n m = false := by
  rw [lightR, Bool.and_eq_false_iff]
  refine .inr (Bool.eq_false_iff.2 fun h2 => ?_)
  have := of_decide_eq_true (List.all_eq_true.1 h2 d (List.mem_of_getElem? h))
  exact this hm
theorem lightR_step {ds : List DRecord} {m : Int} {k : Nat} {d : DRecord} (h : ds[k]? = some d) (ha : (ds.take k).all (fun d => decide (¬ m < (d.dData.length : Int))) = true) (hm : ¬ m < (d.dData.length : Int)) : (ds.take (k + 1)).all (fun d => decide (¬ m < (d.dData.length : Int))) = true := by
  rw [take_snoc h, List.all_append, ha]
  simp only [List.all_cons, List.all_nil, Bool.and_true, Bool.true_and]
  exact decide_eq_true hm

theorem light_records (s : Sl) (ds : List DRecord) (n m : Int) : Meets Tryz.prog 10 [s.v, i64 n, i64 m] [] (fun W => RecordsAt W s ds) (fun v out => v = .bool (lightR ds n m) ∧ out = []) := by
 intro W hW
 obtain ⟨rs, hs⟩ := hW
 have hnd := hs.nd
 have hmax := hs.max
 simp only [maxLen] at hmax
 refine Ag Tryz.func10 J 26 Tryz.ntmps10 J (G14 ?_)
 first
  | refine Sat.condP rfl (fun hc0 => ?_) (fun hc0 => ?_)
  | refine Sat.condNP rfl (fun hc0 => ?_) (fun hc0 => ?_)
  | refine Sat.cond rfl (fun hc0 => ?_) (fun hc0 => ?_)
 ·
  refine G8 ?_
  refine ⟨_, [], Ad J J, sP, sP, ?_, rfl⟩
  first
   | (rw [lightR, decide_eq_false oM]; rfl)
   | (rw [lightR_no hd oM])
   | (rw [List.take_of_length_le oM] at hka; rw [lightR, hka, decide_eq_true oM]; rfl)
 refine G9 ?_
 refine .loop (ι := Nat) (fun k => ⟨[(0, s.v), (2, i64 m), (7, i64 (k : Int))], []⟩) (fun k => k ≤ s.n ∧ (ds.take k).all (fun d => decide (¬ m < (d.dData.length : Int))) = true) (fun k => s.n - k) (0) ?_ ?_ ?_
 · exact ⟨Nat.zero_le _, rfl⟩
 · exact Ai (wk1 rfl (wk1 rfl (wk1 rfl wk0))) wh0 nD
 rintro k ⟨hk1, hka⟩
 refine G9 ?_
 first
  | refine Sat.condP rfl (fun hc1 => ?_) (fun hc1 => ?_)
  | refine Sat.condNP rfl (fun hc1 => ?_) (fun hc1 => ?_)
  | refine Sat.cond rfl (fun hc1 => ?_) (fun hc1 => ?_)
 ·
  have hk2 : k < s.n := by omega
  obtain ⟨b, o, r, d, hsp, hr, hd, his, hlen, hsee⟩ := hs.at dE hk2
  have okr := his.ok
  have hlr := his.fData.len
  refine G8 ?_
  refine .idxSlP 2 J J J hsp J Y28.h Sz91 k J oM (G1 ?_)
  refine .loadE J J J Y58.h J (by first | (simp; done) | (simp; exact hW.2.2) | (simp [Cx.with]; done) | (simp [Cx.with]; omega)) (hsee 1 _ (Record.get_fData okr)) ?_
  refine G5 ?_
  first
   | refine Sat.condP rfl (fun hc2 => ?_) (fun hc2 => ?_)
   | refine Sat.condNP rfl (fun hc2 => ?_) (fun hc2 => ?_)
   | refine Sat.cond rfl (fun hc2 => ?_) (fun hc2 => ?_)
  ·
   refine G12 ?_
   refine ⟨_, [], Ad J J, sP, sP, ?_, rfl⟩
   first
    | (rw [lightR, decide_eq_false oM]; rfl)
    | (rw [lightR_no hd oM])
    | (rw [List.take_of_length_le oM] at hka; rw [lightR, hka, decide_eq_true oM]; rfl)
  refine G9 ?_
  exact ⟨k + 1, ⟨by omega, lightR_step hd hka (by rw [hlr]; exact hc2)⟩, by omega, Ai (wk1 rfl (wk1 rfl (wk1 (by rw [Int.natCast_add]; rfl) wk0))) wh0 nD⟩
 have hke : k = s.n := by omega
 refine G12 ?_
 refine ⟨_, [], Ad J J, sP, sP, ?_, rfl⟩
 first
  | (rw [lightR, decide_eq_false oM]; rfl)
  | (rw [lightR_no hd oM])
  | (rw [List.take_of_length_le oM] at hka; rw [lightR, hka, decide_eq_true oM]; rfl)
theorem kit_own_records (s : Sl) (ds : List DRecord) (hn : s.n ≤ 1000) (hsm : ∀ d ∈ ds, d.dData.length ≤ 500000) : Meets Tryz.prog 15 [s.v] [] (fun W => RecordsAt W s ds) (fun v out => ∃ sl bl bl2 rs, v = sl.v ∧ out = bl ++ bl2 ∧ OwnSeq Record.cells 2 RecordIs 91 sl bl bl2 rs ds s.n) := by
 intro W hW
 obtain ⟨rs, hs⟩ := hW
 have hnd := hs.nd
 refine Ag Tryz.func15 J 27 Tryz.ntmps15 J (G17 ?_)
 refine .loop (ι := Nat × Sl × List Blk × List Blk × List Record) (fun p => ⟨[(0, s.v), (3, p.2.1.v), (4, i64 (p.1 : Int))], (p.2.2.1 ++ (p.2.2.2.1 ++ []))⟩) (fun p => p.1 ≤ s.n ∧ OwnSeq Record.cells 2 RecordIs 91 p.2.1 p.2.2.1 p.2.2.2.1 p.2.2.2.2 (ds.take p.1) p.1) (fun p => s.n - p.1) ((0, Sl.nil, [], [], [])) ?_ ?_ ?_
 · exact ⟨Nat.zero_le _, OwnSeq.none⟩
 · exact Af (wk1 rfl (wk1 rfl (wk1 rfl wk0))) (Bh (Bh Ae))
 rintro p ⟨hk, hos⟩
 refine G9 ?_
 first
  | refine Sat.condP rfl (fun hc0 => ?_) (fun hc0 => ?_)
  | refine Sat.condNP rfl (fun hc0 => ?_) (fun hc0 => ?_)
  | refine Sat.cond rfl (fun hc0 => ?_) (fun hc0 => ?_)
 ·
  have hk2 : p.1 < s.n := by omega
  obtain ⟨b, o, r, d, hsp, hr, hd, his, hlen, hsee⟩ := hs.at dE hk2
  have okr := his.ok
  have hlr := his.fData.len
  have hs5 := hsm d (List.mem_of_getElem? hd)
  refine G4 ?_
  refine .draw [(0, 0), (0, 1), (0, 2), (0, 3), (0, 4), (1, 5), (0, 6), (0, 7), (0, 8), (0, 9), (1, 10), (3, 11), (0, 12), (2, 13), (4, 14), (0, 15)] Ba zK (G3 ?_)
  refine .idxSlP 2 J J J hsp J Y28.h Sz91 p.1 J oM (G1 ?_)
  refine .loadE J J J Y5.h J (by first | (simp; done) | (simp; exact hW.2.2) | (simp [Cx.with]; done) | (simp [Cx.with]; omega)) (hsee 0 _ (Record.get_fKind okr)) ?_
  refine G2 ?_
  refine .idxSlP 2 J J J hsp J Y28.h Sz91 p.1 J oM (G1 ?_)
  refine .loadE J J J Y58.h J (by first | (simp; done) | (simp; exact hW.2.2) | (simp [Cx.with]; done) | (simp [Cx.with]; omega)) (hsee 1 _ (Record.get_fData okr)) ?_
  refine .call J J J J Body27 (kit_own r.fData d.dData oM) (FreshRow.loose _ _ _ _) (fun w h => bytes_ext h J his.fData) ?_
  rintro v22 out22 ⟨q22, c22, rfl, hc22, rfl⟩
  refine .build (cs := (⟨r.fKind, ⟨some ⟨q22, 0, none⟩, r.fData.n, c22⟩⟩ : Record).cells) J J J (fun w => by kernel_rfl) ?_
  refine .mkRow2 (z := agg Record.zero.cells) [agg (⟨r.fKind, ⟨some ⟨q22, 0, none⟩, r.fData.n, c22⟩⟩ : Record).cells] (⟨r.fKind, ⟨some ⟨q22, 0, none⟩, r.fData.n, c22⟩⟩ : Record).cells J J Y28.h Sz91 Record.zr J J (by intro v hv; rw [List.mem_singleton.1 hv]; exact Record.length ⟨trivial⟩) dE (by simp [Value.cells]) ?_
  intro q24
  refine .appendAcc (z := agg Record.zero.cells) (by' := 32) ((⟨r.fKind, ⟨some ⟨q22, 0, none⟩, r.fData.n, c22⟩⟩ : Record).cells) J J J J J Y28.h Y28.h Sz91 Record.zr (by unfold By; kernel_rfl) J hos.acc sG (fun w h => SeesP.of (Aj h mM)) (fun e => by cases e) (Record.isCell ⟨trivial⟩) oM oM (by rw [Record.length ⟨trivial⟩]) ?_
  intro s25 bl25 hac25
  refine G10 ?_
  exact ⟨(p.1 + 1, s25, bl25, [⟨q22, Aa d.dData, 5, c22 * 1⟩] ++ p.2.2.2.1, p.2.2.2.2 ++ [(⟨r.fKind, ⟨some ⟨q22, 0, none⟩, r.fData.n, c22⟩⟩ : Record)]), ⟨by simp only []; omega, by simp only [take_snoc hd]; exact hos.snoc hac25 (Record.length ⟨trivial⟩) (fun W2 hl => ⟨⟨trivial⟩, his.fKind, Ci (Acc.some (E := 5) hc22 (by rw [Aa, List.length_map, his.fData.len, Nat.mul_one])) hl his.fData.len oM⟩)⟩, by simp only []; omega, Af (wk1 rfl (wk1 rfl (wk1 (by rw [Int.natCast_add]; rfl) wk0))) (Ab sG (pm_in1 (Ac rM (Ab sG Ae))))⟩
 have hpe : p.1 = s.n := by omega
 refine G13 ?_
 refine Ah (out := (p.2.2.1 ++ (p.2.2.2.1 ++ []))) (Ad J J) (Ab sG (Ab sG Ae)) ?_
 refine ⟨p.2.1, p.2.2.1, p.2.2.2.1, p.2.2.2.2, rfl, by simp, ?_⟩
 rw [hpe, List.take_of_length_le oM] at hos
 exact hos

theorem voteRd_only {xs : List UInt8} (h : (A1 xs).2 = 0) : Ap (A1 xs).1 = 0 ∧ A0 (A1 xs).1 = xs ∧ (A1 xs).1.ok := by
  by_cases hg : endR xs.length (voteP xs).2.1 (voteP xs).2.2 = 0 ∧ Ap (voteP xs).1 = 0
  case neg => rw [voteRd_bad hg] at h; cases h
  rw [voteRd_ok hg]
  refine ⟨hg.2, ?_⟩
  obtain ⟨he, hc⟩ := hg
  have e0 : (voteP xs).2.2 = 0 ∧ ¬ (0 : Int) < (xs.length : Int) - ((voteP xs).2.1 : Int) := by
    unfold endR at he
    split at he
    · rename_i h1
      exact ⟨h1, fun h2 => by rw [if_pos h2] at he; cases he⟩
    · rename_i h1; exact absurd he h1
  obtain ⟨e1, e2⟩ := e0
  rw [show A0 (voteP xs).1 = voteT (voteP xs).1 ++ (voteP xs).1.fSig from if_pos hc]
  simp only [voteP] at e1 e2 hc ⊢
  obtain ⟨x1, p1, h1⟩ : ∃ l r, A5 xs 0 0 = (l, r) := ⟨_, _, rfl⟩
  obtain ⟨a1, d1⟩ := p1
  rw [h1] at e1 e2 hc ⊢
  simp only at e1 e2 hc ⊢
  obtain ⟨x2, p2, h2⟩ : ∃ l r, A5 xs a1 d1 = (l, r) := ⟨_, _, rfl⟩
  obtain ⟨a2, d2⟩ := p2
  rw [h2] at e1 e2 hc ⊢
  simp only at e1 e2 hc ⊢
  obtain ⟨x3, p3, h3⟩ : ∃ l r, A5 xs a2 d2 = (l, r) := ⟨_, _, rfl⟩
  obtain ⟨a3, d3⟩ := p3
  rw [h3] at e1 e2 hc ⊢
  simp only at e1 e2 hc ⊢
  obtain ⟨l4, p4, h4⟩ : ∃ l r, Cf xs a3 d3 = (l, r) := ⟨_, _, rfl⟩
  obtain ⟨a4, d4⟩ := p4
  rw [h4] at e1 e2 hc ⊢
  simp only at e1 e2 hc ⊢
  obtain ⟨x5, p5, h5⟩ : ∃ l r, A5 xs a4 d4 = (l, r) := ⟨_, _, rfl⟩
  obtain ⟨a5, d5⟩ := p5
  rw [h5] at e1 e2 hc ⊢
  simp only at e1 e2 hc ⊢
  obtain ⟨l6, p6, h6⟩ : ∃ l r, Cf xs a5 d5 = (l, r) := ⟨_, _, rfl⟩
  obtain ⟨a6, d6⟩ := p6
  rw [h6] at e1 e2 hc ⊢
  simp only at e1 e2 hc ⊢
  obtain ⟨l7, p7, h7⟩ : ∃ l r, takR xs 64 a6 d6 = (l, r) := ⟨_, _, rfl⟩
  obtain ⟨a7, d7⟩ := p7
  rw [h7] at e1 e2 hc ⊢
  simp only at e1 e2 hc ⊢
  subst e1
  obtain ⟨z6, ea7, ha7, hl7, hx7⟩ := tak_bwd h7
  subst z6
  obtain ⟨z5, ea6, ha6, hx6⟩ := dig_bwd h6
  subst z5
  obtain ⟨z4, ea5, ha5, hx5⟩ := num_bwd h5
  subst z4
  obtain ⟨z3, ea4, ha4, hx4⟩ := dig_bwd h4
  subst z3
  obtain ⟨z2, ea3, ha3, hx3⟩ := num_bwd h3
  subst z2
  obtain ⟨z1, ea2, ha2, hx2⟩ := num_bwd h2
  subst z1
  obtain ⟨_, ea1, ha1, hx1⟩ := num_bwd h1
  have d4 := (digR_at xs a3 0 oM).2
  have d6 := (digR_at xs a5 0 oM).2
  rw [h4] at d4
  rw [h6] at d6
  have e7 : l7 ++ (List.replicate 64 (0 : UInt8)).drop l7.length = l7 := by rw [hl7]; simp
  have hend : xs.drop a7 = [] := List.drop_of_length_le oM
  rw [e7] at hc ⊢
  have hph := vcheck_phase hc
  simp only at hph
  have hx : (Hw.Cg ((min x3.toNat 4 : Nat) : Int)).toUInt64 = x3 := by
    apply UInt64.toNat_inj.1
    rw [byteOf_small oM oM]
    omega
  refine ⟨?_, ⟨d4, d6, hl7⟩⟩
  simp only [voteT]
  rw [hx]
  rw [List.drop_zero] at hx1
  rw [hx1, hx2, hx3, hx4, hx5, hx6, hx7, hend]
  simp [List.append_assoc]

theorem cutRd_only {xs : List UInt8} (h : (Bk xs).2 = 0) : (Bk xs).1.check = 0 ∧ (Bk xs).1.bytes = xs ∧ (Bk xs).1.dPrev.length = 32 ∧ ∀ l ∈ (Bk xs).1.dHeads, l.length = 32 := by
  by_cases hg : endR xs.length (cutP xs).2.1 (cutP xs).2.2 = 0 ∧ (cutP xs).1.check = 0
  case neg => rw [show Bk xs = (DCut.zero, 4) from if_neg hg] at h; cases h
  rw [show Bk xs = ((cutP xs).1, 0) from if_pos hg]
  refine ⟨hg.2, ?_⟩
  obtain ⟨he, hc⟩ := hg
  have hs := (cutP xs).1.small hc
  have e0 : (cutP xs).2.2 = 0 ∧ ¬ (0 : Int) < (xs.length : Int) - ((cutP xs).2.1 : Int) := by
    unfold endR at he
    split at he
    · rename_i h1
      exact ⟨h1, fun h2 => by rw [if_pos h2] at he; cases he⟩
    · rename_i h1; exact absurd he h1
  obtain ⟨e1, e2⟩ := e0
  clear he hc
  simp only [cutP] at e1 e2 hs ⊢
  obtain ⟨x1, p1, h1⟩ : ∃ l r, A5 xs 0 0 = (l, r) := ⟨_, _, rfl⟩
  obtain ⟨a1, d1⟩ := p1
  rw [h1] at e1 e2 hs ⊢
  simp only at e1 e2 hs ⊢
  obtain ⟨l2, p2, h2⟩ : ∃ l r, Cf xs a1 d1 = (l, r) := ⟨_, _, rfl⟩
  obtain ⟨a2, d2⟩ := p2
  rw [h2] at e1 e2 hs ⊢
  simp only at e1 e2 hs ⊢
  obtain ⟨x3, p3, h3⟩ : ∃ l r, A5 xs a2 d2 = (l, r) := ⟨_, _, rfl⟩
  obtain ⟨a3, d3⟩ := p3
  rw [h3] at e1 e2 hs ⊢
  simp only at e1 e2 hs ⊢
  obtain ⟨ls, p4, h4⟩ : ∃ l r, Av xs (min x3.toNat 33) a3 d3 = (l, r) := ⟨_, _, rfl⟩
  obtain ⟨a4, d4⟩ := p4
  rw [h4] at e1 e2 hs ⊢
  simp only at e1 e2 hs ⊢
  subst e1
  obtain ⟨z3, i4, g4⟩ := digs_bwd _ _ _ h4
  subst z3
  obtain ⟨z2, ea3, i3, g3⟩ := num_bwd h3
  subst z2
  obtain ⟨z1, ea2, i2, g2⟩ := dig_bwd h2
  subst z1
  obtain ⟨_, ea1, i1, g1⟩ := num_bwd h1
  have d2 := (digR_at xs a1 0 oM).2
  rw [h2] at d2
  have d4 := (digsR_at (xs := xs) (a := a3) (N := xs.length) (e := 0) rfl oM (min x3.toNat 33)).2.1
  rw [h4] at d4
  have hx3 : x3 = UInt64.ofNat ls.length := by
    apply UInt64.toNat_inj.1
    rw [Bc oM]; omega
  have hnil : xs.drop a4 = [] := List.drop_eq_nil_of_le oM
  refine ⟨?_, d2, d4⟩
  simp only [DCut.bytes, DCut.body, List.take_length]
  rw [← hx3]
  rw [hnil, List.append_nil] at g4
  rw [List.drop_zero] at g1
  rw [g1, g2, g3, g4]
  simp only [List.append_assoc]
theorem votesR_bwd {xs : List UInt8} {a : Nat} {e : Int} : ∀ (k : Nat) (vs : List Vote) (a2 : Nat), votesR xs k a e = some (vs, a2, 0) → e = 0 ∧ vs.length = k ∧ xs.drop a = B4 A0 vs ++ xs.drop a2 ∧ ∀ v ∈ vs, v.ok ∧ Ap v = 0
  | 0, vs, a2, h => by
    obtain ⟨rfl, rfl, rfl⟩ : [] = vs ∧ a = a2 ∧ e = 0 := by simpa [votesR] using h
    exact ⟨rfl, rfl, rfl, fun v hv => (by cases hv)⟩
  | k + 1, vs, a2, h => by
    rw [votesR] at h
    obtain ⟨r, hr, h2⟩ := Option.bind_eq_some_iff.1 h
    obtain ⟨us, b, eb⟩ := r
    simp only at h2
    split at h2
    · rename_i h3
      obtain ⟨h3, h4⟩ := h3
      obtain ⟨o, q, hb⟩ : ∃ o q, blkR xs b eb = (o, q) := ⟨_, _, rfl⟩
      obtain ⟨c, ec⟩ := q
      rw [hb] at h2 h3 h4
      simp only at h2 h3 h4
      subst h4
      obtain ⟨z, ic, ds, rfl, hd⟩ := blk_bwd hb
      subst z
      simp only [Option.getD_some] at h2 h3
      obtain ⟨rfl, rfl⟩ : us ++ [(A1 ds).1] = vs ∧ c = a2 := by simpa using h2
      obtain ⟨g1, g2, g3, g4⟩ := votesR_bwd k us b hr
      obtain ⟨v1, v2, v3⟩ := voteRd_only h3
      refine ⟨g1, by rw [List.length_append, g2]; rfl, ?_, fun v hv => ?_⟩
      · rw [g3, hd]
        have : B4 A0 (us ++ [(A1 ds).1]) = B4 A0 us ++ blkB ds := by simp [B4, v2]
        rw [this, blkB]
        simp only [List.append_assoc]
      · rcases List.mem_append.1 hv with hv | hv
        · exact g4 v hv
        · rw [List.mem_singleton.1 hv]; exact ⟨v3, v1⟩
    · cases h2
structure DCert.ok (D : DCert) : Prop where
  prev : D.dCut.dPrev.length = 32
  heads : ∀ l ∈ D.dCut.dHeads, l.length = 32
  votes : ∀ d ∈ D.dVotes, d.ok
structure DCut.okL (D : DCut) : Prop where
  prev : D.dPrev.length = 32
  heads : ∀ l ∈ D.dHeads, l.length = 32
theorem certRd_only {xs : List UInt8} (h : (Bj xs).2 = 0) : (Bj xs).1.check = 0 ∧ (Bj xs).1.bytes = xs ∧ (Bj xs).1.ok := by
  obtain ⟨o, p, hb⟩ : ∃ o p, blkR xs 0 0 = (o, p) := ⟨_, _, rfl⟩
  obtain ⟨a1, e1⟩ := p
  unfold Bj at h ⊢
  rw [hb] at h ⊢
  simp only at h ⊢
  by_cases hc : (Bk (o.getD [])).2 = 0
  case neg => rw [if_neg hc] at h; cases h
  rw [if_pos hc] at h ⊢
  cases hv : readVL xs 16 a1 e1 with
  | none => simp only [hv] at h; cases h
  | some r =>
    obtain ⟨vs, a, e⟩ := r
    simp only [hv] at h ⊢
    by_cases hg : endR xs.length a e = 0 ∧ (⟨(Bk (o.getD [])).1, vs⟩ : DCert).check = 0
    case neg => rw [if_neg hg] at h; cases h
    rw [if_pos hg]
    refine ⟨hg.2, ?_⟩
    obtain ⟨he, hck⟩ := hg
    have e0 : e = 0 ∧ ¬ (0 : Int) < (xs.length : Int) - (a : Int) := by
      unfold endR at he
      split at he
      · rename_i h1
        exact ⟨h1, fun h2 => by rw [if_pos h2] at he; cases he⟩
      · rename_i h1; exact absurd he h1
    obtain ⟨z, e2⟩ := e0
    subst z
    unfold readVL at hv
    obtain ⟨x2, p2, h2⟩ : ∃ x p, A5 xs a1 e1 = (x, p) := ⟨_, _, rfl⟩
    obtain ⟨a2, e2'⟩ := p2
    rw [h2] at hv
    simp only at hv
    split at hv
    case isFalse => cases hv
    rename_i hk
    obtain ⟨hk1, hk2⟩ := hk
    subst hk1
    obtain ⟨_, g2, g3, g4⟩ := votesR_bwd _ _ _ hv
    obtain ⟨z, ea2, i2, k2⟩ := num_bwd h2
    subst z
    obtain ⟨_, i1, ds, rfl, k1⟩ := blk_bwd hb
    simp only [Option.getD_some] at hc hck ⊢
    obtain ⟨c1, c2, c3, c4⟩ := cutRd_only hc
    have hx2 : x2 = UInt64.ofNat vs.length := by rw [g2, UInt64.ofNat_toNat]
    have hnil : xs.drop a = [] := List.drop_eq_nil_of_le oM
    refine ⟨?_, ⟨c3, c4, fun d hd => (g4 d hd).1⟩⟩
    simp only [DCert.bytes]
    rw [show Bp (Bk ds).1 = ds from (if_pos c1).trans c2, blkB, ← hx2]
    rw [hnil, List.append_nil] at g3
    rw [List.drop_zero] at k1
    rw [k1, k2, g3]
    simp only [List.append_assoc]

structure DKept.oks (D : DKept) : Prop where
  b : ∀ d ∈ D.dBlocks, d.ok
  e : ∀ d ∈ D.dCerts, d.ok
  v : ∀ d ∈ D.dVotes, d.ok
  c : ∀ d ∈ D.dCuts, d.okL
theorem recOf_is {K : UInt8} {bs : List UInt8} (hK : ¬ K = 0) (h : bs.length ≤ 8192) : Ar K bs 0 = (⟨K, bs⟩, 0) := by
  rw [Ar, if_pos rfl, if_pos]
  unfold DRecord.check
  exact if_neg (by simp only [not_or]; exact ⟨hK, by omega⟩)
theorem recOf_fit {K : UInt8} {bs : List UInt8} {chk : Int} (h : (Ar K bs chk).2 = 0) : chk = 0 ∧ Ar K bs chk = (⟨K, bs⟩, 0) ∧ bs.length ≤ 8192 := by
  unfold Ar at h ⊢
  by_cases h1 : chk = 0
  · rw [if_pos h1] at h ⊢
    by_cases h2 : (⟨K, bs⟩ : DRecord).check = 0
    · rw [if_pos h2] at h ⊢
      refine ⟨h1, rfl, ?_⟩
      unfold DRecord.check at h2
      split at h2
      · cases h2
      · rename_i h3; simp only [not_or] at h3; omega
    · rw [if_neg h2] at h; cases h
  · rw [if_neg h1] at h; exact absurd h h1
def fB : DB → DRecord × Int := (fun X : DB => Ar 1 (A7 X) (DB.check X))
noncomputable def fE : DCert → DRecord × Int := (fun X : DCert => Ar 2 (Bd X) (DCert.check X))
def fV : Vote → DRecord × Int := (fun X : Vote => Ar 3 (A0 X) (Ap X))
def fC : DCut → DRecord × Int := (fun X : DCut => Ar 4 (Bp X) (DCut.check X))
theorem fold_put {D : Type} {f : D → DRecord × Int} {g : DKept → List D → DKept} (h0 : ∀ K, g K [] = K) (h1 : ∀ K d l, g (g K [d]) l = g K (d :: l)) : ∀ (ds : List D), (∀ d ∈ ds, ∀ K, B5 K (f d).1 = some (g K [d])) → ∀ K, (putD f ds).foldl (fun o r => o.bind fun D => B5 D r) (some K) = some (g K ds)
  | [], _, K => by rw [h0]; rfl
  | d :: l, h, K => by
    have ih := fold_put h0 h1 l (fun x hx => h x (List.mem_cons_of_mem _ hx)) (g K [d])
    rw [h1] at ih
    rw [← ih]
    show List.foldl _ (some K) ((f d).1 :: putD f l) = _
    rw [List.foldl_cons, Option.bind_some, h d List.mem_cons_self K]
structure PutAll (D : DKept) : Prop where
  chk : D.check = 0
  e : ∀ d ∈ D.dCerts, (fE d).2 = 0
  b : ∀ d ∈ D.dBlocks, (fB d).2 = 0
  c : ∀ d ∈ D.dCuts, (fC d).2 = 0
  v : ∀ d ∈ D.dVotes, (fV d).2 = 0
theorem foldK (a b : List DRecord) : keepR (a ++ b) = b.foldl (fun o r => o.bind fun D => B5 D r) (keepR a) := List.foldl_append
structure OfRecs (l : List DRecord) (D : DKept) : Prop where
  oks : D.oks
  b : putD fB D.dBlocks = l.filter (fun r => decide (r.dKind = 1))
  e : putD fE D.dCerts = l.filter (fun r => decide (r.dKind = 2))
  v : putD fV D.dVotes = l.filter (fun r => decide (r.dKind = 3))
  c : putD fC D.dCuts = l.filter (fun r => decide (r.dKind = 4))
  gb : ∀ d ∈ D.dBlocks, (fB d).2 = 0
  ge : ∀ d ∈ D.dCerts, (fE d).2 = 0
  gv : ∀ d ∈ D.dVotes, (fV d).2 = 0
  gc : ∀ d ∈ D.dCuts, (fC d).2 = 0
  kinds : ∀ r ∈ l, r.dKind = 1 ∨ r.dKind = 2 ∨ r.dKind = 3 ∨ r.dKind = 4
theorem filt1 {l : List DRecord} {r : DRecord} {k : UInt8} (h : r.dKind = k) : (l ++ [r]).filter (fun r => decide (r.dKind = k)) = l.filter (fun r => decide (r.dKind = k)) ++ [r] := by
  simp [List.filter_append, h]
theorem filt0 {l : List DRecord} {r : DRecord} {k j : UInt8} (h : r.dKind = j) (hj : ¬ j = k) : (l ++ [r]).filter (fun r => decide (r.dKind = k)) = l.filter (fun r => decide (r.dKind = k)) := by
  simp [List.filter_append, h, hj]
theorem putD_snoc {D : Type} (f : D → DRecord × Int) (ds : List D) (d : D) : putD f (ds ++ [d]) = putD f ds ++ [(f d).1] := by simp [putD]
theorem mem_snoc {α : Type} {P : α → Prop} {l : List α} {x : α} (h : ∀ d ∈ l, P d) (hx : P x) : ∀ d ∈ l ++ [x], P d := fun d hd => by
  rcases List.mem_append.1 hd with hd | hd
  · exact h d hd
  · rw [List.mem_singleton.1 hd]; exact hx
theorem rec_eq {r : DRecord} {k : UInt8} (h : r.dKind = k) : r = ⟨k, r.dData⟩ := by cases r; cases h; rfl
theorem readP_dok (xs : List UInt8) : (Cm xs).1.ok := by
  obtain ⟨l1, r1, h1⟩ : ∃ l r, Cf xs 0 0 = (l, r) := ⟨_, _, rfl⟩
  obtain ⟨a1, e1⟩ := r1
  obtain ⟨x2, r2, h2⟩ : ∃ l r, A5 xs a1 e1 = (l, r) := ⟨_, _, rfl⟩
  obtain ⟨a2, e2⟩ := r2
  obtain ⟨l3, r3, h3⟩ : ∃ l r, Cf xs a2 e2 = (l, r) := ⟨_, _, rfl⟩
  obtain ⟨a3, e3⟩ := r3
  obtain ⟨x4, r4, h4⟩ : ∃ l r, A5 xs a3 e3 = (l, r) := ⟨_, _, rfl⟩
  obtain ⟨a4, e4⟩ := r4
  obtain ⟨ls, r5, h5⟩ : ∃ l r, Av xs (min x4.toNat 17) a4 e4 = (l, r) := ⟨_, _, rfl⟩
  obtain ⟨a5, e5⟩ := r5
  obtain ⟨o, r6, h6⟩ : ∃ l r, blkR xs a5 e5 = (l, r) := ⟨_, _, rfl⟩
  obtain ⟨a6, e6⟩ := r6
  obtain ⟨l7, r7, h7⟩ : ∃ l r, takR xs 64 a6 e6 = (l, r) := ⟨_, _, rfl⟩
  obtain ⟨a7, e7⟩ := r7
  have d1 := Cc h1 rfl (Nat.zero_le _)
  have d2 := Bm h2 rfl d1.1
  have d3 := Cc h3 rfl d2
  have d4 := Bm h4 rfl d3.1
  have d5 := digsR_at (e := e4) rfl d4 (min x4.toNat 17)
  rw [h5] at d5
  have d6 := blkE_le h6 rfl d5.1
  have d7 := takE_le h7 rfl d6.1
  simp only [Cm, h1, h2, h3, h4, h5, h6, h7]
  refine ⟨d1.2, d3.2, ?_, d5.2.1⟩
  rcases d7.2 with h | h
  · rw [h]; rfl
  · simp only [List.length_append, List.length_drop, List.length_replicate, h]
theorem readD_okB {xs : List UInt8} (h : (B3 xs).2 = 0) : (B3 xs).1.ok := by
  by_cases hg : endR xs.length (Cm xs).2.1 (Cm xs).2.2 = 0 ∧ (Cm xs).1.check = 0
  · rw [readD_ok hg]; exact readP_dok xs
  · rw [readD_bad hg] at h; cases h
theorem ofRecs_step {l : List DRecord} {D D2 : DKept} {r : DRecord} (h : OfRecs l D) (hr : r.dData.length ≤ 8192) (hs : B5 D r = some D2) : OfRecs (l ++ [r]) D2 := by
  unfold B5 at hs
  by_cases k1 : r.dKind = 1
  · rw [if_pos k1] at hs
    split at hs
    case isFalse => cases hs
    rename_i hz
    cases hs
    obtain ⟨c1, c2⟩ := readD_only hz
    have hf : fB (B3 r.dData).1 = (r, 0) := by
      show Ar 1 (A7 _) (DB.check _) = _
      rw [c1, show A7 (B3 r.dData).1 = r.dData from (if_pos c1).trans c2, recOf_is dE hr, ← rec_eq k1]
    exact ⟨⟨mem_snoc h.oks.b (readD_okB hz), h.oks.e, h.oks.v, h.oks.c⟩, by rw [putD_snoc, hf, h.b, filt1 k1], by rw [h.e, filt0 k1 dE], by rw [h.v, filt0 k1 dE], by rw [h.c, filt0 k1 dE], mem_snoc h.gb (by rw [hf]), h.ge, h.gv, h.gc, mem_snoc h.kinds (.inl k1)⟩
  rw [if_neg k1] at hs
  by_cases k2 : r.dKind = 2
  · rw [if_pos k2] at hs
    split at hs
    case isFalse => cases hs
    rename_i hz
    cases hs
    obtain ⟨c1, c2, c3⟩ := certRd_only hz
    have hf : fE (Bj r.dData).1 = (r, 0) := by
      show Ar 2 (Bd _) (DCert.check _) = _
      rw [c1, show Bd (Bj r.dData).1 = r.dData from (if_pos c1).trans c2, recOf_is dE hr, ← rec_eq k2]
    exact ⟨⟨h.oks.b, mem_snoc h.oks.e c3, h.oks.v, h.oks.c⟩, by rw [h.b, filt0 k2 dE], by rw [putD_snoc, hf, h.e, filt1 k2], by rw [h.v, filt0 k2 dE], by rw [h.c, filt0 k2 dE], h.gb, mem_snoc h.ge (by rw [hf]), h.gv, h.gc, mem_snoc h.kinds (.inr (.inl k2))⟩
  rw [if_neg k2] at hs
  by_cases k3 : r.dKind = 3
  · rw [if_pos k3] at hs
    split at hs
    case isFalse => cases hs
    rename_i hz
    cases hs
    obtain ⟨c1, c2, c3⟩ := voteRd_only hz
    have hf : fV (A1 r.dData).1 = (r, 0) := by
      show Ar 3 (A0 _) (Ap _) = _
      rw [c1, c2, recOf_is dE hr, ← rec_eq k3]
    exact ⟨⟨h.oks.b, h.oks.e, mem_snoc h.oks.v c3, h.oks.c⟩, by rw [h.b, filt0 k3 dE], by rw [h.e, filt0 k3 dE], by rw [putD_snoc, hf, h.v, filt1 k3], by rw [h.c, filt0 k3 dE], h.gb, h.ge, mem_snoc h.gv (by rw [hf]), h.gc, mem_snoc h.kinds (.inr (.inr (.inl k3)))⟩
  rw [if_neg k3] at hs
  by_cases k4 : r.dKind = 4
  · rw [if_pos k4] at hs
    split at hs
    case isFalse => cases hs
    rename_i hz
    cases hs
    obtain ⟨c1, c2, c3, c4⟩ := cutRd_only hz
    have hf : fC (Bk r.dData).1 = (r, 0) := by
      show Ar 4 (Bp _) (DCut.check _) = _
      rw [c1, show Bp (Bk r.dData).1 = r.dData from (if_pos c1).trans c2, recOf_is dE hr, ← rec_eq k4]
    exact ⟨⟨h.oks.b, h.oks.e, h.oks.v, mem_snoc h.oks.c ⟨c3, c4⟩⟩, by rw [h.b, filt0 k4 dE], by rw [h.e, filt0 k4 dE], by rw [h.v, filt0 k4 dE], by rw [putD_snoc, hf, h.c, filt1 k4], h.gb, h.ge, h.gv, mem_snoc h.gc (by rw [hf]), mem_snoc h.kinds (.inr (.inr (.inr k4)))⟩
  rw [if_neg k4] at hs; cases hs
structure Pre4 (Q D : DKept) : Prop where
  b : Q.dBlocks <+: D.dBlocks
  e : Q.dCerts <+: D.dCerts
  v : Q.dVotes <+: D.dVotes
  c : Q.dCuts <+: D.dCuts
theorem Pre4.refl (D : DKept) : Pre4 D D := ⟨List.prefix_rfl, List.prefix_rfl, List.prefix_rfl, List.prefix_rfl⟩
theorem Pre4.trans {A B C : DKept} (h : Pre4 A B) (k : Pre4 B C) : Pre4 A C := ⟨h.b.trans k.b, h.e.trans k.e, h.v.trans k.v, h.c.trans k.c⟩
def DKept.num (D : DKept) : Nat := D.dBlocks.length + D.dCerts.length + D.dVotes.length + D.dCuts.length
theorem keepStep_pre {D D2 : DKept} {r : DRecord} (h : B5 D r = some D2) : Pre4 D D2 ∧ D2.num = D.num + 1 := by
  unfold B5 at h
  split at h
  · split at h
    · cases h; exact ⟨⟨List.prefix_append _ _, List.prefix_rfl, List.prefix_rfl, List.prefix_rfl⟩, by simp only [DKept.num, List.length_append, List.length_singleton]; omega⟩
    · cases h
  · split at h
    · split at h
      · cases h; exact ⟨⟨List.prefix_rfl, List.prefix_append _ _, List.prefix_rfl, List.prefix_rfl⟩, by simp only [DKept.num, List.length_append, List.length_singleton]; omega⟩
      · cases h
    · split at h
      · split at h
        · cases h; exact ⟨⟨List.prefix_rfl, List.prefix_rfl, List.prefix_append _ _, List.prefix_rfl⟩, by simp only [DKept.num, List.length_append, List.length_singleton]; omega⟩
        · cases h
      · split at h
        · split at h
          · cases h; exact ⟨⟨List.prefix_rfl, List.prefix_rfl, List.prefix_rfl, List.prefix_append _ _⟩, by simp only [DKept.num, List.length_append, List.length_singleton]; omega⟩
          · cases h
        · cases h
theorem fold_pre : ∀ (b : List DRecord) (Q D : DKept), b.foldl (fun o r => o.bind fun D => B5 D r) (some Q) = some D → Pre4 Q D ∧ D.num = Q.num + b.length
  | [], Q, D, h => by cases h; exact ⟨Pre4.refl _, rfl⟩
  | r :: l, Q, D, h => by
    rw [List.foldl_cons, Option.bind_some] at h
    cases hs : B5 Q r with
    | none => rw [hs, fold_none] at h; cases h
    | some R =>
      rw [hs] at h
      obtain ⟨h1, h2⟩ := fold_pre l R D h
      obtain ⟨h3, h4⟩ := keepStep_pre hs
      exact ⟨h3.trans h1, by rw [h2, h4, List.length_cons]; omega⟩
theorem keepR_pre {a b : List DRecord} {D : DKept} (h : keepR (a ++ b) = some D) : ∃ Q, keepR a = some Q ∧ Pre4 Q D ∧ Q.num = a.length := by
  rw [foldK] at h
  cases hq : keepR a with
  | none => rw [hq, fold_none] at h; cases h
  | some Q =>
    rw [hq] at h
    exact ⟨Q, rfl, (fold_pre b Q D h).1, by have := (fold_pre a dkz Q hq).2; rw [this]; simp [DKept.num, dkz]⟩
theorem ofRecs_fold : ∀ (b pre : List DRecord) (Q D : DKept), (∀ r ∈ b, r.dData.length ≤ 8192) → OfRecs pre Q → b.foldl (fun o r => o.bind fun D => B5 D r) (some Q) = some D → OfRecs (pre ++ b) D
  | [], pre, Q, D, _, o, h => by cases h; rw [List.append_nil]; exact o
  | r :: l, pre, Q, D, hr, o, h => by
    rw [List.foldl_cons, Option.bind_some] at h
    cases hs : B5 Q r with
    | none => rw [hs, fold_none] at h; cases h
    | some R =>
      rw [hs] at h
      have := ofRecs_fold l (pre ++ [r]) R D (fun x hx => hr x (List.mem_cons_of_mem _ hx)) (ofRecs_step o (hr r List.mem_cons_self) hs) h
      rwa [List.append_assoc] at this
theorem ofRecs (l : List DRecord) (D : DKept) (hr : ∀ r ∈ l, r.dData.length ≤ 8192) (h : keepR l = some D) : OfRecs l D :=
  ofRecs_fold l [] dkz D hr ⟨⟨fun d h => (by cases h), fun d h => (by cases h), fun d h => (by cases h), fun d h => (by cases h)⟩, rfl, rfl, rfl, rfl, fun d h => (by cases h), fun d h => (by cases h), fun d h => (by cases h), fun d h => (by cases h), fun d h => (by cases h)⟩ h
theorem keepRd_some {l : List DRecord} {D : DKept} (h : keepRd l = (D, 0)) : keepR l = some D ∧ inOrd D.dCerts = true := by
  unfold keepRd at h
  cases hq : keepR l with
  | none => rw [hq] at h; cases h
  | some Q =>
    rw [hq] at h
    simp only at h
    split at h
    · rename_i ho; cases h; exact ⟨rfl, ho⟩
    · cases h
theorem inOrd_pre {a b : List DCert} (h : a <+: b) (ho : inOrd b = true) : inOrd a = true := by
  obtain ⟨t, rfl⟩ := h
  unfold inOrd at ho ⊢
  rw [List.all_eq_true] at ho ⊢
  intro k hk
  rw [List.mem_range] at hk
  have := ho k (List.mem_range.2 (by rw [List.length_append]; omega))
  rw [List.getD_eq_getElem?_getD, List.getElem?_append_left hk, ← List.getD_eq_getElem?_getD] at this
  exact this
theorem fit_check {K : UInt8} {bs : List UInt8} {chk : Int} (h : (Ar K bs chk).2 = 0) : chk = 0 := (recOf_fit h).1
theorem kept_put {l : List DRecord} {D : DKept} (hr : ∀ r ∈ l, r.dData.length ≤ 8192) (h : keepRd l = (D, 0)) : PutAll D ∧ D.oks := by
  obtain ⟨h1, h2⟩ := keepRd_some h
  have o := ofRecs l D hr h1
  refine ⟨⟨?_, o.ge, o.gb, o.gc, o.gv⟩, o.oks⟩
  rw [DKept.check, if_pos]
  simp only [DKept.good, Bool.and_eq_true, List.all_eq_true, decide_eq_true_eq]
  exact ⟨fun d hd => fit_check (o.gb d hd), fun d hd => fit_check (o.ge d hd), fun d hd => fit_check (o.gv d hd), fun d hd => fit_check (o.gc d hd), h2⟩

theorem light_small2 {D : DKept} (h : D.light 12 = true) : D.small := ⟨fun d hd => by have := (lightk_small h).blocks d hd; omega, fun d hd => by have := (lightk_small h).certs d hd; omega, fun d hd => by have := (lightk_small h).cuts d hd; omega⟩
def Caps (s : Sl) : Prop := s.n ≤ s.c
structure KCaps (X : Kept) : Prop where
  b : Caps X.fBlocks
  e : Caps X.fCerts
  v : Caps X.fVotes
  c : Caps X.fCuts
theorem keepRd_two (ds : List DRecord) : keepRd ds = (dkz, 4) ∨ ∃ E, keepRd ds = (E, 0) := by
  unfold keepRd
  split
  · split
    · exact .inr ⟨_, rfl⟩
    · exact .inl rfl
  · exact .inl rfl
theorem keepRd_bad2 {ds : List DRecord} (h : ¬ (keepRd ds).2 = 0) : keepRd ds = (dkz, 4) := by
  rcases keepRd_two ds with h1 | ⟨E, h1⟩
  · exact h1
  · rw [h1] at h; exact absurd rfl h
theorem keepRd_good2 {ds : List DRecord} (h : (keepRd ds).2 = 0) : ∃ E, keepRd ds = (E, 0) := by
  rcases keepRd_two ds with h1 | h1
  · rw [h1] at h; cases h
  · exact h1
theorem lightR_of {ds : List DRecord} {n m : Int} (h : lightR ds n m = true) : (ds.length : Int) ≤ n ∧ ∀ d ∈ ds, (d.dData.length : Int) ≤ m := by
  rw [lightR, Bool.and_eq_true] at h
  refine ⟨by have := of_decide_eq_true h.1; omega, fun d hd => ?_⟩
  have := of_decide_eq_true (List.all_eq_true.1 h.2 d hd)
  omega
structure SmallK (E : DKept) : Prop where
  b : ∀ d ∈ E.dBlocks, d.ls.length ≤ 1000000
  e : ∀ d ∈ E.dCerts, d.dCut.dHeads.length ≤ 1000000
  c : ∀ d ∈ E.dCuts, d.dHeads.length ≤ 1000000
theorem SmallK.small {E : DKept} (h : SmallK E) : E.small := ⟨h.b, h.e, h.c⟩
theorem SmallK.pre {Q E : DKept} (h : SmallK E) (p : Pre4 Q E) : SmallK Q := ⟨fun d hd => h.b d (p.b.subset hd), fun d hd => h.e d (p.e.subset hd), fun d hd => h.c d (p.c.subset hd)⟩
theorem kept_smallK {ds : List DRecord} {E : DKept} (hr : ∀ r ∈ ds, r.dData.length ≤ 8192) (h : keepRd ds = (E, 0)) : SmallK E := by
  have p := (kept_put hr h).1
  refine ⟨fun d hd => ?_, fun d hd => ?_, fun d hd => ?_⟩
  · have := d.head_small (recOf_fit (p.b d hd)).1; omega
  · have := d.dCut.small (DCert.facts (recOf_fit (p.e d hd)).1).1; omega
  · have := d.small (recOf_fit (p.c d hd)).1; omega

theorem rolW_64 (x : UInt64) (n : Nat) (h : n ≤ 64) : Bz x n ||| shl64 x (64 - n) = rolW x (64 - n) := by
  rw [rolW, show 64 - (64 - n) = n by omega, UInt64.or_comm]
theorem W8.of_l {st : List UInt64} (h : st.length = 8) : (W8.of st).l = st := by
  match st, h with
  | [a, b, c, d, e, f, g, i], _ => rfl
theorem addUp_gets (st xs : List UInt64) : ∀ i j, i ≤ st.length → j < st.length → (addUp st xs i).getD j 0 = if j < i then st.getD j 0 + xs.getD j 0 else st.getD j 0
  | 0, j, _, hj => by rw [if_neg oM]; rfl
  | i + 1, j, hi, hj => by
    have hl := Bq st xs i
    rw [addUp, List.getD_eq_getElem?_getD, List.getElem?_set]
    split
    · rename_i e
      subst e
      rw [if_pos oM, if_pos oM, Option.getD_some, addUp_get st xs i i (Nat.le_refl _)]
    · rename_i e
      rw [← List.getD_eq_getElem?_getD, addUp_gets st xs i j oM hj]
      by_cases h : j < i
      · rw [if_pos h, if_pos oM]
      · rw [if_neg h, if_neg oM]
theorem addUp_comm {st xs : List UInt64} (h : st.length = 8) (hx : xs.length = 8) : addUp xs st 8 = addUp st xs 8 := by
  have h1 := Bq xs st 8
  have h2 := Bq st xs 8
  apply List.ext_getElem oM
  intro j ha hb
  have e1 := addUp_gets xs st 8 j oM oM
  have e2 := addUp_gets st xs 8 j oM oM
  rw [if_pos oM] at e1 e2
  rw [List.getD_eq_getElem?_getD, List.getElem?_eq_getElem ha, Option.getD_some] at e1
  rw [List.getD_eq_getElem?_getD, List.getElem?_eq_getElem hb, Option.getD_some] at e2
  rw [e1, e2, UInt64.add_comm]
def schT (p : List UInt8) (A : List UInt64) (t : Nat) : List UInt64 := if t ≤ 16 then schA p (8 * t) else schB A (t - 16)
theorem schT_lo {p : List UInt8} {A : List UInt64} {t : Nat} (h : t ≤ 16) : schT p A t = schA p (8 * t) := if_pos h
theorem schT_hi {p : List UInt8} {A : List UInt64} {t : Nat} (hA : schA p 128 = A) (h : 16 ≤ t) : schT p A t = schB A (t - 16) := by
  unfold schT
  split
  · obtain rfl : t = 16 := by omega
    exact hA
  · rfl
theorem schT_step {p : List UInt8} {A : List UInt64} {j : Nat} (hA : schA p 128 = A) : schT p A (16 + j + 1) = (schB A j).set (16 + j) ((schB A j).getD j 0 + sig0 ((schB A j).getD (j + 1) 0) + (schB A j).getD (j + 9) 0 + sig1 ((schB A j).getD (j + 14) 0)) := by
  rw [schT_hi hA oM, show 16 + j + 1 - 16 = j + 1 by omega]; rfl
theorem schA_step (p : List UInt8) (t i : Nat) (hi : i < 8) : schA p (8 * t + (i + 1)) = (schA p (8 * t + i)).set t (shl64 ((schA p (8 * t + i)).getD t 0) 8 ||| (p.getD (8 * t + i) 0).toUInt64) := by
  have e : (8 * t + i) / 8 = t := by omega
  show schA p ((8 * t + i) + 1) = _
  rw [schA, e]

theorem r2_K (k : List UInt64) (hk : Hid (kW = k)) : Meets Tryz.prog 255 [] [] (fun _ => True) (fun v out => v = agg (Aw k) ∧ out = []) := by
 intro W hW
 rw [← hk.out]
 refine Ag Tryz.func255 J 2 Tryz.ntmps255 J (G2 ?_)
 refine .alloc (cs := (Aw (List.replicate 80 0))) J Zr267 J ?_
 intro n0 hn0 hf0
 refine G4 ?_
 refine .build (cs := Aw kW) J J J (fun w => by kernel_rfl) ?_
 refine .sA J J J J zB Sz267 (by (simp [kW]; done)) Z0 sP zU ?_
 refine G4 ?_
 refine ⟨_, [], Bo J J Y267 J Sz267 Z0 (by simp [kW]), sP, sP, ?_, rfl⟩
 rfl

theorem r2_Start (k : List UInt64) (hk : Hid (startW = k)) : Meets Tryz.prog 249 [] [] (fun _ => True) (fun v out => v = agg (Aw k) ∧ out = []) := by
 intro W hW
 rw [← hk.out]
 refine Ag Tryz.func249 J 2 Tryz.ntmps249 J (G2 ?_)
 refine .alloc (cs := (Aw (List.replicate 8 0))) J Zr252 J ?_
 intro n0 hn0 hf0
 refine G4 ?_
 refine .build (cs := Aw startW) J J J (fun w => by kernel_rfl) ?_
 refine .sA J J J J zB Sz252 (by (simp [startW]; done)) Z0 sP zU ?_
 refine G4 ?_
 refine ⟨_, [], Bo J J Y252 J Sz252 Z0 (by simp [startW]), sP, sP, ?_, rfl⟩
 rfl

theorem r2_rot (x : UInt64) (n : Nat) (hn : n ≤ 63) : Meets Tryz.prog 256 [u64 x, i64 (n : Int)] [] (fun _ => True) (fun v out => v = u64 (rolW x (64 - n)) ∧ out = []) := by
 intro W hW
 refine Ag Tryz.func256 J 15 Tryz.ntmps256 J (G2 ?_)
 refine .a J J (show Al _ _ = some (u64 0) from rfl) (G7 ?_)
 refine .shr_u64 J J J J n (by rw [wordOf_id _ oM]) oM ?_
 refine G2 ?_
 refine .subN 64 n J J J J oM (G1 ?_)
 refine .shl_u64 J J J J (64 - n) (by rw [wordOf_id _ oM]) oM ?_
 refine G6 ?_
 refine ⟨_, [], Ad J J, sP, sP, ?_, rfl⟩
 rw [rolW_64 x n oM]

theorem r2_piece (st : List UInt64) (hst : st.length = 8) (p : List UInt8) (hp : p.length = 128) (q o c : Nat) (A w k : List UInt64) (R : W8) (hA : Hid (schA p 128 = A)) (hwp : Hid (schB A 64 = w)) (hk : Hid (kW = k)) (hk80 : k.length = 80) (hR : Hid (rnds k w (W8.of st) 80 = R)) : Meets Tryz.prog 248 [agg (Aw st), .slice (some ⟨q, o, none⟩) 128 c] [] (fun W => B8 W q o (Aa p)) (fun v out => v = agg (Aw (addUp st R.l 8)) ∧ out = []) := by
 intro W hW
 have hA80 : A.length = 80 := by rw [← hA.out]; exact schA_length p 128
 have hw80 : w.length = 80 := by rw [← hwp.out, schB_length]; exact hA80
 have hRl := W8.l_length R
 have hlw := hw80
 have hcm := addUp_comm hst hRl
 refine Ag Tryz.func248 J 176 Tryz.ntmps248 J (G3 ?_)
 intro n2 hn2 hf2
 refine .alloc (cs := (Aw (List.replicate 8 0))) J Zr252 J ?_
 intro n4 hn4 hf4
 refine G4 ?_
 refine .cV J J J J Body255 (r2_K k hk) tV (.alloc (cs := (Aw (List.replicate 80 0))) J Zr267 J ?_)
 intro n5 hn5 hf5
 refine .sA J J J J zB Sz267 (by (simp [hk80]; done)) Z0 sP zU ?_
 refine G4 ?_
 refine .alloc (cs := (Aw (List.replicate 80 0))) J Zr267 J ?_
 intro n6 hn6 hf6
 refine G9 ?_
 refine .loop (ι := Nat) (fun t => ⟨[(1, .slice (some ⟨q, o, none⟩) 128 c), (2, ptr n2 0), (4, ptr n4 0), (5, ptr n5 0), (6, ptr n6 0), (7, i64 (t : Int))], [⟨n6, Aw (schT p A t), 267, 80⟩, ⟨n5, Aw k, 267, 80⟩, ⟨n4, Aw (List.replicate 8 0), 252, 8⟩, ⟨n2, Aw st, 252, (Aw st).length⟩]⟩) (fun t => t ≤ 80) (fun t => 80 - t) (0) ?_ ?_ ?_
 · omega
 · exact Ai (wk1 rfl (wk1 rfl (wk1 rfl (wk1 rfl (wk1 rfl (wk1 rfl wk0)))))) (wh1 (by rw [schT_lo oM]; exact B7) (wh1 Z1 (wh1 Z2 (wh1 Z3 wh0)))) nD
 rintro t ht
 refine G7 ?_
 refine .condP J (fun hc0 => ?_) (fun hc0 => ?_)
 ·
  refine G11 ?_
  refine .condP J (fun hc1 => ?_) (fun hc1 => ?_)
  ·
   refine G7 ?_
   refine .loop (ι := Nat) (fun i => ⟨[(1, .slice (some ⟨q, o, none⟩) 128 c), (2, ptr n2 0), (4, ptr n4 0), (5, ptr n5 0), (6, ptr n6 0), (7, i64 (t : Int)), (8, i64 (i : Int))], [⟨n6, Aw (schA p (8 * t + i)), 267, 80⟩, ⟨n5, Aw k, 267, 80⟩, ⟨n4, Aw (List.replicate 8 0), 252, 8⟩, ⟨n2, Aw st, 252, (Aw st).length⟩]⟩) (fun i => i ≤ 8) (fun i => 8 - i) (0) ?_ ?_ ?_
   · omega
   · exact Ai (wk1 rfl (wk1 rfl (wk1 rfl (wk1 rfl (wk1 rfl (wk1 rfl (wk1 rfl wk0))))))) (wh1 (by rw [Nat.add_zero, ← schT_lo (p := p) (A := A) (by omega : t ≤ 16)]; exact B7) (wh1 Z1 (wh1 Z2 (wh1 Z3 wh0)))) nD
   rintro i hi
   have hlw := schA_length p (8 * t + i)
   refine G7 ?_
   refine .condP J (fun hc2 => ?_) (fun hc2 => ?_)
   ·
    refine G4 ?_
    refine .draw [(0, 0), (0, 1), (0, 2), (1, 3), (0, 4), (0, 5), (0, 6), (0, 7), (0, 8), (0, 9), (0, 10), (1, 11), (0, 12), (0, 13), (0, 14), (4, 15)] Ba zK (G2 ?_)
    refine .i1 J J J J Y267 Sz48 _ J oM (G1 ?_)
    refine .shl_u64 J J J J 8 J dE (G2 ?_)
    refine .mulN 8 t J J J J oM (G1 ?_)
    refine .addN (8 * t) i J J J J oM (.idxSlO J J J J Y58.h Sz5 (8 * t + i) oM oM (.loadE J J J Y5.h J sP (hW (8 * t + i) _ (Bw oM)) (G2 ?_)))
    refine .i1 J J J J Y267 Sz48 _ J oM (.s1 J J J J J Sz48 Z0 (by (simp [hlw]; omega)) (by exact set_words _ _ _) zU ?_)
    refine G9 ?_
    exact ⟨i + 1, by omega, by omega, Ai (wk1 rfl (wk1 rfl (wk1 rfl (wk1 rfl (wk1 rfl (wk1 rfl (wk1 rfl wk0))))))) (wh1 (by rw [schA_step p t i oM]; exact B7) (wh1 Z1 (wh1 Z2 (wh1 Z3 wh0)))) nD⟩
   refine G15 ?_
   exact ⟨t + 1, by omega, by omega, Ai (wk1 rfl (wk1 rfl (wk1 rfl (wk1 rfl (wk1 rfl (wk1 rfl wk0)))))) (wh1 (by (rw [schT_lo (by omega : t + 1 ≤ 16), show 8 * (t + 1) = 8 * t + i by omega]; exact B7)) (wh1 Z1 (wh1 Z2 (wh1 Z3 wh0)))) nD⟩
  obtain ⟨j, rfl⟩ : ∃ j, t = 16 + j := ⟨t - 16, by omega⟩
  rw [schT_hi hA.out (show 16 ≤ 16 + j by omega), show 16 + j - 16 = j by omega]
  have hlw : (schB A j).length = 80 := by rw [schB_length]; exact hA80
  refine G3 ?_
  refine .draw [(0, 0), (0, 1), (0, 2), (1, 3), (0, 4), (0, 5), (0, 6), (1, 7), (0, 8), (0, 9)] Ba zK (G2 ?_)
  refine .i1 J J J J Y267 Sz48 (j + 1) oM oM (G3 ?_)
  refine .i1 J J J J Y267 Sz48 (j + 14) oM oM (G5 ?_)
  refine .draw [(0, 0), (0, 1), (0, 2), (0, 3), (1, 4), (0, 5), (0, 7), (0, 10), (0, 11), (0, 14), (0, 15), (0, 16), (1, 17), (0, 19), (0, 21), (0, 24), (0, 25), (3, 6), (3, 8), (0, 9), (0, 12), (0, 13), (0, 18), (3, 20), (3, 22), (0, 23), (0, 26), (0, 27), (0, 28), (4, 29)] Ba zK (G3 ?_)
  refine .i1 J J J J Y267 Sz48 j oM oM (G4 ?_)
  refine .shr_u64 J J J J 7 J dE (G2 ?_)
  refine .i1 J J J J Y267 Sz48 (j + 9) oM oM (G4 ?_)
  refine .shr_u64 J J J J 6 J dE (.cV J J J J Body256 (r2_rot _ 1 dE) tV (.cV J J J J Body256 (r2_rot _ 8 dE) tV (G4 ?_)))
  refine .cV J J J J Body256 (r2_rot _ 19 dE) tV (.cV J J J J Body256 (r2_rot _ 61 dE) tV (G3 ?_))
  refine .i1 J J J J Y267 Sz48 (16 + j) oM oM (.s1 J J J J J Sz48 Z0 (by (simp [hlw]; omega)) (by exact set_words _ _ _) zU ?_)
  refine G9 ?_
  exact ⟨16 + j + 1, by omega, by omega, Ai (wk1 rfl (wk1 rfl (wk1 rfl (wk1 rfl (wk1 rfl (wk1 rfl wk0)))))) (wh1 (by (rw [schT_step hA.out]; exact B7)) (wh1 Z1 (wh1 Z2 (wh1 Z3 wh0)))) nD⟩
 obtain rfl : t = 80 := by omega
 rw [show schT p A 80 = w from by rw [schT_hi hA.out dE]; exact hwp.out]
 refine G7 ?_
 refine .lA J J J Y252 J Sz252 Z3 (by (simp [hst]; done)) ?_
 refine .alloc (cs := (Aw (List.replicate 8 0))) J Zr252 J ?_
 intro n11 hn11 hf11
 refine .sA J J J J zB Sz252 (by (simp [hst]; done)) Z0 sP zU ?_
 refine G9 ?_
 refine .loop (ι := Nat) (fun t => ⟨[(2, ptr n2 0), (4, ptr n4 0), (5, ptr n5 0), (6, ptr n6 0), (11, ptr n11 0), (12, i64 (t : Int))], [⟨n11, Aw (rnds k w (W8.of st) t).l, 252, 8⟩, ⟨n6, Aw w, 267, 80⟩, ⟨n5, Aw k, 267, 80⟩, ⟨n4, Aw (List.replicate 8 0), 252, 8⟩, ⟨n2, Aw st, 252, (Aw st).length⟩]⟩) (fun t => t ≤ 80) (fun t => 80 - t) (0) ?_ ?_ ?_
 · omega
 · exact Ai (wk1 rfl (wk1 rfl (wk1 rfl (wk1 rfl (wk1 rfl (wk1 rfl wk0)))))) (wh1 (by rw [show (rnds k w (W8.of st) 0).l = st from W8.of_l hst]; exact B7) (wh1 Z1 (wh1 Z2 (wh1 Z3 (wh1 Z4 wh0))))) nD
 rintro t ht
 have hlr := W8.l_length (rnds k w (W8.of st) t)
 refine G7 ?_
 refine .condP J (fun hc3 => ?_) (fun hc3 => ?_)
 ·
  refine G5 ?_
  refine .draw [(0, 0), (1, 1), (0, 2), (1, 3), (0, 4), (0, 5)] Ba zK (.i1 J J J J Y252 Sz48 0 J dE (G1 ?_))
  refine .i1 J J J J Y252 Sz48 4 J dE (G6 ?_)
  refine .draw [(0, 0), (1, 1), (0, 2), (0, 4), (0, 7), (0, 11), (0, 12), (1, 13), (0, 14), (0, 15), (0, 16), (0, 17), (1, 18), (0, 19), (0, 20), (0, 22), (0, 23), (1, 24), (0, 26), (0, 27), (1, 28), (3, 3), (3, 5), (0, 6), (3, 8), (0, 9), (0, 10), (0, 21), (0, 25), (0, 29), (0, 30)] Ba zK (.i1 J J J J Y252 Sz48 7 J dE (G5 ?_))
  refine .i1 J J J J Y252 Sz48 5 J dE (G3 ?_)
  refine .not_u64 J J J (.i1 J J J J Y252 Sz48 6 J dE (G4 ?_))
  refine .i1 J J J J Y267 Sz48 _ J oM (G2 ?_)
  refine .i1 J J J J Y267 Sz48 _ J oM (G1 ?_)
  refine .cV J J J J Body256 (r2_rot _ 14 dE) tV (.cV J J J J Body256 (r2_rot _ 18 dE) tV (G1 ?_))
  refine .cV J J J J Body256 (r2_rot _ 41 dE) tV (G9 ?_)
  refine .draw [(0, 0), (0, 2), (0, 5), (0, 8), (0, 9), (1, 10), (0, 11), (0, 12), (0, 13), (1, 14), (0, 15), (0, 16), (0, 17), (1, 18), (0, 19), (1, 20), (0, 21), (0, 22), (3, 1), (3, 3), (0, 4), (3, 6), (0, 7), (0, 23), (0, 24)] Ba zK (G4 ?_)
  refine .i1 J J J J Y252 Sz48 1 J dE (G3 ?_)
  refine .i1 J J J J Y252 Sz48 2 J dE (G3 ?_)
  refine .i1 J J J J Y252 Sz48 1 J dE (G1 ?_)
  refine .i1 J J J J Y252 Sz48 2 J dE (G3 ?_)
  refine .cV J J J J Body256 (r2_rot _ 28 dE) tV (.cV J J J J Body256 (r2_rot _ 34 dE) tV (G1 ?_))
  refine .cV J J J J Body256 (r2_rot _ 39 dE) tV (G10 ?_)
  refine .i1 J J J J Y252 Sz48 1 J dE (G1 ?_)
  refine .i1 J J J J Y252 Sz48 2 J dE (G1 ?_)
  refine .i1 J J J J Y252 Sz48 3 J dE (G4 ?_)
  refine .i1 J J J J Y252 Sz48 5 J dE (G1 ?_)
  refine .i1 J J J J Y252 Sz48 6 J dE (G1 ?_)
  refine .build (cs := Aw (rnd1 (rnds k w (W8.of st) t) (k.getD t 0) (w.getD t 0)).l) J J J (fun w => by kernel_rfl) ?_
  refine .sA J J J J zB Sz252 (by (simp [W8.l_length]; done)) Z0 (by (simp [W8.l_length]; done)) zU ?_
  refine G9 ?_
  exact ⟨t + 1, by omega, by omega, Ai (wk1 rfl (wk1 rfl (wk1 rfl (wk1 rfl (wk1 rfl (wk1 rfl wk0)))))) (wh1 Z0 (wh1 Z1 (wh1 Z2 (wh1 Z3 (wh1 Z4 wh0))))) nD⟩
 obtain rfl : t = 80 := by omega
 rw [hR.out]
 refine G12 ?_
 refine .loop (ι := Nat) (fun i => ⟨[(2, ptr n2 0), (4, ptr n4 0), (11, ptr n11 0), (17, i64 (i : Int))], [⟨n11, Aw (addUp R.l st i), 252, 8⟩, ⟨n4, Aw (List.replicate 8 0), 252, 8⟩, ⟨n2, Aw st, 252, (Aw st).length⟩]⟩) (fun i => i ≤ 8) (fun i => 8 - i) (0) ?_ ?_ ?_
 · omega
 · exact Ai (wk1 rfl (wk1 rfl (wk1 rfl (wk1 rfl wk0)))) (wh1 Z0 (wh1 Z3 (wh1 Z4 wh0))) nD
 rintro i hi
 have hlu := Bq R.l st i
 refine G7 ?_
 refine .condP J (fun hc4 => ?_) (fun hc4 => ?_)
 ·
  refine G4 ?_
  refine .draw [(0, 0), (0, 1), (0, 2), (1, 3), (0, 4), (0, 5), (1, 6), (0, 7), (0, 8), (4, 9)] Ba zK (G2 ?_)
  refine .i1 J J J J Y252 Sz48 _ J oM (G2 ?_)
  refine .i1 J J J J Y252 Sz48 _ J oM (G2 ?_)
  refine .i1 J J J J Y252 Sz48 _ J oM (.s1 J J J J J Sz48 Z0 (by (simp [hRl, Bq]; omega)) (by exact set_words _ _ _) zU ?_)
  refine G9 ?_
  exact ⟨i + 1, by omega, by omega, Ai (wk1 rfl (wk1 rfl (wk1 rfl (wk1 rfl wk0)))) (wh1 Z0 (wh1 Z1 (wh1 Z2 wh0))) nD⟩
 obtain rfl : i = 8 := by omega
 rw [hcm]
 refine G7 ?_
 refine .lA J J J Y252 J Sz252 Z0 (by (simp [hst, Bq]; done)) ?_
 refine .sA J J J J zB Sz252 (by (simp [hst, Bq]; done)) Z1 sP zV ?_
 refine G4 ?_
 refine ⟨_, [], Bo J J Y252 J Sz252 Z1 (by simp [hst, Bq]), sP, sP, ?_, rfl⟩
 rfl
theorem r2_bytes (st : List UInt64) (hst : st.length = 8) (s : List UInt8) (hs : Hid (sumUp st 64 = s)) : Meets Tryz.prog 238 [agg (Aw st)] [] (fun _ => True) (fun v out => v = agg (Aa s) ∧ out = []) := by
 intro W hW
 have hs64 : s.length = 64 := by rw [← hs.out]; exact Ca st 64
 refine Ag Tryz.func238 J 23 Tryz.ntmps238 J (G3 ?_)
 intro n1 hn1 hf1
 refine .alloc (cs := (Aa (List.replicate 64 0))) J Zr76 J ?_
 intro n2 hn2 hf2
 refine G4 ?_
 refine .alloc (cs := (Aa (List.replicate 64 0))) J Zr76 J ?_
 intro n3 hn3 hf3
 refine G9 ?_
 refine .loop (ι := Nat) (fun k => ⟨[(1, ptr n1 0), (2, ptr n2 0), (3, ptr n3 0), (4, i64 (k : Int))], [⟨n3, Aa (sumUp st k), 76, 64⟩, ⟨n2, Aa (List.replicate 64 0), 76, 64⟩, ⟨n1, Aw st, 252, (Aw st).length⟩]⟩) (fun k => k ≤ 64) (fun k => 64 - k) (0) ?_ ?_ ?_
 · omega
 · exact Ai (wk1 rfl (wk1 rfl (wk1 rfl (wk1 rfl wk0)))) (wh1 Z0 (wh1 Z1 (wh1 Z2 wh0))) nD
 rintro k hi
 have hlk := Ca st k
 refine G7 ?_
 refine .condP J (fun hc0 => ?_) (fun hc0 => ?_)
 ·
  refine G7 ?_
  refine .quo_i64 J J J J oM (.i1 J J J J Y252 Sz48 (k / 8) oM oM (G2 ?_))
  refine .remN k 8 J J J J dE (.mulN 8 (k % 8) J J J J oM (.subN 56 (8 * (k % 8)) J J J J oM (G1 ?_)))
  refine .shr_u64 J J J J (56 - 8 * (k % 8)) (by rw [wordOf_id _ oM]) oM ?_
  refine G1 ?_
  refine .i1 J J J J Y76 Sz5 _ J oM (.s1 J J J J J Sz5 Z0 (by (simp [Ca]; omega)) (by exact set_bytes _ _ _) zU ?_)
  refine G9 ?_
  exact ⟨k + 1, by omega, by omega, Ai (wk1 rfl (wk1 rfl (wk1 rfl (wk1 rfl wk0)))) (wh1 Z0 (wh1 Z1 (wh1 Z2 wh0))) nD⟩
 obtain rfl : k = 64 := by omega
 rw [hs.out]
 clear hlk
 refine G7 ?_
 refine .lA J J J Y76 J Sz76 Z0 (by (simp [hs64]; done)) ?_
 refine .sA J J J J zE Sz76 (by (simp [hs64]; done)) Z1 sP zV ?_
 refine G4 ?_
 refine ⟨_, [], Bo J J Y76 J Sz76 Z1 (by simp [hs64]), sP, sP, ?_, rfl⟩
 rfl
theorem r2_join (p : Option Addr) (n c : Nat) (ss : List Sl) (ls : List (List UInt8)) (hss : ss.length = n) (hls : ls.length = n) (hsl : ∀ j, j < n → (ss.getD j Sl.nil).n = (ls.getD j []).length ∧ ((ss.getD j Sl.nil).p = none → (ss.getD j Sl.nil).n = 0)) (F : List UInt8) (hF : ls.flatten = F) (htot : F.length ≤ 90000) (hn : n ≤ 1000000)  : Meets Tryz.prog 241 [.slice p n c] [] (fun W => SeesP W p (ss.map Sl.v) ∧ ∀ j, j < n → SeesP W (ss.getD j Sl.nil).p (Aa (ls.getD j []))) (fun v out => ∃ s, v = s.v ∧ Acc s out (Aa F) 5 F.length 1) := by
 intro W hW
 have hle := take_flat_le ls
 rw [hF] at hle
 refine Ag Tryz.func241 J 18 Tryz.ntmps241 J (G17 ?_)
 refine .loop (ι := Nat × Sl × List Blk) (fun x => ⟨[(0, .slice p n c), (3, x.2.1.v), (4, i64 (x.1 : Int))], (x.2.2 ++ [])⟩) (fun x => x.1 ≤ n ∧ Acc x.2.1 x.2.2 (Aa (ls.take x.1).flatten) 5 (ls.take x.1).flatten.length 1) (fun x => n - x.1) ((0, Sl.nil, [])) ?_ ?_ ?_
 · exact ⟨Nat.zero_le _, Acc.none⟩
 · exact Af (wk1 rfl (wk1 rfl (wk1 rfl wk0))) (Bh Ae)
 rintro x ⟨hx, hax⟩
 refine G9 ?_
 refine .condP J (fun hc0 => ?_) (fun hc0 => ?_)
 ·
  have hx3 : x.1 < n := by omega
  obtain ⟨b, o, hbp, hbs⟩ := hW.1.at (by rw [List.length_map]; omega)
  have hv : W.cell? ⟨b, o + x.1 * 1, none⟩ = some (ss.getD x.1 Sl.nil).v := by rw [Nat.mul_one]; exact hbs x.1 _ (sl_get oM)
  have hstep := hle (x.1 + 1)
  rw [take_flat oM, List.length_append, ← (hsl x.1 oM).1] at hstep
  refine G8 ?_
  refine .idxSlP 1 J J J hbp J Y250.h Sz58 x.1 J oM (.loadE J J J Y58.h J sP (hv) (.appendAcc (z := u8 0) (by' := 1) (Aa (ls.getD x.1 [])) J J J J J Y58.h Y58.h Sz5 Zr5 (by unfold By; kernel_rfl) J hax sG (fun w h => Ao h J (hW.2 x.1 oM)) (hsl x.1 oM).2 (As _) oM oM (by rw [Aa, List.length_map, Nat.mul_one]; exact (hsl x.1 oM).1.symm) ?_))
  intro s16 bl16 hac16
  refine G10 ?_
  refine ⟨(x.1 + 1, s16, bl16), ⟨by simp only []; omega, ?_⟩, by simp only []; omega, Af (wk1 J (wk1 J (wk1 J wk0))) (Ab sG Ae)⟩
  rw [take_flat oM, List.length_append, ← (hsl x.1 oM).1]
  simpa [Aa] using hac16
 have hx3 : x.1 = n := by omega
 rw [hx3, List.take_of_length_le oM, hF] at hax
 refine G13 ?_
 refine Ah (out := (x.2.2 ++ [])) (Ad J J) (Ab sG Ae) ?_
 exact ⟨x.2.1, rfl, by rw [List.append_nil]; exact hax⟩
theorem pad_acc (F : List UInt8) {q c : Nat} (x : UInt64) (h : F.length + 1 + padZ F.length + 8 ≤ c) : Acc ⟨some ⟨q, 0, none⟩, F.length + 1 + padZ F.length + 8, c⟩ [⟨q, Aa (F ++ [128] ++ List.replicate (padZ F.length) 0) ++ List.replicate 8 (u8 0), 5, c⟩] (Aa (F ++ [128] ++ List.replicate (padZ F.length) 0 ++ beUp 0 8 ++ beUp x 0)) 5 (F.length + 1 + padZ F.length + 8 + 0) 1 := by
  have e : Aa (F ++ [128] ++ List.replicate (padZ F.length) 0) ++ List.replicate 8 (u8 0) = Aa (F ++ [128] ++ List.replicate (padZ F.length) 0 ++ beUp 0 8 ++ beUp x 0) := by
    rw [show beUp x 0 = [] from rfl, List.append_nil, Bx (b := beUp 0 8)]
    rfl
  have h2 : (Aa (F ++ [128] ++ List.replicate (padZ F.length) 0 ++ beUp 0 8 ++ beUp x 0)).length = (F.length + 1 + padZ F.length + 8) * 1 := by
    simp [Aa, beUp_length]; omega
  have h3 := Acc.some (q := q) (E := 5) (size := 1) h h2
  rw [Nat.mul_one] at h3
  rw [e]
  exact h3

theorem r2_Pad (s : Sl) (F : List UInt8) (hsl : s.n = F.length) (hsn : s.p = none → s.n = 0) (htot : F.length ≤ 90000) : Meets Tryz.prog 247 [s.v] [] (fun W => SeesP W s.p (Aa F)) (fun v out => ∃ s, v = s.v ∧ Acc s out (Aa (padB F)) 5 (padB F).length 1) := by
 intro W hW
 have hz := padZ_lt F.length
 refine Ag Tryz.func247 J 38 Tryz.ntmps247 J (G7 ?_)
 refine .mkRow (z := u8 0) [] ([]) J J J Y58.h Sz5 Zr5 J J (by intro v hv; cases hv) dE J ?_
 intro q6
 refine G1 ?_
 refine .appendSl (z := u8 0) (by' := 1) (Aa F) J J J J J Y58.h Y58.h Sz5 Zr5 (by unfold By; kernel_rfl) J (fun w h => Ao h J hW) hsn (As _) rM J J oM oM oM (by rw [Aa, List.length_map]; omega) ?_
 intro q8 c8 hq8
 refine .mkRow (z := u8 0) [u8 (128)] (Aa [128]) J J J Y58.h Sz5 Zr5 J J (by intro v hv; rw [List.mem_singleton.1 hv]; rfl) dE J ?_
 intro q9
 refine .appendSl (z := u8 0) (by' := 1) (Aa [128]) J J J J J Y58.h Y58.h Sz5 Zr5 (by unfold By; kernel_rfl) J (fun w h => SeesP.of (Aj h Z0)) (fun e => by cases e) (As _) rM J (by rw [List.nil_append, Aa, List.length_map]; omega) oM oM oM (by rfl) ?_
 intro q10 c10 hq10
 refine G5 ?_
 refine .loop (ι := Nat × Sl × List Blk) (fun z => ⟨[(0, s.v), (3, z.2.1.v)], (z.2.2 ++ [])⟩) (fun z => z.1 ≤ padZ F.length ∧ Acc z.2.1 z.2.2 (Aa (F ++ [128] ++ List.replicate z.1 0)) 5 (F.length + 1 + z.1) 1) (fun z => padZ F.length - z.1) ((0, ⟨some ⟨q10, 0, none⟩, 0 + s.n + 1, c10⟩, [⟨q10, [] ++ Aa F ++ Aa [128], 5, c10 * 1⟩])) ?_ ?_ ?_
 · exact ⟨Nat.zero_le _, by rw [show [] ++ Aa F ++ Aa [128] = Aa (F ++ [128] ++ List.replicate 0 0) from by simp [Aa], show 0 + s.n + 1 = F.length + 1 + 0 by omega]; exact Acc.some oM (by simp [Aa])⟩
 · exact Af (wk1 rfl (wk1 rfl wk0)) (pm_consE rM rfl rfl Ae)
 rintro ⟨j, sz, blz⟩ ⟨hz1, haz⟩
 simp only [] at hz1 haz
 have hzn := haz.num
 have hpz := padZ_at F.length j hz1
 refine G5 ?_
 refine .rem_i64 J J J J oM (G3 ?_)
 refine .condNP J (fun hc0 => ?_) (fun hc0 => ?_)
 ·
  simp only [] at hc0
  have hz3 : j < padZ F.length := by omega
  refine G5 ?_
  refine .mkRow (z := u8 0) [u8 (0)] (Aa [0]) J J J Y58.h Sz5 Zr5 J J (by intro v hv; rw [List.mem_singleton.1 hv]; rfl) dE J ?_
  intro q16
  refine .appendAcc (z := u8 0) (by' := 1) (Aa [0]) J J J J J Y58.h Y58.h Sz5 Zr5 (by unfold By; kernel_rfl) J haz sG (fun w h => SeesP.of (Aj h Z0)) (fun e => by cases e) (As _) oM oM (by rfl) ?_
  intro s17 bl17 hac17
  refine G4 ?_
  refine ⟨(j + 1, s17, bl17), ⟨by simp only []; omega, ?_⟩, by simp only []; omega, Af (wk1 J (wk1 J wk0)) (Ab sG Ae)⟩
  rw [List.replicate_succ', ← List.append_assoc]
  simpa [Aa, Nat.add_assoc] using hac17
 simp only [] at hc0
 have hz3 : j = padZ F.length := by omega
 rw [hz3] at haz
 obtain ⟨qz, cz, rfl, hcz, rfl⟩ := acc_pos haz oM
 refine G8 ?_
 refine .appendMade (n := F.length + 1 + padZ F.length) (m := 8) (z := u8 0) (by' := 1) J J J J J J Y58.h Y3.h Sz5 Zr5 (by unfold By; kernel_rfl) J J rM (Nat.mul_one _) (by rw [Aa, List.length_map]; simp; omega) hcz oM dE ?_
 intro q19 c19 hq19
 refine G8 ?_
 rw [word_nat (n := s.n) oM]
 refine .mul_u64 J J J (show Al _ _ = some (u64 8) from rfl) ?_
 rw [hsl]
 refine G10 ?_
 refine .loop (ι := Nat × Sl × List Blk) (fun y => ⟨[(3, y.2.1.v), (4, u64 (UInt64.ofNat F.length * 8)), (5, i64 (7 - (y.1 : Int)))], (y.2.2 ++ [])⟩) (fun y => y.1 ≤ 8 ∧ Acc y.2.1 y.2.2 (Aa (F ++ [128] ++ List.replicate (padZ F.length) 0 ++ beUp 0 8 ++ beUp (UInt64.ofNat F.length * 8) y.1)) 5 (F.length + 1 + padZ F.length + 8 + y.1) 1) (fun y => 8 - y.1) ((0, ⟨some ⟨q19, 0, none⟩, F.length + 1 + padZ F.length + 8, c19⟩, [⟨q19, Aa (F ++ [128] ++ List.replicate (padZ F.length) 0) ++ List.replicate 8 (u8 0), 5, c19⟩])) ?_ ?_ ?_
 · exact ⟨Nat.zero_le _, pad_acc F _ hq19⟩
 · exact Af (wk1 rfl (wk1 rfl (wk1 rfl wk0))) (pm_consE rM rfl rfl Ae)
 rintro y ⟨hy, hay⟩
 refine G7 ?_
 refine .condP J (fun hc1 => ?_) (fun hc1 => ?_)
 ·
  have hy3 : y.1 ≤ 7 := by omega
  refine G8 ?_
  refine .mul_i64 J J J J oM (G1 ?_)
  refine .shr_u64 J J J J (56 - 8 * y.1) (by rw [wordOf_id _ oM]; omega) oM ?_
  refine G1 ?_
  refine .mkRow (z := u8 0) [u8 ((Bz (UInt64.ofNat F.length * 8) (56 - 8 * y.1)).toUInt8)] (Aa [(Bz (UInt64.ofNat F.length * 8) (56 - 8 * y.1)).toUInt8]) J J J Y58.h Sz5 Zr5 J J (by intro v hv; rw [List.mem_singleton.1 hv]; rfl) dE J ?_
  intro q35
  refine .appendAcc (z := u8 0) (by' := 1) (Aa [(Bz (UInt64.ofNat F.length * 8) (56 - 8 * y.1)).toUInt8]) J J J J J Y58.h Y58.h Sz5 Zr5 (by unfold By; kernel_rfl) J hay sG (fun w h => SeesP.of (Aj h Z0)) (fun e => by cases e) (As _) oM oM (by rfl) ?_
  intro s36 bl36 hac36
  refine G10 ?_
  refine ⟨(y.1 + 1, s36, bl36), ⟨by simp only []; omega, ?_⟩, by simp only []; omega, Af (wk1 J (wk1 J (wk1 (congrArg (fun z => some (i64 z)) oM) wk0))) (Ab sG Ae)⟩
  rw [show beUp (UInt64.ofNat F.length * 8) (y.1 + 1) = beUp (UInt64.ofNat F.length * 8) y.1 ++ [(Bz (UInt64.ofNat F.length * 8) (56 - 8 * y.1)).toUInt8] from rfl, ← List.append_assoc, Bx]
  exact hac36
 have hy3 : y.1 = 8 := by omega
 rw [hy3] at hay
 refine G13 ?_
 refine Ah (out := (y.2.2 ++ [])) (Ad J J) (Ab sG Ae) ?_
 refine ⟨y.2.1, rfl, ?_⟩
 have e8 : UInt64.ofNat F.length * 8 = UInt64.ofNat (8 * F.length) := by
  apply UInt64.toNat_inj.1
  rw [mul8_nat (by rw [Bc oM]; omega), Bc oM, Bc oM]; omega
 rw [e8] at hay
 rw [padB_length, padB]
 simpa [Nat.add_assoc, Nat.add_comm, Nat.add_left_comm] using hay
theorem take_len2 {xs : List UInt8} {i K : Nat} (h : xs.length = 128 * K) (hi : i < K) : ((xs.drop (128 * i)).take 128).length = 128 := by simp; omega
theorem sees_chunk {w : World} {q i : Nat} {l : List UInt8} (h : B8 w q 0 (Aa l)) : B8 w q (128 * i) (Aa ((l.drop (128 * i)).take 128)) := fun j v hj => by
  have e : (Aa l)[128 * i + j]? = some v := by
    rw [Aa, List.map_take, List.map_drop, List.getElem?_take] at hj
    split at hj
    · rwa [List.getElem?_drop] at hj
    · cases hj
  have h1 := h _ v e
  rwa [Nat.zero_add] at h1
theorem cut_chunk (q c i : Nat) (h : 128 * i < c) : (.slice (some ⟨q, if c = 128 * i then 0 else 0 + 128 * i * 1, none⟩) (128 * i + 128 - 128 * i) (c - 128 * i) : Value) = .slice (some ⟨q, 128 * i, none⟩) 128 (c - 128 * i) := by
  rw [if_neg oM, show 128 * i + 128 - 128 * i = 128 by omega, show 0 + 128 * i * 1 = 128 * i by omega]

theorem r2_run (st : List UInt64) (hst : st.length = 8) (k : List UInt64) (hk : Hid (kW = k)) (hk80 : k.length = 80) (s : Sl) (F : List UInt8) (hsl : s.n = F.length) (hsn : s.p = none → s.n = 0) (htot : F.length ≤ 90000) : Meets Tryz.prog 239 [agg (Aw st), s.v] [] (fun W => SeesP W s.p (Aa F)) (fun v out => v = agg (Aw (allW k st F)) ∧ out = []) := by
 intro W hW
 have hpl := padB_length F
 have hpz := padZ_lt F.length
 have hpm := padB_mod F
 obtain ⟨K, hK⟩ : ∃ K, (padB F).length / 128 = K := ⟨_, rfl⟩
 rw [hK] at hpm
 obtain ⟨U, hU⟩ : ∃ U, Hid (allW k st F = U) := ⟨_, ⟨rfl⟩⟩
 have hst2 : U.length = 8 := by rw [← hU.out, allW_length]; exact hst
 rw [hU.out]
 have hrl := hst2
 refine Ag Tryz.func239 J 23 Tryz.ntmps239 J (G3 ?_)
 intro n2 hn2 hf2
 refine .alloc (cs := (Aw (List.replicate 8 0))) J Zr252 J ?_
 intro n4 hn4 hf4
 refine G5 ?_
 refine .call4 J J J J J Body247 (r2_Pad s F hsl hsn htot) (fun w h => Ao h J hW) ?_
 rintro v8 out8 ⟨s7, rfl, hac7⟩
 obtain ⟨q7, c7, rfl, hc7, rfl⟩ := acc_pos hac7 oM
 refine G10 ?_
 refine .loop (ι := Nat) (fun i => ⟨[(2, ptr n2 0), (4, ptr n4 0), (5, .slice (some ⟨q7, 0, none⟩) (padB F).length c7), (6, i64 ((128 * i : Nat) : Int))], [⟨q7, Aa (padB F), 5, c7 * 1⟩, ⟨n4, Aw (List.replicate 8 0), 252, 8⟩, ⟨n2, Aw (runW k st (padB F) i), 252, (Aw st).length⟩]⟩) (fun i => i ≤ K) (fun i => K - i) (0) ?_ ?_ ?_
 · exact Nat.zero_le _
 · exact Af (wk1 rfl (wk1 rfl (wk1 rfl (wk1 rfl wk0)))) (Ac rM (Ac rM (Ac rM Ae)))
 rintro i hi
 have hrl : (runW k st (padB F) i).length = 8 := by rw [runW_length]; exact hst
 refine G9 ?_
 refine .condP J (fun hc0 => ?_) (fun hc0 => ?_)
 ·
  have hi3 : i < K := by omega
  obtain ⟨A, hA⟩ : ∃ A, Hid (schA ((padB F).drop (128 * i) |>.take 128) 128 = A) := ⟨_, ⟨rfl⟩⟩
  obtain ⟨w, hwp⟩ : ∃ w, Hid (schB A 64 = w) := ⟨_, ⟨rfl⟩⟩
  obtain ⟨R, hR⟩ : ∃ R, Hid (rnds k w (W8.of (runW k st (padB F) i)) 80 = R) := ⟨_, ⟨rfl⟩⟩
  have e1 : addUp (runW k st (padB F) i) R.l 8 = runW k st (padB F) (i + 1) := by rw [runW, pieceW, schW, hA.out, hwp.out, hR.out]
  have hrl2 : (runW k st (padB F) (i + 1)).length = 8 := by rw [runW_length]; exact hst
  refine G4 ?_
  refine .draw [(1, 0), (0, 1), (0, 2), (0, 3), (0, 4), (0, 5), (3, 6), (4, 7)] Ba zK (.lA J J J Y252 J Sz252 Z2 (by (simp [hrl]; done)) ?_)
  refine G4 ?_
  refine .sliceLoHiN (128*i) (128*i+128) J J J J J oM oM oM oM Y58.h Sz5 ?_
  rw [cut_chunk q7 c7 i oM]
  refine .cV J J J J Body248 (r2_piece (runW k st (padB F) i) hrl ((padB F).drop (128 * i) |>.take 128) (take_len2 hpm hi3) q7 (128 * i) (c7 - 128 * i) A w k R hA hwp hk hk80 hR) (fun w h => sees_chunk (Aj h Z0)) ?_
  rw [e1]
  refine .sA J J J J zB Sz252 (by (simp [hst, runW_length]; done)) Z2 (by (simp [hrl]; done)) (by exact upd2) ?_
  refine G9 ?_
  exact ⟨i + 1, by omega, by omega, Af (wk1 rfl (wk1 rfl (wk1 rfl (wk1 (congrArg (fun z => some (i64 z)) oM) wk0)))) (Ac rM (Ac rM (Ac rM Ae)))⟩
 rw [show (runW k st (padB F) i) = U from by rw [show i = K by omega, ← hU.out, allW, hK]]
 refine G7 ?_
 refine .lA J J J Y252 J Sz252 Z2 (by (simp [hst2]; done)) ?_
 refine .sA J J J J zB Sz252 (by (simp [hst2]; done)) Z1 sP zV ?_
 refine G4 ?_
 refine ⟨_, [], Bo J J Y252 J Sz252 Z1 (by simp [hst2]), sP, sP, ?_, rfl⟩
 rfl


def btag : List UInt8 := [98, 108, 111, 99, 107]
def btxt (D : DB) : List UInt8 := btag ++ D.body
theorem DB.body_small {D : DB} (hd : D.ok) (h1 : D.ls.length ≤ 40) (h2 : D.ds.length ≤ 2000) : (btxt D).length ≤ 4005 := by
  have hz1 := A2 D.seq.toNat
  have hz2 := A2 (UInt64.ofNat D.ls.length).toNat
  have hz3 := A2 (UInt64.ofNat D.ds.length).toNat
  have hfl := Bn hd.ls (Nat.le_refl D.ls.length)
  rw [List.take_length] at hfl
  simp only [btxt, btag, DB.body, List.length_append, Ax, hd.w, hd.prev, hfl, List.length_cons, List.length_nil]
  omega
def SeesX (W : World) (ex : List Nat) (p : Option Addr) (cs : List Value) : Prop := ∀ (j : Nat) (v : Value), cs[j]? = some v → ∃ b o, p = some ⟨b, o, none⟩ ∧ b ∉ ex ∧ W.cell? ⟨b, o + j, none⟩ = some v
theorem SeesX.ext {C : Cx} {hp : List Blk} {w : World} {p : Option Addr} {cs : List Value} (h : HRep C hp w) (hs : SeesX C.W0 C.lent p cs) : SeesP w p cs := fun j v hj => by
  obtain ⟨b, o, e, hb, hc⟩ := hs j v hj
  exact ⟨b, o, e, h.keeps.cell hb hc⟩
theorem cell_lt' {w : World} {c o : Nat} {v : Value} (h : w.cell? ⟨c, o, none⟩ = some v) : c < w.heap.size := by
  rcases Nat.lt_or_ge c w.heap.size with h1 | h1
  · exact h1
  · simp [World.cell?, Array.getElem?_eq_none h1] at h
theorem SeesX.new {C : Cx} {hp : List Blk} {w : World} {p : Option Addr} {cs : List Value} {n : Nat} (h : HRep C hp w) (hl : C.lent = []) (hn : C.W0.heap.size ≤ n) (hs : SeesP C.W0 p cs) : SeesX w [n] p cs := fun j v hj => by
  obtain ⟨b, o, e, hc⟩ := hs j v hj
  refine ⟨b, o, e, ?_, h.keeps.cell (by rw [hl]; simp) hc⟩
  have := cell_lt' hc
  simp
  omega
theorem lie_none {n : Nat} {v : Value} {T : TypeId} {W : World} (h : Lies [⟨n, [v], T, 0⟩] W) : False := by
  obtain ⟨full, fr, hb⟩ := h _ (List.mem_singleton.2 rfl)
  have h1 := hb.pre.length_le
  have h2 := hb.size
  simp at h1
  simp only at h2
  omega
structure SameB (B : Block) (D : DB) : Prop where
  ok : B.ok
  w : B.fWriter = D.w
  seq : B.fSeq = D.seq
  prev : B.fPrev = D.prev
  sg : B.fSig = D.sg
  ln : B.fLinks.n = D.ls.length
  dn : B.fData.n = D.ds.length
theorem some_same {D : DB} (h : D.ok) : SameB ⟨D.w, D.seq, D.prev, ⟨none, D.ls.length, 0⟩, ⟨none, D.ds.length, 0⟩, D.sg⟩ D := ⟨⟨h.w, h.prev, h.sg⟩, rfl, rfl, rfl, rfl, rfl, rfl⟩
def BlkR (e : Int) (D : DB) (v : Value) (out : List Blk) : Prop := ∃ B : Block, SameB B D ∧ v = .tuple #[agg B.cells, i64 e] ∧ ∀ W2, Lies out W2 → BlockIs W2 B D
def BlkV (D : DB) (v : Value) (out : List Blk) : Prop := ∃ B : Block, SameB B D ∧ v = agg B.cells ∧ ∀ W2, Lies out W2 → BlockIs W2 B D
theorem none_nodup {l : List Blk} {n : Nat} (hl : (l.map (·.n)).Nodup) (hn : ∀ b ∈ l, b.n ≠ n) (v : Value) : ((([⟨n, [v], 0, 0⟩] : List Blk) ++ l).map (·.n)).Nodup := by
  simp only [List.singleton_append, List.map_cons, List.nodup_cons]
  exact ⟨fun h2 => by obtain ⟨b, hb, e⟩ := List.mem_map.1 h2; exact hn b hb e, hl⟩
theorem BlkR.loose (e : Int) (D : DB) (hD : D.ok) : Loose (BlkR e D) := fun l hl => by
  obtain ⟨n, _, hn⟩ := Ch 0 l
  exact ⟨_, [⟨n, [undef], 0, 0⟩], ⟨_, some_same hD, rfl, fun W2 h => (lie_none h).elim⟩, none_nodup hl hn _⟩
theorem BlkV.loose (D : DB) (hD : D.ok) : Loose (BlkV D) := fun l hl => by
  obtain ⟨n, _, hn⟩ := Ch 0 l
  exact ⟨_, [⟨n, [undef], 0, 0⟩], ⟨_, some_same hD, rfl, fun W2 h => (lie_none h).elim⟩, none_nodup hl hn _⟩
end Go.Proofs.YtdifpjmfabhpiaaGreat
end

section
namespace Go.Proofs.YtdifpjmfabhpiaaGreat
open Go Hw

theorem room_go {x : UInt64} {k : Nat} (hk : 1 ≤ k) (h9 : k < 9) (h : ¬ ((Bz x (7 * k)).toNat : Int) = 0) : k + 1 ≤ szN x.toNat := by
  rcases Nat.lt_or_ge k (szN x.toNat) with h1 | h1
  · exact h1
  · exact absurd (show ((Bz x (7 * k)).toNat : Int) = 0 by rw [shr64_toNat, Nat.div_eq_of_lt ((szN_le hk oM).1 h1)]; rfl) h
theorem room_end {x : UInt64} {k : Nat} (hk : 1 ≤ k) (h9 : k < 9) (h : ((Bz x (7 * k)).toNat : Int) = 0) : szN x.toNat ≤ k := by
  refine (szN_le hk oM).2 ?_
  rw [shr64_toNat] at h
  rcases Nat.div_eq_zero_iff.1 (show x.toNat / 2 ^ (7 * k) = 0 by omega) with h1 | h1
  · exact absurd h1 (Nat.ne_of_gt (Nat.pow_pos dE))
  · exact h1
theorem head_or : ∀ r, r < 9 → 1 ≤ r → ∀ y, y < 2 ^ (8 - r) → UInt8.ofNat (256 - 2 ^ (9 - r)) + UInt8.ofNat y = shl8 255 (9 - r) ||| UInt8.ofNat y := by decide
theorem head_9 : shl8 255 0 = 255 := by decide
theorem headB_9 {x : UInt64} (h : szN x.toNat = 9) : headB x = 255 := by
  rw [headB, h, head_9]
  have : ∀ y : UInt8, 255 ||| y = 255 := by
    intro y
    have hh : ∀ n, n < 256 → (255 : UInt8) ||| UInt8.ofNat n = 255 := by decide
    have := hh y.toNat y.toNat_lt
    rwa [UInt8.ofNat_toNat] at this
  exact this _
theorem headB_lt {x : UInt64} (h : szN x.toNat < 9) : ((256 : UInt64) - shl64 1 (9 - szN x.toNat)).toUInt8 + (Bz x (8 * (szN x.toNat - 1))).toUInt8 = headB x := by
  have hp := A2 x.toNat
  have hy : (Bz x (8 * (szN x.toNat - 1))).toNat < 2 ^ (8 - szN x.toNat) := by
    rw [shr64_toNat, Nat.div_lt_iff_lt_mul (Nat.pow_pos dE), ← Nat.pow_add, show 8 - szN x.toNat + 8 * (szN x.toNat - 1) = 7 * szN x.toNat by omega]
    exact szN_hi oM
  have h1 : ((256 : UInt64) - shl64 1 (9 - szN x.toNat)).toUInt8 = UInt8.ofNat (256 - 2 ^ (9 - szN x.toNat)) := by
    have : ∀ r, r < 9 → 1 ≤ r → ((256 : UInt64) - shl64 1 (9 - r)).toUInt8 = UInt8.ofNat (256 - 2 ^ (9 - r)) := by decide
    exact this _ h hp.1
  have h2 : (Bz x (8 * (szN x.toNat - 1))).toUInt8 = UInt8.ofNat (Bz x (8 * (szN x.toNat - 1))).toNat := rfl
  rw [h1, headB, h2]
  exact head_or _ h hp.1 _ hy

theorem r1_room (x : UInt64) : Meets Tryz.prog 213 [u64 x] [] (fun _ => True) (fun v out => v = i64 ((szN x.toNat : Nat) : Int) ∧ out = []) := by
 intro W hW
 have hz := A2 x.toNat
 refine Ag Tryz.func213 J 17 Tryz.ntmps213 J (G12 ?_)
 refine .loop (ι := Nat) (fun k => ⟨[(0, u64 x), (3, i64 (k : Int))], []⟩) (fun k => 1 ≤ k ∧ k ≤ szN x.toNat) (fun k => 9 - k) (1) ?_ ?_ ?_
 · exact ⟨Nat.le_refl _, hz.1⟩
 · exact Ai (wk1 rfl (wk1 rfl wk0)) wh0 nD
 rintro k ⟨hk1, hk2⟩
 refine G4 ?_
 refine two (fun r hr k => Tr.lss J J J J hr k) (fun hs2_10 => ?_) (fun hs2_10 => ?_)
 ·
  have hs2_1 := of_decide_eq_true hs2_10
  refine G3 ?_
  refine .mul_i64 J J J J oM (G1 ?_)
  refine .shr_u64 J J J J (7 * k) (by rw [show (7 : Int) * (k : Int) = ((7 * k : Nat) : Int) by omega, wordOf_id _ oM]) oM ?_
  refine G4 ?_
  refine .condNP J (fun hc0 => ?_) (fun hc0 => ?_)
  ·
   refine G10 ?_
   exact ⟨k + 1, ⟨by omega, room_go hk1 oM zA⟩, by omega, Ai (wk1 rfl (wk1 (by rw [Int.natCast_add]; rfl) wk0)) wh0 nD⟩
  refine G13 ?_
  refine ⟨_, [], Ad J J, sP, sP, ?_, rfl⟩
  (have := room_end hk1 oM zA; congr 1; omega)
 have hs2_1 := of_decide_eq_false hs2_10
 refine G10 ?_
 refine .cond_f J J (G13 ?_)
 refine ⟨_, [], Ad J J, sP, sP, ?_, rfl⟩
 (congr 1; omega)
theorem r1_Number (p0 : Option Addr) (n c : Nat) (l : List UInt8) (x : UInt64) (hl : l.length = n) (hp0 : p0 = none → n = 0) (hn : n ≤ 90000) : Meets Tryz.prog 132 [.slice p0 n c, u64 x] [] (fun W => SeesP W p0 (Aa l)) (fun v out => FreshRow v out (Aa (l ++ A6 x)) 5 (n + szN x.toNat) 1) := by
 intro W hW
 have hz := A2 x.toNat
 refine Ag Tryz.func132 J 51 Tryz.ntmps132 J (G7 ?_)
 refine .mkRow2 (z := u8 0) [] [] rfl J Y58.h Sz5 Zr5 J J (by intro v hv; cases hv) dE J ?_
 intro q8
 refine G1 ?_
 refine .appendSl (z := u8 0) (by' := 1) (Aa l) J J J J J Y58.h Y58.h Sz5 Zr5 (by unfold By; kernel_rfl) J (fun w h => Ao h J hW) hp0 (by simp [Aa, isCell, u8]) Az J J oM oM oM (by simp [Aa, hl]) ?_
 intro q10 c10 hq10
 rw [Nat.zero_add n] at hq10 ⊢
 refine G6 ?_
 refine .cV J J J J Body213 (r1_room _) tV (G3 ?_)
 refine .join (ι := Nat × Nat) (fun p => ⟨[(1, u64 x), (5, .slice (some ⟨p.1, 0, none⟩) (n + 1) p.2), (6, i64 ((szN x.toNat : Nat) : Int))], [⟨p.1, Aa (l ++ [headB x]), 5, p.2 * 1⟩]⟩) (fun p => n + 1 ≤ p.2) ?_ ?_
 ·
  refine G6 ?_
  refine .condP J (fun hc0 => ?_) (fun hc0 => ?_)
  ·
   refine G2 ?_
   refine .mkRow (z := u8 0) [u8 (255)] (Aa [255]) J J J Y58.h Sz5 Zr5 J J (by intro v hv; rw [List.mem_singleton.1 hv]; rfl) dE J ?_
   intro q16
   refine .appendSl (z := u8 0) (by' := 1) (Aa [255]) J J J J J Y58.h Y58.h Sz5 Zr5 (by unfold By; kernel_rfl) J (fun w h => SeesP.of (Aj h B7)) (fun e => by cases e) (by simp [Aa, isCell, u8]) (rem_there Az) J (by simp [Aa, hl]) oM oM oM (by rfl) ?_
   intro q17 c17 hq17
   refine G3 ?_
   exact ⟨(q17, c17), hq17, Ai (wk1 rfl (wk1 rfl (wk1 rfl wk0))) (wh1 (by (rw [headB_9 (x := x) oM]; simp only [Aa, List.map_append]; exact B7)) wh0) nD⟩
  refine G5 ?_
  refine .shl_u64 J J (show Al _ _ = some (u64 1) from rfl) J (9 - szN x.toNat) (by rw [show (9 : Int) - ((szN x.toNat : Nat) : Int) = ((9 - szN x.toNat : Nat) : Int) by omega, wordOf_id _ oM]) oM ?_
  refine .sub_u64 J J (show Al _ _ = some (u64 256) from rfl) J (G4 ?_)
  refine .mul_i64 J J J J oM (G1 ?_)
  refine .shr_u64 J J J J (8 * (szN x.toNat - 1)) (by rw [show (8 : Int) * (((szN x.toNat : Nat) : Int) - 1) = ((8 * (szN x.toNat - 1) : Nat) : Int) by omega, wordOf_id _ oM]) oM ?_
  refine G1 ?_
  refine .add_u8 J J J J ?_
  rw [headB_lt (x := x) oM]
  refine .mkRow (z := u8 0) [u8 (headB x)] (Aa [headB x]) J J J Y58.h Sz5 Zr5 J J (by intro v hv; rw [List.mem_singleton.1 hv]; rfl) dE J ?_
  intro q33
  refine .appendSl (z := u8 0) (by' := 1) (Aa [headB x]) J J J J J Y58.h Y58.h Sz5 Zr5 (by unfold By; kernel_rfl) J (fun w h => SeesP.of (Aj h B7)) (fun e => by cases e) (by simp [Aa, isCell, u8]) (rem_there Az) J (by simp [Aa, hl]) oM oM oM (by rfl) ?_
  intro q17 c17 hq17
  refine G3 ?_
  exact ⟨(q17, c17), hq17, Ai (wk1 rfl (wk1 rfl (wk1 rfl wk0))) (wh1 (by (simp only [Aa, List.map_append]; exact B7)) wh0) nD⟩
 intro p hj
 have hjp := hj
 refine G9 ?_
 refine .loop (ι := Nat × Nat × Nat) (fun r => ⟨[(1, u64 x), (5, .slice (some ⟨r.2.1, 0, none⟩) (n + 1 + r.1) r.2.2), (7, i64 (((szN x.toNat : Nat) : Int) - 2 - (r.1 : Int)))], [⟨r.2.1, Aa (l ++ numUp x r.1), 5, r.2.2 * 1⟩]⟩) (fun r => r.1 ≤ szN x.toNat - 1 ∧ n + 1 + r.1 ≤ r.2.2) (fun r => szN x.toNat - 1 - r.1) ((0, p.1, p.2)) ?_ ?_ ?_
 · exact ⟨Nat.zero_le _, hjp⟩
 · exact Ai (wk1 rfl (wk1 rfl (wk1 (by rw [show (((szN x.toNat : Nat) : Int) - 2 - ((0 : Nat) : Int)) = ((szN x.toNat : Nat) : Int) - 2 by omega]; rfl) wk0))) (wh1 (by rw [numUp_zero]; exact B7) wh0) nD
 rintro r ⟨hp1, hp2⟩
 refine G7 ?_
 refine .condP J (fun hc1 => ?_) (fun hc1 => ?_)
 ·
  have hp3 : r.1 < szN x.toNat - 1 := by omega
  refine G8 ?_
  refine .mul_i64 J J J J oM (G1 ?_)
  refine .shr_u64 J J J J (8 * (szN x.toNat - 2 - r.1)) (by rw [show (8 : Int) * (((szN x.toNat : Nat) : Int) - 2 - (r.1 : Int)) = ((8 * (szN x.toNat - 2 - r.1) : Nat) : Int) by omega, wordOf_id _ oM]) oM ?_
  refine G1 ?_
  refine .mkRow (z := u8 0) [u8 ((Bz x (8 * (szN x.toNat - 2 - r.1))).toUInt8)] (Aa [(Bz x (8 * (szN x.toNat - 2 - r.1))).toUInt8]) J J J Y58.h Sz5 Zr5 J J (by intro v hv; rw [List.mem_singleton.1 hv]; rfl) dE J ?_
  intro q48
  refine .appendSl (z := u8 0) (by' := 1) (Aa [(Bz x (8 * (szN x.toNat - 2 - r.1))).toUInt8]) J J J J J Y58.h Y58.h Sz5 Zr5 (by unfold By; kernel_rfl) J (fun w h => SeesP.of (Aj h B7)) (fun e => by cases e) (by simp [Aa, isCell, u8]) (rem_there Az) J (by rw [Aa, List.length_map, List.length_append, hl, numUp_length x r.1 oM]; omega) oM oM oM (by rfl) ?_
  intro q2 c2 hq2
  refine G10 ?_
  exact ⟨(r.1 + 1, q2, c2), ⟨by simp only []; omega, by simp only []; omega⟩, by simp only []; omega, Ai (wk1 rfl (wk1 (by rw [show n + 1 + (r.1 + 1) = n + 1 + r.1 + 1 by omega]; rfl) (wk1 (by rw [show (((szN x.toNat : Nat) : Int) - 2 - ((r.1 + 1 : Nat) : Int)) = ((szN x.toNat : Nat) : Int) - 2 - (r.1 : Int) - 1 by omega]; rfl) wk0))) (wh1 (by rw [numUp_step x r.1 oM, ← List.append_assoc]; simp only [Aa, List.map_append]; exact B7) wh0) nD⟩
 have hp3 : r.1 = szN x.toNat - 1 := by omega
 refine G13 ?_
 refine ⟨_, [⟨r.2.1, Aa (l ++ A6 x), 5, r.2.2 * 1⟩], Ad J J, (by intro b hb; rw [List.mem_singleton.1 hb, ← numUp_all, ← hp3]; exact B7), B2, ⟨r.2.1, r.2.2, by rw [show n + 1 + r.1 = n + szN x.toNat by omega], by omega, rfl⟩⟩


theorem vcheck_2 {V : Vote} (h : ¬ Ap V = 0) : Ap V = 2 := by
  unfold Ap at h ⊢
  by_cases h1 : Bf V = true
  · rw [if_pos h1]
  · rw [if_neg h1] at h ⊢
    by_cases h2 : vokB V = true
    · rw [if_pos h2] at h; exact absurd rfl h
    · rw [if_neg h2]

theorem r20_body (V : Vote) (hV : V.ok) : Meets Tryz.prog 214 [agg V.cells] [] (fun _ => True) (fun v out => FreshRow v out (Aa (voteT V)) 5 (voteN V) 1) := by
 intro W hW
 have z1 := A2 V.fHeight.toNat
 have z2 := A2 V.fRound.toNat
 have z3 := A2 (Hw.Cg V.fPhase).toUInt64.toNat
 have z4 := A2 V.fProof.toNat
 refine Ag Tryz.func214 J 29 Tryz.ntmps214 J (G3 ?_)
 intro n1 hn1 hf1
 refine G7 ?_
 refine .call4 J J J J J Body132 (r1_Number none 0 0 [] V.fHeight J (fun _ => rfl) oM) (fun _ _ => SeesP.nil) ?_
 rintro v6 out6 ⟨q6, c6, rfl, hc6, rfl⟩
 simp only [Nat.zero_add, List.nil_append, List.cons_append] at hc6 ⊢
 refine G8 ?_
 refine .call4 J J J J J Body132 (r1_Number (some ⟨q6, 0, none⟩) (szN V.fHeight.toNat) c6 (A6 V.fHeight) (V.fRound) (by simp only [List.length_append, Ax, hV.l_fValue]) (fun e => by cases e) oM) (fun w h => SeesP.of (Aj (cs := Aa (A6 V.fHeight)) h Z0)) ?_
 rintro v10 out10 ⟨q10, c10, rfl, hc10, rfl⟩
 refine G10 ?_
 refine .call4 J J J J J Body132 (r1_Number (some ⟨q10, 0, none⟩) (szN V.fHeight.toNat + szN V.fRound.toNat) c10 (A6 V.fHeight ++ A6 V.fRound) ((Hw.Cg V.fPhase).toUInt64) (by simp only [List.length_append, Ax, hV.l_fValue]) (fun e => by cases e) oM) (fun w h => SeesP.of (Aj (cs := Aa (A6 V.fHeight ++ A6 V.fRound)) h Z0)) ?_
 rintro v16 out16 ⟨q16, c16, rfl, hc16, rfl⟩
 refine G8 ?_
 refine .appendSl (z := u8 0) (by' := 1) (Aa V.fValue) J J J J J Y58.h Y58.h Sz5 Zr5 (by unfold By; kernel_rfl) J (fun w h => SeesP.of (sees_part h Z3 (Vote.see_fValue hV))) (fun e => by cases e) (As _) rM J (by rw [Aa, List.length_map]; simp only [List.length_append, Ax, hV.l_fValue]; omega) oM oM oM (by simp [hV.l_fValue]) ?_
 intro q20 c20 hq20
 rw [← Bx]
 refine G8 ?_
 refine .call4 J J J J J Body132 (r1_Number (some ⟨q20, 0, none⟩) (szN V.fHeight.toNat + szN V.fRound.toNat + szN (Hw.Cg V.fPhase).toUInt64.toNat + 32) c20 (A6 V.fHeight ++ A6 V.fRound ++ A6 (Hw.Cg V.fPhase).toUInt64 ++ V.fValue) (V.fProof) (by simp only [List.length_append, Ax, hV.l_fValue]) (fun e => by cases e) oM) (fun w h => SeesP.of (Aj (cs := Aa (A6 V.fHeight ++ A6 V.fRound ++ A6 (Hw.Cg V.fPhase).toUInt64 ++ V.fValue)) h Z0)) ?_
 rintro v24 out24 ⟨q24, c24, rfl, hc24, rfl⟩
 refine G8 ?_
 refine .appendSl (z := u8 0) (by' := 1) (Aa V.fVoter) J J J J J Y58.h Y58.h Sz5 Zr5 (by unfold By; kernel_rfl) J (fun w h => SeesP.of (sees_part h Z4 (Vote.see_fVoter hV))) (fun e => by cases e) (As _) rM J (by rw [Aa, List.length_map]; simp only [List.length_append, Ax, hV.l_fValue]; omega) oM oM oM (by simp [hV.l_fVoter]) ?_
 intro q28 c28 hq28
 rw [← Bx]
 refine G5 ?_
 refine Ah (out := (⟨q28, Aa (A6 V.fHeight ++ A6 V.fRound ++ A6 (Hw.Cg V.fPhase).toUInt64 ++ V.fValue ++ A6 V.fProof ++ V.fVoter), 5, c28 * 1⟩ :: [])) (Ad J J) (Ac rM Ae) ?_
 exact ⟨q28, c28, rfl, by unfold voteN; omega, rfl⟩

theorem r20_Check (V : Vote) (hV : V.ok) : Meets Tryz.prog 143 [agg V.cells] [] (fun _ => True) (fun v out => v = i64 (Ap V) ∧ out = []) := by
  intro W hW
  refine Ag Tryz.func143 J 53 Tryz.ntmps143 J (G3 ?_)
  intro n1 hn1 hf1
  refine G5 ?_
  refine .alloc (cs := (Aa (List.replicate 32 0))) J Zr50 J ?_
  intro n3 hn3 hf3
  refine G7 ?_
  refine two (fun r hr k => Tr.lss J J J J hr k) (fun hs2_20 => ?_) (fun hs2_20 => ?_)
  ·
    have hs2_2 := of_decide_eq_true hs2_20
    refine G22 ?_
    refine .cond_t J J (G8 ?_)
    refine ⟨_, [], Ad J J, sP, sP, ?_, rfl⟩
    first
      | (unfold Ap Bf vokB; simp_all; done)
      | (have e1 : ¬ V.fPhase = 1 := by omega
         have e2 : ¬ V.fPhase = 2 := by omega
         have e3 : ¬ V.fPhase = 3 := by omega
         unfold Ap Bf vokB; simp_all; done)
      | (unfold Ap Bf vokB; simp_all; omega)
  have hs2_2 := of_decide_eq_false hs2_20
  refine G3 ?_
  refine two (fun r hr k => Tr.geq J J J J hr k) (fun hs2_60 => ?_) (fun hs2_60 => ?_)
  ·
    have hs2_6 := of_decide_eq_true hs2_60
    refine G18 ?_
    refine .cond_t J J (G8 ?_)
    refine ⟨_, [], Ad J J, sP, sP, ?_, rfl⟩
    first
      | (unfold Ap Bf vokB; simp_all; done)
      | (have e1 : ¬ V.fPhase = 1 := by omega
         have e2 : ¬ V.fPhase = 2 := by omega
         have e3 : ¬ V.fPhase = 3 := by omega
         unfold Ap Bf vokB; simp_all; done)
      | (unfold Ap Bf vokB; simp_all; omega)
  have hs2_6 := of_decide_eq_false hs2_60
  refine G4 ?_
  refine two (fun r hr k => Tr.gtr J J J J hr k) (fun hs2_110 => ?_) (fun hs2_110 => ?_)
  ·
    have hs2_11 := of_decide_eq_true hs2_110
    refine G13 ?_
    refine .cond_t J J (G8 ?_)
    refine ⟨_, [], Ad J J, sP, sP, ?_, rfl⟩
    first
      | (unfold Ap Bf vokB; simp_all; done)
      | (have e1 : ¬ V.fPhase = 1 := by omega
         have e2 : ¬ V.fPhase = 2 := by omega
         have e3 : ¬ V.fPhase = 3 := by omega
         unfold Ap Bf vokB; simp_all; done)
      | (unfold Ap Bf vokB; simp_all; omega)
  have hs2_11 := of_decide_eq_false hs2_110
  refine G4 ?_
  refine two (fun r hr k => Tr.lss J J J J hr k) (fun hs2_160 => ?_) (fun hs2_160 => ?_)
  ·
    have hs2_16 := of_decide_eq_true hs2_160
    refine G8 ?_
    refine .cond_t J J (G8 ?_)
    refine ⟨_, [], Ad J J, sP, sP, ?_, rfl⟩
    first
      | (unfold Ap Bf vokB; simp_all; done)
      | (have e1 : ¬ V.fPhase = 1 := by omega
         have e2 : ¬ V.fPhase = 2 := by omega
         have e3 : ¬ V.fPhase = 3 := by omega
         unfold Ap Bf vokB; simp_all; done)
      | (unfold Ap Bf vokB; simp_all; omega)
  have hs2_16 := of_decide_eq_false hs2_160
  refine G8 ?_
  refine .condP J (fun hc0 => ?_) (fun hc0 => ?_)
  ·
    refine G8 ?_
    refine ⟨_, [], Ad J J, sP, sP, ?_, rfl⟩
    first
      | (unfold Ap Bf vokB; simp_all; done)
      | (have e1 : ¬ V.fPhase = 1 := by omega
         have e2 : ¬ V.fPhase = 2 := by omega
         have e3 : ¬ V.fPhase = 3 := by omega
         unfold Ap Bf vokB; simp_all; done)
      | (unfold Ap Bf vokB; simp_all; omega)
  refine G7 ?_
  refine two (fun r hr k => Tr.eqi J J J J hr k) (fun hs4_20 => ?_) (fun hs4_20 => ?_)
  ·
    have hs4_2 := of_decide_eq_true hs4_20
    refine G2 ?_
    refine .lN (Aa _) J J J Y50.h J Sz50 Z1 (Vote.row_fValue zA) (Vote.rl_fValue zA) ?_
    refine .lA J J J Y50.h J Sz50 Z0 sP ?_
    refine two (fun r hr k => Tr.eql_bytes J J J J Tryz.eqGuardType50 Y50.h Y5.h Sz5 (by (simp [hV.l_fValue]; done)) sP hr k) (fun hs4_70 => ?_) (fun hs4_70 => ?_)
    ·
      have hs4_7 := of_decide_eq_true hs4_70
      refine G20 ?_
      refine .cond_t J J (G8 ?_)
      refine ⟨_, [], Ad J J, sP, sP, ?_, rfl⟩
      first
        | (unfold Ap Bf vokB; simp_all; done)
        | (have e1 : ¬ V.fPhase = 1 := by omega
           have e2 : ¬ V.fPhase = 2 := by omega
           have e3 : ¬ V.fPhase = 3 := by omega
           unfold Ap Bf vokB; simp_all; done)
        | (unfold Ap Bf vokB; simp_all; omega)
    have hs4_7 := of_decide_eq_false hs4_70
    refine G5 ?_
    refine two (fun r hr k => Tr.gtr J J J J hr k) (fun hs4_130 => ?_) (fun hs4_130 => ?_)
    ·
      have hs4_13 := of_decide_eq_true hs4_130
      refine G14 ?_
      refine .cond_t J J (G8 ?_)
      refine ⟨_, [], Ad J J, sP, sP, ?_, rfl⟩
      first
        | (unfold Ap Bf vokB; simp_all; done)
        | (have e1 : ¬ V.fPhase = 1 := by omega
           have e2 : ¬ V.fPhase = 2 := by omega
           have e3 : ¬ V.fPhase = 3 := by omega
           unfold Ap Bf vokB; simp_all; done)
        | (unfold Ap Bf vokB; simp_all; omega)
    have hs4_13 := of_decide_eq_false hs4_130
    refine G5 ?_
    refine two (fun r hr k => Tr.nei J J J J hr k) (fun hs4_190 => ?_) (fun hs4_190 => ?_)
    ·
      have hs4_19 := nd_t hs4_190
      refine G8 ?_
      refine .condNP J (fun hc1 => ?_) (fun hc1 => ?_)
      ·
        refine G8 ?_
        refine ⟨_, [], Ad J J, sP, sP, ?_, rfl⟩
        first
          | (unfold Ap Bf vokB; simp_all; done)
          | (have e1 : ¬ V.fPhase = 1 := by omega
             have e2 : ¬ V.fPhase = 2 := by omega
             have e3 : ¬ V.fPhase = 3 := by omega
             unfold Ap Bf vokB; simp_all; done)
          | (unfold Ap Bf vokB; simp_all; omega)
      refine G9 ?_
      refine ⟨_, [], Ad J J, sP, sP, ?_, rfl⟩
      first
        | (unfold Ap Bf vokB; simp_all; done)
        | (have e1 : ¬ V.fPhase = 1 := by omega
           have e2 : ¬ V.fPhase = 2 := by omega
           have e3 : ¬ V.fPhase = 3 := by omega
           unfold Ap Bf vokB; simp_all; done)
        | (unfold Ap Bf vokB; simp_all; omega)
    have hs4_19 := nd_f hs4_190
    refine G8 ?_
    refine .cond_f J J (G9 ?_)
    refine ⟨_, [], Ad J J, sP, sP, ?_, rfl⟩
    first
      | (unfold Ap Bf vokB; simp_all; done)
      | (have e1 : ¬ V.fPhase = 1 := by omega
         have e2 : ¬ V.fPhase = 2 := by omega
         have e3 : ¬ V.fPhase = 3 := by omega
         unfold Ap Bf vokB; simp_all; done)
      | (unfold Ap Bf vokB; simp_all; omega)
  have hs4_2 := of_decide_eq_false hs4_20
  refine G16 ?_
  refine two (fun r hr k => Tr.nei J J J J hr k) (fun hs4_190 => ?_) (fun hs4_190 => ?_)
  ·
    have hs4_19 := nd_t hs4_190
    refine G8 ?_
    refine .condNP J (fun hc1 => ?_) (fun hc1 => ?_)
    ·
      refine G8 ?_
      refine ⟨_, [], Ad J J, sP, sP, ?_, rfl⟩
      first
        | (unfold Ap Bf vokB; simp_all; done)
        | (have e1 : ¬ V.fPhase = 1 := by omega
           have e2 : ¬ V.fPhase = 2 := by omega
           have e3 : ¬ V.fPhase = 3 := by omega
           unfold Ap Bf vokB; simp_all; done)
        | (unfold Ap Bf vokB; simp_all; omega)
    refine G9 ?_
    refine ⟨_, [], Ad J J, sP, sP, ?_, rfl⟩
    first
      | (unfold Ap Bf vokB; simp_all; done)
      | (have e1 : ¬ V.fPhase = 1 := by omega
         have e2 : ¬ V.fPhase = 2 := by omega
         have e3 : ¬ V.fPhase = 3 := by omega
         unfold Ap Bf vokB; simp_all; done)
      | (unfold Ap Bf vokB; simp_all; omega)
  have hs4_19 := nd_f hs4_190
  refine G8 ?_
  refine .cond_f J J (G9 ?_)
  refine ⟨_, [], Ad J J, sP, sP, ?_, rfl⟩
  first
    | (unfold Ap Bf vokB; simp_all; done)
    | (have e1 : ¬ V.fPhase = 1 := by omega
       have e2 : ¬ V.fPhase = 2 := by omega
       have e3 : ¬ V.fPhase = 3 := by omega
       unfold Ap Bf vokB; simp_all; done)
    | (unfold Ap Bf vokB; simp_all; omega)
end Go.Proofs.YtdifpjmfabhpiaaGreat
end
