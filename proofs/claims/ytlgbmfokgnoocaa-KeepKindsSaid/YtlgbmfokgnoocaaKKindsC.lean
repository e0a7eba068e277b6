/- headwaterlaw26.KeepKinds returns true at every input, and all that it reads reads behind the call as before. Conditions: none beyond the given statement's own. -/
import Derived.WalkKit
import Derived.Orders
import Derived.Deep.LoopGhost
import Derived.IntWalk
import Derived.Laws.StructEq
import Derived.ArgAppend
import Derived.Deep.AppendSrc
import Derived.Lib.Bytealg
import Derived.Lib.BytesEntry
import Derived.Laws.IdiomStrings
import Derived.WideKeyArr2
import Derived.ProofKit
import Derived.OpenShut
import Derived.Deep.Slices
import Derived.Laws.Pointers
import Derived.Laws.Cover3
import Derived.LaidEqlPtr
import Derived.LoopN
import Derived.RangeFuncLeaves
import Derived.RangeFuncSeq
import Derived.OrdersIn
import Derived.Test.YtlgbmfokgnoocaaRows
import Derived.KernelRfl
import Derived.Laws.Externs
import Derived.Defers
import Derived.ChangeOld
import Derived.Below
import Derived.Test.YtlgbmfokgnoocaaKKindsC4
section
namespace Go.Proofs.Ytlgbmfokgnoocaa
open Go Hw
set_option linter.unusedVariables false
set_option linter.unusedSimpArgs false

def dkz : DKept := ⟨[], [], [], []⟩
/-- one record more -/
noncomputable def keepStep (D : DKept) (r : DRecord) : Option DKept :=
  if r.dKind = 1 then (if (readD r.dData).2 = 0 then some { D with dBlocks := D.dBlocks ++ [(readD r.dData).1] } else none)
  else if r.dKind = 2 then (if (certRd r.dData).2 = 0 then some { D with dCerts := D.dCerts ++ [(certRd r.dData).1] } else none)
  else if r.dKind = 3 then (if (voteRd r.dData).2 = 0 then some { D with dVotes := D.dVotes ++ [(voteRd r.dData).1] } else none)
  else if r.dKind = 4 then (if (cutRd r.dData).2 = 0 then some { D with dCuts := D.dCuts ++ [(cutRd r.dData).1] } else none)
  else none
noncomputable def keepR (ds : List DRecord) : Option DKept := ds.foldl (fun o r => o.bind fun D => keepStep D r) (some dkz)
noncomputable def keepRd (ds : List DRecord) : DKept × Int := match keepR ds with
  | some D => if inOrd D.dCerts = true then (D, 0) else (dkz, 4)
  | none => (dkz, 4)
theorem keepR_nil : keepR [] = some dkz := rfl
theorem keepR_snoc (l : List DRecord) (d : DRecord) : keepR (l ++ [d]) = (keepR l).bind fun D => keepStep D d := by simp [keepR, List.foldl_append]
theorem fold_none (l : List DRecord) : l.foldl (fun o r => o.bind fun D => keepStep D r) none = none := by
  induction l with
  | nil => rfl
  | cons a l ih => exact ih
theorem keepR_none {ds : List DRecord} {j : Nat} (h : keepR (ds.take j) = none) : keepR ds = none := by
  have e : keepR ds = keepR (ds.take j ++ ds.drop j) := by rw [List.take_append_drop]
  rw [e, keepR, List.foldl_append]
  have h' : (ds.take j).foldl (fun o r => o.bind fun D => keepStep D r) (some dkz) = none := h
  rw [h', fold_none]
theorem keepR_step {ds : List DRecord} {k : Nat} {d : DRecord} (h : ds[k]? = some d) {D : DKept} (hD : keepR (ds.take k) = some D) : keepR (ds.take (k + 1)) = keepStep D d := by
  rw [take_snoc h, keepR_snoc, hD]; rfl
theorem keepRd_bad {ds : List DRecord} (h : keepR ds = none) : keepRd ds = (dkz, 4) := by rw [keepRd, h]
theorem keepRd_ord {ds : List DRecord} {D : DKept} (h : keepR ds = some D) (h2 : inOrd D.dCerts = false) : keepRd ds = (dkz, 4) := by simp only [keepRd, h, h2]; rfl
theorem keepRd_ok {ds : List DRecord} {D : DKept} (h : keepR ds = some D) (h2 : inOrd D.dCerts = true) : keepRd ds = (D, 0) := by simp only [keepRd, h, h2]; rfl
/-- what Read returns -/
def KeepRead (ds : List DRecord) (v : Value) (out : List Blk) : Prop := ∃ X : Kept, X.ok ∧ v = .tuple #[agg X.cells, i64 (keepRd ds).2] ∧ ∀ W2, Lies out W2 → KeptIs W2 X (keepRd ds).1
theorem keptz_is (W : World) : KeptIs W Kept.zero dkz := ⟨Kept.zero_ok, ⟨[], SeqIs.none⟩, ⟨[], SeqIs.none⟩, ⟨[], SeqIs.none⟩, ⟨[], SeqIs.none⟩⟩
theorem keep_bad {ds : List DRecord} {out : List Blk} (h : keepRd ds = (dkz, 4)) : KeepRead ds (.tuple #[agg Kept.zero.cells, i64 4]) out :=
  ⟨Kept.zero, Kept.zero_ok, by rw [h], fun W2 _ => by rw [h]; exact keptz_is W2⟩
structure KSt where
  i : Nat
  K : Kept
  D : DKept
  m1 : Nat
  m2 : Nat
  m3 : Nat
  m4 : Nat
  b1 : List Blk
  o1 : List Blk
  r1 : List Block
  b2 : List Blk
  o2 : List Blk
  r2 : List Cert
  b3 : List Blk
  r3 : List Vote
  b4 : List Blk
  o4 : List Blk
  r4 : List Cut
structure KInv (ds : List DRecord) (p : KSt) : Prop where
  fold : keepR (ds.take p.i) = some p.D
  ok : p.K.ok
  q1 : OwnSeq Block.cells 131 BlockIs 31 p.K.fBlocks p.b1 p.o1 p.r1 p.D.dBlocks p.m1
  q2 : OwnSeq Cert.cells 35 CertIs 36 p.K.fCerts p.b2 p.o2 p.r2 p.D.dCerts p.m2
  q3 : OwnSeq Vote.cells 132 VoteIs 38 p.K.fVotes p.b3 [] p.r3 p.D.dVotes p.m3
  q4 : OwnSeq Cut.cells 34 CutIs 33 p.K.fCuts p.b4 p.o4 p.r4 p.D.dCuts p.m4
  le : p.m1 ≤ p.i ∧ p.m2 ≤ p.i ∧ p.m3 ≤ p.i ∧ p.m4 ≤ p.i
def ks0 : KSt := ⟨0, Kept.zero, dkz, 0, 0, 0, 0, [], [], [], [], [], [], [], [], [], [], []⟩
theorem KInv.first (ds : List DRecord) : KInv ds ks0 := ⟨rfl, Kept.zero_ok, OwnSeq.none, OwnSeq.none, OwnSeq.none, OwnSeq.none, ⟨Nat.le_refl _, Nat.le_refl _, Nat.le_refl _, Nat.le_refl _⟩⟩
theorem uniO {A : Prop} {n : Nat} {K K' : Kept} {bl bl2 o out : List Blk} {Q : Prop} (h : (¬ A ∧ out = KB n K :: (bl ++ [])) ∨ (A ∧ out = KB n K' :: (bl2 ++ (o ++ [])) ∧ Q)) : ∃ K2 bl3 o3, out = KB n K2 :: (bl3 ++ (o3 ++ [])) ∧ (A → K2 = K' ∧ bl3 = bl2 ∧ o3 = o ∧ Q) := by
  rcases h with ⟨h, rfl⟩ | ⟨h, rfl, q⟩
  · exact ⟨K, bl, [], by simp, fun a => absurd a h⟩
  · exact ⟨K', bl2, o, rfl, fun _ => ⟨rfl, rfl, rfl, q⟩⟩
theorem uniV {A : Prop} {n : Nat} {K K' : Kept} {bl bl2 out : List Blk} {Q : Prop} (h : (¬ A ∧ out = KB n K :: (bl ++ [])) ∨ (A ∧ out = KB n K' :: (bl2 ++ []) ∧ Q)) : ∃ K2 bl3, out = KB n K2 :: (bl3 ++ []) ∧ (A → K2 = K' ∧ bl3 = bl2 ∧ Q) := by
  rcases h with ⟨h, rfl⟩ | ⟨h, rfl, q⟩
  · exact ⟨K, bl, rfl, fun a => absurd a h⟩
  · exact ⟨K', bl2, rfl, fun _ => ⟨rfl, rfl, q⟩⟩
theorem seesP_lt {W : World} {p : Option Addr} {xs : List UInt8} (hs : SeesP W p (bytesV xs)) (h : 0 < xs.length) {a : Addr} (ha : p = some a) : a.block < W.heap.size := by
  cases xs with
  | nil => simp at h
  | cons x xs =>
    obtain ⟨b, o, e, hc⟩ := hs 0 (u8 x) rfl
    rw [ha] at e
    obtain rfl : a = ⟨b, o, none⟩ := Option.some.inj e
    rcases Nat.lt_or_ge b W.heap.size with h1 | h1
    · exact h1
    · exact absurd hc (by rw [World.cell?]; simp [Array.getElem?_eq_none h1])
theorem take_pre {C : Cx} {hp R bl : List Blk} {w : World} {n : Nat} {K : Kept} {s : Sl} {xs : List UInt8} (h : HRep C hp w) (hl : C.lent = []) (hb : BytesAt C.W0 s xs) (hp' : hp.Perm ((KB n K :: bl) ++ R)) :
    BlkOk w (KB n K) ∧ Lies bl w ∧ SeesP w s.p (bytesV xs) ∧ (0 < s.n → ∀ a, s.p = some a → a.block ∉ n :: bl.map (·.n)) ∧ ∀ b ∈ bl, b.n ≠ n := by
  have hK : KB n K ∈ hp := hp'.mem_iff.2 sP
  have hB : ∀ b ∈ bl, b ∈ hp := fun b hb => hp'.mem_iff.2 (by simp [hb])
  have own : ∀ b ∈ hp, C.W0.heap.size ≤ b.n := fun b hb => by
    rcases h.own b hb with h1 | h1
    · exact h1
    · rw [hl] at h1; cases h1
  have nd := ((hp'.map (·.n)).nodup_iff.1 h.nodup)
  rw [List.cons_append, List.map_cons, List.nodup_cons] at nd
  refine ⟨h.cells _ hK, Lies.of h hB, seesP_ext h hl hb.see, fun h0 a ha hm => ?_, fun b hb e => nd.1 ?_⟩
  · have h1 := seesP_lt hb.see (by rw [hb.len]; exact h0) ha
    rcases List.mem_cons.1 hm with e | hm
    · have := own _ hK
      simp only [KB] at this
      omega
    · obtain ⟨b, hb, e⟩ := List.mem_map.1 hm
      have := own b (hB b hb)
      omega
  · exact List.mem_map.2 ⟨b, List.mem_append_left _ hb, e⟩
theorem KInv.end' {ds : List DRecord} {p : KSt} (h : KInv ds p) (hi : ds.length ≤ p.i) (hs : p.i ≤ 100000) (ho : inOrd p.D.dCerts = true) {W2 : World} (l1 : Lies p.b1 W2) (l2 : Lies p.o1 W2) (l3 : Lies p.b2 W2) (l4 : Lies p.o2 W2) (l5 : Lies p.b3 W2) (l6 : Lies p.b4 W2) (l7 : Lies p.o4 W2) : KeptIs W2 p.K (keepRd ds).1 := by
  have hf := h.fold
  rw [List.take_of_length_le hi] at hf
  rw [keepRd_ok hf ho]
  have := h.le
  exact ⟨h.ok, ⟨_, h.q1.seq l1 l2 oM⟩, ⟨_, h.q2.seq l3 l4 oM⟩, ⟨_, h.q3.seq l5 (fun b hb => (by cases hb)) oM⟩, ⟨_, h.q4.seq l6 l7 oM⟩⟩

def JI (ds : List DRecord) (i : Nat) (pb : Bool × KSt) : Prop := (pb.1 = true → KInv ds pb.2 ∧ pb.2.i = i + 1) ∧ (pb.1 = false → keepR ds = none)
theorem KInv.fail {ds : List DRecord} {p : KSt} {d : DRecord} (h : KInv ds p) (hd : ds[p.i]? = some d) (h1 : d.dKind = 1 → ¬ (readD d.dData).2 = 0) (h2 : d.dKind = 2 → ¬ (certRd d.dData).2 = 0) (h3 : d.dKind = 3 → ¬ (voteRd d.dData).2 = 0) (h4 : d.dKind = 4 → ¬ (cutRd d.dData).2 = 0) : keepR ds = none := by
  refine keepR_none (j := p.i + 1) ?_
  rw [keepR_step hd h.fold, keepStep]
  split
  · rename_i e; rw [if_neg (h1 e)]
  · split
    · rename_i e; rw [if_neg (h2 e)]
    · split
      · rename_i e; rw [if_neg (h3 e)]
      · split
        · rename_i e; rw [if_neg (h4 e)]
        · rfl
theorem kind_of {x y : UInt8} {n : Nat} (h : x = y) (hn : n < 256) (e : (x.toNat : Int) = n) : y = UInt8.ofNat n := by
  subst h
  refine UInt8.toNat_inj.1 ?_
  rw [UInt8.toNat_ofNat', Nat.mod_eq_of_lt oM]; omega
theorem kind_no {x y : UInt8} {n : Nat} (h : x = y) (hn : n < 256) (e : ¬ (x.toNat : Int) = n) : ¬ y = UInt8.ofNat n := fun h2 => by
  subst h
  rw [h2, UInt8.toNat_ofNat', Nat.mod_eq_of_lt oM] at e
  exact e rfl
theorem voteRd_is (xs : List UInt8) (W : World) : VoteIs W (voteRd xs).1 (voteRd xs).1 := ⟨(voteRd_good xs).ok, rfl, (voteRd_good xs).wf⟩
theorem KInv.skip {ds : List DRecord} {p : KSt} {d : DRecord} (h : KInv ds p) (hd : ds[p.i]? = some d) (h1 : ¬ d.dKind = 1) (h2 : ¬ d.dKind = 2) (h3 : ¬ d.dKind = 3) (h4 : ¬ d.dKind = 4) : JI ds p.i (false, p) :=
  ⟨fun e => (by cases e), fun _ => h.fail hd (fun e => absurd e h1) (fun e => absurd e h2) (fun e => absurd e h3) (fun e => absurd e h4)⟩

theorem KInv.j1 {ds : List DRecord} {p : KSt} {d : DRecord} (h : KInv ds p) (hd : ds[p.i]? = some d) (hk : d.dKind = 1) {K2 : Kept} {s2 : Sl} {b3 o3 bl2 o2 : List Blk} {X : Block} (hX : ∀ W2, Lies o2 W2 → BlockIs W2 X (readD d.dData).1) (hlen : X.cells.length = 131)
    (hg : (readD d.dData).2 = 0 → K2 = { p.K with fBlocks := s2 } ∧ b3 = bl2 ∧ o3 = o2 ∧ Hw.Acc s2 bl2 ((p.r1 ++ [X]).map Block.cells).flatten 31 (p.m1 + 1) 131) :
    JI ds p.i (decide ((readD d.dData).2 = 0), { p with i := p.i + 1, K := K2, D := { p.D with dBlocks := p.D.dBlocks ++ [(readD d.dData).1] }, m1 := p.m1 + 1, b1 := b3, o1 := o3 ++ p.o1, r1 := p.r1 ++ [X] }) := by
  refine ⟨fun e => ?_, fun e => h.fail hd (fun _ => of_decide_eq_false e) (fun e => absurd (hk.symm.trans e) dE) (fun e => absurd (hk.symm.trans e) dE) (fun e => absurd (hk.symm.trans e) dE)⟩
  have hz : (readD d.dData).2 = 0 := of_decide_eq_true e
  obtain ⟨rfl, rfl, rfl, ha⟩ := hg hz
  have hle := h.le
  have hs : OwnSeq Block.cells 131 BlockIs 31 s2 b3 (o3 ++ p.o1) (p.r1 ++ [X]) (p.D.dBlocks ++ [(readD d.dData).1]) (p.m1 + 1) := h.q1.snoc (by simpa using ha) hlen hX
  refine ⟨⟨?_, ⟨trivial⟩, hs, h.q2, h.q3, h.q4, by simp only []; omega⟩, rfl⟩
  show keepR (ds.take (p.i + 1)) = _
  rw [keepR_step hd h.fold, keepStep, if_pos hk, if_pos hz]
theorem KInv.j2 {ds : List DRecord} {p : KSt} {d : DRecord} (h : KInv ds p) (hd : ds[p.i]? = some d) (hk : d.dKind = 2) {K2 : Kept} {s2 : Sl} {b3 o3 bl2 o2 : List Blk} {X : Cert} (hX : ∀ W2, Lies o2 W2 → CertIs W2 X (certRd d.dData).1) (hlen : X.cells.length = 35)
    (hg : (certRd d.dData).2 = 0 → K2 = { p.K with fCerts := s2 } ∧ b3 = bl2 ∧ o3 = o2 ∧ Hw.Acc s2 bl2 ((p.r2 ++ [X]).map Cert.cells).flatten 36 (p.m2 + 1) 35) :
    JI ds p.i (decide ((certRd d.dData).2 = 0), { p with i := p.i + 1, K := K2, D := { p.D with dCerts := p.D.dCerts ++ [(certRd d.dData).1] }, m2 := p.m2 + 1, b2 := b3, o2 := o3 ++ p.o2, r2 := p.r2 ++ [X] }) := by
  refine ⟨fun e => ?_, fun e => h.fail hd (fun e => absurd (hk.symm.trans e) dE) (fun _ => of_decide_eq_false e) (fun e => absurd (hk.symm.trans e) dE) (fun e => absurd (hk.symm.trans e) dE)⟩
  have hz : (certRd d.dData).2 = 0 := of_decide_eq_true e
  obtain ⟨rfl, rfl, rfl, ha⟩ := hg hz
  have hle := h.le
  have hs : OwnSeq Cert.cells 35 CertIs 36 s2 b3 (o3 ++ p.o2) (p.r2 ++ [X]) (p.D.dCerts ++ [(certRd d.dData).1]) (p.m2 + 1) := h.q2.snoc (by simpa using ha) hlen hX
  refine ⟨⟨?_, ⟨trivial⟩, h.q1, hs, h.q3, h.q4, by simp only []; omega⟩, rfl⟩
  show keepR (ds.take (p.i + 1)) = _
  rw [keepR_step hd h.fold, keepStep, if_neg (by rw [hk]; decide), if_pos hk, if_pos hz]
theorem KInv.j3 {ds : List DRecord} {p : KSt} {d : DRecord} (h : KInv ds p) (hd : ds[p.i]? = some d) (hk : d.dKind = 3) {K2 : Kept} {s2 : Sl} {b3 bl2 : List Blk} {X : Vote} (hX : ∀ W2, Lies [] W2 → VoteIs W2 X (voteRd d.dData).1) (hlen : X.cells.length = 132)
    (hg : (voteRd d.dData).2 = 0 → K2 = { p.K with fVotes := s2 } ∧ b3 = bl2 ∧ Hw.Acc s2 bl2 ((p.r3 ++ [X]).map Vote.cells).flatten 38 (p.m3 + 1) 132) :
    JI ds p.i (decide ((voteRd d.dData).2 = 0), { p with i := p.i + 1, K := K2, D := { p.D with dVotes := p.D.dVotes ++ [(voteRd d.dData).1] }, m3 := p.m3 + 1, b3 := b3, r3 := p.r3 ++ [X] }) := by
  refine ⟨fun e => ?_, fun e => h.fail hd (fun e => absurd (hk.symm.trans e) dE) (fun e => absurd (hk.symm.trans e) dE) (fun _ => of_decide_eq_false e) (fun e => absurd (hk.symm.trans e) dE)⟩
  have hz : (voteRd d.dData).2 = 0 := of_decide_eq_true e
  obtain ⟨rfl, rfl, ha⟩ := hg hz
  have hle := h.le
  have hs : OwnSeq Vote.cells 132 VoteIs 38 s2 b3 ([] ++ []) (p.r3 ++ [X]) (p.D.dVotes ++ [(voteRd d.dData).1]) (p.m3 + 1) := h.q3.snoc (by simpa using ha) hlen hX
  refine ⟨⟨?_, ⟨trivial⟩, h.q1, h.q2, hs, h.q4, by simp only []; omega⟩, rfl⟩
  show keepR (ds.take (p.i + 1)) = _
  rw [keepR_step hd h.fold, keepStep, if_neg (by rw [hk]; decide), if_neg (by rw [hk]; decide), if_pos hk, if_pos hz]
theorem KInv.j4 {ds : List DRecord} {p : KSt} {d : DRecord} (h : KInv ds p) (hd : ds[p.i]? = some d) (hk : d.dKind = 4) {K2 : Kept} {s2 : Sl} {b3 o3 bl2 o2 : List Blk} {X : Cut} (hX : ∀ W2, Lies o2 W2 → CutIs W2 X (cutRd d.dData).1) (hlen : X.cells.length = 34)
    (hg : (cutRd d.dData).2 = 0 → K2 = { p.K with fCuts := s2 } ∧ b3 = bl2 ∧ o3 = o2 ∧ Hw.Acc s2 bl2 ((p.r4 ++ [X]).map Cut.cells).flatten 33 (p.m4 + 1) 34) :
    JI ds p.i (decide ((cutRd d.dData).2 = 0), { p with i := p.i + 1, K := K2, D := { p.D with dCuts := p.D.dCuts ++ [(cutRd d.dData).1] }, m4 := p.m4 + 1, b4 := b3, o4 := o3 ++ p.o4, r4 := p.r4 ++ [X] }) := by
  refine ⟨fun e => ?_, fun e => h.fail hd (fun e => absurd (hk.symm.trans e) dE) (fun e => absurd (hk.symm.trans e) dE) (fun e => absurd (hk.symm.trans e) dE) (fun _ => of_decide_eq_false e)⟩
  have hz : (cutRd d.dData).2 = 0 := of_decide_eq_true e
  obtain ⟨rfl, rfl, rfl, ha⟩ := hg hz
  have hle := h.le
  have hs : OwnSeq Cut.cells 34 CutIs 33 s2 b3 (o3 ++ p.o4) (p.r4 ++ [X]) (p.D.dCuts ++ [(cutRd d.dData).1]) (p.m4 + 1) := h.q4.snoc (by simpa using ha) hlen hX
  refine ⟨⟨?_, ⟨trivial⟩, h.q1, h.q2, h.q3, hs, by simp only []; omega⟩, rfl⟩
  show keepR (ds.take (p.i + 1)) = _
  rw [keepR_step hd h.fold, keepStep, if_neg (by rw [hk]; decide), if_neg (by rw [hk]; decide), if_neg (by rw [hk]; decide), if_pos hk, if_pos hz]

set_option maxRecDepth 100000 in
set_option maxHeartbeats 8000000 in
theorem keep_read (s : Sl) (ds : List DRecord) (hsn : s.n ≤ 1000) (hsm : ∀ d ∈ ds, d.dData.length ≤ 90000) : Meets Try.prog 14 [s.v] [] (fun W => RecordsAt W s ds) (KeepRead ds) := by
  intro W hW
  obtain ⟨rs, hs⟩ := hW
  have hnd := hs.nd
  refine calls_of (hp0 := []) Try.func14 rfl 50 Try.ntmps14 rfl (HRep.nil _) ?_
  refine Sat.seq ?_
  refine Sat.region ?_
  refine Tr.alloc (cs := Kept.zero.cells) rfl Kept.zr rfl ?_
  intro n2 hn2 hf2
  refine Tr.assign rfl rfl rfl ?_
  refine Tr.nil ?_
  refine at_n ?_
  refine Sat.seq ?_
  refine Sat.region ?_
  refine Tr.alloc (cs := Kept.zero.cells) rfl Kept.zr rfl ?_
  intro n4 hn4 hf4
  refine Tr.nil ?_
  refine at_n ?_
  refine Sat.seq ?_
  refine Sat.seq ?_
  refine Sat.region ?_
  refine Tr.move rfl rfl rfl ?_
  refine Tr.lenSl rfl rfl rfl Try.underlying60 ?_
  refine Tr.move rfl rfl rfl ?_
  refine Tr.nil ?_
  refine at_n ?_
  refine Sat.block ?_
  refine Sat.loop (ι := KSt) (fun p => ⟨[(2, ptr n2 0), (4, ptr n4 0), (8, s.v), (9, i64 (s.n : Int)), (10, i64 (p.i : Int))], (⟨n2, Kept.zero.cells, 57, 4⟩ :: (KB n4 p.K :: (p.b1 ++ (p.o1 ++ (p.b2 ++ (p.o2 ++ (p.b3 ++ (p.b4 ++ (p.o4 ++ [])))))))))⟩) (fun p => KInv ds p ∧ p.i ≤ s.n) (fun p => s.n - p.i) (ks0) ?_ ?_ ?_
  · exact ⟨KInv.first ds, Nat.zero_le _⟩
  · exact weak_perm (wk1 rfl (wk1 rfl (wk1 rfl (wk1 rfl (wk1 rfl wk0))))) (pm_cons rM (pm_cons rM (pm_none (pm_none (pm_none (pm_none (pm_none (pm_none (pm_none pm_nil)))))))))
  ·
    rintro p ⟨hi, hile⟩
    obtain ⟨i, K, D, m1, m2, m3, m4, b1, o1, r1, b2, o2, r2, b3, r3, b4, o4, r4⟩ := p
    have hle := hi.le
    dsimp only at hile hle ⊢
    refine Sat.seq ?_
    refine Sat.region ?_
    refine Tr.lss rfl rfl rfl rfl rfl ?_
    refine Tr.nil ?_
    refine at_n ?_
    refine Sat.seq ?_
    first
      | refine Sat.condP rfl (fun hc0 => ?_) (fun hc0 => ?_)
      | refine Sat.condNP rfl (fun hc0 => ?_) (fun hc0 => ?_)
      | refine Sat.cond rfl (fun hc0 => ?_) (fun hc0 => ?_)
    ·
      have hk0 : i < s.n := by omega
      obtain ⟨b, o, r, d, hsp, hr, hd, his, hlen, hsee⟩ := hs.at dE hk0
      refine Sat.skip ?_
      refine at_n ?_
      refine Sat.seq ?_
      refine Sat.block ?_
      refine Sat.seq ?_
      refine Sat.region ?_
      refine Tr.idxSlP 2 rfl rfl rfl hsp rfl Try.underlying60 Sz47 i rfl oM ?_
      refine Tr.loadEN r.cells rfl rfl rfl Try.underlying47 rfl Sz47 sP hlen hsee ?_
      refine Tr.alloc (cs := Record.zero.cells) rfl Record.zr rfl ?_
      intro n6 hn6 hf6
      refine Tr.storeAll rfl rfl rfl rfl (Record.isCell (by first | exact oK  | exact his.ok | exact hi.ok)) Sz47 (Record.length (by first | exact oK  | exact his.ok | exact hi.ok)) mM (Record.length (by first | exact oK  | exact his.ok | exact hi.ok)) uU ?_
      refine Tr.nil ?_
      refine at_n ?_
      refine Sat.seq ?_
      refine Sat.region ?_
      refine Tr.assign rfl rfl rfl ?_
      refine Tr.nil ?_
      refine at_n ?_
      refine Sat.join (ι := Bool × KSt) (fun pj => ⟨[(2, ptr n2 0), (4, ptr n4 0), (7, .bool pj.1), (8, s.v), (9, i64 (s.n : Int)), (10, i64 (i : Int))], (⟨n2, Kept.zero.cells, 57, 4⟩ :: (KB n4 pj.2.K :: (pj.2.b1 ++ (pj.2.o1 ++ (pj.2.b2 ++ (pj.2.o2 ++ (pj.2.b3 ++ (pj.2.b4 ++ (pj.2.o4 ++ [])))))))))⟩) (fun pj => JI ds i pj) ?_ ?_
      ·
        refine Sat.seq ?_
        refine Sat.region ?_
        refine Tr.fld rfl rfl rfl Try.underlying47 rfl Sz5 dE _ rfl ?_
        refine Tr.load1 rfl rfl rfl Try.underlying5 rfl mM (by first | exact Record.get_fKind (by first | exact oK  | exact his.ok | exact hi.ok) | exact vL) ?_
        refine Tr.nil ?_
        refine at_n ?_
        refine Sat.block ?_
        refine Sat.seq ?_
        refine Sat.region ?_
        refine Tr.eqi rfl rfl rfl rfl rfl ?_
        refine Tr.assign rfl rfl rfl ?_
        refine Tr.nil ?_
        refine at_n ?_
        first
          | refine Sat.condP rfl (fun hc1 => ?_) (fun hc1 => ?_)
          | refine Sat.condNP rfl (fun hc1 => ?_) (fun hc1 => ?_)
          | refine Sat.cond rfl (fun hc1 => ?_) (fun hc1 => ?_)
        ·
          have hk1 : d.dKind = 1 := kind_of (n := 1) his.fKind dE hc1
          refine Sat.region ?_
          refine Tr.fld rfl rfl rfl Try.underlying57 rfl Sz41 dE _ rfl ?_
          refine Tr.fld rfl rfl rfl Try.underlying47 rfl Sz27 dE _ rfl ?_
          refine Tr.load1 rfl rfl rfl Try.underlying27 rfl mM (by first | exact Record.get_fData (by first | exact oK  | exact his.ok | exact hi.ok) | exact vL) ?_
          refine Tr.callL (L := KB n4 K :: b1) rfl rfl rfl rfl rfl Body26 (take_block n4 K hi.ok b1 r1 m1 hi.q1.acc oM r.fData.p r.fData.n r.fData.c d.dData his.fData.len (fun e => by have := his.fData.nil e; have := his.fData.cap; omega) (by rw [← his.fData.len]; exact hsm d (List.mem_of_getElem? hd))) (pm_cons rM sG) (lent_ok rfl) (fun w h => take_pre h rfl his.fData (pm_cons rM sG)) ?_
          rintro v21 out21 ⟨s21, bl21, o21, X21, rfl, okX, hX, hor⟩
          obtain ⟨K21, b21, p21, rfl, hgd⟩ := uniO hor
          simp only [List.cons_append, List.append_assoc, List.nil_append]
          refine Tr.assign rfl rfl rfl ?_
          refine Tr.nil ?_
          refine bl_n ?_
          refine at_n ?_
          first
            | exact ⟨(decide ((readD d.dData).2 = 0), ⟨i + 1, K21, { D with dBlocks := D.dBlocks ++ [(readD d.dData).1] }, m1 + 1, m2, m3, m4, b21, p21 ++ o1, r1 ++ [X21], b2, o2, r2, b3, r3, b4, o4, r4⟩), hi.j1 hd hk1 hX (Block.length okX) hgd, weak_perm (wk1 rfl (wk1 rfl (wk1 rfl (wk1 rfl (wk1 rfl (wk1 rfl wk0)))))) (pm_cons rM (pm_cons rM (pm_seg sG (pm_two (pm_seg sG (pm_seg sG (pm_seg sG (pm_seg sG (pm_seg sG (pm_seg sG (pm_seg sG pm_nil)))))))))))⟩
            | exact ⟨(decide ((certRd d.dData).2 = 0), ⟨i + 1, K27, { D with dCerts := D.dCerts ++ [(certRd d.dData).1] }, m1, m2 + 1, m3, m4, b1, o1, r1, b27, p27 ++ o2, r2 ++ [X27], b3, r3, b4, o4, r4⟩), hi.j2 hd hk2 hX (Cert.length okX) hgd, weak_perm (wk1 rfl (wk1 rfl (wk1 rfl (wk1 rfl (wk1 rfl (wk1 rfl wk0)))))) (pm_cons rM (pm_cons rM (pm_seg sG (pm_seg sG (pm_seg sG (pm_two (pm_seg sG (pm_seg sG (pm_seg sG (pm_seg sG (pm_seg sG pm_nil)))))))))))⟩
            | exact ⟨(decide ((voteRd d.dData).2 = 0), ⟨i + 1, K33, { D with dVotes := D.dVotes ++ [(voteRd d.dData).1] }, m1, m2, m3 + 1, m4, b1, o1, r1, b2, o2, r2, b33, r3 ++ [(voteRd d.dData).1], b4, o4, r4⟩), hi.j3 hd hk3 (fun W2 _ => voteRd_is _ W2) (Vote.length (voteRd_vok _)) hgd, weak_perm (wk1 rfl (wk1 rfl (wk1 rfl (wk1 rfl (wk1 rfl (wk1 rfl wk0)))))) (pm_cons rM (pm_cons rM (pm_seg sG (pm_seg sG (pm_seg sG (pm_seg sG (pm_seg sG (pm_seg sG (pm_seg sG pm_nil)))))))))⟩
            | exact ⟨(decide ((cutRd d.dData).2 = 0), ⟨i + 1, K39, { D with dCuts := D.dCuts ++ [(cutRd d.dData).1] }, m1, m2, m3, m4 + 1, b1, o1, r1, b2, o2, r2, b3, r3, b39, p39 ++ o4, r4 ++ [X39]⟩), hi.j4 hd hk4 hX (Cut.length okX) hgd, weak_perm (wk1 rfl (wk1 rfl (wk1 rfl (wk1 rfl (wk1 rfl (wk1 rfl wk0)))))) (pm_cons rM (pm_cons rM (pm_seg sG (pm_seg sG (pm_seg sG (pm_seg sG (pm_seg sG (pm_seg sG (pm_two (pm_seg sG (pm_seg sG pm_nil)))))))))))⟩
            | exact ⟨(false, ⟨i, K, D, m1, m2, m3, m4, b1, o1, r1, b2, o2, r2, b3, r3, b4, o4, r4⟩), hi.skip hd hn1 hn2 hn3 hn4, weak_perm (wk1 rfl (wk1 rfl (wk1 rfl (wk1 rfl (wk1 rfl (wk1 rfl wk0)))))) (pm_cons rM (pm_cons rM (pm_seg sG (pm_seg sG (pm_seg sG (pm_seg sG (pm_seg sG (pm_seg sG (pm_seg sG pm_nil)))))))))⟩
        ·
          have hn1 : ¬ d.dKind = 1 := kind_no (n := 1) his.fKind dE hc1
          refine Sat.seq ?_
          refine Sat.region ?_
          refine Tr.eqi rfl rfl rfl rfl rfl ?_
          refine Tr.assign rfl rfl rfl ?_
          refine Tr.nil ?_
          refine at_n ?_
          first
            | refine Sat.condP rfl (fun hc2 => ?_) (fun hc2 => ?_)
            | refine Sat.condNP rfl (fun hc2 => ?_) (fun hc2 => ?_)
            | refine Sat.cond rfl (fun hc2 => ?_) (fun hc2 => ?_)
          ·
            have hk2 : d.dKind = 2 := kind_of (n := 2) his.fKind dE hc2
            refine Sat.region ?_
            refine Tr.fld rfl rfl rfl Try.underlying57 rfl Sz43 dE _ rfl ?_
            refine Tr.fld rfl rfl rfl Try.underlying47 rfl Sz27 dE _ rfl ?_
            refine Tr.load1 rfl rfl rfl Try.underlying27 rfl mM (by first | exact Record.get_fData (by first | exact oK  | exact his.ok | exact hi.ok) | exact vL) ?_
            refine Tr.callL (L := KB n4 K :: b2) rfl rfl rfl rfl rfl Body28 (take_cert n4 K hi.ok b2 r2 m2 hi.q2.acc oM r.fData.p r.fData.n r.fData.c d.dData his.fData.len (fun e => by have := his.fData.nil e; have := his.fData.cap; omega) (by rw [← his.fData.len]; exact hsm d (List.mem_of_getElem? hd))) (pm_cons rM sG) (lent_ok rfl) (fun w h => take_pre h rfl his.fData (pm_cons rM sG)) ?_
            rintro v27 out27 ⟨s27, bl27, o27, X27, rfl, okX, hX, hor⟩
            obtain ⟨K27, b27, p27, rfl, hgd⟩ := uniO hor
            simp only [List.cons_append, List.append_assoc, List.nil_append]
            refine Tr.assign rfl rfl rfl ?_
            refine Tr.nil ?_
            refine bl_n ?_
            refine at_n ?_
            first
              | exact ⟨(decide ((readD d.dData).2 = 0), ⟨i + 1, K21, { D with dBlocks := D.dBlocks ++ [(readD d.dData).1] }, m1 + 1, m2, m3, m4, b21, p21 ++ o1, r1 ++ [X21], b2, o2, r2, b3, r3, b4, o4, r4⟩), hi.j1 hd hk1 hX (Block.length okX) hgd, weak_perm (wk1 rfl (wk1 rfl (wk1 rfl (wk1 rfl (wk1 rfl (wk1 rfl wk0)))))) (pm_cons rM (pm_cons rM (pm_seg sG (pm_two (pm_seg sG (pm_seg sG (pm_seg sG (pm_seg sG (pm_seg sG (pm_seg sG (pm_seg sG pm_nil)))))))))))⟩
              | exact ⟨(decide ((certRd d.dData).2 = 0), ⟨i + 1, K27, { D with dCerts := D.dCerts ++ [(certRd d.dData).1] }, m1, m2 + 1, m3, m4, b1, o1, r1, b27, p27 ++ o2, r2 ++ [X27], b3, r3, b4, o4, r4⟩), hi.j2 hd hk2 hX (Cert.length okX) hgd, weak_perm (wk1 rfl (wk1 rfl (wk1 rfl (wk1 rfl (wk1 rfl (wk1 rfl wk0)))))) (pm_cons rM (pm_cons rM (pm_seg sG (pm_seg sG (pm_seg sG (pm_two (pm_seg sG (pm_seg sG (pm_seg sG (pm_seg sG (pm_seg sG pm_nil)))))))))))⟩
              | exact ⟨(decide ((voteRd d.dData).2 = 0), ⟨i + 1, K33, { D with dVotes := D.dVotes ++ [(voteRd d.dData).1] }, m1, m2, m3 + 1, m4, b1, o1, r1, b2, o2, r2, b33, r3 ++ [(voteRd d.dData).1], b4, o4, r4⟩), hi.j3 hd hk3 (fun W2 _ => voteRd_is _ W2) (Vote.length (voteRd_vok _)) hgd, weak_perm (wk1 rfl (wk1 rfl (wk1 rfl (wk1 rfl (wk1 rfl (wk1 rfl wk0)))))) (pm_cons rM (pm_cons rM (pm_seg sG (pm_seg sG (pm_seg sG (pm_seg sG (pm_seg sG (pm_seg sG (pm_seg sG pm_nil)))))))))⟩
              | exact ⟨(decide ((cutRd d.dData).2 = 0), ⟨i + 1, K39, { D with dCuts := D.dCuts ++ [(cutRd d.dData).1] }, m1, m2, m3, m4 + 1, b1, o1, r1, b2, o2, r2, b3, r3, b39, p39 ++ o4, r4 ++ [X39]⟩), hi.j4 hd hk4 hX (Cut.length okX) hgd, weak_perm (wk1 rfl (wk1 rfl (wk1 rfl (wk1 rfl (wk1 rfl (wk1 rfl wk0)))))) (pm_cons rM (pm_cons rM (pm_seg sG (pm_seg sG (pm_seg sG (pm_seg sG (pm_seg sG (pm_seg sG (pm_two (pm_seg sG (pm_seg sG pm_nil)))))))))))⟩
              | exact ⟨(false, ⟨i, K, D, m1, m2, m3, m4, b1, o1, r1, b2, o2, r2, b3, r3, b4, o4, r4⟩), hi.skip hd hn1 hn2 hn3 hn4, weak_perm (wk1 rfl (wk1 rfl (wk1 rfl (wk1 rfl (wk1 rfl (wk1 rfl wk0)))))) (pm_cons rM (pm_cons rM (pm_seg sG (pm_seg sG (pm_seg sG (pm_seg sG (pm_seg sG (pm_seg sG (pm_seg sG pm_nil)))))))))⟩
          ·
            have hn2 : ¬ d.dKind = 2 := kind_no (n := 2) his.fKind dE hc2
            refine Sat.seq ?_
            refine Sat.region ?_
            refine Tr.eqi rfl rfl rfl rfl rfl ?_
            refine Tr.assign rfl rfl rfl ?_
            refine Tr.nil ?_
            refine at_n ?_
            first
              | refine Sat.condP rfl (fun hc3 => ?_) (fun hc3 => ?_)
              | refine Sat.condNP rfl (fun hc3 => ?_) (fun hc3 => ?_)
              | refine Sat.cond rfl (fun hc3 => ?_) (fun hc3 => ?_)
            ·
              have hk3 : d.dKind = 3 := kind_of (n := 3) his.fKind dE hc3
              refine Sat.region ?_
              refine Tr.fld rfl rfl rfl Try.underlying57 rfl Sz34 dE _ rfl ?_
              refine Tr.fld rfl rfl rfl Try.underlying47 rfl Sz27 dE _ rfl ?_
              refine Tr.load1 rfl rfl rfl Try.underlying27 rfl mM (by first | exact Record.get_fData (by first | exact oK  | exact his.ok | exact hi.ok) | exact vL) ?_
              refine Tr.callL (L := KB n4 K :: b3) rfl rfl rfl rfl rfl Body30 (take_vote n4 K hi.ok b3 r3 m3 hi.q3.acc oM r.fData.p r.fData.n r.fData.c d.dData his.fData.len (fun e => by have := his.fData.nil e; have := his.fData.cap; omega) (by rw [← his.fData.len]; exact hsm d (List.mem_of_getElem? hd))) (pm_cons rM sG) (lent_ok rfl) (fun w h => take_pre h rfl his.fData (pm_cons rM sG)) ?_
              rintro v33 out33 ⟨s33, bl33, rfl, hor⟩
              obtain ⟨K33, b33, rfl, hgd⟩ := uniV hor
              simp only [List.cons_append, List.append_assoc, List.nil_append]
              refine Tr.assign rfl rfl rfl ?_
              refine Tr.nil ?_
              refine bl_n ?_
              refine at_n ?_
              first
                | exact ⟨(decide ((readD d.dData).2 = 0), ⟨i + 1, K21, { D with dBlocks := D.dBlocks ++ [(readD d.dData).1] }, m1 + 1, m2, m3, m4, b21, p21 ++ o1, r1 ++ [X21], b2, o2, r2, b3, r3, b4, o4, r4⟩), hi.j1 hd hk1 hX (Block.length okX) hgd, weak_perm (wk1 rfl (wk1 rfl (wk1 rfl (wk1 rfl (wk1 rfl (wk1 rfl wk0)))))) (pm_cons rM (pm_cons rM (pm_seg sG (pm_two (pm_seg sG (pm_seg sG (pm_seg sG (pm_seg sG (pm_seg sG (pm_seg sG (pm_seg sG pm_nil)))))))))))⟩
                | exact ⟨(decide ((certRd d.dData).2 = 0), ⟨i + 1, K27, { D with dCerts := D.dCerts ++ [(certRd d.dData).1] }, m1, m2 + 1, m3, m4, b1, o1, r1, b27, p27 ++ o2, r2 ++ [X27], b3, r3, b4, o4, r4⟩), hi.j2 hd hk2 hX (Cert.length okX) hgd, weak_perm (wk1 rfl (wk1 rfl (wk1 rfl (wk1 rfl (wk1 rfl (wk1 rfl wk0)))))) (pm_cons rM (pm_cons rM (pm_seg sG (pm_seg sG (pm_seg sG (pm_two (pm_seg sG (pm_seg sG (pm_seg sG (pm_seg sG (pm_seg sG pm_nil)))))))))))⟩
                | exact ⟨(decide ((voteRd d.dData).2 = 0), ⟨i + 1, K33, { D with dVotes := D.dVotes ++ [(voteRd d.dData).1] }, m1, m2, m3 + 1, m4, b1, o1, r1, b2, o2, r2, b33, r3 ++ [(voteRd d.dData).1], b4, o4, r4⟩), hi.j3 hd hk3 (fun W2 _ => voteRd_is _ W2) (Vote.length (voteRd_vok _)) hgd, weak_perm (wk1 rfl (wk1 rfl (wk1 rfl (wk1 rfl (wk1 rfl (wk1 rfl wk0)))))) (pm_cons rM (pm_cons rM (pm_seg sG (pm_seg sG (pm_seg sG (pm_seg sG (pm_seg sG (pm_seg sG (pm_seg sG pm_nil)))))))))⟩
                | exact ⟨(decide ((cutRd d.dData).2 = 0), ⟨i + 1, K39, { D with dCuts := D.dCuts ++ [(cutRd d.dData).1] }, m1, m2, m3, m4 + 1, b1, o1, r1, b2, o2, r2, b3, r3, b39, p39 ++ o4, r4 ++ [X39]⟩), hi.j4 hd hk4 hX (Cut.length okX) hgd, weak_perm (wk1 rfl (wk1 rfl (wk1 rfl (wk1 rfl (wk1 rfl (wk1 rfl wk0)))))) (pm_cons rM (pm_cons rM (pm_seg sG (pm_seg sG (pm_seg sG (pm_seg sG (pm_seg sG (pm_seg sG (pm_two (pm_seg sG (pm_seg sG pm_nil)))))))))))⟩
                | exact ⟨(false, ⟨i, K, D, m1, m2, m3, m4, b1, o1, r1, b2, o2, r2, b3, r3, b4, o4, r4⟩), hi.skip hd hn1 hn2 hn3 hn4, weak_perm (wk1 rfl (wk1 rfl (wk1 rfl (wk1 rfl (wk1 rfl (wk1 rfl wk0)))))) (pm_cons rM (pm_cons rM (pm_seg sG (pm_seg sG (pm_seg sG (pm_seg sG (pm_seg sG (pm_seg sG (pm_seg sG pm_nil)))))))))⟩
            ·
              have hn3 : ¬ d.dKind = 3 := kind_no (n := 3) his.fKind dE hc3
              refine Sat.seq ?_
              refine Sat.region ?_
              refine Tr.eqi rfl rfl rfl rfl rfl ?_
              refine Tr.assign rfl rfl rfl ?_
              refine Tr.nil ?_
              refine at_n ?_
              first
                | refine Sat.condP rfl (fun hc4 => ?_) (fun hc4 => ?_)
                | refine Sat.condNP rfl (fun hc4 => ?_) (fun hc4 => ?_)
                | refine Sat.cond rfl (fun hc4 => ?_) (fun hc4 => ?_)
              ·
                have hk4 : d.dKind = 4 := kind_of (n := 4) his.fKind dE hc4
                refine Sat.region ?_
                refine Tr.fld rfl rfl rfl Try.underlying57 rfl Sz45 dE _ rfl ?_
                refine Tr.fld rfl rfl rfl Try.underlying47 rfl Sz27 dE _ rfl ?_
                refine Tr.load1 rfl rfl rfl Try.underlying27 rfl mM (by first | exact Record.get_fData (by first | exact oK  | exact his.ok | exact hi.ok) | exact vL) ?_
                refine Tr.callL (L := KB n4 K :: b4) rfl rfl rfl rfl rfl Body32 (take_cut n4 K hi.ok b4 r4 m4 hi.q4.acc oM r.fData.p r.fData.n r.fData.c d.dData his.fData.len (fun e => by have := his.fData.nil e; have := his.fData.cap; omega) (by rw [← his.fData.len]; exact hsm d (List.mem_of_getElem? hd))) (pm_cons rM sG) (lent_ok rfl) (fun w h => take_pre h rfl his.fData (pm_cons rM sG)) ?_
                rintro v39 out39 ⟨s39, bl39, o39, X39, rfl, okX, hX, hor⟩
                obtain ⟨K39, b39, p39, rfl, hgd⟩ := uniO hor
                simp only [List.cons_append, List.append_assoc, List.nil_append]
                refine Tr.assign rfl rfl rfl ?_
                refine Tr.nil ?_
                refine bl_n ?_
                refine at_n ?_
                first
                  | exact ⟨(decide ((readD d.dData).2 = 0), ⟨i + 1, K21, { D with dBlocks := D.dBlocks ++ [(readD d.dData).1] }, m1 + 1, m2, m3, m4, b21, p21 ++ o1, r1 ++ [X21], b2, o2, r2, b3, r3, b4, o4, r4⟩), hi.j1 hd hk1 hX (Block.length okX) hgd, weak_perm (wk1 rfl (wk1 rfl (wk1 rfl (wk1 rfl (wk1 rfl (wk1 rfl wk0)))))) (pm_cons rM (pm_cons rM (pm_seg sG (pm_two (pm_seg sG (pm_seg sG (pm_seg sG (pm_seg sG (pm_seg sG (pm_seg sG (pm_seg sG pm_nil)))))))))))⟩
                  | exact ⟨(decide ((certRd d.dData).2 = 0), ⟨i + 1, K27, { D with dCerts := D.dCerts ++ [(certRd d.dData).1] }, m1, m2 + 1, m3, m4, b1, o1, r1, b27, p27 ++ o2, r2 ++ [X27], b3, r3, b4, o4, r4⟩), hi.j2 hd hk2 hX (Cert.length okX) hgd, weak_perm (wk1 rfl (wk1 rfl (wk1 rfl (wk1 rfl (wk1 rfl (wk1 rfl wk0)))))) (pm_cons rM (pm_cons rM (pm_seg sG (pm_seg sG (pm_seg sG (pm_two (pm_seg sG (pm_seg sG (pm_seg sG (pm_seg sG (pm_seg sG pm_nil)))))))))))⟩
                  | exact ⟨(decide ((voteRd d.dData).2 = 0), ⟨i + 1, K33, { D with dVotes := D.dVotes ++ [(voteRd d.dData).1] }, m1, m2, m3 + 1, m4, b1, o1, r1, b2, o2, r2, b33, r3 ++ [(voteRd d.dData).1], b4, o4, r4⟩), hi.j3 hd hk3 (fun W2 _ => voteRd_is _ W2) (Vote.length (voteRd_vok _)) hgd, weak_perm (wk1 rfl (wk1 rfl (wk1 rfl (wk1 rfl (wk1 rfl (wk1 rfl wk0)))))) (pm_cons rM (pm_cons rM (pm_seg sG (pm_seg sG (pm_seg sG (pm_seg sG (pm_seg sG (pm_seg sG (pm_seg sG pm_nil)))))))))⟩
                  | exact ⟨(decide ((cutRd d.dData).2 = 0), ⟨i + 1, K39, { D with dCuts := D.dCuts ++ [(cutRd d.dData).1] }, m1, m2, m3, m4 + 1, b1, o1, r1, b2, o2, r2, b3, r3, b39, p39 ++ o4, r4 ++ [X39]⟩), hi.j4 hd hk4 hX (Cut.length okX) hgd, weak_perm (wk1 rfl (wk1 rfl (wk1 rfl (wk1 rfl (wk1 rfl (wk1 rfl wk0)))))) (pm_cons rM (pm_cons rM (pm_seg sG (pm_seg sG (pm_seg sG (pm_seg sG (pm_seg sG (pm_seg sG (pm_two (pm_seg sG (pm_seg sG pm_nil)))))))))))⟩
                  | exact ⟨(false, ⟨i, K, D, m1, m2, m3, m4, b1, o1, r1, b2, o2, r2, b3, r3, b4, o4, r4⟩), hi.skip hd hn1 hn2 hn3 hn4, weak_perm (wk1 rfl (wk1 rfl (wk1 rfl (wk1 rfl (wk1 rfl (wk1 rfl wk0)))))) (pm_cons rM (pm_cons rM (pm_seg sG (pm_seg sG (pm_seg sG (pm_seg sG (pm_seg sG (pm_seg sG (pm_seg sG pm_nil)))))))))⟩
              ·
                have hn4 : ¬ d.dKind = 4 := kind_no (n := 4) his.fKind dE hc4
                refine Sat.skip ?_
                refine bl_n ?_
                refine at_n ?_
                first
                  | exact ⟨(decide ((readD d.dData).2 = 0), ⟨i + 1, K21, { D with dBlocks := D.dBlocks ++ [(readD d.dData).1] }, m1 + 1, m2, m3, m4, b21, p21 ++ o1, r1 ++ [X21], b2, o2, r2, b3, r3, b4, o4, r4⟩), hi.j1 hd hk1 hX (Block.length okX) hgd, weak_perm (wk1 rfl (wk1 rfl (wk1 rfl (wk1 rfl (wk1 rfl (wk1 rfl wk0)))))) (pm_cons rM (pm_cons rM (pm_seg sG (pm_two (pm_seg sG (pm_seg sG (pm_seg sG (pm_seg sG (pm_seg sG (pm_seg sG (pm_seg sG pm_nil)))))))))))⟩
                  | exact ⟨(decide ((certRd d.dData).2 = 0), ⟨i + 1, K27, { D with dCerts := D.dCerts ++ [(certRd d.dData).1] }, m1, m2 + 1, m3, m4, b1, o1, r1, b27, p27 ++ o2, r2 ++ [X27], b3, r3, b4, o4, r4⟩), hi.j2 hd hk2 hX (Cert.length okX) hgd, weak_perm (wk1 rfl (wk1 rfl (wk1 rfl (wk1 rfl (wk1 rfl (wk1 rfl wk0)))))) (pm_cons rM (pm_cons rM (pm_seg sG (pm_seg sG (pm_seg sG (pm_two (pm_seg sG (pm_seg sG (pm_seg sG (pm_seg sG (pm_seg sG pm_nil)))))))))))⟩
                  | exact ⟨(decide ((voteRd d.dData).2 = 0), ⟨i + 1, K33, { D with dVotes := D.dVotes ++ [(voteRd d.dData).1] }, m1, m2, m3 + 1, m4, b1, o1, r1, b2, o2, r2, b33, r3 ++ [(voteRd d.dData).1], b4, o4, r4⟩), hi.j3 hd hk3 (fun W2 _ => voteRd_is _ W2) (Vote.length (voteRd_vok _)) hgd, weak_perm (wk1 rfl (wk1 rfl (wk1 rfl (wk1 rfl (wk1 rfl (wk1 rfl wk0)))))) (pm_cons rM (pm_cons rM (pm_seg sG (pm_seg sG (pm_seg sG (pm_seg sG (pm_seg sG (pm_seg sG (pm_seg sG pm_nil)))))))))⟩
                  | exact ⟨(decide ((cutRd d.dData).2 = 0), ⟨i + 1, K39, { D with dCuts := D.dCuts ++ [(cutRd d.dData).1] }, m1, m2, m3, m4 + 1, b1, o1, r1, b2, o2, r2, b3, r3, b39, p39 ++ o4, r4 ++ [X39]⟩), hi.j4 hd hk4 hX (Cut.length okX) hgd, weak_perm (wk1 rfl (wk1 rfl (wk1 rfl (wk1 rfl (wk1 rfl (wk1 rfl wk0)))))) (pm_cons rM (pm_cons rM (pm_seg sG (pm_seg sG (pm_seg sG (pm_seg sG (pm_seg sG (pm_seg sG (pm_two (pm_seg sG (pm_seg sG pm_nil)))))))))))⟩
                  | exact ⟨(false, ⟨i, K, D, m1, m2, m3, m4, b1, o1, r1, b2, o2, r2, b3, r3, b4, o4, r4⟩), hi.skip hd hn1 hn2 hn3 hn4, weak_perm (wk1 rfl (wk1 rfl (wk1 rfl (wk1 rfl (wk1 rfl (wk1 rfl wk0)))))) (pm_cons rM (pm_cons rM (pm_seg sG (pm_seg sG (pm_seg sG (pm_seg sG (pm_seg sG (pm_seg sG (pm_seg sG pm_nil)))))))))⟩
      ·
        intro pj hj
        skip
        refine Sat.seq ?_
        refine Sat.region ?_
        refine Tr.move rfl rfl rfl ?_
        refine Tr.not rfl rfl rfl ?_
        refine Tr.nil ?_
        refine at_n ?_
        refine Sat.cond rfl (fun hc5 => ?_) (fun hc5 => ?_)
        ·
          have hnone := hj.2 (by simpa using hc5)
          refine Sat.seq ?_
          refine Sat.region ?_
          refine Tr.build (cs := Kept.zero.cells) rfl rfl rfl (fun w => by kernel_rfl) ?_
          refine Tr.storeAll rfl rfl rfl rfl (Kept.isCell (by first | exact oK  | exact his.ok | exact hi.ok)) Sz57 (Kept.length (by first | exact oK  | exact his.ok | exact hi.ok)) mM (Kept.length (by first | exact oK  | exact his.ok | exact hi.ok)) uU ?_
          refine Tr.assign rfl rfl rfl ?_
          refine Tr.nil ?_
          refine at_n ?_
          refine Sat.ret ?_
          refine bl_r ?_
          refine at_r ?_
          refine at_r ?_
          refine bl_r ?_
          refine at_r ?_
          refine en_r ?_
          refine end_perm (out := []) (res_cell_tmp rfl rfl rfl Try.underlying57 rfl Sz57 mM (by first | (simp; done) | exact Kept.length (by first | exact oK  | exact his.ok | exact hi.ok))) pm_nil ?_
          exact keep_bad (keepRd_bad hnone)
        ·
          have hj2 := hj.1 (by simpa using hc5)
          refine Sat.skip ?_
          refine bl_n ?_
          refine at_n ?_
          refine Sat.region ?_
          refine Tr.add_i64 rfl rfl rfl rfl oM ?_
          refine Tr.move rfl rfl rfl ?_
          refine Tr.nil ?_
          refine at_n ?_
          exact ⟨pj.2, ⟨hj2.1, by omega⟩, by omega, weak_perm (wk1 rfl (wk1 rfl (wk1 rfl (wk1 rfl (wk1 (congrArg (fun z : Nat => some (i64 (z : Int))) hj2.2.symm) wk0))))) (pm_cons rM (pm_cons rM (pm_seg sG (pm_seg sG (pm_seg sG (pm_seg sG (pm_seg sG (pm_seg sG (pm_seg sG pm_nil)))))))))⟩
    ·
      have hie : i = s.n := by omega
      refine Sat.exit ?_
      refine at_x ?_
      refine at_x ?_
      refine bl_h ?_
      refine at_n ?_
      refine Sat.seq ?_
      refine Sat.seq ?_
      refine Sat.region ?_
      refine Tr.fld rfl rfl rfl Try.underlying57 rfl Sz43 dE _ rfl ?_
      refine Tr.load1 rfl rfl rfl Try.underlying43 rfl mM (by first | exact Kept.get_fCerts (by first | exact oK  | exact his.ok | exact hi.ok) | exact vL) ?_
      refine Tr.callV rfl rfl rfl rfl Body34 (in_order K.fCerts D.dCerts) (fun w h => ⟨_, hi.q2.seq (Lies.of h iN) (Lies.of h iN) (by dsimp only; omega)⟩) ?_
      refine Tr.not rfl rfl rfl ?_
      refine Tr.nil ?_
      refine at_n ?_
      refine Sat.cond rfl (fun hc6 => ?_) (fun hc6 => ?_)
      ·
        have ho : inOrd D.dCerts = false := by simpa using hc6
        have hf := hi.fold
        dsimp only at hf
        rw [List.take_of_length_le oM] at hf
        refine Sat.seq ?_
        refine Sat.region ?_
        refine Tr.build (cs := Kept.zero.cells) rfl rfl rfl (fun w => by kernel_rfl) ?_
        refine Tr.storeAll rfl rfl rfl rfl (Kept.isCell (by first | exact oK  | exact his.ok | exact hi.ok)) Sz57 (Kept.length (by first | exact oK  | exact his.ok | exact hi.ok)) mM (Kept.length (by first | exact oK  | exact his.ok | exact hi.ok)) uU ?_
        refine Tr.assign rfl rfl rfl ?_
        refine Tr.nil ?_
        refine at_n ?_
        refine Sat.ret ?_
        refine at_r ?_
        refine en_r ?_
        refine end_perm (out := []) (res_cell_tmp rfl rfl rfl Try.underlying57 rfl Sz57 mM (by first | (simp; done) | exact Kept.length (by first | exact oK  | exact his.ok | exact hi.ok))) pm_nil ?_
        exact keep_bad (keepRd_ord hf ho)
      ·
        have ho : inOrd D.dCerts = true := by simpa using hc6
        refine Sat.skip ?_
        refine at_n ?_
        refine Sat.seq ?_
        refine Sat.region ?_
        refine Tr.loadAll rfl rfl rfl Try.underlying57 rfl Sz57 mM (Kept.length (by first | exact oK  | exact his.ok | exact hi.ok)) ?_
        refine Tr.storeAll rfl rfl rfl rfl (Kept.isCell (by first | exact oK  | exact his.ok | exact hi.ok)) Sz57 (Kept.length (by first | exact oK  | exact his.ok | exact hi.ok)) mM (Kept.length (by first | exact oK  | exact his.ok | exact hi.ok)) uU ?_
        refine Tr.assign rfl rfl rfl ?_
        refine Tr.nil ?_
        refine at_n ?_
        refine Sat.ret ?_
        refine en_r ?_
        refine end_perm (out := (b1 ++ (o1 ++ (b2 ++ (o2 ++ (b3 ++ (b4 ++ (o4 ++ [])))))))) (res_cell_tmp rfl rfl rfl Try.underlying57 rfl Sz57 mM (by first | (simp; done) | exact Kept.length (by first | exact oK  | exact his.ok | exact hi.ok))) (pm_seg sG (pm_seg sG (pm_seg sG (pm_seg sG (pm_seg sG (pm_seg sG (pm_seg sG pm_nil))))))) ?_
        refine ⟨K, hi.ok, ?_, fun W2 hl => hi.end' (by simp only []; omega) (by simp only []; omega) ho (hl.sub iN) (hl.sub iN) (hl.sub iN) (hl.sub iN) (hl.sub iN) (hl.sub iN) (hl.sub iN)⟩
        have hf := hi.fold
        dsimp only at hf
        rw [List.take_of_length_le oM] at hf
        rw [keepRd_ok hf ho]

end Go.Proofs.Ytlgbmfokgnoocaa
end

section
namespace Go.Proofs.Ytlgbmfokgnoocaa
open Go Hw
set_option linter.unusedVariables false
set_option linter.unusedSimpArgs false

def sameC (a b : DCut) : Bool := decide ((a.dHeight.toNat : Int) = (b.dHeight.toNat : Int)) && (decide (a.dPrev = b.dPrev) && decide (a.dHeads = b.dHeads))

set_option maxRecDepth 100000 in
set_option maxHeartbeats 2000000 in
theorem kit_cut (A B : Cut) (a b : DCut) (hn : A.fHeads.n ≤ 1000000) : Meets Try.prog 66 [agg A.cells, agg B.cells] [] (fun W => CutIs W A a ∧ CutIs W B b) (fun v out => v = .bool (sameC a b) ∧ out = []) := by
  intro W hW
  have hA := hW.1.ok
  have hB := hW.2.ok
  have e1 := hW.1.fHeight
  have e2 := hW.2.fHeight
  have e3 := hW.1.fPrev
  have e4 := hW.2.fPrev
  refine calls_of (hp0 := []) Try.func66 rfl 24 Try.ntmps66 rfl (HRep.nil _) ?_
  refine Sat.seq ?_
  refine Sat.region ?_
  refine Tr.boxA rfl rfl ?_
  intro n2 hn2 hf2
  refine Tr.boxA rfl rfl ?_
  intro n3 hn3 hf3
  refine Tr.assign rfl rfl rfl ?_
  refine Tr.nil ?_
  refine at_n ?_
  refine Sat.seq ?_
  refine Sat.region ?_
  refine Tr.fld rfl rfl rfl Try.underlying33 rfl Sz24 dE _ rfl ?_
  refine Tr.load1 rfl rfl rfl Try.underlying24 rfl mM (by first | exact Cut.get_fHeight (by first | (simp [hA.l_fPrev, hB.l_fPrev]; done) | exact oK  | exact hA | exact hB) | exact (by first | rfl | exact get_words (by first | omega | (simp [hA.l_fPrev, hB.l_fPrev]; done) | (simp [hA.l_fPrev, hB.l_fPrev]; omega)) | exact get_bytes (by first | omega | (simp [hA.l_fPrev, hB.l_fPrev]; done) | (simp [hA.l_fPrev, hB.l_fPrev]; omega)) | exact get_ints (by first | omega | (simp [hA.l_fPrev, hB.l_fPrev]; done) | (simp [hA.l_fPrev, hB.l_fPrev]; omega)))) ?_
  refine Tr.fld rfl rfl rfl Try.underlying33 rfl Sz24 dE _ rfl ?_
  refine Tr.load1 rfl rfl rfl Try.underlying24 rfl mM (by first | exact Cut.get_fHeight (by first | (simp [hA.l_fPrev, hB.l_fPrev]; done) | exact oK  | exact hA | exact hB) | exact (by first | rfl | exact get_words (by first | omega | (simp [hA.l_fPrev, hB.l_fPrev]; done) | (simp [hA.l_fPrev, hB.l_fPrev]; omega)) | exact get_bytes (by first | omega | (simp [hA.l_fPrev, hB.l_fPrev]; done) | (simp [hA.l_fPrev, hB.l_fPrev]; omega)) | exact get_ints (by first | omega | (simp [hA.l_fPrev, hB.l_fPrev]; done) | (simp [hA.l_fPrev, hB.l_fPrev]; omega)))) ?_
  refine two (fun r hr k => Tr.eqi rfl rfl rfl rfl hr k) (fun hs1_40 => ?_) (fun hs1_40 => ?_)
  ·
    first | have hs1_4 := of_decide_eq_true hs1_40 | have hs1_4 := of_decide_eq_false hs1_40 | have hs1_4 := nd_t hs1_40 | have hs1_4 := nd_f hs1_40 | have hs1_4 := hs1_40
    refine Tr.move rfl rfl rfl ?_
    refine Tr.fld rfl rfl rfl Try.underlying33 rfl Sz25 dE _ rfl ?_
    first
      | refine Tr.loadN (bytesV _) rfl rfl rfl Try.underlying25 rfl Sz25 mM (Cut.row_fPrev (by first | (simp [hA.l_fPrev, hB.l_fPrev]; done) | exact oK  | exact hA | exact hB)) (Cut.rl_fPrev (by first | (simp [hA.l_fPrev, hB.l_fPrev]; done) | exact oK  | exact hA | exact hB)) ?_
    refine Tr.fld rfl rfl rfl Try.underlying33 rfl Sz25 dE _ rfl ?_
    first
      | refine Tr.loadN (bytesV _) rfl rfl rfl Try.underlying25 rfl Sz25 mM (Cut.row_fPrev (by first | (simp [hA.l_fPrev, hB.l_fPrev]; done) | exact oK  | exact hA | exact hB)) (Cut.rl_fPrev (by first | (simp [hA.l_fPrev, hB.l_fPrev]; done) | exact oK  | exact hA | exact hB)) ?_
    refine two (fun r hr k => Tr.eql_bytes rfl rfl rfl rfl Try.eqGuardType25 Try.underlying25 Try.underlying5 Sz5 (by first | assumption | (simp [hA.l_fPrev, hB.l_fPrev]; done) | (rw [bytesV, List.length_map]; assumption)) (by first | assumption | (simp [hA.l_fPrev, hB.l_fPrev]; done) | (rw [bytesV, List.length_map]; assumption)) hr k) (fun hs1_100 => ?_) (fun hs1_100 => ?_)
    ·
      first | have hs1_10 := of_decide_eq_true hs1_100 | have hs1_10 := of_decide_eq_false hs1_100 | have hs1_10 := nd_t hs1_100 | have hs1_10 := nd_f hs1_100 | have hs1_10 := hs1_100
      refine Tr.pick rfl rfl rfl rfl rfl rfl ?_
      refine Tr.move rfl rfl rfl ?_
      refine Tr.fld rfl rfl rfl Try.underlying33 rfl Sz26 dE _ rfl ?_
      refine Tr.load1 rfl rfl rfl Try.underlying26 rfl mM (by first | exact Cut.get_fHeads (by first | (simp [hA.l_fPrev, hB.l_fPrev]; done) | exact oK  | exact hA | exact hB) | exact (by first | rfl | exact get_words (by first | omega | (simp [hA.l_fPrev, hB.l_fPrev]; done) | (simp [hA.l_fPrev, hB.l_fPrev]; omega)) | exact get_bytes (by first | omega | (simp [hA.l_fPrev, hB.l_fPrev]; done) | (simp [hA.l_fPrev, hB.l_fPrev]; omega)) | exact get_ints (by first | omega | (simp [hA.l_fPrev, hB.l_fPrev]; done) | (simp [hA.l_fPrev, hB.l_fPrev]; omega)))) ?_
      refine Tr.fld rfl rfl rfl Try.underlying33 rfl Sz26 dE _ rfl ?_
      refine Tr.load1 rfl rfl rfl Try.underlying26 rfl mM (by first | exact Cut.get_fHeads (by first | (simp [hA.l_fPrev, hB.l_fPrev]; done) | exact oK  | exact hA | exact hB) | exact (by first | rfl | exact get_words (by first | omega | (simp [hA.l_fPrev, hB.l_fPrev]; done) | (simp [hA.l_fPrev, hB.l_fPrev]; omega)) | exact get_bytes (by first | omega | (simp [hA.l_fPrev, hB.l_fPrev]; done) | (simp [hA.l_fPrev, hB.l_fPrev]; omega)) | exact get_ints (by first | omega | (simp [hA.l_fPrev, hB.l_fPrev]; done) | (simp [hA.l_fPrev, hB.l_fPrev]; omega)))) ?_
      refine Tr.callV rfl rfl rfl rfl Body86 (digests_any2 _ _ _ _ _ _ a.dHeads b.dHeads hW.1.fHeads.row hW.2.fHeads.row hW.1.fHeads.len hW.2.fHeads.len hn) (fun w h => ⟨seesP_ext h rfl hW.1.fHeads.see, seesP_ext h rfl hW.2.fHeads.see⟩) ?_
      refine Tr.pick rfl rfl rfl rfl rfl rfl ?_
      refine Tr.assign rfl rfl rfl ?_
      refine Tr.nil ?_
      refine at_n ?_
      refine Sat.ret ?_
      refine en_r ?_
      refine ⟨_, [], res_tmp rfl rfl, sP, sP, ?_, rfl⟩
      unfold sameC
      simp_all
    ·
      first | have hs1_10 := of_decide_eq_true hs1_100 | have hs1_10 := of_decide_eq_false hs1_100 | have hs1_10 := nd_t hs1_100 | have hs1_10 := nd_f hs1_100 | have hs1_10 := hs1_100
      refine Tr.pick rfl rfl rfl rfl rfl rfl ?_
      refine Tr.move rfl rfl rfl ?_
      refine Tr.skp rfl rfl ?_
      refine Tr.skp rfl rfl ?_
      refine Tr.skp rfl rfl ?_
      refine Tr.skp rfl rfl ?_
      refine Tr.skp rfl rfl ?_
      refine Tr.pick rfl rfl rfl rfl rfl rfl ?_
      refine Tr.assign rfl rfl rfl ?_
      refine Tr.nil ?_
      refine at_n ?_
      refine Sat.ret ?_
      refine en_r ?_
      refine ⟨_, [], res_tmp rfl rfl, sP, sP, ?_, rfl⟩
      unfold sameC
      simp_all
  ·
    first | have hs1_4 := of_decide_eq_true hs1_40 | have hs1_4 := of_decide_eq_false hs1_40 | have hs1_4 := nd_t hs1_40 | have hs1_4 := nd_f hs1_40 | have hs1_4 := hs1_40
    refine Tr.move rfl rfl rfl ?_
    refine Tr.skp rfl rfl ?_
    refine Tr.skp rfl rfl ?_
    refine Tr.skp rfl rfl ?_
    refine Tr.skp rfl rfl ?_
    refine Tr.skp rfl rfl ?_
    refine Tr.pick rfl rfl rfl rfl rfl rfl ?_
    refine Tr.move rfl rfl rfl ?_
    refine Tr.skp rfl rfl ?_
    refine Tr.skp rfl rfl ?_
    refine Tr.skp rfl rfl ?_
    refine Tr.skp rfl rfl ?_
    refine Tr.skp rfl rfl ?_
    refine Tr.pick rfl rfl rfl rfl rfl rfl ?_
    refine Tr.assign rfl rfl rfl ?_
    refine Tr.nil ?_
    refine at_n ?_
    refine Sat.ret ?_
    refine en_r ?_
    refine ⟨_, [], res_tmp rfl rfl, sP, sP, ?_, rfl⟩
    unfold sameC
    simp_all

def sameL {D : Type} (f : D → D → Bool) (xs ys : List D) : Bool := decide (xs.length = ys.length) && (xs.zip ys).all fun p => f p.1 p.2
theorem sameL_yes {D : Type} {f : D → D → Bool} {xs ys : List D} (hl : xs.length = ys.length) (h : ∀ (j : Nat) (a b : D), j < xs.length → xs[j]? = some a → ys[j]? = some b → f a b = true) : sameL f xs ys = true := by
  have e : ((xs.zip ys).all fun p => f p.1 p.2) = true := by
    rw [List.all_eq_true]
    rintro ⟨a, b⟩ hm
    obtain ⟨j, hj⟩ := List.getElem?_of_mem hm
    obtain ⟨h1, h2⟩ := List.getElem?_zip_eq_some.1 hj
    exact h j a b (List.getElem?_eq_some_iff.1 h1).1 h1 h2
  rw [sameL, e, decide_eq_true hl]; rfl
theorem sameL_no {D : Type} {f : D → D → Bool} {xs ys : List D} {k : Nat} {a b : D} (ha : xs[k]? = some a) (hb : ys[k]? = some b) (h : f a b = false) : sameL f xs ys = false := by
  have e : ((xs.zip ys).all fun p => f p.1 p.2) = false := by
    rw [List.all_eq_false]
    exact ⟨(a, b), List.mem_of_getElem? (List.getElem?_zip_eq_some.2 ⟨ha, hb⟩), by rw [h]; simp⟩
  rw [sameL, e, Bool.and_false]
theorem sameL_len {D : Type} {f : D → D → Bool} {xs ys : List D} (h : ¬ xs.length = ys.length) : sameL f xs ys = false := by rw [sameL, decide_eq_false h]; rfl

set_option maxRecDepth 100000 in
set_option maxHeartbeats 4000000 in
theorem kit_cuts (s u : Sl) (xs ys : List DCut) (hsm : ∀ d ∈ xs, d.dHeads.length ≤ 1000000) : Meets Try.prog 38 [s.v, u.v] [] (fun W => CutsAt W s xs ∧ CutsAt W u ys) (fun v out => v = .bool (sameL sameC xs ys) ∧ out = []) := by
  intro W hW
  obtain ⟨⟨rs, hs⟩, ⟨ru, hu⟩⟩ := hW
  have hnd := hs.nd
  have hnu := hu.nd
  have hmax := hs.max
  have hmaxu := hu.max
  simp only [maxLen] at hmax hmaxu
  refine calls_of (hp0 := []) Try.func38 rfl 27 Try.ntmps38 rfl (HRep.nil _) ?_
  refine Sat.seq ?_
  refine Sat.region ?_
  refine Tr.assign rfl rfl rfl ?_
  refine Tr.nil ?_
  refine at_n ?_
  refine Sat.seq ?_
  refine Sat.seq ?_
  refine Sat.region ?_
  refine Tr.move rfl rfl rfl ?_
  refine Tr.lenSl rfl rfl rfl Try.underlying45 ?_
  refine Tr.move rfl rfl rfl ?_
  refine Tr.lenSl rfl rfl rfl Try.underlying45 ?_
  refine Tr.nei rfl rfl rfl rfl rfl ?_
  refine Tr.nil ?_
  refine at_n ?_
  first
    | refine Sat.condP rfl (fun hc0 => ?_) (fun hc0 => ?_)
    | refine Sat.condNP rfl (fun hc0 => ?_) (fun hc0 => ?_)
    | refine Sat.cond rfl (fun hc0 => ?_) (fun hc0 => ?_)
  ·
    refine Sat.seq ?_
    refine Sat.region ?_
    refine Tr.assign rfl rfl rfl ?_
    refine Tr.nil ?_
    refine at_n ?_
    refine Sat.ret ?_
    refine at_r ?_
    refine en_r ?_
    refine ⟨_, [], res_tmp rfl rfl, sP, sP, ?_, rfl⟩
    first
      | exact congrArg Value.bool (sameL_len (by rw [hnd, hnu]; omega)).symm
      | exact congrArg Value.bool (sameL_yes (by rw [hnd, hnu]; omega) (by rw [hnd]; exact hg)).symm
      | exact congrArg Value.bool (sameL_no hd hdu (by simp_all; done)).symm
  ·
    refine Sat.skip ?_
    refine at_n ?_
    refine Sat.seq ?_
    refine Sat.seq ?_
    refine Sat.region ?_
    refine Tr.assign rfl rfl rfl ?_
    refine Tr.nil ?_
    refine at_n ?_
    refine Sat.block ?_
    refine Sat.loop (ι := Nat) (fun k => ⟨[(0, s.v), (1, u.v), (5, i64 (k : Int))], []⟩) (fun k => k ≤ s.n ∧ s.n = u.n ∧ ∀ (j : Nat) (a b : DCut), j < k → xs[j]? = some a → ys[j]? = some b → sameC a b = true) (fun k => s.n - k) (0) ?_ ?_ ?_
    · exact ⟨by omega, by omega, fun j a b hj => by omega⟩
    · exact weak_of (wk1 rfl (wk1 rfl (wk1 rfl wk0))) wh0 nD
    ·
      rintro k ⟨hk, hsu, hg⟩
      refine Sat.seq ?_
      refine Sat.seq ?_
      refine Sat.region ?_
      refine Tr.move rfl rfl rfl ?_
      refine Tr.move rfl rfl rfl ?_
      refine Tr.lenSl rfl rfl rfl Try.underlying45 ?_
      refine Tr.lss rfl rfl rfl rfl rfl ?_
      refine Tr.nil ?_
      refine at_n ?_
      first
        | refine Sat.condP rfl (fun hc1 => ?_) (fun hc1 => ?_)
        | refine Sat.condNP rfl (fun hc1 => ?_) (fun hc1 => ?_)
        | refine Sat.cond rfl (fun hc1 => ?_) (fun hc1 => ?_)
      ·
        have hk2 : k < s.n := by omega
        obtain ⟨b, o, r, d, hsp, hr, hd, his, hlen, hsee⟩ := hs.at dE hk2
        obtain ⟨b2, o2, r2, d2, hspu, hru, hdu, hiu, hlenu, hseeu⟩ := hu.at dE (show k < u.n by omega)
        refine Sat.skip ?_
        refine at_n ?_
        refine Sat.seq ?_
        refine Sat.block ?_
        refine Sat.seq ?_
        refine Sat.draw [(0, 0), (0, 1), (0, 2), (1, 3), (0, 4), (0, 5), (0, 6), (1, 7), (3, 8), (0, 9)] Mixed (by kernel_rfl) ?_
        refine Tr.move rfl rfl rfl ?_
        refine Tr.move rfl rfl rfl ?_
        refine Tr.idxSlP 34 rfl rfl rfl hsp rfl Try.underlying45 Sz33 k rfl oM ?_
        refine Tr.loadEN r.cells rfl rfl rfl Try.underlying33 rfl Sz33 sP hlen hsee ?_
        refine Tr.move rfl rfl rfl ?_
        refine Tr.move rfl rfl rfl ?_
        refine Tr.idxSlP 34 rfl rfl rfl hspu rfl Try.underlying45 Sz33 k rfl oM ?_
        refine Tr.loadEN r2.cells rfl rfl rfl Try.underlying33 rfl Sz33 sP hlenu hseeu ?_
        refine Tr.callV rfl rfl rfl rfl Body66 (kit_cut r r2 d d2 (by rw [← his.fHeads.len]; exact hsm d (List.mem_of_getElem? hd))) (fun w h => ⟨his.ext h rfl, hiu.ext h rfl⟩) ?_
        refine Tr.not rfl rfl rfl ?_
        refine Tr.nil ?_
        refine at_n ?_
        first
          | refine Sat.condP rfl (fun hc2 => ?_) (fun hc2 => ?_)
          | refine Sat.condNP rfl (fun hc2 => ?_) (fun hc2 => ?_)
          | refine Sat.cond rfl (fun hc2 => ?_) (fun hc2 => ?_)
        ·
          refine Sat.seq ?_
          refine Sat.region ?_
          refine Tr.assign rfl rfl rfl ?_
          refine Tr.nil ?_
          refine at_n ?_
          refine Sat.ret ?_
          refine bl_r ?_
          refine at_r ?_
          refine at_r ?_
          refine bl_r ?_
          refine at_r ?_
          refine en_r ?_
          refine ⟨_, [], res_tmp rfl rfl, sP, sP, ?_, rfl⟩
          first
            | exact congrArg Value.bool (sameL_len (by rw [hnd, hnu]; omega)).symm
            | exact congrArg Value.bool (sameL_yes (by rw [hnd, hnu]; omega) (by rw [hnd]; exact hg)).symm
            | exact congrArg Value.bool (sameL_no hd hdu (by simp_all; done)).symm
        ·
          refine Sat.skip ?_
          refine bl_n ?_
          refine at_n ?_
          refine Sat.region ?_
          refine Tr.move rfl rfl rfl ?_
          refine Tr.add_i64 rfl rfl rfl rfl oM ?_
          refine Tr.assign rfl rfl rfl ?_
          refine Tr.nil ?_
          refine at_n ?_
          exact ⟨k + 1, ⟨by omega, hsu, fun j a b hj ha hb => by rcases Nat.lt_succ_iff_lt_or_eq.1 hj with h | rfl; exact hg j a b h ha hb; exact (by rw [hd] at ha; rw [hdu] at hb; cases ha; cases hb; simp_all)⟩, by omega, weak_of (wk1 rfl (wk1 rfl (wk1 rfl wk0))) wh0 nD⟩
      ·
        obtain rfl : k = s.n := by omega
        refine Sat.exit ?_
        refine at_x ?_
        refine at_x ?_
        refine bl_h ?_
        refine at_n ?_
        refine Sat.seq ?_
        refine Sat.region ?_
        refine Tr.assign rfl rfl rfl ?_
        refine Tr.nil ?_
        refine at_n ?_
        refine Sat.ret ?_
        refine en_r ?_
        refine ⟨_, [], res_tmp rfl rfl, sP, sP, ?_, rfl⟩
        first
          | exact congrArg Value.bool (sameL_len (by rw [hnd, hnu]; omega)).symm
          | exact congrArg Value.bool (sameL_yes (by rw [hnd, hnu]; omega) (by rw [hnd]; exact hg)).symm
          | exact congrArg Value.bool (sameL_no hd hdu (by simp_all; done)).symm

open Classical in
noncomputable def sameV (a b : Vote) : Bool := decide (a = b)
theorem sameV_eq {a b : Vote} (h : a = b) : sameV a b = true := by unfold sameV; simp [h]
theorem sameV_ne {a b : Vote} (h : ¬ a = b) : sameV a b = false := by unfold sameV; simp [h]

set_option maxRecDepth 100000 in
set_option maxHeartbeats 4000000 in
theorem kit_votes (s u : Sl) (xs ys : List Vote) : Meets Try.prog 37 [s.v, u.v] [] (fun W => VotesAt W s xs ∧ VotesAt W u ys) (fun v out => v = .bool (sameL sameV xs ys) ∧ out = []) := by
  intro W hW
  obtain ⟨⟨rs, hs⟩, ⟨ru, hu⟩⟩ := hW
  have hnd := hs.nd
  have hnu := hu.nd
  have hmax := hs.max
  have hmaxu := hu.max
  simp only [maxLen] at hmax hmaxu
  refine calls_of (hp0 := []) Try.func37 rfl 26 Try.ntmps37 rfl (HRep.nil _) ?_
  refine Sat.seq ?_
  refine Sat.region ?_
  refine Tr.assign rfl rfl rfl ?_
  refine Tr.nil ?_
  refine at_n ?_
  refine Sat.seq ?_
  refine Sat.seq ?_
  refine Sat.region ?_
  refine Tr.move rfl rfl rfl ?_
  refine Tr.lenSl rfl rfl rfl Try.underlying34 ?_
  refine Tr.move rfl rfl rfl ?_
  refine Tr.lenSl rfl rfl rfl Try.underlying34 ?_
  refine Tr.nei rfl rfl rfl rfl rfl ?_
  refine Tr.nil ?_
  refine at_n ?_
  first
    | refine Sat.condP rfl (fun hc0 => ?_) (fun hc0 => ?_)
    | refine Sat.condNP rfl (fun hc0 => ?_) (fun hc0 => ?_)
    | refine Sat.cond rfl (fun hc0 => ?_) (fun hc0 => ?_)
  ·
    refine Sat.seq ?_
    refine Sat.region ?_
    refine Tr.assign rfl rfl rfl ?_
    refine Tr.nil ?_
    refine at_n ?_
    refine Sat.ret ?_
    refine at_r ?_
    refine en_r ?_
    refine ⟨_, [], res_tmp rfl rfl, sP, sP, ?_, rfl⟩
    first
      | exact congrArg Value.bool (sameL_len (by rw [hnd, hnu]; omega)).symm
      | exact congrArg Value.bool (sameL_yes (by rw [hnd, hnu]; omega) (by rw [hnd]; exact hg)).symm
      | exact congrArg Value.bool (sameL_no hd hdu (sameV_ne (by first | assumption | (intro h9; simp_all; done)))).symm
  ·
    refine Sat.skip ?_
    refine at_n ?_
    refine Sat.seq ?_
    refine Sat.seq ?_
    refine Sat.region ?_
    refine Tr.assign rfl rfl rfl ?_
    refine Tr.nil ?_
    refine at_n ?_
    refine Sat.block ?_
    refine Sat.loop (ι := Nat) (fun k => ⟨[(0, s.v), (1, u.v), (5, i64 (k : Int))], []⟩) (fun k => k ≤ s.n ∧ s.n = u.n ∧ ∀ (j : Nat) (a b : Vote), j < k → xs[j]? = some a → ys[j]? = some b → sameV a b = true) (fun k => s.n - k) (0) ?_ ?_ ?_
    · exact ⟨by omega, by omega, fun j a b hj => by omega⟩
    · exact weak_of (wk1 rfl (wk1 rfl (wk1 rfl wk0))) wh0 nD
    ·
      rintro k ⟨hk, hsu, hg⟩
      refine Sat.seq ?_
      refine Sat.seq ?_
      refine Sat.region ?_
      refine Tr.move rfl rfl rfl ?_
      refine Tr.move rfl rfl rfl ?_
      refine Tr.lenSl rfl rfl rfl Try.underlying34 ?_
      refine Tr.lss rfl rfl rfl rfl rfl ?_
      refine Tr.nil ?_
      refine at_n ?_
      first
        | refine Sat.condP rfl (fun hc1 => ?_) (fun hc1 => ?_)
        | refine Sat.condNP rfl (fun hc1 => ?_) (fun hc1 => ?_)
        | refine Sat.cond rfl (fun hc1 => ?_) (fun hc1 => ?_)
      ·
        have hk2 : k < s.n := by omega
        obtain ⟨b, o, r, d, hsp, hr, hd, his, hlen, hsee⟩ := hs.at dE hk2
        obtain ⟨b2, o2, r2, d2, hspu, hru, hdu, hiu, hlenu, hseeu⟩ := hu.at dE (show k < u.n by omega)
        obtain rfl := his.eq
        obtain rfl := hiu.eq
        refine Sat.skip ?_
        refine at_n ?_
        refine Sat.seq ?_
        refine Sat.block ?_
        refine Sat.seq ?_
        refine Sat.draw [(0, 0), (0, 1), (0, 2), (1, 3), (0, 4), (0, 5), (0, 6), (1, 7), (0, 8)] Mixed (by kernel_rfl) ?_
        refine Tr.move rfl rfl rfl ?_
        refine Tr.move rfl rfl rfl ?_
        refine Tr.idxSlP 132 rfl rfl rfl hsp rfl Try.underlying34 Sz38 k rfl oM ?_
        refine Tr.loadEN r.cells rfl rfl rfl Try.underlying38 rfl Sz38 sP hlen hsee ?_
        refine Tr.move rfl rfl rfl ?_
        refine Tr.move rfl rfl rfl ?_
        refine Tr.idxSlP 132 rfl rfl rfl hspu rfl Try.underlying34 Sz38 k rfl oM ?_
        refine Tr.loadEN r2.cells rfl rfl rfl Try.underlying38 rfl Sz38 sP hlenu hseeu ?_
        refine Tr.neq_rec rfl rfl rfl rfl Vote.eg (fun w => Vote.eq_runC (by first | exact oK  | exact his.ok | exact hiu.ok) (by first | exact oK  | exact his.ok | exact hiu.ok) w) rfl ?_
        refine Tr.nil ?_
        refine at_n ?_
        first
          | refine Sat.condP rfl (fun hc2 => ?_) (fun hc2 => ?_)
          | refine Sat.condNP rfl (fun hc2 => ?_) (fun hc2 => ?_)
          | refine Sat.cond rfl (fun hc2 => ?_) (fun hc2 => ?_)
        ·
          refine Sat.seq ?_
          refine Sat.region ?_
          refine Tr.assign rfl rfl rfl ?_
          refine Tr.nil ?_
          refine at_n ?_
          refine Sat.ret ?_
          refine bl_r ?_
          refine at_r ?_
          refine at_r ?_
          refine bl_r ?_
          refine at_r ?_
          refine en_r ?_
          refine ⟨_, [], res_tmp rfl rfl, sP, sP, ?_, rfl⟩
          first
            | exact congrArg Value.bool (sameL_len (by rw [hnd, hnu]; omega)).symm
            | exact congrArg Value.bool (sameL_yes (by rw [hnd, hnu]; omega) (by rw [hnd]; exact hg)).symm
            | exact congrArg Value.bool (sameL_no hd hdu (sameV_ne (by first | assumption | (intro h9; simp_all; done)))).symm
        ·
          refine Sat.skip ?_
          refine bl_n ?_
          refine at_n ?_
          refine Sat.region ?_
          refine Tr.move rfl rfl rfl ?_
          refine Tr.add_i64 rfl rfl rfl rfl oM ?_
          refine Tr.assign rfl rfl rfl ?_
          refine Tr.nil ?_
          refine at_n ?_
          exact ⟨k + 1, ⟨by omega, hsu, fun j a b hj ha hb => by rcases Nat.lt_succ_iff_lt_or_eq.1 hj with h | rfl; exact hg j a b h ha hb; exact (by rw [hd] at ha; rw [hdu] at hb; cases ha; cases hb; exact sameV_eq (by first | assumption | (simp_all; done)))⟩, by omega, weak_of (wk1 rfl (wk1 rfl (wk1 rfl wk0))) wh0 nD⟩
      ·
        obtain rfl : k = s.n := by omega
        refine Sat.exit ?_
        refine at_x ?_
        refine at_x ?_
        refine bl_h ?_
        refine at_n ?_
        refine Sat.seq ?_
        refine Sat.region ?_
        refine Tr.assign rfl rfl rfl ?_
        refine Tr.nil ?_
        refine at_n ?_
        refine Sat.ret ?_
        refine en_r ?_
        refine ⟨_, [], res_tmp rfl rfl, sP, sP, ?_, rfl⟩
        first
          | exact congrArg Value.bool (sameL_len (by rw [hnd, hnu]; omega)).symm
          | exact congrArg Value.bool (sameL_yes (by rw [hnd, hnu]; omega) (by rw [hnd]; exact hg)).symm
          | exact congrArg Value.bool (sameL_no hd hdu (sameV_ne (by first | assumption | (intro h9; simp_all; done)))).symm

noncomputable def sameE (a b : DCert) : Bool := sameC a.dCut b.dCut && sameL sameV a.dVotes b.dVotes

set_option maxRecDepth 100000 in
set_option maxHeartbeats 2000000 in
theorem kit_cert (A B : Cert) (a b : DCert) (hn : A.fCut.fHeads.n ≤ 1000000) : Meets Try.prog 65 [agg A.cells, agg B.cells] [] (fun W => CertIs W A a ∧ CertIs W B b) (fun v out => v = .bool (sameE a b) ∧ out = []) := by
  intro W hW
  have hA := hW.1.ok
  have hB := hW.2.ok
  refine calls_of (hp0 := []) Try.func65 rfl 17 Try.ntmps65 rfl (HRep.nil _) ?_
  refine Sat.seq ?_
  refine Sat.region ?_
  refine Tr.boxA rfl rfl ?_
  intro n2 hn2 hf2
  refine Tr.boxA rfl rfl ?_
  intro n3 hn3 hf3
  refine Tr.assign rfl rfl rfl ?_
  refine Tr.nil ?_
  refine at_n ?_
  refine Sat.seq ?_
  refine Sat.region ?_
  refine Tr.fld rfl rfl rfl Try.underlying36 rfl Sz33 dE _ rfl ?_
  refine Tr.loadN (Cut.cells _) rfl rfl rfl Try.underlying33 rfl Sz33 mM (Cert.row_fCut (by first | exact oK  | exact hA | exact hB)) (Cert.rl_fCut (by first | exact oK  | exact hA | exact hB)) ?_
  refine Tr.fld rfl rfl rfl Try.underlying36 rfl Sz33 dE _ rfl ?_
  refine Tr.loadN (Cut.cells _) rfl rfl rfl Try.underlying33 rfl Sz33 mM (Cert.row_fCut (by first | exact oK  | exact hA | exact hB)) (Cert.rl_fCut (by first | exact oK  | exact hA | exact hB)) ?_
  refine Tr.callB rfl rfl rfl rfl Body66 (kit_cut A.fCut B.fCut a.dCut b.dCut hn) (fun w h => ⟨hW.1.fCut.ext h rfl, hW.2.fCut.ext h rfl⟩) (fun hs1_40 => ?_) (fun hs1_40 => ?_)
  ·
    first | have hs1_4 := of_decide_eq_true hs1_40 | have hs1_4 := of_decide_eq_false hs1_40 | have hs1_4 := nd_t hs1_40 | have hs1_4 := nd_f hs1_40 | have hs1_4 := hs1_40
    refine Tr.move rfl rfl rfl ?_
    refine Tr.fld rfl rfl rfl Try.underlying36 rfl Sz34 dE _ rfl ?_
    refine Tr.load1 rfl rfl rfl Try.underlying34 rfl mM (by first | exact Cert.get_fVotes (by first | exact oK  | exact hA | exact hB) | exact vL) ?_
    refine Tr.fld rfl rfl rfl Try.underlying36 rfl Sz34 dE _ rfl ?_
    refine Tr.load1 rfl rfl rfl Try.underlying34 rfl mM (by first | exact Cert.get_fVotes (by first | exact oK  | exact hA | exact hB) | exact vL) ?_
    refine Tr.callV rfl rfl rfl rfl Body37 (kit_votes A.fVotes B.fVotes a.dVotes b.dVotes) (fun w h => ⟨Votes_ext h rfl hW.1.fVotes, Votes_ext h rfl hW.2.fVotes⟩) ?_
    refine Tr.pick rfl rfl rfl rfl rfl rfl ?_
    refine Tr.assign rfl rfl rfl ?_
    refine Tr.nil ?_
    refine at_n ?_
    refine Sat.ret ?_
    refine en_r ?_
    refine ⟨_, [], res_tmp rfl rfl, sP, sP, ?_, rfl⟩
    simp_all [sameE]
  ·
    first | have hs1_4 := of_decide_eq_true hs1_40 | have hs1_4 := of_decide_eq_false hs1_40 | have hs1_4 := nd_t hs1_40 | have hs1_4 := nd_f hs1_40 | have hs1_4 := hs1_40
    refine Tr.move rfl rfl rfl ?_
    refine Tr.skp rfl rfl ?_
    refine Tr.skp rfl rfl ?_
    refine Tr.skp rfl rfl ?_
    refine Tr.skp rfl rfl ?_
    refine Tr.skp rfl rfl ?_
    refine Tr.pick rfl rfl rfl rfl rfl rfl ?_
    refine Tr.assign rfl rfl rfl ?_
    refine Tr.nil ?_
    refine at_n ?_
    refine Sat.ret ?_
    refine en_r ?_
    refine ⟨_, [], res_tmp rfl rfl, sP, sP, ?_, rfl⟩
    simp_all [sameE]

set_option maxRecDepth 100000 in
set_option maxHeartbeats 4000000 in
theorem kit_certs (s u : Sl) (xs ys : List DCert) (hsm : ∀ d ∈ xs, d.dCut.dHeads.length ≤ 1000000) : Meets Try.prog 36 [s.v, u.v] [] (fun W => CertsAt W s xs ∧ CertsAt W u ys) (fun v out => v = .bool (sameL sameE xs ys) ∧ out = []) := by
  intro W hW
  obtain ⟨⟨rs, hs⟩, ⟨ru, hu⟩⟩ := hW
  have hnd := hs.nd
  have hnu := hu.nd
  have hmax := hs.max
  have hmaxu := hu.max
  simp only [maxLen] at hmax hmaxu
  refine calls_of (hp0 := []) Try.func36 rfl 27 Try.ntmps36 rfl (HRep.nil _) ?_
  refine Sat.seq ?_
  refine Sat.region ?_
  refine Tr.assign rfl rfl rfl ?_
  refine Tr.nil ?_
  refine at_n ?_
  refine Sat.seq ?_
  refine Sat.seq ?_
  refine Sat.region ?_
  refine Tr.move rfl rfl rfl ?_
  refine Tr.lenSl rfl rfl rfl Try.underlying43 ?_
  refine Tr.move rfl rfl rfl ?_
  refine Tr.lenSl rfl rfl rfl Try.underlying43 ?_
  refine Tr.nei rfl rfl rfl rfl rfl ?_
  refine Tr.nil ?_
  refine at_n ?_
  first
    | refine Sat.condP rfl (fun hc0 => ?_) (fun hc0 => ?_)
    | refine Sat.condNP rfl (fun hc0 => ?_) (fun hc0 => ?_)
    | refine Sat.cond rfl (fun hc0 => ?_) (fun hc0 => ?_)
  ·
    refine Sat.seq ?_
    refine Sat.region ?_
    refine Tr.assign rfl rfl rfl ?_
    refine Tr.nil ?_
    refine at_n ?_
    refine Sat.ret ?_
    refine at_r ?_
    refine en_r ?_
    refine ⟨_, [], res_tmp rfl rfl, sP, sP, ?_, rfl⟩
    first
      | exact congrArg Value.bool (sameL_len (by rw [hnd, hnu]; omega)).symm
      | exact congrArg Value.bool (sameL_yes (by rw [hnd, hnu]; omega) (by rw [hnd]; exact hg)).symm
      | exact congrArg Value.bool (sameL_no hd hdu (by simp_all; done)).symm
  ·
    refine Sat.skip ?_
    refine at_n ?_
    refine Sat.seq ?_
    refine Sat.seq ?_
    refine Sat.region ?_
    refine Tr.assign rfl rfl rfl ?_
    refine Tr.nil ?_
    refine at_n ?_
    refine Sat.block ?_
    refine Sat.loop (ι := Nat) (fun k => ⟨[(0, s.v), (1, u.v), (5, i64 (k : Int))], []⟩) (fun k => k ≤ s.n ∧ s.n = u.n ∧ ∀ (j : Nat) (a b : DCert), j < k → xs[j]? = some a → ys[j]? = some b → sameE a b = true) (fun k => s.n - k) (0) ?_ ?_ ?_
    · exact ⟨by omega, by omega, fun j a b hj => by omega⟩
    · exact weak_of (wk1 rfl (wk1 rfl (wk1 rfl wk0))) wh0 nD
    ·
      rintro k ⟨hk, hsu, hg⟩
      refine Sat.seq ?_
      refine Sat.seq ?_
      refine Sat.region ?_
      refine Tr.move rfl rfl rfl ?_
      refine Tr.move rfl rfl rfl ?_
      refine Tr.lenSl rfl rfl rfl Try.underlying43 ?_
      refine Tr.lss rfl rfl rfl rfl rfl ?_
      refine Tr.nil ?_
      refine at_n ?_
      first
        | refine Sat.condP rfl (fun hc1 => ?_) (fun hc1 => ?_)
        | refine Sat.condNP rfl (fun hc1 => ?_) (fun hc1 => ?_)
        | refine Sat.cond rfl (fun hc1 => ?_) (fun hc1 => ?_)
      ·
        have hk2 : k < s.n := by omega
        obtain ⟨b, o, r, d, hsp, hr, hd, his, hlen, hsee⟩ := hs.at dE hk2
        obtain ⟨b2, o2, r2, d2, hspu, hru, hdu, hiu, hlenu, hseeu⟩ := hu.at dE (show k < u.n by omega)
        refine Sat.skip ?_
        refine at_n ?_
        refine Sat.seq ?_
        refine Sat.block ?_
        refine Sat.seq ?_
        refine Sat.draw [(0, 0), (0, 1), (0, 2), (1, 3), (0, 4), (0, 5), (0, 6), (1, 7), (3, 8), (0, 9)] Mixed (by kernel_rfl) ?_
        refine Tr.move rfl rfl rfl ?_
        refine Tr.move rfl rfl rfl ?_
        refine Tr.idxSlP 35 rfl rfl rfl hsp rfl Try.underlying43 Sz36 k rfl oM ?_
        refine Tr.loadEN r.cells rfl rfl rfl Try.underlying36 rfl Sz36 sP hlen hsee ?_
        refine Tr.move rfl rfl rfl ?_
        refine Tr.move rfl rfl rfl ?_
        refine Tr.idxSlP 35 rfl rfl rfl hspu rfl Try.underlying43 Sz36 k rfl oM ?_
        refine Tr.loadEN r2.cells rfl rfl rfl Try.underlying36 rfl Sz36 sP hlenu hseeu ?_
        refine Tr.callV rfl rfl rfl rfl Body65 (kit_cert r r2 d d2 (by rw [← his.fCut.fHeads.len]; exact hsm d (List.mem_of_getElem? hd))) (fun w h => ⟨his.ext h rfl, hiu.ext h rfl⟩) ?_
        refine Tr.not rfl rfl rfl ?_
        refine Tr.nil ?_
        refine at_n ?_
        first
          | refine Sat.condP rfl (fun hc2 => ?_) (fun hc2 => ?_)
          | refine Sat.condNP rfl (fun hc2 => ?_) (fun hc2 => ?_)
          | refine Sat.cond rfl (fun hc2 => ?_) (fun hc2 => ?_)
        ·
          refine Sat.seq ?_
          refine Sat.region ?_
          refine Tr.assign rfl rfl rfl ?_
          refine Tr.nil ?_
          refine at_n ?_
          refine Sat.ret ?_
          refine bl_r ?_
          refine at_r ?_
          refine at_r ?_
          refine bl_r ?_
          refine at_r ?_
          refine en_r ?_
          refine ⟨_, [], res_tmp rfl rfl, sP, sP, ?_, rfl⟩
          first
            | exact congrArg Value.bool (sameL_len (by rw [hnd, hnu]; omega)).symm
            | exact congrArg Value.bool (sameL_yes (by rw [hnd, hnu]; omega) (by rw [hnd]; exact hg)).symm
            | exact congrArg Value.bool (sameL_no hd hdu (by simp_all; done)).symm
        ·
          refine Sat.skip ?_
          refine bl_n ?_
          refine at_n ?_
          refine Sat.region ?_
          refine Tr.move rfl rfl rfl ?_
          refine Tr.add_i64 rfl rfl rfl rfl oM ?_
          refine Tr.assign rfl rfl rfl ?_
          refine Tr.nil ?_
          refine at_n ?_
          exact ⟨k + 1, ⟨by omega, hsu, fun j a b hj ha hb => by rcases Nat.lt_succ_iff_lt_or_eq.1 hj with h | rfl; exact hg j a b h ha hb; exact (by rw [hd] at ha; rw [hdu] at hb; cases ha; cases hb; simp_all)⟩, by omega, weak_of (wk1 rfl (wk1 rfl (wk1 rfl wk0))) wh0 nD⟩
      ·
        obtain rfl : k = s.n := by omega
        refine Sat.exit ?_
        refine at_x ?_
        refine at_x ?_
        refine bl_h ?_
        refine at_n ?_
        refine Sat.seq ?_
        refine Sat.region ?_
        refine Tr.assign rfl rfl rfl ?_
        refine Tr.nil ?_
        refine at_n ?_
        refine Sat.ret ?_
        refine en_r ?_
        refine ⟨_, [], res_tmp rfl rfl, sP, sP, ?_, rfl⟩
        first
          | exact congrArg Value.bool (sameL_len (by rw [hnd, hnu]; omega)).symm
          | exact congrArg Value.bool (sameL_yes (by rw [hnd, hnu]; omega) (by rw [hnd]; exact hg)).symm
          | exact congrArg Value.bool (sameL_no hd hdu (by simp_all; done)).symm

def sameBk (a b : DB) : Bool := decide (a.w = b.w) && (decide ((a.seq.toNat : Int) = (b.seq.toNat : Int)) && (decide (a.prev = b.prev) && (decide (a.ls = b.ls) && (decide (a.ds = b.ds) && decide (a.sg = b.sg)))))
theorem sameB_Bk {W : World} {A B : Block} {a b : DB} (h1 : BlockIs W A a) (h2 : BlockIs W B b) : sameB A B a.ls b.ls a.ds b.ds = sameBk a b := by
  simp only [sameB, sameBk, h1.w, h2.w, h1.seq, h2.seq, h1.prev, h2.prev, h1.sg, h2.sg]
theorem kit_blockD (A B : Block) (a b : DB) (hn : A.fLinks.n ≤ 1000000) : Meets Try.prog 64 [agg A.cells, agg B.cells] [] (fun W => BlockIs W A a ∧ BlockIs W B b) (fun v out => v = .bool (sameBk a b) ∧ out = []) := fun W hW => by
  rw [← sameB_Bk hW.1 hW.2]
  exact kit_block A B hW.1.ok hW.2.ok a.ls b.ls a.ds b.ds hn W ⟨⟨hW.1.ls, hW.1.ds⟩, ⟨hW.2.ls, hW.2.ds⟩⟩

set_option maxRecDepth 100000 in
set_option maxHeartbeats 4000000 in
theorem kit_blocks (s u : Sl) (xs ys : List DB) (hsm : ∀ d ∈ xs, d.ls.length ≤ 1000000) : Meets Try.prog 35 [s.v, u.v] [] (fun W => BlocksAt W s xs ∧ BlocksAt W u ys) (fun v out => v = .bool (sameL sameBk xs ys) ∧ out = []) := by
  intro W hW
  obtain ⟨⟨rs, hs⟩, ⟨ru, hu⟩⟩ := hW
  have hnd := hs.nd
  have hnu := hu.nd
  have hmax := hs.max
  have hmaxu := hu.max
  simp only [maxLen] at hmax hmaxu
  refine calls_of (hp0 := []) Try.func35 rfl 27 Try.ntmps35 rfl (HRep.nil _) ?_
  refine Sat.seq ?_
  refine Sat.region ?_
  refine Tr.assign rfl rfl rfl ?_
  refine Tr.nil ?_
  refine at_n ?_
  refine Sat.seq ?_
  refine Sat.seq ?_
  refine Sat.region ?_
  refine Tr.move rfl rfl rfl ?_
  refine Tr.lenSl rfl rfl rfl Try.underlying41 ?_
  refine Tr.move rfl rfl rfl ?_
  refine Tr.lenSl rfl rfl rfl Try.underlying41 ?_
  refine Tr.nei rfl rfl rfl rfl rfl ?_
  refine Tr.nil ?_
  refine at_n ?_
  first
    | refine Sat.condP rfl (fun hc0 => ?_) (fun hc0 => ?_)
    | refine Sat.condNP rfl (fun hc0 => ?_) (fun hc0 => ?_)
    | refine Sat.cond rfl (fun hc0 => ?_) (fun hc0 => ?_)
  ·
    refine Sat.seq ?_
    refine Sat.region ?_
    refine Tr.assign rfl rfl rfl ?_
    refine Tr.nil ?_
    refine at_n ?_
    refine Sat.ret ?_
    refine at_r ?_
    refine en_r ?_
    refine ⟨_, [], res_tmp rfl rfl, sP, sP, ?_, rfl⟩
    first
      | exact congrArg Value.bool (sameL_len (by rw [hnd, hnu]; omega)).symm
      | exact congrArg Value.bool (sameL_yes (by rw [hnd, hnu]; omega) (by rw [hnd]; exact hg)).symm
      | exact congrArg Value.bool (sameL_no hd hdu (by simp_all; done)).symm
  ·
    refine Sat.skip ?_
    refine at_n ?_
    refine Sat.seq ?_
    refine Sat.seq ?_
    refine Sat.region ?_
    refine Tr.assign rfl rfl rfl ?_
    refine Tr.nil ?_
    refine at_n ?_
    refine Sat.block ?_
    refine Sat.loop (ι := Nat) (fun k => ⟨[(0, s.v), (1, u.v), (5, i64 (k : Int))], []⟩) (fun k => k ≤ s.n ∧ s.n = u.n ∧ ∀ (j : Nat) (a b : DB), j < k → xs[j]? = some a → ys[j]? = some b → sameBk a b = true) (fun k => s.n - k) (0) ?_ ?_ ?_
    · exact ⟨by omega, by omega, fun j a b hj => by omega⟩
    · exact weak_of (wk1 rfl (wk1 rfl (wk1 rfl wk0))) wh0 nD
    ·
      rintro k ⟨hk, hsu, hg⟩
      refine Sat.seq ?_
      refine Sat.seq ?_
      refine Sat.region ?_
      refine Tr.move rfl rfl rfl ?_
      refine Tr.move rfl rfl rfl ?_
      refine Tr.lenSl rfl rfl rfl Try.underlying41 ?_
      refine Tr.lss rfl rfl rfl rfl rfl ?_
      refine Tr.nil ?_
      refine at_n ?_
      first
        | refine Sat.condP rfl (fun hc1 => ?_) (fun hc1 => ?_)
        | refine Sat.condNP rfl (fun hc1 => ?_) (fun hc1 => ?_)
        | refine Sat.cond rfl (fun hc1 => ?_) (fun hc1 => ?_)
      ·
        have hk2 : k < s.n := by omega
        obtain ⟨b, o, r, d, hsp, hr, hd, his, hlen, hsee⟩ := hs.at dE hk2
        obtain ⟨b2, o2, r2, d2, hspu, hru, hdu, hiu, hlenu, hseeu⟩ := hu.at dE (show k < u.n by omega)
        refine Sat.skip ?_
        refine at_n ?_
        refine Sat.seq ?_
        refine Sat.block ?_
        refine Sat.seq ?_
        refine Sat.draw [(0, 0), (0, 1), (0, 2), (1, 3), (0, 4), (0, 5), (0, 6), (1, 7), (3, 8), (0, 9)] Mixed (by kernel_rfl) ?_
        refine Tr.move rfl rfl rfl ?_
        refine Tr.move rfl rfl rfl ?_
        refine Tr.idxSlP 131 rfl rfl rfl hsp rfl Try.underlying41 Sz31 k rfl oM ?_
        refine Tr.loadEN r.cells rfl rfl rfl Try.underlying31 rfl Sz31 sP hlen hsee ?_
        refine Tr.move rfl rfl rfl ?_
        refine Tr.move rfl rfl rfl ?_
        refine Tr.idxSlP 131 rfl rfl rfl hspu rfl Try.underlying41 Sz31 k rfl oM ?_
        refine Tr.loadEN r2.cells rfl rfl rfl Try.underlying31 rfl Sz31 sP hlenu hseeu ?_
        refine Tr.callV rfl rfl rfl rfl Body64 (kit_blockD r r2 d d2 (by rw [← his.ls.len]; exact hsm d (List.mem_of_getElem? hd))) (fun w h => ⟨his.ext h rfl, hiu.ext h rfl⟩) ?_
        refine Tr.not rfl rfl rfl ?_
        refine Tr.nil ?_
        refine at_n ?_
        first
          | refine Sat.condP rfl (fun hc2 => ?_) (fun hc2 => ?_)
          | refine Sat.condNP rfl (fun hc2 => ?_) (fun hc2 => ?_)
          | refine Sat.cond rfl (fun hc2 => ?_) (fun hc2 => ?_)
        ·
          refine Sat.seq ?_
          refine Sat.region ?_
          refine Tr.assign rfl rfl rfl ?_
          refine Tr.nil ?_
          refine at_n ?_
          refine Sat.ret ?_
          refine bl_r ?_
          refine at_r ?_
          refine at_r ?_
          refine bl_r ?_
          refine at_r ?_
          refine en_r ?_
          refine ⟨_, [], res_tmp rfl rfl, sP, sP, ?_, rfl⟩
          first
            | exact congrArg Value.bool (sameL_len (by rw [hnd, hnu]; omega)).symm
            | exact congrArg Value.bool (sameL_yes (by rw [hnd, hnu]; omega) (by rw [hnd]; exact hg)).symm
            | exact congrArg Value.bool (sameL_no hd hdu (by simp_all; done)).symm
        ·
          refine Sat.skip ?_
          refine bl_n ?_
          refine at_n ?_
          refine Sat.region ?_
          refine Tr.move rfl rfl rfl ?_
          refine Tr.add_i64 rfl rfl rfl rfl oM ?_
          refine Tr.assign rfl rfl rfl ?_
          refine Tr.nil ?_
          refine at_n ?_
          exact ⟨k + 1, ⟨by omega, hsu, fun j a b hj ha hb => by rcases Nat.lt_succ_iff_lt_or_eq.1 hj with h | rfl; exact hg j a b h ha hb; exact (by rw [hd] at ha; rw [hdu] at hb; cases ha; cases hb; simp_all)⟩, by omega, weak_of (wk1 rfl (wk1 rfl (wk1 rfl wk0))) wh0 nD⟩
      ·
        obtain rfl : k = s.n := by omega
        refine Sat.exit ?_
        refine at_x ?_
        refine at_x ?_
        refine bl_h ?_
        refine at_n ?_
        refine Sat.seq ?_
        refine Sat.region ?_
        refine Tr.assign rfl rfl rfl ?_
        refine Tr.nil ?_
        refine at_n ?_
        refine Sat.ret ?_
        refine en_r ?_
        refine ⟨_, [], res_tmp rfl rfl, sP, sP, ?_, rfl⟩
        first
          | exact congrArg Value.bool (sameL_len (by rw [hnd, hnu]; omega)).symm
          | exact congrArg Value.bool (sameL_yes (by rw [hnd, hnu]; omega) (by rw [hnd]; exact hg)).symm
          | exact congrArg Value.bool (sameL_no hd hdu (by simp_all; done)).symm

noncomputable def sameK (a b : DKept) : Bool := sameL sameBk a.dBlocks b.dBlocks && (sameL sameE a.dCerts b.dCerts && (sameL sameV a.dVotes b.dVotes && sameL sameC a.dCuts b.dCuts))
def DKept.small (a : DKept) : Prop := (∀ d ∈ a.dBlocks, d.ls.length ≤ 1000000) ∧ (∀ d ∈ a.dCerts, d.dCut.dHeads.length ≤ 1000000) ∧ ∀ d ∈ a.dCuts, d.dHeads.length ≤ 1000000

set_option maxRecDepth 100000 in
set_option maxHeartbeats 4000000 in
theorem kit_kept (A B : Kept) (a b : DKept) (hsm : a.small) : Meets Try.prog 15 [agg A.cells, agg B.cells] [] (fun W => KeptIs W A a ∧ KeptIs W B b) (fun v out => v = .bool (sameK a b) ∧ out = []) := by
  intro W hW
  have hA := hW.1.ok
  have hB := hW.2.ok
  refine calls_of (hp0 := []) Try.func15 rfl 31 Try.ntmps15 rfl (HRep.nil _) ?_
  refine Sat.seq ?_
  refine Sat.region ?_
  refine Tr.boxA rfl rfl ?_
  intro n2 hn2 hf2
  refine Tr.boxA rfl rfl ?_
  intro n3 hn3 hf3
  refine Tr.assign rfl rfl rfl ?_
  refine Tr.nil ?_
  refine at_n ?_
  refine Sat.seq ?_
  refine Sat.region ?_
  refine Tr.fld rfl rfl rfl Try.underlying57 rfl Sz41 dE _ rfl ?_
  refine Tr.load1 rfl rfl rfl Try.underlying41 rfl mM (by first | exact Kept.get_fBlocks (by first | exact oK  | exact hA | exact hB) | exact vL) ?_
  refine Tr.fld rfl rfl rfl Try.underlying57 rfl Sz41 dE _ rfl ?_
  refine Tr.load1 rfl rfl rfl Try.underlying41 rfl mM (by first | exact Kept.get_fBlocks (by first | exact oK  | exact hA | exact hB) | exact vL) ?_
  refine Tr.callB rfl rfl rfl rfl Body35 (kit_blocks A.fBlocks B.fBlocks a.dBlocks b.dBlocks hsm.1) (fun w h => ⟨Blocks_ext h rfl hW.1.fBlocks, Blocks_ext h rfl hW.2.fBlocks⟩) (fun hs1_40 => ?_) (fun hs1_40 => ?_)
  ·
    first | have hs1_4 := of_decide_eq_true hs1_40 | have hs1_4 := of_decide_eq_false hs1_40 | have hs1_4 := nd_t hs1_40 | have hs1_4 := nd_f hs1_40 | have hs1_4 := hs1_40
    refine Tr.move rfl rfl rfl ?_
    refine Tr.fld rfl rfl rfl Try.underlying57 rfl Sz43 dE _ rfl ?_
    refine Tr.load1 rfl rfl rfl Try.underlying43 rfl mM (by first | exact Kept.get_fCerts (by first | exact oK  | exact hA | exact hB) | exact vL) ?_
    refine Tr.fld rfl rfl rfl Try.underlying57 rfl Sz43 dE _ rfl ?_
    refine Tr.load1 rfl rfl rfl Try.underlying43 rfl mM (by first | exact Kept.get_fCerts (by first | exact oK  | exact hA | exact hB) | exact vL) ?_
    refine Tr.callB rfl rfl rfl rfl Body36 (kit_certs A.fCerts B.fCerts a.dCerts b.dCerts hsm.2.1) (fun w h => ⟨Certs_ext h rfl hW.1.fCerts, Certs_ext h rfl hW.2.fCerts⟩) (fun hs1_100 => ?_) (fun hs1_100 => ?_)
    ·
      first | have hs1_10 := of_decide_eq_true hs1_100 | have hs1_10 := of_decide_eq_false hs1_100 | have hs1_10 := nd_t hs1_100 | have hs1_10 := nd_f hs1_100 | have hs1_10 := hs1_100
      refine Tr.pick rfl rfl rfl rfl rfl rfl ?_
      refine Tr.move rfl rfl rfl ?_
      refine Tr.fld rfl rfl rfl Try.underlying57 rfl Sz34 dE _ rfl ?_
      refine Tr.load1 rfl rfl rfl Try.underlying34 rfl mM (by first | exact Kept.get_fVotes (by first | exact oK  | exact hA | exact hB) | exact vL) ?_
      refine Tr.fld rfl rfl rfl Try.underlying57 rfl Sz34 dE _ rfl ?_
      refine Tr.load1 rfl rfl rfl Try.underlying34 rfl mM (by first | exact Kept.get_fVotes (by first | exact oK  | exact hA | exact hB) | exact vL) ?_
      refine Tr.callB rfl rfl rfl rfl Body37 (kit_votes A.fVotes B.fVotes a.dVotes b.dVotes) (fun w h => ⟨Votes_ext h rfl hW.1.fVotes, Votes_ext h rfl hW.2.fVotes⟩) (fun hs1_170 => ?_) (fun hs1_170 => ?_)
      ·
        first | have hs1_17 := of_decide_eq_true hs1_170 | have hs1_17 := of_decide_eq_false hs1_170 | have hs1_17 := nd_t hs1_170 | have hs1_17 := nd_f hs1_170 | have hs1_17 := hs1_170
        refine Tr.pick rfl rfl rfl rfl rfl rfl ?_
        refine Tr.move rfl rfl rfl ?_
        refine Tr.fld rfl rfl rfl Try.underlying57 rfl Sz45 dE _ rfl ?_
        refine Tr.load1 rfl rfl rfl Try.underlying45 rfl mM (by first | exact Kept.get_fCuts (by first | exact oK  | exact hA | exact hB) | exact vL) ?_
        refine Tr.fld rfl rfl rfl Try.underlying57 rfl Sz45 dE _ rfl ?_
        refine Tr.load1 rfl rfl rfl Try.underlying45 rfl mM (by first | exact Kept.get_fCuts (by first | exact oK  | exact hA | exact hB) | exact vL) ?_
        refine Tr.callV rfl rfl rfl rfl Body38 (kit_cuts A.fCuts B.fCuts a.dCuts b.dCuts hsm.2.2) (fun w h => ⟨Cuts_ext h rfl hW.1.fCuts, Cuts_ext h rfl hW.2.fCuts⟩) ?_
        refine Tr.pick rfl rfl rfl rfl rfl rfl ?_
        refine Tr.assign rfl rfl rfl ?_
        refine Tr.nil ?_
        refine at_n ?_
        refine Sat.ret ?_
        refine en_r ?_
        refine ⟨_, [], res_tmp rfl rfl, sP, sP, ?_, rfl⟩
        simp_all [sameK]
      ·
        first | have hs1_17 := of_decide_eq_true hs1_170 | have hs1_17 := of_decide_eq_false hs1_170 | have hs1_17 := nd_t hs1_170 | have hs1_17 := nd_f hs1_170 | have hs1_17 := hs1_170
        refine Tr.pick rfl rfl rfl rfl rfl rfl ?_
        refine Tr.move rfl rfl rfl ?_
        refine Tr.skp rfl rfl ?_
        refine Tr.skp rfl rfl ?_
        refine Tr.skp rfl rfl ?_
        refine Tr.skp rfl rfl ?_
        refine Tr.skp rfl rfl ?_
        refine Tr.pick rfl rfl rfl rfl rfl rfl ?_
        refine Tr.assign rfl rfl rfl ?_
        refine Tr.nil ?_
        refine at_n ?_
        refine Sat.ret ?_
        refine en_r ?_
        refine ⟨_, [], res_tmp rfl rfl, sP, sP, ?_, rfl⟩
        simp_all [sameK]
    ·
      first | have hs1_10 := of_decide_eq_true hs1_100 | have hs1_10 := of_decide_eq_false hs1_100 | have hs1_10 := nd_t hs1_100 | have hs1_10 := nd_f hs1_100 | have hs1_10 := hs1_100
      refine Tr.pick rfl rfl rfl rfl rfl rfl ?_
      refine Tr.move rfl rfl rfl ?_
      refine Tr.skp rfl rfl ?_
      refine Tr.skp rfl rfl ?_
      refine Tr.skp rfl rfl ?_
      refine Tr.skp rfl rfl ?_
      refine Tr.skp rfl rfl ?_
      refine Tr.pick rfl rfl rfl rfl rfl rfl ?_
      refine Tr.move rfl rfl rfl ?_
      refine Tr.skp rfl rfl ?_
      refine Tr.skp rfl rfl ?_
      refine Tr.skp rfl rfl ?_
      refine Tr.skp rfl rfl ?_
      refine Tr.skp rfl rfl ?_
      refine Tr.pick rfl rfl rfl rfl rfl rfl ?_
      refine Tr.assign rfl rfl rfl ?_
      refine Tr.nil ?_
      refine at_n ?_
      refine Sat.ret ?_
      refine en_r ?_
      refine ⟨_, [], res_tmp rfl rfl, sP, sP, ?_, rfl⟩
      simp_all [sameK]
  ·
    first | have hs1_4 := of_decide_eq_true hs1_40 | have hs1_4 := of_decide_eq_false hs1_40 | have hs1_4 := nd_t hs1_40 | have hs1_4 := nd_f hs1_40 | have hs1_4 := hs1_40
    refine Tr.move rfl rfl rfl ?_
    refine Tr.skp rfl rfl ?_
    refine Tr.skp rfl rfl ?_
    refine Tr.skp rfl rfl ?_
    refine Tr.skp rfl rfl ?_
    refine Tr.skp rfl rfl ?_
    refine Tr.pick rfl rfl rfl rfl rfl rfl ?_
    refine Tr.move rfl rfl rfl ?_
    refine Tr.skp rfl rfl ?_
    refine Tr.skp rfl rfl ?_
    refine Tr.skp rfl rfl ?_
    refine Tr.skp rfl rfl ?_
    refine Tr.skp rfl rfl ?_
    refine Tr.pick rfl rfl rfl rfl rfl rfl ?_
    refine Tr.move rfl rfl rfl ?_
    refine Tr.skp rfl rfl ?_
    refine Tr.skp rfl rfl ?_
    refine Tr.skp rfl rfl ?_
    refine Tr.skp rfl rfl ?_
    refine Tr.skp rfl rfl ?_
    refine Tr.pick rfl rfl rfl rfl rfl rfl ?_
    refine Tr.assign rfl rfl rfl ?_
    refine Tr.nil ?_
    refine at_n ?_
    refine Sat.ret ?_
    refine en_r ?_
    refine ⟨_, [], res_tmp rfl rfl, sP, sP, ?_, rfl⟩
    simp_all [sameK]

end Go.Proofs.Ytlgbmfokgnoocaa
end

section
namespace Go.Proofs.Ytlgbmfokgnoocaa
open Go Hw
set_option linter.unusedVariables false
set_option linter.unusedSimpArgs false

theorem seq_one {R D : Type} {cells : R → List Value} {k : Nat} {Is : World → R → D → Prop} {w : World} (q : Nat) (E : TypeId) (r : R) {m : Nat} {d : D} (hl : Lies [⟨q, cells r, E, m⟩] w) (hlen : (cells r).length = k) (hm : m = 1 * k) (hi : Is w r d) : SeqIs cells k Is w ⟨some ⟨q, 0, none⟩, 1, 1⟩ [r] [d] := by
  subst hm
  have ha : Hw.Acc ⟨some ⟨q, 0, none⟩, 1, 1⟩ [⟨q, cells r, E, 1 * k⟩] (cells r) E 1 k := Acc.some (Nat.le_refl _) (by rw [hlen, Nat.one_mul])
  have e : ([r].map cells).flatten = cells r := by simp
  refine acc_seq (by rw [e]; exact ha) hl rfl rfl (fun x hx => by rw [List.mem_singleton.1 hx]; exact hlen) sP fun i x y hx hy => ?_
  obtain ⟨hi1, rfl⟩ := List.getElem?_eq_some_iff.1 hx
  obtain ⟨hi2, rfl⟩ := List.getElem?_eq_some_iff.1 hy
  have e0 : i = 0 := by simp at hi1; exact hi1
  subst e0
  exact hi
theorem sameC_self (a : DCut) : sameC a a = true := by simp [sameC]
theorem sameV_self (a : Vote) : sameV a a = true := sameV_eq rfl
theorem sameL_self {D : Type} {f : D → D → Bool} (h : ∀ a, f a a = true) (l : List D) : sameL f l l = true := sameL_yes rfl fun j a b _ ha hb => by rw [ha] at hb; cases hb; exact h a
theorem sameE_self (a : DCert) : sameE a a = true := by simp only [sameE, sameC_self, sameL_self sameV_self, Bool.and_self]
theorem sameBk_self (a : DB) : sameBk a a = true := by simp [sameBk]
theorem sameK_self (a : DKept) : sameK a a = true := by simp only [sameK, sameL_self sameBk_self, sameL_self sameE_self, sameL_self sameV_self, sameL_self sameC_self, Bool.and_self]
theorem kit_kept_same (A B : Kept) (a : DKept) (h : a.small) : Meets Try.prog 15 [agg A.cells, agg B.cells] [] (fun W => KeptIs W A a ∧ KeptIs W B a) (fun v out => v = .bool true ∧ out = []) := by
  have h := kit_kept A B a a h
  rwa [sameK_self] at h
theorem dkz_small : dkz.small := ⟨fun d h => (by cases h), fun d h => (by cases h), fun d h => (by cases h)⟩
def oneB : List UInt8 := 1 :: List.replicate 31 0
def sevB : List UInt8 := 7 :: List.replicate 31 0
def exCut (q : Nat) : Cut := ⟨1, List.replicate 32 0, ⟨some ⟨q, 0, none⟩, 1, 1⟩⟩
def exCutD : DCut := ⟨1, List.replicate 32 0, [oneB]⟩
def exVote : Vote := ⟨1, 0, 3, sevB, 0, List.replicate 32 0, List.replicate 64 0⟩
def exCert (q r : Nat) : Cert := ⟨exCut q, ⟨some ⟨r, 0, none⟩, 1, 1⟩⟩
def exD : DCert := ⟨exCutD, [exVote]⟩
theorem exCut_ok (q : Nat) : (exCut q).ok := ⟨rfl⟩
theorem exVote_ok : exVote.ok := ⟨rfl, rfl, rfl⟩
theorem exCert_ok (q r : Nat) : (exCert q r).ok := ⟨exCut_ok q⟩
theorem ex_name : (decide (sevB = cnameD exCutD)) = false := by kernel_rfl
theorem ex_check : exD.check = 2 := cert_bad2 (k := 0) dE (.inr (.inr (.inr (.inl (of_decide_eq_false ex_name)))))
theorem ex_by : certBy exD = [] := if_neg (by rw [ex_check]; decide)
theorem ex_rec : (recOf 2 (certBy exD) exD.check).2 = 2 := by rw [recOf, if_neg (by rw [ex_check]; decide)]; exact ex_check
theorem ex_r0 : keepRd [] = (dkz, 0) := keepRd_ok keepR_nil rfl
theorem keepR_one (r : DRecord) : keepR [r] = keepStep dkz r := rfl
theorem step_no {D : DKept} {r : DRecord} (h : 4 < r.dKind.toNat) : keepStep D r = none := by
  have hn : ∀ k : UInt8, k.toNat ≤ 4 → ¬ r.dKind = k := fun k hk e => by rw [e] at h; omega
  rw [keepStep, if_neg (hn 1 dE), if_neg (hn 2 dE), if_neg (hn 3 dE), if_neg (hn 4 dE)]
theorem rd_kind {r : DRecord} (h : 4 < r.dKind.toNat) : keepRd [r] = (dkz, 4) := keepRd_bad (by rw [keepR_one, step_no h])
theorem exCut_is {w : World} {q : Nat} {m : Nat} (hl : Lies [⟨q, flatB [oneB], 25, m⟩] w) (hm : m = 1 * 32) : CutIs w (exCut q) exCutD := by
  subst hm
  exact ⟨exCut_ok q, rfl, rfl, acc_rows (Acc.some (E := 25) (cells := flatB [oneB]) (Nat.le_refl _) rfl) hl (fun l h => by rw [List.mem_singleton.1 h]; rfl) rfl dE⟩

set_option maxRecDepth 100000 in
set_option maxHeartbeats 4000000 in
theorem law26_lives  : Meets Try.prog 4 [] [] (fun _ => True) (fun v out => v = .bool true ∧ out = []) := by
  intro W hW
  refine calls_of (hp0 := []) Try.func4 rfl 45 Try.ntmps4 rfl (HRep.nil _) ?_
  refine Sat.seq ?_
  refine Sat.region ?_
  refine Tr.assign rfl rfl rfl ?_
  refine Tr.nil ?_
  refine at_n ?_
  refine Sat.seq ?_
  refine Sat.region ?_
  refine Tr.build (cs := bytesV oneB) rfl rfl rfl (fun w => by kernel_rfl) ?_
  refine Tr.mkRow2 (z := agg (bytesV (List.replicate 32 0))) [agg (bytesV oneB)] (flatB [oneB]) rfl rfl Try.underlying26 Sz25 Zr25 rfl rfl (by intro v hv; rw [List.mem_singleton.1 hv]; rfl) dE (by rfl) ?_
  intro q9
  refine Tr.build (cs := (exCut q9).cells) rfl rfl rfl (fun w => by kernel_rfl) ?_
  refine Tr.build (cs := bytesV sevB) rfl rfl rfl (fun w => by kernel_rfl) ?_
  refine Tr.build (cs := exVote.cells) rfl rfl rfl (fun w => by kernel_rfl) ?_
  refine Tr.mkRow2 (z := agg Vote.zero.cells) [agg exVote.cells] exVote.cells rfl rfl Try.underlying34 Sz38 Vote.zr rfl rfl (by intro v hv; rw [List.mem_singleton.1 hv]; exact Vote.length exVote_ok) dE (by simp [Value.cells]) ?_
  intro q13
  refine Tr.build (cs := (exCert q9 q13).cells) rfl rfl rfl (fun w => by kernel_rfl) ?_
  refine Tr.alloc (cs := Cert.zero.cells) rfl Cert.zr rfl ?_
  intro n1 hn1 hf1
  refine Tr.storeAll rfl rfl rfl rfl (Cert.isCell (by first | exact oK  | exact exCert_ok _ _ | exact exCut_ok _ | exact exVote_ok | exact ok16 | exact ok22 | exact ok27 | exact ⟨trivial⟩)) Sz36 (Cert.length (by first | exact oK  | exact exCert_ok _ _ | exact exCut_ok _ | exact exVote_ok | exact ok16 | exact ok22 | exact ok27 | exact ⟨trivial⟩)) mM (Cert.length (by first | exact oK  | exact exCert_ok _ _ | exact exCut_ok _ | exact exVote_ok | exact ok16 | exact ok22 | exact ok27 | exact ⟨trivial⟩)) uU ?_
  refine Tr.nil ?_
  refine at_n ?_
  refine Sat.seq ?_
  refine Sat.region ?_
  refine Tr.call4 rfl rfl rfl rfl rfl Body14 (keep_read Sl.nil [] dE (fun d h => by cases h)) (fun w h => ⟨[], SeqIs.none⟩) ?_
  rintro v16 out16 ⟨X16, ok16, rfl, h16⟩
  rw [ex_r0] at h16 ⊢
  refine Tr.move rfl rfl rfl ?_
  refine Tr.extract rfl rfl rfl rfl ?_
  refine Tr.extract rfl rfl rfl rfl ?_
  refine Tr.alloc (cs := Kept.zero.cells) rfl Kept.zr rfl ?_
  intro n2 hn2 hf2
  refine Tr.storeAll rfl rfl rfl rfl (Kept.isCell (by first | exact oK  | exact exCert_ok _ _ | exact exCut_ok _ | exact exVote_ok | exact ok16 | exact ok22 | exact ok27 | exact ⟨trivial⟩)) Sz57 (Kept.length (by first | exact oK  | exact exCert_ok _ _ | exact exCut_ok _ | exact exVote_ok | exact ok16 | exact ok22 | exact ok27 | exact ⟨trivial⟩)) mM (Kept.length (by first | exact oK  | exact exCert_ok _ _ | exact exCut_ok _ | exact exVote_ok | exact ok16 | exact ok22 | exact ok27 | exact ⟨trivial⟩)) uU ?_
  refine Tr.assign rfl rfl rfl ?_
  refine Tr.nil ?_
  refine at_n ?_
  refine Sat.seq ?_
  refine Sat.region ?_
  refine Tr.build (cs := (⟨5, Sl.nil⟩ : Record).cells) rfl rfl rfl (fun w => by kernel_rfl) ?_
  refine Tr.mkRow2 (z := agg Record.zero.cells) [agg (⟨5, Sl.nil⟩ : Record).cells] (⟨5, Sl.nil⟩ : Record).cells rfl rfl Try.underlying60 Sz47 Record.zr rfl rfl (by intro v hv; rw [List.mem_singleton.1 hv]; exact rfl) dE (by simp [Value.cells]) ?_
  intro q21
  refine Tr.call4 rfl rfl rfl rfl rfl Body14 (keep_read ⟨some ⟨q21, 0, none⟩, 1, 1⟩ [⟨5, []⟩] sP (fun d h => by rw [List.mem_singleton.1 h]; decide)) (fun w h => ⟨_, seq_one q21 47 (⟨5, Sl.nil⟩ : Record) (Lies.of h (by intro b hb; rw [List.mem_singleton.1 hb]; repeat (first | exact List.mem_cons_self | refine List.mem_cons_of_mem _ ?_ | refine mem_seg ?_))) (Record.length (show (⟨5, Sl.nil⟩ : Record).ok from ⟨trivial⟩)) (by rw [Record.length (show (⟨5, Sl.nil⟩ : Record).ok from ⟨trivial⟩)]) ⟨⟨trivial⟩, rfl, ⟨rfl, Nat.le_refl _, SeesP.nil, by decide, fun _ => rfl⟩⟩⟩) ?_
  rintro v22 out22 ⟨X22, ok22, rfl, h22⟩
  rw [rd_kind dE] at h22 ⊢
  refine Tr.move rfl rfl rfl ?_
  refine Tr.extract rfl rfl rfl rfl ?_
  refine Tr.extract rfl rfl rfl rfl ?_
  refine Tr.alloc (cs := Kept.zero.cells) rfl Kept.zr rfl ?_
  intro n4 hn4 hf4
  refine Tr.storeAll rfl rfl rfl rfl (Kept.isCell (by first | exact oK  | exact exCert_ok _ _ | exact exCut_ok _ | exact exVote_ok | exact ok16 | exact ok22 | exact ok27 | exact ⟨trivial⟩)) Sz57 (Kept.length (by first | exact oK  | exact exCert_ok _ _ | exact exCut_ok _ | exact exVote_ok | exact ok16 | exact ok22 | exact ok27 | exact ⟨trivial⟩)) mM (Kept.length (by first | exact oK  | exact exCert_ok _ _ | exact exCut_ok _ | exact exVote_ok | exact ok16 | exact ok22 | exact ok27 | exact ⟨trivial⟩)) uU ?_
  refine Tr.assign rfl rfl rfl ?_
  refine Tr.nil ?_
  refine at_n ?_
  refine Sat.seq ?_
  refine Sat.region ?_
  refine Tr.loadAll rfl rfl rfl Try.underlying36 rfl Sz36 mM (Cert.length (by first | exact oK  | exact exCert_ok _ _ | exact exCut_ok _ | exact exVote_ok | exact ok16 | exact ok22 | exact ok27 | exact ⟨trivial⟩)) ?_
  refine Tr.call4 rfl rfl rfl rfl rfl Body10 (keep_cert (exCert q9 q13) exD (by rw [ex_by]; decide)) (fun w h => ⟨exCert_ok _ _, exCut_is (q := q9) (Lies.of h (by intro b hb; rw [List.mem_singleton.1 hb]; repeat (first | exact List.mem_cons_self | refine List.mem_cons_of_mem _ ?_ | refine mem_seg ?_))) rfl, ⟨_, seq_one q13 38 exVote (Lies.of h (by intro b hb; rw [List.mem_singleton.1 hb]; repeat (first | exact List.mem_cons_self | refine List.mem_cons_of_mem _ ?_ | refine mem_seg ?_))) (Vote.length exVote_ok) rfl ⟨exVote_ok, rfl, by decide⟩⟩⟩) ?_
  rintro v27 out27 ⟨X27, ok27, rfl, k27, h27⟩
  refine Tr.move rfl rfl rfl ?_
  refine Tr.extract rfl rfl rfl rfl ?_
  refine Tr.extract rfl rfl rfl rfl ?_
  refine Tr.alloc (cs := Record.zero.cells) rfl Record.zr rfl ?_
  intro n6 hn6 hf6
  refine Tr.storeAll rfl rfl rfl rfl (Record.isCell (by first | exact oK  | exact exCert_ok _ _ | exact exCut_ok _ | exact exVote_ok | exact ok16 | exact ok22 | exact ok27 | exact ⟨trivial⟩)) Sz47 (Record.length (by first | exact oK  | exact exCert_ok _ _ | exact exCut_ok _ | exact exVote_ok | exact ok16 | exact ok22 | exact ok27 | exact ⟨trivial⟩)) mM (Record.length (by first | exact oK  | exact exCert_ok _ _ | exact exCut_ok _ | exact exVote_ok | exact ok16 | exact ok22 | exact ok27 | exact ⟨trivial⟩)) uU ?_
  refine Tr.assign rfl rfl rfl ?_
  refine Tr.nil ?_
  refine at_n ?_
  refine Sat.seq ?_
  refine Sat.region ?_
  refine Tr.move rfl rfl rfl ?_
  refine Tr.eqi rfl rfl rfl rfl (decide_eq_true (rfl)) ?_
  refine Tr.move rfl rfl rfl ?_
  refine Tr.loadAll rfl rfl rfl Try.underlying57 rfl Sz57 mM (Kept.length (by first | exact oK  | exact exCert_ok _ _ | exact exCut_ok _ | exact exVote_ok | exact ok16 | exact ok22 | exact ok27 | exact ⟨trivial⟩)) ?_
  refine Tr.build (cs := Kept.zero.cells) rfl rfl rfl (fun w => by kernel_rfl) ?_
  refine Tr.callV rfl rfl rfl rfl Body15 (kit_kept_same X16 Kept.zero dkz dkz_small) (fun w h => ⟨h16 w (Lies.of h iN), keptz_is w⟩) ?_
  refine Tr.pick rfl rfl rfl rfl rfl rfl ?_
  refine Tr.move rfl rfl rfl ?_
  refine Tr.move rfl rfl rfl ?_
  refine Tr.eqi rfl rfl rfl rfl (decide_eq_true (rfl)) ?_
  refine Tr.pick rfl rfl rfl rfl rfl rfl ?_
  refine Tr.move rfl rfl rfl ?_
  refine Tr.move rfl rfl rfl ?_
  refine Tr.eqi rfl rfl rfl rfl (decide_eq_true (ex_rec)) ?_
  refine Tr.pick rfl rfl rfl rfl rfl rfl ?_
  refine Tr.assign rfl rfl rfl ?_
  refine Tr.nil ?_
  refine at_n ?_
  refine Sat.ret ?_
  refine en_r ?_
  refine ⟨_, [], res_tmp rfl rfl, sP, sP, ?_, rfl⟩
  rfl

end Go.Proofs.Ytlgbmfokgnoocaa
end

section
namespace Hw
open Go Go.RowKit
set_option linter.unusedSimpArgs false
set_option linter.unusedVariables false

theorem add8_eq (x y : UInt8) : IntKind.u8.wrap ((x.toNat : Int) + y.toNat) = ((x + y).toNat : Int) := by
  have := x.toNat_lt; have := y.toNat_lt
  rw [IntKind.wrap_u8, UInt8.toNat_add]; omega
section
variable {C : Cx} {ops : Array Oper} {rest : List (Nat × Oper)} {sl : List (Nat × Value)} {hp : List Blk} {Q : St → Prop} {c d : Nat} {ty : TypeId} {pos : String} {af : Array Edge} {g : Option (Nat × Bool)}
variable {xT yT : TypeId} {x y : Operand} {a b : Int} {p q : UInt8}
theorem Tr.add_u8 (hg : guardOk ops sl g = true) (hk : okD c d C.N = true) (hx : evIn sl x = some (u8 p)) (hy : evIn sl y = some (u8 q))
    (k : Tr C ops rest ⟨(d, u8 (p + q)) :: sl, hp⟩ Q) : Tr C ops ((c, ⟨some d, .binOp .add xT x y yT, ty, pos, af, g⟩) :: rest) ⟨sl, hp⟩ Q :=
  .bin hg hk hx hy (fun w => by simp only [binOp, Op.intArith, add8_eq]; rfl) k
end
end Hw
end

section
namespace Go.Proofs.Ytlgbmfokgnoocaa
open Go Hw
set_option linter.unusedVariables false
set_option linter.unusedSimpArgs false

theorem recOf_ok {K : UInt8} {bs : List UInt8} {chk : Int} (h : (recOf K bs chk).2 = 0) : chk = 0 ∧ recOf K bs chk = (⟨K, bs⟩, 0) ∧ bs.length ≤ 8192 := by
  unfold recOf at h ⊢
  by_cases h1 : chk = 0
  · rw [if_pos h1] at h ⊢
    by_cases h2 : (⟨K, bs⟩ : DRecord).check = 0
    · rw [if_pos h2] at h ⊢
      refine ⟨h1, rfl, ?_⟩
      unfold DRecord.check at h2
      split at h2
      · cases h2
      · rename_i h3; simp only [not_or] at h3; omega
    · rw [if_neg h2] at h; cases h
  · rw [if_neg h1] at h; exact absurd h h1
theorem kpB {D : DB} (ok : D.ok) (c : D.check = 0) : keepRd [⟨1, D.bytes⟩] = (⟨[D], [], [], []⟩, 0) := by
  refine keepRd_ok ?_ rfl
  have h := readD_bytes ok c
  rw [keepR_one, keepStep, if_pos rfl, if_pos (by rw [h])]
  simp only [h]; rfl
theorem kpV {V : Vote} (ok : V.ok) (c : vcheck V = 0) : keepRd [⟨3, voteBy V⟩] = (⟨[], [], [V], []⟩, 0) := by
  refine keepRd_ok ?_ rfl
  have h := voteRd_bytes ok c
  rw [keepR_one, keepStep, if_neg (by show ¬ (3 : UInt8) = 1; decide), if_neg (by show ¬ (3 : UInt8) = 2; decide), if_pos rfl, if_pos (by rw [h])]
  simp only [h]; rfl
theorem kpC {D : DCut} (hp : D.dPrev.length = 32) (hr : ∀ l ∈ D.dHeads, l.length = 32) (c : D.check = 0) : keepRd [⟨4, D.bytes⟩] = (⟨[], [], [], [D]⟩, 0) := by
  refine keepRd_ok ?_ rfl
  have h := cutRd_bytes hp hr c
  rw [keepR_one, keepStep, if_neg (by show ¬ (4 : UInt8) = 1; decide), if_neg (by show ¬ (4 : UInt8) = 2; decide), if_neg (by show ¬ (4 : UInt8) = 3; decide), if_pos rfl, if_pos (by rw [h])]
  simp only [h]; rfl
theorem kpE0 {D : DCert} (hp : D.dCut.dPrev.length = 32) (hr : ∀ l ∈ D.dCut.dHeads, l.length = 32) (hv : ∀ d ∈ D.dVotes, d.ok) (c : D.check = 0) : keepR [⟨2, D.bytes⟩] = some ⟨[], [D], [], []⟩ := by
  have h := certRd_bytes hp hr hv c
  rw [keepR_one, keepStep, if_neg (by show ¬ (2 : UInt8) = 1; decide), if_pos rfl, if_pos (by rw [h])]
  simp only [h]; rfl
theorem inOrd_one {D : DCert} : inOrd [D] = decide (D.dCut.dHeight.toNat = 1) := by
  have e : List.range 1 = [0] := rfl
  simp [inOrd, e]
theorem kpE {D : DCert} (hp : D.dCut.dPrev.length = 32) (hr : ∀ l ∈ D.dCut.dHeads, l.length = 32) (hv : ∀ d ∈ D.dVotes, d.ok) (c : D.check = 0) (h1 : D.dCut.dHeight.toNat = 1) : keepRd [⟨2, D.bytes⟩] = (⟨[], [D], [], []⟩, 0) :=
  keepRd_ok (kpE0 hp hr hv c) (by rw [inOrd_one]; exact decide_eq_true h1)
theorem kpE' {D : DCert} (hp : D.dCut.dPrev.length = 32) (hr : ∀ l ∈ D.dCut.dHeads, l.length = 32) (hv : ∀ d ∈ D.dVotes, d.ok) (c : D.check = 0) (h1 : ¬ D.dCut.dHeight.toNat = 1) : keepRd [⟨2, D.bytes⟩] = (dkz, 4) :=
  keepRd_ord (kpE0 hp hr hv c) (by rw [inOrd_one]; exact decide_eq_false h1)
theorem certBy_le {C : Cert} {D : DCert} {W : World} (h : CertIs W C D) : (certBy D).length ≤ 40000 := by
  unfold certBy
  split
  · rename_i hc
    obtain ⟨h1, h2, h3⟩ := DCert.facts hc
    have hcl := cutR_le h.fCut
    obtain ⟨rs, hvs⟩ := h.fVotes
    have h4 := listB_le voteBy 164 dE D.dVotes (fun d hd => voteBy_le (seqv_ok hvs d hd))
    have h5 : D.dVotes.length * (164 + 9) ≤ 16 * (164 + 9) := Nat.mul_le_mul_right _ h3
    have hz := szN_pos (cutR D.dCut).length
    have hz2 := szN_pos (UInt64.ofNat D.dVotes.length).toNat
    rw [DCert.bytes, List.length_append, List.length_append, blkB_length oM, numB_length]
    omega
  · simp
theorem blockBy_le {D : DB} (ok : D.ok) : (blockBy D).length ≤ 40000 := by
  unfold blockBy
  split
  · rename_i hc
    have := D.bytes_small hc ok
    omega
  · simp
theorem light_one {D : Type} {f : D → Bool} {d : D} (h : lightOf f [d] 1 = true) : f d = true := by simpa [lightOf] using h
theorem rec_is {W : World} {X : Record} {K : UInt8} {bs : List UInt8} {chk : Int} (h : RecordIs W X (recOf K bs chk).1) (h0 : (recOf K bs chk).2 = 0) : RecordIs W X ⟨K, bs⟩ := by
  rwa [(recOf_ok h0).2.1] at h

set_option maxRecDepth 100000 in
set_option maxHeartbeats 4000000 in
theorem law26_alone (R : Record) (d : DRecord) (kind : UInt8) (Wt : Kept) (K : DKept) (hsm : K.small) (hr : keepRd [d] = (K, 0)) (hkd : d.dKind = kind) (h4 : 4 < (4 + kind : UInt8).toNat) (hlen : d.dData.length ≤ 90000) : Meets Try.prog 13 [agg R.cells, u8 kind, agg Wt.cells] [] (fun W => RecordIs W R d ∧ KeptIs W Wt K) (fun v out => v = .bool true ∧ out = []) := by
  intro W hW
  have hok := hW.1.ok
  have hwok := hW.2.ok
  have hRk := hW.1.fKind
  refine calls_of (hp0 := []) Try.func13 rfl 44 Try.ntmps13 rfl (HRep.nil _) ?_
  refine Sat.seq ?_
  refine Sat.region ?_
  refine Tr.boxA rfl rfl ?_
  intro n3 hn3 hf3
  refine Tr.boxA rfl rfl ?_
  intro n5 hn5 hf5
  refine Tr.assign rfl rfl rfl ?_
  refine Tr.nil ?_
  refine at_n ?_
  refine Sat.seq ?_
  refine Sat.region ?_
  refine Tr.loadAll rfl rfl rfl Try.underlying47 rfl Sz47 mM (Record.length (by first | exact oK  | exact hok | exact hwok | exact ok14 | exact ok24 | exact ⟨trivial⟩)) ?_
  refine Tr.mkRow2 (z := agg Record.zero.cells) [agg R.cells] R.cells rfl rfl Try.underlying60 Sz47 Record.zr rfl rfl (by intro v hv; rw [List.mem_singleton.1 hv]; exact Record.length hok) dE (by simp [Value.cells]) ?_
  intro q13
  refine Tr.call4 rfl rfl rfl rfl rfl Body14 (keep_read ⟨some ⟨q13, 0, none⟩, 1, 1⟩ [d] sP (fun x h => by rw [List.mem_singleton.1 h]; exact hlen)) (fun w h => ⟨_, seq_one q13 47 R (Lies.of h (by intro b hb; rw [List.mem_singleton.1 hb]; repeat (first | exact List.mem_cons_self | refine List.mem_cons_of_mem _ ?_ | refine mem_seg ?_))) (Record.length hok) (by rw [Record.length hok]) (hW.1.ext h rfl)⟩) ?_
  rintro v14 out14 ⟨X14, ok14, rfl, h14⟩
  rw [hr] at h14 ⊢
  refine Tr.move rfl rfl rfl ?_
  refine Tr.extract rfl rfl rfl rfl ?_
  refine Tr.extract rfl rfl rfl rfl ?_
  refine Tr.alloc (cs := Kept.zero.cells) rfl Kept.zr rfl ?_
  intro n7 hn7 hf7
  refine Tr.storeAll rfl rfl rfl rfl (Kept.isCell (by first | exact oK  | exact hok | exact hwok | exact ok14 | exact ok24 | exact ⟨trivial⟩)) Sz57 (Kept.length (by first | exact oK  | exact hok | exact hwok | exact ok14 | exact ok24 | exact ⟨trivial⟩)) mM (Kept.length (by first | exact oK  | exact hok | exact hwok | exact ok14 | exact ok24 | exact ⟨trivial⟩)) uU ?_
  refine Tr.assign rfl rfl rfl ?_
  refine Tr.nil ?_
  refine at_n ?_
  refine Sat.seq ?_
  refine Sat.region ?_
  refine Tr.move rfl rfl rfl ?_
  refine Tr.add_u8 rfl rfl (show evIn _ _ = some (u8 4) from rfl) rfl ?_
  refine Tr.fld rfl rfl rfl Try.underlying47 rfl Sz27 dE _ rfl ?_
  refine Tr.load1 rfl rfl rfl Try.underlying27 rfl mM (by first | exact Record.get_fData (by first | exact oK  | exact hok | exact hwok | exact ok14 | exact ok24 | exact ⟨trivial⟩) | exact vL) ?_
  refine Tr.build (cs := (⟨4 + kind, R.fData⟩ : Record).cells) rfl rfl rfl (fun w => by kernel_rfl) ?_
  refine Tr.mkRow2 (z := agg Record.zero.cells) [agg (⟨4 + kind, R.fData⟩ : Record).cells] (⟨4 + kind, R.fData⟩ : Record).cells rfl rfl Try.underlying60 Sz47 Record.zr rfl rfl (by intro v hv; rw [List.mem_singleton.1 hv]; exact rfl) dE (by simp [Value.cells]) ?_
  intro q23
  refine Tr.call4 rfl rfl rfl rfl rfl Body14 (keep_read ⟨some ⟨q23, 0, none⟩, 1, 1⟩ [⟨4 + kind, d.dData⟩] sP (fun x h => by rw [List.mem_singleton.1 h]; exact hlen)) (fun w h => ⟨_, seq_one q23 47 (⟨4 + kind, R.fData⟩ : Record) (Lies.of h (by intro b hb; rw [List.mem_singleton.1 hb]; repeat (first | exact List.mem_cons_self | refine List.mem_cons_of_mem _ ?_ | refine mem_seg ?_))) (Record.length (show (⟨4 + kind, R.fData⟩ : Record).ok from ⟨trivial⟩)) (by rw [Record.length (show (⟨4 + kind, R.fData⟩ : Record).ok from ⟨trivial⟩)]) ⟨⟨trivial⟩, rfl, bytes_ext h rfl hW.1.fData⟩⟩) ?_
  rintro v24 out24 ⟨X24, ok24, rfl, h24⟩
  rw [rd_kind h4] at h24 ⊢
  refine Tr.move rfl rfl rfl ?_
  refine Tr.extract rfl rfl rfl rfl ?_
  refine Tr.extract rfl rfl rfl rfl ?_
  refine Tr.alloc (cs := Kept.zero.cells) rfl Kept.zr rfl ?_
  intro n9 hn9 hf9
  refine Tr.storeAll rfl rfl rfl rfl (Kept.isCell (by first | exact oK  | exact hok | exact hwok | exact ok14 | exact ok24 | exact ⟨trivial⟩)) Sz57 (Kept.length (by first | exact oK  | exact hok | exact hwok | exact ok14 | exact ok24 | exact ⟨trivial⟩)) mM (Kept.length (by first | exact oK  | exact hok | exact hwok | exact ok14 | exact ok24 | exact ⟨trivial⟩)) uU ?_
  refine Tr.assign rfl rfl rfl ?_
  refine Tr.nil ?_
  refine at_n ?_
  refine Sat.seq ?_
  refine Sat.region ?_
  refine Tr.move rfl rfl rfl ?_
  refine Tr.eqi rfl rfl rfl rfl (decide_eq_true (rfl)) ?_
  refine Tr.move rfl rfl rfl ?_
  refine Tr.loadAll rfl rfl rfl Try.underlying57 rfl Sz57 mM (Kept.length (by first | exact oK  | exact hok | exact hwok | exact ok14 | exact ok24 | exact ⟨trivial⟩)) ?_
  refine Tr.loadAll rfl rfl rfl Try.underlying57 rfl Sz57 mM (Kept.length (by first | exact oK  | exact hok | exact hwok | exact ok14 | exact ok24 | exact ⟨trivial⟩)) ?_
  refine Tr.callV rfl rfl rfl rfl Body15 (kit_kept_same X14 Wt K hsm) (fun w h => ⟨h14 w (Lies.of h iN), hW.2.ext h rfl⟩) ?_
  refine Tr.pick rfl rfl rfl rfl rfl rfl ?_
  refine Tr.move rfl rfl rfl ?_
  refine Tr.fld rfl rfl rfl Try.underlying47 rfl Sz5 dE _ rfl ?_
  refine Tr.load1 rfl rfl rfl Try.underlying5 rfl mM (by first | exact Record.get_fKind (by first | exact oK  | exact hok | exact hwok | exact ok14 | exact ok24 | exact ⟨trivial⟩) | exact vL) ?_
  refine Tr.move rfl rfl rfl ?_
  refine Tr.eqi rfl rfl rfl rfl (decide_eq_true (by rw [hRk, hkd])) ?_
  refine Tr.pick rfl rfl rfl rfl rfl rfl ?_
  refine Tr.move rfl rfl rfl ?_
  refine Tr.move rfl rfl rfl ?_
  refine Tr.eqi rfl rfl rfl rfl (decide_eq_true (rfl)) ?_
  refine Tr.pick rfl rfl rfl rfl rfl rfl ?_
  refine Tr.assign rfl rfl rfl ?_
  refine Tr.nil ?_
  refine at_n ?_
  refine Sat.ret ?_
  refine en_r ?_
  refine ⟨_, [], res_tmp rfl rfl, sP, sP, ?_, rfl⟩
  rfl

set_option maxRecDepth 100000 in
set_option maxHeartbeats 8000000 in
theorem law_keepkinds (B : Block) (D : DB) (C : Cert) (E : DCert) (V U : Vote) (K : Cut) (F : DCut) : Meets Try.prog 3 [agg B.cells, agg C.cells, agg V.cells, agg K.cells] [] (fun W => BlockIs W B D ∧ CertIs W C E ∧ VoteIs W V U ∧ CutIs W K F) (fun v out => v = .bool true ∧ out = []) := by
  intro W hW
  obtain ⟨hWB, hWC, hWV, hWK⟩ := hW
  have hB := hWB.ok
  have hC := hWC.ok
  have hV := hWV.ok
  have hK := hWK.ok
  obtain rfl := hWV.eq
  have hdo := hWB.dok
  have hpl : F.dPrev.length = 32 := by rw [← hWK.fPrev]; exact hK.l_fPrev
  have hpe : E.dCut.dPrev.length = 32 := by rw [← hWC.fCut.fPrev]; exact hC.o_fCut.l_fPrev
  obtain ⟨rsv, hvs⟩ := hWC.fVotes
  have hvo := seqv_ok hvs
  refine calls_of (hp0 := []) Try.func3 rfl 114 Try.ntmps3 rfl (HRep.nil _) ?_
  refine Sat.seq ?_
  refine Sat.region ?_
  refine Tr.boxA rfl rfl ?_
  intro n4 hn4 hf4
  refine Tr.boxA rfl rfl ?_
  intro n5 hn5 hf5
  refine Tr.boxA rfl rfl ?_
  intro n6 hn6 hf6
  refine Tr.boxA rfl rfl ?_
  intro n7 hn7 hf7
  refine Tr.assign rfl rfl rfl ?_
  refine Tr.nil ?_
  refine at_n ?_
  refine Sat.seq ?_
  refine Sat.seq ?_
  refine Sat.region ?_
  refine Tr.callV rfl rfl rfl rfl Body4 (law26_lives) (fun _ _ => trivial) ?_
  refine Tr.not rfl rfl rfl ?_
  refine Tr.nil ?_
  refine at_n ?_
  refine Sat.cond_f rfl (rfl) ?_
  refine Sat.skip ?_
  refine at_n ?_
  refine Sat.seq ?_
  refine Sat.seq ?_
  refine Sat.region ?_
  refine Tr.loadAll rfl rfl rfl Try.underlying31 rfl Sz31 mM (Block.length (by first | exact oK  | exact hB | exact hC | exact hV | exact hK | exact ok38 | exact ok43 | exact ok48 | exact ok53 | exact ⟨trivial⟩ | exact hok2 | exact hK.o_fCut | exact hC.o_fCut)) ?_
  refine Tr.mkRow (z := agg Block.zero.cells) [agg B.cells] B.cells rfl rfl rfl Try.underlying41 Sz31 Block.zr rfl rfl (by intro v hv; rw [List.mem_singleton.1 hv]; exact Block.length hB) dE (by simp [Value.cells]) ?_
  intro q20
  refine Tr.callB rfl rfl rfl rfl Body5 (lightd_blocks ⟨some ⟨q20, 0, none⟩, 1, 1⟩ [D] 1) (fun w h => ⟨_, seq_one q20 31 B (Lies.of h (by intro b hb; rw [List.mem_singleton.1 hb]; repeat (first | exact List.mem_cons_self | refine List.mem_cons_of_mem _ ?_ | refine mem_seg ?_))) (Block.length hB) (by rw [Block.length hB]) (hWB.ext h rfl)⟩) (fun hs3_20 => ?_) (fun hs3_20 => ?_)
  ·
    first | have hs3_2 := of_decide_eq_true hs3_20 | have hs3_2 := of_decide_eq_false hs3_20 | have hs3_2 := nd_t hs3_20 | have hs3_2 := nd_f hs3_20 | have hs3_2 := hs3_20
    refine Tr.not rfl rfl rfl ?_
    refine Tr.move rfl rfl rfl ?_
    refine Tr.loadAll rfl rfl rfl Try.underlying36 rfl Sz36 mM (Cert.length (by first | exact oK  | exact hB | exact hC | exact hV | exact hK | exact ok38 | exact ok43 | exact ok48 | exact ok53 | exact ⟨trivial⟩ | exact hok2 | exact hK.o_fCut | exact hC.o_fCut)) ?_
    refine Tr.mkRow (z := agg Cert.zero.cells) [agg C.cells] C.cells rfl rfl rfl Try.underlying43 Sz36 Cert.zr rfl rfl (by intro v hv; rw [List.mem_singleton.1 hv]; exact Cert.length hC) dE (by simp [Value.cells]) ?_
    intro q25
    refine Tr.callB rfl rfl rfl rfl Body6 (lightd_certs ⟨some ⟨q25, 0, none⟩, 1, 1⟩ [E] 1) (fun w h => ⟨_, seq_one q25 36 C (Lies.of h (by intro b hb; rw [List.mem_singleton.1 hb]; repeat (first | exact List.mem_cons_self | refine List.mem_cons_of_mem _ ?_ | refine mem_seg ?_))) (Cert.length hC) (by rw [Cert.length hC]) (hWC.ext h rfl)⟩) (fun hs3_70 => ?_) (fun hs3_70 => ?_)
    ·
      first | have hs3_7 := of_decide_eq_true hs3_70 | have hs3_7 := of_decide_eq_false hs3_70 | have hs3_7 := nd_t hs3_70 | have hs3_7 := nd_f hs3_70 | have hs3_7 := hs3_70
      refine Tr.not rfl rfl rfl ?_
      refine Tr.pick rfl rfl rfl rfl rfl rfl ?_
      refine Tr.move rfl rfl rfl ?_
      refine Tr.loadAll rfl rfl rfl Try.underlying33 rfl Sz33 mM (Cut.length (by first | exact oK  | exact hB | exact hC | exact hV | exact hK | exact ok38 | exact ok43 | exact ok48 | exact ok53 | exact ⟨trivial⟩ | exact hok2 | exact hK.o_fCut | exact hC.o_fCut)) ?_
      refine Tr.mkRow (z := agg Cut.zero.cells) [agg K.cells] K.cells rfl rfl rfl Try.underlying45 Sz33 Cut.zr rfl rfl (by intro v hv; rw [List.mem_singleton.1 hv]; exact Cut.length hK) dE (by simp [Value.cells]) ?_
      intro q31
      refine Tr.callB rfl rfl rfl rfl Body7 (lightd_cuts ⟨some ⟨q31, 0, none⟩, 1, 1⟩ [F] 1) (fun w h => ⟨_, seq_one q31 33 K (Lies.of h (by intro b hb; rw [List.mem_singleton.1 hb]; repeat (first | exact List.mem_cons_self | refine List.mem_cons_of_mem _ ?_ | refine mem_seg ?_))) (Cut.length hK) (by rw [Cut.length hK]) (hWK.ext h rfl)⟩) (fun hs3_130 => ?_) (fun hs3_130 => ?_)
      ·
        first | have hs3_13 := of_decide_eq_true hs3_130 | have hs3_13 := of_decide_eq_false hs3_130 | have hs3_13 := nd_t hs3_130 | have hs3_13 := nd_f hs3_130 | have hs3_13 := hs3_130
        refine Tr.not rfl rfl rfl ?_
        refine Tr.pick rfl rfl rfl rfl rfl rfl ?_
        refine Tr.nil ?_
        refine at_n ?_
        refine Sat.cond_f rfl rfl ?_
        refine Sat.skip ?_
        refine at_n ?_
        refine Sat.seq ?_
        refine Sat.region ?_
        have hl1 := light_one hs3_2
        have hl2 := light_one hs3_7
        have hl3 := light_one hs3_13
        simp only [lightBf, lightEf, lightCf, Bool.and_eq_true, decide_eq_true_eq] at hl1 hl2 hl3
        obtain ⟨hlA, hlB⟩ := hl1
        obtain ⟨hlC, hlD⟩ := hl2
        have hkB : (recOf 1 (blockBy D) D.check).2 = 0 → keepRd [⟨1, blockBy D⟩] = (⟨[D], [], [], []⟩, 0) := fun e => by rw [show blockBy D = D.bytes from if_pos (recOf_ok e).1]; exact kpB hdo (recOf_ok e).1
        have hkV : (recOf 3 (voteBy V) (vcheck V)).2 = 0 → keepRd [⟨3, voteBy V⟩] = (⟨[], [], [V], []⟩, 0) := fun e => kpV hV (recOf_ok e).1
        have hkC : (recOf 4 (cutR F) F.check).2 = 0 → keepRd [⟨4, cutR F⟩] = (⟨[], [], [], [F]⟩, 0) := fun e => by rw [show cutR F = F.bytes from if_pos (recOf_ok e).1]; exact kpC hpl hWK.fHeads.row (recOf_ok e).1
        have hkE : (recOf 2 (certBy E) E.check).2 = 0 → E.dCut.dHeight.toNat = 1 → keepRd [⟨2, certBy E⟩] = (⟨[], [E], [], []⟩, 0) := fun e h1 => by rw [show certBy E = E.bytes from if_pos (recOf_ok e).1]; exact kpE hpe hWC.fCut.fHeads.row hvo (recOf_ok e).1 h1
        have hkN : (recOf 2 (certBy E) E.check).2 = 0 → ¬ E.dCut.dHeight.toNat = 1 → keepRd [⟨2, certBy E⟩] = (dkz, 4) := fun e h1 => by rw [show certBy E = E.bytes from if_pos (recOf_ok e).1]; exact kpE' hpe hWC.fCut.fHeads.row hvo (recOf_ok e).1 h1
        refine Tr.loadAll rfl rfl rfl Try.underlying31 rfl Sz31 mM (Block.length (by first | exact oK  | exact hB | exact hC | exact hV | exact hK | exact ok38 | exact ok43 | exact ok48 | exact ok53 | exact ⟨trivial⟩ | exact hok2 | exact hK.o_fCut | exact hC.o_fCut)) ?_
        refine Tr.call4 rfl rfl rfl rfl rfl Body9 (kit_own_block B hB D.ls D.ds (by rw [← hWB.ls.len]; omega) (by rw [← hWB.ds.len]; omega)) (fun w h => ⟨rows_ext h rfl hWB.ls, bytes_ext h rfl hWB.ds⟩) ?_
        rintro v37 out37 ⟨q1, c1, q2, c2, rfl, hq1, hq2, rfl⟩
        have hoi := owned_is (q1 := q1) (q2 := q2) hWB hq1 hq2 (by rw [← hWB.ls.len]; omega) (by rw [← hWB.ds.len]; omega)
        have hok2 := ownB_ok hB q1 c1 q2 c2
        refine Tr.call4 rfl rfl rfl rfl rfl Body8 (keep_block (ownB B q1 c1 q2 c2) D (blockBy_le hdo)) (fun w h => hoi w (Lies.of h (fun b hb => List.mem_append_left _ hb))) ?_
        rintro v38 out38 ⟨X38, ok38, rfl, k38, h38⟩
        refine Tr.move rfl rfl rfl ?_
        refine Tr.extract rfl rfl rfl rfl ?_
        refine Tr.extract rfl rfl rfl rfl ?_
        refine Tr.alloc (cs := Record.zero.cells) rfl Record.zr rfl ?_
        intro n9 hn9 hf9
        refine Tr.storeAll rfl rfl rfl rfl (Record.isCell (by first | exact oK  | exact hB | exact hC | exact hV | exact hK | exact ok38 | exact ok43 | exact ok48 | exact ok53 | exact ⟨trivial⟩ | exact hok2 | exact hK.o_fCut | exact hC.o_fCut)) Sz47 (Record.length (by first | exact oK  | exact hB | exact hC | exact hV | exact hK | exact ok38 | exact ok43 | exact ok48 | exact ok53 | exact ⟨trivial⟩ | exact hok2 | exact hK.o_fCut | exact hC.o_fCut)) mM (Record.length (by first | exact oK  | exact hB | exact hC | exact hV | exact hK | exact ok38 | exact ok43 | exact ok48 | exact ok53 | exact ⟨trivial⟩ | exact hok2 | exact hK.o_fCut | exact hC.o_fCut)) uU ?_
        refine Tr.assign rfl rfl rfl ?_
        refine Tr.nil ?_
        refine at_n ?_
        refine Sat.seq ?_
        refine Sat.region ?_
        refine Tr.loadAll rfl rfl rfl Try.underlying36 rfl Sz36 mM (Cert.length (by first | exact oK  | exact hB | exact hC | exact hV | exact hK | exact ok38 | exact ok43 | exact ok48 | exact ok53 | exact ⟨trivial⟩ | exact hok2 | exact hK.o_fCut | exact hC.o_fCut)) ?_
        refine Tr.call4 rfl rfl rfl rfl rfl Body10 (keep_cert C E (certBy_le hWC)) (fun w h => hWC.ext h rfl) ?_
        rintro v43 out43 ⟨X43, ok43, rfl, k43, h43⟩
        refine Tr.move rfl rfl rfl ?_
        refine Tr.extract rfl rfl rfl rfl ?_
        refine Tr.extract rfl rfl rfl rfl ?_
        refine Tr.alloc (cs := Record.zero.cells) rfl Record.zr rfl ?_
        intro n11 hn11 hf11
        refine Tr.storeAll rfl rfl rfl rfl (Record.isCell (by first | exact oK  | exact hB | exact hC | exact hV | exact hK | exact ok38 | exact ok43 | exact ok48 | exact ok53 | exact ⟨trivial⟩ | exact hok2 | exact hK.o_fCut | exact hC.o_fCut)) Sz47 (Record.length (by first | exact oK  | exact hB | exact hC | exact hV | exact hK | exact ok38 | exact ok43 | exact ok48 | exact ok53 | exact ⟨trivial⟩ | exact hok2 | exact hK.o_fCut | exact hC.o_fCut)) mM (Record.length (by first | exact oK  | exact hB | exact hC | exact hV | exact hK | exact ok38 | exact ok43 | exact ok48 | exact ok53 | exact ⟨trivial⟩ | exact hok2 | exact hK.o_fCut | exact hC.o_fCut)) uU ?_
        refine Tr.assign rfl rfl rfl ?_
        refine Tr.nil ?_
        refine at_n ?_
        refine Sat.seq ?_
        refine Sat.region ?_
        refine Tr.loadAll rfl rfl rfl Try.underlying38 rfl Sz38 mM (Vote.length (by first | exact oK  | exact hB | exact hC | exact hV | exact hK | exact ok38 | exact ok43 | exact ok48 | exact ok53 | exact ⟨trivial⟩ | exact hok2 | exact hK.o_fCut | exact hC.o_fCut)) ?_
        refine Tr.call4 rfl rfl rfl rfl rfl Body11 (keep_vote V V (Nat.le_trans (voteBy_le hV) dE)) (fun w h => hWV.ext h rfl) ?_
        rintro v48 out48 ⟨X48, ok48, rfl, k48, h48⟩
        refine Tr.move rfl rfl rfl ?_
        refine Tr.extract rfl rfl rfl rfl ?_
        refine Tr.extract rfl rfl rfl rfl ?_
        refine Tr.alloc (cs := Record.zero.cells) rfl Record.zr rfl ?_
        intro n13 hn13 hf13
        refine Tr.storeAll rfl rfl rfl rfl (Record.isCell (by first | exact oK  | exact hB | exact hC | exact hV | exact hK | exact ok38 | exact ok43 | exact ok48 | exact ok53 | exact ⟨trivial⟩ | exact hok2 | exact hK.o_fCut | exact hC.o_fCut)) Sz47 (Record.length (by first | exact oK  | exact hB | exact hC | exact hV | exact hK | exact ok38 | exact ok43 | exact ok48 | exact ok53 | exact ⟨trivial⟩ | exact hok2 | exact hK.o_fCut | exact hC.o_fCut)) mM (Record.length (by first | exact oK  | exact hB | exact hC | exact hV | exact hK | exact ok38 | exact ok43 | exact ok48 | exact ok53 | exact ⟨trivial⟩ | exact hok2 | exact hK.o_fCut | exact hC.o_fCut)) uU ?_
        refine Tr.assign rfl rfl rfl ?_
        refine Tr.nil ?_
        refine at_n ?_
        refine Sat.seq ?_
        refine Sat.region ?_
        refine Tr.loadAll rfl rfl rfl Try.underlying33 rfl Sz33 mM (Cut.length (by first | exact oK  | exact hB | exact hC | exact hV | exact hK | exact ok38 | exact ok43 | exact ok48 | exact ok53 | exact ⟨trivial⟩ | exact hok2 | exact hK.o_fCut | exact hC.o_fCut)) ?_
        refine Tr.call4 rfl rfl rfl rfl rfl Body12 (keep_cut K F (Nat.le_trans (cutR_le hWK) dE)) (fun w h => hWK.ext h rfl) ?_
        rintro v53 out53 ⟨X53, ok53, rfl, k53, h53⟩
        refine Tr.move rfl rfl rfl ?_
        refine Tr.extract rfl rfl rfl rfl ?_
        refine Tr.extract rfl rfl rfl rfl ?_
        refine Tr.alloc (cs := Record.zero.cells) rfl Record.zr rfl ?_
        intro n15 hn15 hf15
        refine Tr.storeAll rfl rfl rfl rfl (Record.isCell (by first | exact oK  | exact hB | exact hC | exact hV | exact hK | exact ok38 | exact ok43 | exact ok48 | exact ok53 | exact ⟨trivial⟩ | exact hok2 | exact hK.o_fCut | exact hC.o_fCut)) Sz47 (Record.length (by first | exact oK  | exact hB | exact hC | exact hV | exact hK | exact ok38 | exact ok43 | exact ok48 | exact ok53 | exact ⟨trivial⟩ | exact hok2 | exact hK.o_fCut | exact hC.o_fCut)) mM (Record.length (by first | exact oK  | exact hB | exact hC | exact hV | exact hK | exact ok38 | exact ok43 | exact ok48 | exact ok53 | exact ⟨trivial⟩ | exact hok2 | exact hK.o_fCut | exact hC.o_fCut)) uU ?_
        refine Tr.assign rfl rfl rfl ?_
        refine Tr.nil ?_
        refine at_n ?_
        refine Sat.seq ?_
        refine Sat.seq ?_
        refine Sat.region ?_
        refine Tr.move rfl rfl rfl ?_
        refine two (fun r hr k => Tr.eqi rfl rfl rfl rfl hr k) (fun hs9_10 => ?_) (fun hs9_10 => ?_)
        ·
          first | have hs9_1 := of_decide_eq_true hs9_10 | have hs9_1 := of_decide_eq_false hs9_10 | have hs9_1 := nd_t hs9_10 | have hs9_1 := nd_f hs9_10 | have hs9_1 := hs9_10
          refine Tr.move rfl rfl rfl ?_
          refine Tr.loadAll rfl rfl rfl Try.underlying47 rfl Sz47 mM (Record.length (by first | exact oK  | exact hB | exact hC | exact hV | exact hK | exact ok38 | exact ok43 | exact ok48 | exact ok53 | exact ⟨trivial⟩ | exact hok2 | exact hK.o_fCut | exact hC.o_fCut)) ?_
          refine Tr.loadAll rfl rfl rfl Try.underlying31 rfl Sz31 mM (Block.length (by first | exact oK  | exact hB | exact hC | exact hV | exact hK | exact ok38 | exact ok43 | exact ok48 | exact ok53 | exact ⟨trivial⟩ | exact hok2 | exact hK.o_fCut | exact hC.o_fCut)) ?_
          refine Tr.mkRow (z := agg Block.zero.cells) [agg B.cells] B.cells rfl rfl rfl Try.underlying41 Sz31 Block.zr rfl rfl (by intro v hv; rw [List.mem_singleton.1 hv]; exact Block.length hB) dE (by simp [Value.cells]) ?_
          intro q61
          refine Tr.build (cs := (⟨⟨some ⟨q61, 0, none⟩, 1, 1⟩, Sl.nil, Sl.nil, Sl.nil⟩ : Kept).cells) rfl rfl rfl (fun w => by kernel_rfl) ?_
          refine Tr.callV rfl rfl rfl rfl Body13 (law26_alone X38 ⟨1, blockBy D⟩ 1 (⟨⟨some ⟨q61, 0, none⟩, 1, 1⟩, Sl.nil, Sl.nil, Sl.nil⟩ : Kept) ⟨[D], [], [], []⟩ ⟨(fun d h => by rw [List.mem_singleton.1 h]; omega), (fun d h => (by cases h)), (fun d h => (by cases h))⟩ (hkB hs9_1) rfl dE (by have := (recOf_ok hs9_1).2.2; simp only []; omega)) (fun w h => ⟨rec_is (h38 w (Lies.of h iN)) hs9_1, ⟨⟨trivial⟩, ⟨_, seq_one q61 31 B (Lies.of h (by intro b hb; rw [List.mem_singleton.1 hb]; repeat (first | exact List.mem_cons_self | refine List.mem_cons_of_mem _ ?_ | refine mem_seg ?_))) (Block.length hB) (by rw [Block.length hB]) (hWB.ext h rfl)⟩, ⟨[], SeqIs.none⟩, ⟨[], SeqIs.none⟩, ⟨[], SeqIs.none⟩⟩⟩) ?_
          refine Tr.not rfl rfl rfl ?_
          refine Tr.pick rfl rfl rfl rfl rfl rfl ?_
          refine Tr.move rfl rfl rfl ?_
          refine Tr.move rfl rfl rfl ?_
          refine two (fun r hr k => Tr.eqi rfl rfl rfl rfl hr k) (fun hs9_120 => ?_) (fun hs9_120 => ?_)
          ·
            first | have hs9_12 := of_decide_eq_true hs9_120 | have hs9_12 := of_decide_eq_false hs9_120 | have hs9_12 := nd_t hs9_120 | have hs9_12 := nd_f hs9_120 | have hs9_12 := hs9_120
            refine Tr.move rfl rfl rfl ?_
            refine Tr.loadAll rfl rfl rfl Try.underlying47 rfl Sz47 mM (Record.length (by first | exact oK  | exact hB | exact hC | exact hV | exact hK | exact ok38 | exact ok43 | exact ok48 | exact ok53 | exact ⟨trivial⟩ | exact hok2 | exact hK.o_fCut | exact hC.o_fCut)) ?_
            refine Tr.loadAll rfl rfl rfl Try.underlying38 rfl Sz38 mM (Vote.length (by first | exact oK  | exact hB | exact hC | exact hV | exact hK | exact ok38 | exact ok43 | exact ok48 | exact ok53 | exact ⟨trivial⟩ | exact hok2 | exact hK.o_fCut | exact hC.o_fCut)) ?_
            refine Tr.mkRow (z := agg Vote.zero.cells) [agg V.cells] V.cells rfl rfl rfl Try.underlying34 Sz38 Vote.zr rfl rfl (by intro v hv; rw [List.mem_singleton.1 hv]; exact Vote.length hV) dE (by simp [Value.cells]) ?_
            intro q72
            refine Tr.build (cs := (⟨Sl.nil, Sl.nil, ⟨some ⟨q72, 0, none⟩, 1, 1⟩, Sl.nil⟩ : Kept).cells) rfl rfl rfl (fun w => by kernel_rfl) ?_
            refine Tr.callV rfl rfl rfl rfl Body13 (law26_alone X48 ⟨3, voteBy V⟩ 3 (⟨Sl.nil, Sl.nil, ⟨some ⟨q72, 0, none⟩, 1, 1⟩, Sl.nil⟩ : Kept) ⟨[], [], [V], []⟩ ⟨(fun d h => (by cases h)), (fun d h => (by cases h)), (fun d h => (by cases h))⟩ (hkV hs9_12) rfl dE (by have := (recOf_ok hs9_12).2.2; simp only []; omega)) (fun w h => ⟨rec_is (h48 w (Lies.of h iN)) hs9_12, ⟨⟨trivial⟩, ⟨[], SeqIs.none⟩, ⟨[], SeqIs.none⟩, ⟨_, seq_one q72 38 V (Lies.of h (by intro b hb; rw [List.mem_singleton.1 hb]; repeat (first | exact List.mem_cons_self | refine List.mem_cons_of_mem _ ?_ | refine mem_seg ?_))) (Vote.length hV) (by rw [Vote.length hV]) (hWV.ext h rfl)⟩, ⟨[], SeqIs.none⟩⟩⟩) ?_
            refine Tr.not rfl rfl rfl ?_
            refine Tr.pick rfl rfl rfl rfl rfl rfl ?_
            refine Tr.pick rfl rfl rfl rfl rfl rfl ?_
            refine Tr.move rfl rfl rfl ?_
            refine Tr.move rfl rfl rfl ?_
            refine two (fun r hr k => Tr.eqi rfl rfl rfl rfl hr k) (fun hs9_240 => ?_) (fun hs9_240 => ?_)
            ·
              first | have hs9_24 := of_decide_eq_true hs9_240 | have hs9_24 := of_decide_eq_false hs9_240 | have hs9_24 := nd_t hs9_240 | have hs9_24 := nd_f hs9_240 | have hs9_24 := hs9_240
              refine Tr.move rfl rfl rfl ?_
              refine Tr.loadAll rfl rfl rfl Try.underlying47 rfl Sz47 mM (Record.length (by first | exact oK  | exact hB | exact hC | exact hV | exact hK | exact ok38 | exact ok43 | exact ok48 | exact ok53 | exact ⟨trivial⟩ | exact hok2 | exact hK.o_fCut | exact hC.o_fCut)) ?_
              refine Tr.loadAll rfl rfl rfl Try.underlying33 rfl Sz33 mM (Cut.length (by first | exact oK  | exact hB | exact hC | exact hV | exact hK | exact ok38 | exact ok43 | exact ok48 | exact ok53 | exact ⟨trivial⟩ | exact hok2 | exact hK.o_fCut | exact hC.o_fCut)) ?_
              refine Tr.mkRow (z := agg Cut.zero.cells) [agg K.cells] K.cells rfl rfl rfl Try.underlying45 Sz33 Cut.zr rfl rfl (by intro v hv; rw [List.mem_singleton.1 hv]; exact Cut.length hK) dE (by simp [Value.cells]) ?_
              intro q84
              refine Tr.build (cs := (⟨Sl.nil, Sl.nil, Sl.nil, ⟨some ⟨q84, 0, none⟩, 1, 1⟩⟩ : Kept).cells) rfl rfl rfl (fun w => by kernel_rfl) ?_
              refine Tr.callV rfl rfl rfl rfl Body13 (law26_alone X53 ⟨4, cutR F⟩ 4 (⟨Sl.nil, Sl.nil, Sl.nil, ⟨some ⟨q84, 0, none⟩, 1, 1⟩⟩ : Kept) ⟨[], [], [], [F]⟩ ⟨(fun d h => (by cases h)), (fun d h => (by cases h)), (fun d h => by rw [List.mem_singleton.1 h]; omega)⟩ (hkC hs9_24) rfl dE (by have := (recOf_ok hs9_24).2.2; simp only []; omega)) (fun w h => ⟨rec_is (h53 w (Lies.of h iN)) hs9_24, ⟨⟨trivial⟩, ⟨[], SeqIs.none⟩, ⟨[], SeqIs.none⟩, ⟨[], SeqIs.none⟩, ⟨_, seq_one q84 33 K (Lies.of h (by intro b hb; rw [List.mem_singleton.1 hb]; repeat (first | exact List.mem_cons_self | refine List.mem_cons_of_mem _ ?_ | refine mem_seg ?_))) (Cut.length hK) (by rw [Cut.length hK]) (hWK.ext h rfl)⟩⟩⟩) ?_
              refine Tr.not rfl rfl rfl ?_
              refine Tr.pick rfl rfl rfl rfl rfl rfl ?_
              refine Tr.pick rfl rfl rfl rfl rfl rfl ?_
              refine Tr.nil ?_
              refine at_n ?_
              refine Sat.cond_f rfl rfl ?_
              refine Sat.skip ?_
              refine at_n ?_
              refine Sat.seq ?_
              refine Sat.seq ?_
              refine Sat.region ?_
              refine Tr.move rfl rfl rfl ?_
              refine Tr.nei rfl rfl rfl rfl rfl ?_
              refine Tr.nil ?_
              refine at_n ?_
              first
                | refine Sat.condP rfl (fun hc3 => ?_) (fun hc3 => ?_)
                | refine Sat.condNP rfl (fun hc3 => ?_) (fun hc3 => ?_)
                | refine Sat.cond rfl (fun hc3 => ?_) (fun hc3 => ?_)
              ·
                refine Sat.seq ?_
                refine Sat.region ?_
                refine Tr.assign rfl rfl rfl ?_
                refine Tr.nil ?_
                refine at_n ?_
                refine Sat.ret ?_
                refine at_r ?_
                refine en_r ?_
                refine ⟨_, [], res_tmp rfl rfl, sP, sP, ?_, rfl⟩
                rfl
              ·
                have hz3 : (recOf 2 (certBy E) E.check).2 = 0 := by omega
                refine Sat.skip ?_
                refine at_n ?_
                refine Sat.seq ?_
                refine Sat.seq ?_
                refine Sat.region ?_
                refine Tr.fld rfl rfl rfl Try.underlying36 rfl Sz33 dE _ rfl ?_
                refine Tr.fld rfl rfl rfl Try.underlying33 rfl Sz24 dE _ rfl ?_
                refine Tr.load1 rfl rfl rfl Try.underlying24 rfl mM (Cert.see_fCut hC 0 _ (Cut.get_fHeight hC.o_fCut)) ?_
                refine Tr.eqi rfl rfl rfl rfl rfl ?_
                refine Tr.nil ?_
                refine at_n ?_
                first
                  | refine Sat.condP rfl (fun hc4 => ?_) (fun hc4 => ?_)
                  | refine Sat.condNP rfl (fun hc4 => ?_) (fun hc4 => ?_)
                  | refine Sat.cond rfl (fun hc4 => ?_) (fun hc4 => ?_)
                ·
                  have he1 : E.dCut.dHeight.toNat = 1 := by have := hWC.fCut.fHeight; rw [← this]; omega
                  refine Sat.seq ?_
                  refine Sat.region ?_
                  refine Tr.loadAll rfl rfl rfl Try.underlying47 rfl Sz47 mM (Record.length (by first | exact oK  | exact hB | exact hC | exact hV | exact hK | exact ok38 | exact ok43 | exact ok48 | exact ok53 | exact ⟨trivial⟩ | exact hok2 | exact hK.o_fCut | exact hC.o_fCut)) ?_
                  refine Tr.loadAll rfl rfl rfl Try.underlying36 rfl Sz36 mM (Cert.length (by first | exact oK  | exact hB | exact hC | exact hV | exact hK | exact ok38 | exact ok43 | exact ok48 | exact ok53 | exact ⟨trivial⟩ | exact hok2 | exact hK.o_fCut | exact hC.o_fCut)) ?_
                  refine Tr.mkRow (z := agg Cert.zero.cells) [agg C.cells] C.cells rfl rfl rfl Try.underlying43 Sz36 Cert.zr rfl rfl (by intro v hv; rw [List.mem_singleton.1 hv]; exact Cert.length hC) dE (by simp [Value.cells]) ?_
                  intro q98
                  refine Tr.build (cs := (⟨Sl.nil, ⟨some ⟨q98, 0, none⟩, 1, 1⟩, Sl.nil, Sl.nil⟩ : Kept).cells) rfl rfl rfl (fun w => by kernel_rfl) ?_
                  refine Tr.callV rfl rfl rfl rfl Body13 (law26_alone X43 ⟨2, certBy E⟩ 2 (⟨Sl.nil, ⟨some ⟨q98, 0, none⟩, 1, 1⟩, Sl.nil, Sl.nil⟩ : Kept) ⟨[], [E], [], []⟩ ⟨(fun d h => (by cases h)), (fun d h => by rw [List.mem_singleton.1 h]; omega), (fun d h => (by cases h))⟩ (hkE hz3 he1) rfl dE (by have := (recOf_ok hz3).2.2; simp only []; omega)) (fun w h => ⟨rec_is (h43 w (Lies.of h iN)) hz3, ⟨⟨trivial⟩, ⟨[], SeqIs.none⟩, ⟨_, seq_one q98 36 C (Lies.of h (by intro b hb; rw [List.mem_singleton.1 hb]; repeat (first | exact List.mem_cons_self | refine List.mem_cons_of_mem _ ?_ | refine mem_seg ?_))) (Cert.length hC) (by rw [Cert.length hC]) (hWC.ext h rfl)⟩, ⟨[], SeqIs.none⟩, ⟨[], SeqIs.none⟩⟩⟩) ?_
                  refine Tr.assign rfl rfl rfl ?_
                  refine Tr.nil ?_
                  refine at_n ?_
                  refine Sat.ret ?_
                  refine at_r ?_
                  refine en_r ?_
                  refine ⟨_, [], res_tmp rfl rfl, sP, sP, ?_, rfl⟩
                  rfl
                ·
                  have he1 : ¬ E.dCut.dHeight.toNat = 1 := by have := hWC.fCut.fHeight; rw [← this]; omega
                  refine Sat.skip ?_
                  refine at_n ?_
                  refine Sat.seq ?_
                  refine Sat.region ?_
                  refine Tr.loadAll rfl rfl rfl Try.underlying47 rfl Sz47 mM (Record.length (by first | exact oK  | exact hB | exact hC | exact hV | exact hK | exact ok38 | exact ok43 | exact ok48 | exact ok53 | exact ⟨trivial⟩ | exact hok2 | exact hK.o_fCut | exact hC.o_fCut)) ?_
                  refine Tr.mkRow (z := agg Record.zero.cells) [agg X43.cells] X43.cells rfl rfl rfl Try.underlying60 Sz47 Record.zr rfl rfl (by intro v hv; rw [List.mem_singleton.1 hv]; exact Record.length ok43) dE (by simp [Value.cells]) ?_
                  intro q103
                  refine Tr.call4 rfl rfl rfl rfl rfl Body14 (keep_read ⟨some ⟨q103, 0, none⟩, 1, 1⟩ [⟨2, certBy E⟩] sP (fun x h => by rw [List.mem_singleton.1 h]; have := (recOf_ok hz3).2.2; simp only []; omega)) (fun w h => ⟨_, seq_one q103 47 X43 (Lies.of h (by intro b hb; rw [List.mem_singleton.1 hb]; repeat (first | exact List.mem_cons_self | refine List.mem_cons_of_mem _ ?_ | refine mem_seg ?_))) (Record.length ok43) (by rw [Record.length ok43]) (rec_is (h43 w (Lies.of h iN)) hz3)⟩) ?_
                  rintro v104 out104 ⟨X104, ok104, rfl, h104⟩
                  rw [hkN hz3 he1] at h104 ⊢
                  refine Tr.move rfl rfl rfl ?_
                  refine Tr.extract rfl rfl rfl rfl ?_
                  refine Tr.extract rfl rfl rfl rfl ?_
                  refine Tr.assign rfl rfl rfl ?_
                  refine Tr.nil ?_
                  refine at_n ?_
                  refine Sat.seq ?_
                  refine Sat.region ?_
                  refine Tr.move rfl rfl rfl ?_
                  refine Tr.eqi rfl rfl rfl rfl (decide_eq_true (rfl)) ?_
                  refine Tr.move rfl rfl rfl ?_
                  refine Tr.fld rfl rfl rfl Try.underlying47 rfl Sz5 dE _ rfl ?_
                  refine Tr.load1 rfl rfl rfl Try.underlying5 rfl mM (by first | exact Record.get_fKind (by first | exact oK  | exact hB | exact hC | exact hV | exact hK | exact ok38 | exact ok43 | exact ok48 | exact ok53 | exact ⟨trivial⟩ | exact hok2 | exact hK.o_fCut | exact hC.o_fCut) | exact vL) ?_
                  refine Tr.eqi rfl rfl rfl rfl (decide_eq_true (by rw [k43, (recOf_ok hz3).2.1]; rfl)) ?_
                  refine Tr.pick rfl rfl rfl rfl rfl rfl ?_
                  refine Tr.assign rfl rfl rfl ?_
                  refine Tr.nil ?_
                  refine at_n ?_
                  refine Sat.ret ?_
                  refine en_r ?_
                  refine ⟨_, [], res_tmp rfl rfl, sP, sP, ?_, rfl⟩
                  rfl
            ·
              first | have hs9_24 := of_decide_eq_true hs9_240 | have hs9_24 := of_decide_eq_false hs9_240 | have hs9_24 := nd_t hs9_240 | have hs9_24 := nd_f hs9_240 | have hs9_24 := hs9_240
              refine Tr.move rfl rfl rfl ?_
              refine Tr.skp rfl rfl ?_
              refine Tr.skp rfl rfl ?_
              refine Tr.skp rfl rfl ?_
              refine Tr.skp rfl rfl ?_
              refine Tr.skp rfl rfl ?_
              refine Tr.skp rfl rfl ?_
              refine Tr.pick rfl rfl rfl rfl rfl rfl ?_
              refine Tr.pick rfl rfl rfl rfl rfl rfl ?_
              refine Tr.nil ?_
              refine at_n ?_
              refine Sat.cond_f rfl rfl ?_
              refine Sat.skip ?_
              refine at_n ?_
              refine Sat.seq ?_
              refine Sat.seq ?_
              refine Sat.region ?_
              refine Tr.move rfl rfl rfl ?_
              refine Tr.nei rfl rfl rfl rfl rfl ?_
              refine Tr.nil ?_
              refine at_n ?_
              first
                | refine Sat.condP rfl (fun hc3 => ?_) (fun hc3 => ?_)
                | refine Sat.condNP rfl (fun hc3 => ?_) (fun hc3 => ?_)
                | refine Sat.cond rfl (fun hc3 => ?_) (fun hc3 => ?_)
              ·
                refine Sat.seq ?_
                refine Sat.region ?_
                refine Tr.assign rfl rfl rfl ?_
                refine Tr.nil ?_
                refine at_n ?_
                refine Sat.ret ?_
                refine at_r ?_
                refine en_r ?_
                refine ⟨_, [], res_tmp rfl rfl, sP, sP, ?_, rfl⟩
                rfl
              ·
                have hz3 : (recOf 2 (certBy E) E.check).2 = 0 := by omega
                refine Sat.skip ?_
                refine at_n ?_
                refine Sat.seq ?_
                refine Sat.seq ?_
                refine Sat.region ?_
                refine Tr.fld rfl rfl rfl Try.underlying36 rfl Sz33 dE _ rfl ?_
                refine Tr.fld rfl rfl rfl Try.underlying33 rfl Sz24 dE _ rfl ?_
                refine Tr.load1 rfl rfl rfl Try.underlying24 rfl mM (Cert.see_fCut hC 0 _ (Cut.get_fHeight hC.o_fCut)) ?_
                refine Tr.eqi rfl rfl rfl rfl rfl ?_
                refine Tr.nil ?_
                refine at_n ?_
                first
                  | refine Sat.condP rfl (fun hc4 => ?_) (fun hc4 => ?_)
                  | refine Sat.condNP rfl (fun hc4 => ?_) (fun hc4 => ?_)
                  | refine Sat.cond rfl (fun hc4 => ?_) (fun hc4 => ?_)
                ·
                  have he1 : E.dCut.dHeight.toNat = 1 := by have := hWC.fCut.fHeight; rw [← this]; omega
                  refine Sat.seq ?_
                  refine Sat.region ?_
                  refine Tr.loadAll rfl rfl rfl Try.underlying47 rfl Sz47 mM (Record.length (by first | exact oK  | exact hB | exact hC | exact hV | exact hK | exact ok38 | exact ok43 | exact ok48 | exact ok53 | exact ⟨trivial⟩ | exact hok2 | exact hK.o_fCut | exact hC.o_fCut)) ?_
                  refine Tr.loadAll rfl rfl rfl Try.underlying36 rfl Sz36 mM (Cert.length (by first | exact oK  | exact hB | exact hC | exact hV | exact hK | exact ok38 | exact ok43 | exact ok48 | exact ok53 | exact ⟨trivial⟩ | exact hok2 | exact hK.o_fCut | exact hC.o_fCut)) ?_
                  refine Tr.mkRow (z := agg Cert.zero.cells) [agg C.cells] C.cells rfl rfl rfl Try.underlying43 Sz36 Cert.zr rfl rfl (by intro v hv; rw [List.mem_singleton.1 hv]; exact Cert.length hC) dE (by simp [Value.cells]) ?_
                  intro q98
                  refine Tr.build (cs := (⟨Sl.nil, ⟨some ⟨q98, 0, none⟩, 1, 1⟩, Sl.nil, Sl.nil⟩ : Kept).cells) rfl rfl rfl (fun w => by kernel_rfl) ?_
                  refine Tr.callV rfl rfl rfl rfl Body13 (law26_alone X43 ⟨2, certBy E⟩ 2 (⟨Sl.nil, ⟨some ⟨q98, 0, none⟩, 1, 1⟩, Sl.nil, Sl.nil⟩ : Kept) ⟨[], [E], [], []⟩ ⟨(fun d h => (by cases h)), (fun d h => by rw [List.mem_singleton.1 h]; omega), (fun d h => (by cases h))⟩ (hkE hz3 he1) rfl dE (by have := (recOf_ok hz3).2.2; simp only []; omega)) (fun w h => ⟨rec_is (h43 w (Lies.of h iN)) hz3, ⟨⟨trivial⟩, ⟨[], SeqIs.none⟩, ⟨_, seq_one q98 36 C (Lies.of h (by intro b hb; rw [List.mem_singleton.1 hb]; repeat (first | exact List.mem_cons_self | refine List.mem_cons_of_mem _ ?_ | refine mem_seg ?_))) (Cert.length hC) (by rw [Cert.length hC]) (hWC.ext h rfl)⟩, ⟨[], SeqIs.none⟩, ⟨[], SeqIs.none⟩⟩⟩) ?_
                  refine Tr.assign rfl rfl rfl ?_
                  refine Tr.nil ?_
                  refine at_n ?_
                  refine Sat.ret ?_
                  refine at_r ?_
                  refine en_r ?_
                  refine ⟨_, [], res_tmp rfl rfl, sP, sP, ?_, rfl⟩
                  rfl
                ·
                  have he1 : ¬ E.dCut.dHeight.toNat = 1 := by have := hWC.fCut.fHeight; rw [← this]; omega
                  refine Sat.skip ?_
                  refine at_n ?_
                  refine Sat.seq ?_
                  refine Sat.region ?_
                  refine Tr.loadAll rfl rfl rfl Try.underlying47 rfl Sz47 mM (Record.length (by first | exact oK  | exact hB | exact hC | exact hV | exact hK | exact ok38 | exact ok43 | exact ok48 | exact ok53 | exact ⟨trivial⟩ | exact hok2 | exact hK.o_fCut | exact hC.o_fCut)) ?_
                  refine Tr.mkRow (z := agg Record.zero.cells) [agg X43.cells] X43.cells rfl rfl rfl Try.underlying60 Sz47 Record.zr rfl rfl (by intro v hv; rw [List.mem_singleton.1 hv]; exact Record.length ok43) dE (by simp [Value.cells]) ?_
                  intro q103
                  refine Tr.call4 rfl rfl rfl rfl rfl Body14 (keep_read ⟨some ⟨q103, 0, none⟩, 1, 1⟩ [⟨2, certBy E⟩] sP (fun x h => by rw [List.mem_singleton.1 h]; have := (recOf_ok hz3).2.2; simp only []; omega)) (fun w h => ⟨_, seq_one q103 47 X43 (Lies.of h (by intro b hb; rw [List.mem_singleton.1 hb]; repeat (first | exact List.mem_cons_self | refine List.mem_cons_of_mem _ ?_ | refine mem_seg ?_))) (Record.length ok43) (by rw [Record.length ok43]) (rec_is (h43 w (Lies.of h iN)) hz3)⟩) ?_
                  rintro v104 out104 ⟨X104, ok104, rfl, h104⟩
                  rw [hkN hz3 he1] at h104 ⊢
                  refine Tr.move rfl rfl rfl ?_
                  refine Tr.extract rfl rfl rfl rfl ?_
                  refine Tr.extract rfl rfl rfl rfl ?_
                  refine Tr.assign rfl rfl rfl ?_
                  refine Tr.nil ?_
                  refine at_n ?_
                  refine Sat.seq ?_
                  refine Sat.region ?_
                  refine Tr.move rfl rfl rfl ?_
                  refine Tr.eqi rfl rfl rfl rfl (decide_eq_true (rfl)) ?_
                  refine Tr.move rfl rfl rfl ?_
                  refine Tr.fld rfl rfl rfl Try.underlying47 rfl Sz5 dE _ rfl ?_
                  refine Tr.load1 rfl rfl rfl Try.underlying5 rfl mM (by first | exact Record.get_fKind (by first | exact oK  | exact hB | exact hC | exact hV | exact hK | exact ok38 | exact ok43 | exact ok48 | exact ok53 | exact ⟨trivial⟩ | exact hok2 | exact hK.o_fCut | exact hC.o_fCut) | exact vL) ?_
                  refine Tr.eqi rfl rfl rfl rfl (decide_eq_true (by rw [k43, (recOf_ok hz3).2.1]; rfl)) ?_
                  refine Tr.pick rfl rfl rfl rfl rfl rfl ?_
                  refine Tr.assign rfl rfl rfl ?_
                  refine Tr.nil ?_
                  refine at_n ?_
                  refine Sat.ret ?_
                  refine en_r ?_
                  refine ⟨_, [], res_tmp rfl rfl, sP, sP, ?_, rfl⟩
                  rfl
          ·
            first | have hs9_12 := of_decide_eq_true hs9_120 | have hs9_12 := of_decide_eq_false hs9_120 | have hs9_12 := nd_t hs9_120 | have hs9_12 := nd_f hs9_120 | have hs9_12 := hs9_120
            refine Tr.move rfl rfl rfl ?_
            refine Tr.skp rfl rfl ?_
            refine Tr.skp rfl rfl ?_
            refine Tr.skp rfl rfl ?_
            refine Tr.skp rfl rfl ?_
            refine Tr.skp rfl rfl ?_
            refine Tr.skp rfl rfl ?_
            refine Tr.pick rfl rfl rfl rfl rfl rfl ?_
            refine Tr.pick rfl rfl rfl rfl rfl rfl ?_
            refine Tr.move rfl rfl rfl ?_
            refine Tr.move rfl rfl rfl ?_
            refine two (fun r hr k => Tr.eqi rfl rfl rfl rfl hr k) (fun hs9_240 => ?_) (fun hs9_240 => ?_)
            ·
              first | have hs9_24 := of_decide_eq_true hs9_240 | have hs9_24 := of_decide_eq_false hs9_240 | have hs9_24 := nd_t hs9_240 | have hs9_24 := nd_f hs9_240 | have hs9_24 := hs9_240
              refine Tr.move rfl rfl rfl ?_
              refine Tr.loadAll rfl rfl rfl Try.underlying47 rfl Sz47 mM (Record.length (by first | exact oK  | exact hB | exact hC | exact hV | exact hK | exact ok38 | exact ok43 | exact ok48 | exact ok53 | exact ⟨trivial⟩ | exact hok2 | exact hK.o_fCut | exact hC.o_fCut)) ?_
              refine Tr.loadAll rfl rfl rfl Try.underlying33 rfl Sz33 mM (Cut.length (by first | exact oK  | exact hB | exact hC | exact hV | exact hK | exact ok38 | exact ok43 | exact ok48 | exact ok53 | exact ⟨trivial⟩ | exact hok2 | exact hK.o_fCut | exact hC.o_fCut)) ?_
              refine Tr.mkRow (z := agg Cut.zero.cells) [agg K.cells] K.cells rfl rfl rfl Try.underlying45 Sz33 Cut.zr rfl rfl (by intro v hv; rw [List.mem_singleton.1 hv]; exact Cut.length hK) dE (by simp [Value.cells]) ?_
              intro q84
              refine Tr.build (cs := (⟨Sl.nil, Sl.nil, Sl.nil, ⟨some ⟨q84, 0, none⟩, 1, 1⟩⟩ : Kept).cells) rfl rfl rfl (fun w => by kernel_rfl) ?_
              refine Tr.callV rfl rfl rfl rfl Body13 (law26_alone X53 ⟨4, cutR F⟩ 4 (⟨Sl.nil, Sl.nil, Sl.nil, ⟨some ⟨q84, 0, none⟩, 1, 1⟩⟩ : Kept) ⟨[], [], [], [F]⟩ ⟨(fun d h => (by cases h)), (fun d h => (by cases h)), (fun d h => by rw [List.mem_singleton.1 h]; omega)⟩ (hkC hs9_24) rfl dE (by have := (recOf_ok hs9_24).2.2; simp only []; omega)) (fun w h => ⟨rec_is (h53 w (Lies.of h iN)) hs9_24, ⟨⟨trivial⟩, ⟨[], SeqIs.none⟩, ⟨[], SeqIs.none⟩, ⟨[], SeqIs.none⟩, ⟨_, seq_one q84 33 K (Lies.of h (by intro b hb; rw [List.mem_singleton.1 hb]; repeat (first | exact List.mem_cons_self | refine List.mem_cons_of_mem _ ?_ | refine mem_seg ?_))) (Cut.length hK) (by rw [Cut.length hK]) (hWK.ext h rfl)⟩⟩⟩) ?_
              refine Tr.not rfl rfl rfl ?_
              refine Tr.pick rfl rfl rfl rfl rfl rfl ?_
              refine Tr.pick rfl rfl rfl rfl rfl rfl ?_
              refine Tr.nil ?_
              refine at_n ?_
              refine Sat.cond_f rfl rfl ?_
              refine Sat.skip ?_
              refine at_n ?_
              refine Sat.seq ?_
              refine Sat.seq ?_
              refine Sat.region ?_
              refine Tr.move rfl rfl rfl ?_
              refine Tr.nei rfl rfl rfl rfl rfl ?_
              refine Tr.nil ?_
              refine at_n ?_
              first
                | refine Sat.condP rfl (fun hc3 => ?_) (fun hc3 => ?_)
                | refine Sat.condNP rfl (fun hc3 => ?_) (fun hc3 => ?_)
                | refine Sat.cond rfl (fun hc3 => ?_) (fun hc3 => ?_)
              ·
                refine Sat.seq ?_
                refine Sat.region ?_
                refine Tr.assign rfl rfl rfl ?_
                refine Tr.nil ?_
                refine at_n ?_
                refine Sat.ret ?_
                refine at_r ?_
                refine en_r ?_
                refine ⟨_, [], res_tmp rfl rfl, sP, sP, ?_, rfl⟩
                rfl
              ·
                have hz3 : (recOf 2 (certBy E) E.check).2 = 0 := by omega
                refine Sat.skip ?_
                refine at_n ?_
                refine Sat.seq ?_
                refine Sat.seq ?_
                refine Sat.region ?_
                refine Tr.fld rfl rfl rfl Try.underlying36 rfl Sz33 dE _ rfl ?_
                refine Tr.fld rfl rfl rfl Try.underlying33 rfl Sz24 dE _ rfl ?_
                refine Tr.load1 rfl rfl rfl Try.underlying24 rfl mM (Cert.see_fCut hC 0 _ (Cut.get_fHeight hC.o_fCut)) ?_
                refine Tr.eqi rfl rfl rfl rfl rfl ?_
                refine Tr.nil ?_
                refine at_n ?_
                first
                  | refine Sat.condP rfl (fun hc4 => ?_) (fun hc4 => ?_)
                  | refine Sat.condNP rfl (fun hc4 => ?_) (fun hc4 => ?_)
                  | refine Sat.cond rfl (fun hc4 => ?_) (fun hc4 => ?_)
                ·
                  have he1 : E.dCut.dHeight.toNat = 1 := by have := hWC.fCut.fHeight; rw [← this]; omega
                  refine Sat.seq ?_
                  refine Sat.region ?_
                  refine Tr.loadAll rfl rfl rfl Try.underlying47 rfl Sz47 mM (Record.length (by first | exact oK  | exact hB | exact hC | exact hV | exact hK | exact ok38 | exact ok43 | exact ok48 | exact ok53 | exact ⟨trivial⟩ | exact hok2 | exact hK.o_fCut | exact hC.o_fCut)) ?_
                  refine Tr.loadAll rfl rfl rfl Try.underlying36 rfl Sz36 mM (Cert.length (by first | exact oK  | exact hB | exact hC | exact hV | exact hK | exact ok38 | exact ok43 | exact ok48 | exact ok53 | exact ⟨trivial⟩ | exact hok2 | exact hK.o_fCut | exact hC.o_fCut)) ?_
                  refine Tr.mkRow (z := agg Cert.zero.cells) [agg C.cells] C.cells rfl rfl rfl Try.underlying43 Sz36 Cert.zr rfl rfl (by intro v hv; rw [List.mem_singleton.1 hv]; exact Cert.length hC) dE (by simp [Value.cells]) ?_
                  intro q98
                  refine Tr.build (cs := (⟨Sl.nil, ⟨some ⟨q98, 0, none⟩, 1, 1⟩, Sl.nil, Sl.nil⟩ : Kept).cells) rfl rfl rfl (fun w => by kernel_rfl) ?_
                  refine Tr.callV rfl rfl rfl rfl Body13 (law26_alone X43 ⟨2, certBy E⟩ 2 (⟨Sl.nil, ⟨some ⟨q98, 0, none⟩, 1, 1⟩, Sl.nil, Sl.nil⟩ : Kept) ⟨[], [E], [], []⟩ ⟨(fun d h => (by cases h)), (fun d h => by rw [List.mem_singleton.1 h]; omega), (fun d h => (by cases h))⟩ (hkE hz3 he1) rfl dE (by have := (recOf_ok hz3).2.2; simp only []; omega)) (fun w h => ⟨rec_is (h43 w (Lies.of h iN)) hz3, ⟨⟨trivial⟩, ⟨[], SeqIs.none⟩, ⟨_, seq_one q98 36 C (Lies.of h (by intro b hb; rw [List.mem_singleton.1 hb]; repeat (first | exact List.mem_cons_self | refine List.mem_cons_of_mem _ ?_ | refine mem_seg ?_))) (Cert.length hC) (by rw [Cert.length hC]) (hWC.ext h rfl)⟩, ⟨[], SeqIs.none⟩, ⟨[], SeqIs.none⟩⟩⟩) ?_
                  refine Tr.assign rfl rfl rfl ?_
                  refine Tr.nil ?_
                  refine at_n ?_
                  refine Sat.ret ?_
                  refine at_r ?_
                  refine en_r ?_
                  refine ⟨_, [], res_tmp rfl rfl, sP, sP, ?_, rfl⟩
                  rfl
                ·
                  have he1 : ¬ E.dCut.dHeight.toNat = 1 := by have := hWC.fCut.fHeight; rw [← this]; omega
                  refine Sat.skip ?_
                  refine at_n ?_
                  refine Sat.seq ?_
                  refine Sat.region ?_
                  refine Tr.loadAll rfl rfl rfl Try.underlying47 rfl Sz47 mM (Record.length (by first | exact oK  | exact hB | exact hC | exact hV | exact hK | exact ok38 | exact ok43 | exact ok48 | exact ok53 | exact ⟨trivial⟩ | exact hok2 | exact hK.o_fCut | exact hC.o_fCut)) ?_
                  refine Tr.mkRow (z := agg Record.zero.cells) [agg X43.cells] X43.cells rfl rfl rfl Try.underlying60 Sz47 Record.zr rfl rfl (by intro v hv; rw [List.mem_singleton.1 hv]; exact Record.length ok43) dE (by simp [Value.cells]) ?_
                  intro q103
                  refine Tr.call4 rfl rfl rfl rfl rfl Body14 (keep_read ⟨some ⟨q103, 0, none⟩, 1, 1⟩ [⟨2, certBy E⟩] sP (fun x h => by rw [List.mem_singleton.1 h]; have := (recOf_ok hz3).2.2; simp only []; omega)) (fun w h => ⟨_, seq_one q103 47 X43 (Lies.of h (by intro b hb; rw [List.mem_singleton.1 hb]; repeat (first | exact List.mem_cons_self | refine List.mem_cons_of_mem _ ?_ | refine mem_seg ?_))) (Record.length ok43) (by rw [Record.length ok43]) (rec_is (h43 w (Lies.of h iN)) hz3)⟩) ?_
                  rintro v104 out104 ⟨X104, ok104, rfl, h104⟩
                  rw [hkN hz3 he1] at h104 ⊢
                  refine Tr.move rfl rfl rfl ?_
                  refine Tr.extract rfl rfl rfl rfl ?_
                  refine Tr.extract rfl rfl rfl rfl ?_
                  refine Tr.assign rfl rfl rfl ?_
                  refine Tr.nil ?_
                  refine at_n ?_
                  refine Sat.seq ?_
                  refine Sat.region ?_
                  refine Tr.move rfl rfl rfl ?_
                  refine Tr.eqi rfl rfl rfl rfl (decide_eq_true (rfl)) ?_
                  refine Tr.move rfl rfl rfl ?_
                  refine Tr.fld rfl rfl rfl Try.underlying47 rfl Sz5 dE _ rfl ?_
                  refine Tr.load1 rfl rfl rfl Try.underlying5 rfl mM (by first | exact Record.get_fKind (by first | exact oK  | exact hB | exact hC | exact hV | exact hK | exact ok38 | exact ok43 | exact ok48 | exact ok53 | exact ⟨trivial⟩ | exact hok2 | exact hK.o_fCut | exact hC.o_fCut) | exact vL) ?_
                  refine Tr.eqi rfl rfl rfl rfl (decide_eq_true (by rw [k43, (recOf_ok hz3).2.1]; rfl)) ?_
                  refine Tr.pick rfl rfl rfl rfl rfl rfl ?_
                  refine Tr.assign rfl rfl rfl ?_
                  refine Tr.nil ?_
                  refine at_n ?_
                  refine Sat.ret ?_
                  refine en_r ?_
                  refine ⟨_, [], res_tmp rfl rfl, sP, sP, ?_, rfl⟩
                  rfl
            ·
              first | have hs9_24 := of_decide_eq_true hs9_240 | have hs9_24 := of_decide_eq_false hs9_240 | have hs9_24 := nd_t hs9_240 | have hs9_24 := nd_f hs9_240 | have hs9_24 := hs9_240
              refine Tr.move rfl rfl rfl ?_
              refine Tr.skp rfl rfl ?_
              refine Tr.skp rfl rfl ?_
              refine Tr.skp rfl rfl ?_
              refine Tr.skp rfl rfl ?_
              refine Tr.skp rfl rfl ?_
              refine Tr.skp rfl rfl ?_
              refine Tr.pick rfl rfl rfl rfl rfl rfl ?_
              refine Tr.pick rfl rfl rfl rfl rfl rfl ?_
              refine Tr.nil ?_
              refine at_n ?_
              refine Sat.cond_f rfl rfl ?_
              refine Sat.skip ?_
              refine at_n ?_
              refine Sat.seq ?_
              refine Sat.seq ?_
              refine Sat.region ?_
              refine Tr.move rfl rfl rfl ?_
              refine Tr.nei rfl rfl rfl rfl rfl ?_
              refine Tr.nil ?_
              refine at_n ?_
              first
                | refine Sat.condP rfl (fun hc3 => ?_) (fun hc3 => ?_)
                | refine Sat.condNP rfl (fun hc3 => ?_) (fun hc3 => ?_)
                | refine Sat.cond rfl (fun hc3 => ?_) (fun hc3 => ?_)
              ·
                refine Sat.seq ?_
                refine Sat.region ?_
                refine Tr.assign rfl rfl rfl ?_
                refine Tr.nil ?_
                refine at_n ?_
                refine Sat.ret ?_
                refine at_r ?_
                refine en_r ?_
                refine ⟨_, [], res_tmp rfl rfl, sP, sP, ?_, rfl⟩
                rfl
              ·
                have hz3 : (recOf 2 (certBy E) E.check).2 = 0 := by omega
                refine Sat.skip ?_
                refine at_n ?_
                refine Sat.seq ?_
                refine Sat.seq ?_
                refine Sat.region ?_
                refine Tr.fld rfl rfl rfl Try.underlying36 rfl Sz33 dE _ rfl ?_
                refine Tr.fld rfl rfl rfl Try.underlying33 rfl Sz24 dE _ rfl ?_
                refine Tr.load1 rfl rfl rfl Try.underlying24 rfl mM (Cert.see_fCut hC 0 _ (Cut.get_fHeight hC.o_fCut)) ?_
                refine Tr.eqi rfl rfl rfl rfl rfl ?_
                refine Tr.nil ?_
                refine at_n ?_
                first
                  | refine Sat.condP rfl (fun hc4 => ?_) (fun hc4 => ?_)
                  | refine Sat.condNP rfl (fun hc4 => ?_) (fun hc4 => ?_)
                  | refine Sat.cond rfl (fun hc4 => ?_) (fun hc4 => ?_)
                ·
                  have he1 : E.dCut.dHeight.toNat = 1 := by have := hWC.fCut.fHeight; rw [← this]; omega
                  refine Sat.seq ?_
                  refine Sat.region ?_
                  refine Tr.loadAll rfl rfl rfl Try.underlying47 rfl Sz47 mM (Record.length (by first | exact oK  | exact hB | exact hC | exact hV | exact hK | exact ok38 | exact ok43 | exact ok48 | exact ok53 | exact ⟨trivial⟩ | exact hok2 | exact hK.o_fCut | exact hC.o_fCut)) ?_
                  refine Tr.loadAll rfl rfl rfl Try.underlying36 rfl Sz36 mM (Cert.length (by first | exact oK  | exact hB | exact hC | exact hV | exact hK | exact ok38 | exact ok43 | exact ok48 | exact ok53 | exact ⟨trivial⟩ | exact hok2 | exact hK.o_fCut | exact hC.o_fCut)) ?_
                  refine Tr.mkRow (z := agg Cert.zero.cells) [agg C.cells] C.cells rfl rfl rfl Try.underlying43 Sz36 Cert.zr rfl rfl (by intro v hv; rw [List.mem_singleton.1 hv]; exact Cert.length hC) dE (by simp [Value.cells]) ?_
                  intro q98
                  refine Tr.build (cs := (⟨Sl.nil, ⟨some ⟨q98, 0, none⟩, 1, 1⟩, Sl.nil, Sl.nil⟩ : Kept).cells) rfl rfl rfl (fun w => by kernel_rfl) ?_
                  refine Tr.callV rfl rfl rfl rfl Body13 (law26_alone X43 ⟨2, certBy E⟩ 2 (⟨Sl.nil, ⟨some ⟨q98, 0, none⟩, 1, 1⟩, Sl.nil, Sl.nil⟩ : Kept) ⟨[], [E], [], []⟩ ⟨(fun d h => (by cases h)), (fun d h => by rw [List.mem_singleton.1 h]; omega), (fun d h => (by cases h))⟩ (hkE hz3 he1) rfl dE (by have := (recOf_ok hz3).2.2; simp only []; omega)) (fun w h => ⟨rec_is (h43 w (Lies.of h iN)) hz3, ⟨⟨trivial⟩, ⟨[], SeqIs.none⟩, ⟨_, seq_one q98 36 C (Lies.of h (by intro b hb; rw [List.mem_singleton.1 hb]; repeat (first | exact List.mem_cons_self | refine List.mem_cons_of_mem _ ?_ | refine mem_seg ?_))) (Cert.length hC) (by rw [Cert.length hC]) (hWC.ext h rfl)⟩, ⟨[], SeqIs.none⟩, ⟨[], SeqIs.none⟩⟩⟩) ?_
                  refine Tr.assign rfl rfl rfl ?_
                  refine Tr.nil ?_
                  refine at_n ?_
                  refine Sat.ret ?_
                  refine at_r ?_
                  refine en_r ?_
                  refine ⟨_, [], res_tmp rfl rfl, sP, sP, ?_, rfl⟩
                  rfl
                ·
                  have he1 : ¬ E.dCut.dHeight.toNat = 1 := by have := hWC.fCut.fHeight; rw [← this]; omega
                  refine Sat.skip ?_
                  refine at_n ?_
                  refine Sat.seq ?_
                  refine Sat.region ?_
                  refine Tr.loadAll rfl rfl rfl Try.underlying47 rfl Sz47 mM (Record.length (by first | exact oK  | exact hB | exact hC | exact hV | exact hK | exact ok38 | exact ok43 | exact ok48 | exact ok53 | exact ⟨trivial⟩ | exact hok2 | exact hK.o_fCut | exact hC.o_fCut)) ?_
                  refine Tr.mkRow (z := agg Record.zero.cells) [agg X43.cells] X43.cells rfl rfl rfl Try.underlying60 Sz47 Record.zr rfl rfl (by intro v hv; rw [List.mem_singleton.1 hv]; exact Record.length ok43) dE (by simp [Value.cells]) ?_
                  intro q103
                  refine Tr.call4 rfl rfl rfl rfl rfl Body14 (keep_read ⟨some ⟨q103, 0, none⟩, 1, 1⟩ [⟨2, certBy E⟩] sP (fun x h => by rw [List.mem_singleton.1 h]; have := (recOf_ok hz3).2.2; simp only []; omega)) (fun w h => ⟨_, seq_one q103 47 X43 (Lies.of h (by intro b hb; rw [List.mem_singleton.1 hb]; repeat (first | exact List.mem_cons_self | refine List.mem_cons_of_mem _ ?_ | refine mem_seg ?_))) (Record.length ok43) (by rw [Record.length ok43]) (rec_is (h43 w (Lies.of h iN)) hz3)⟩) ?_
                  rintro v104 out104 ⟨X104, ok104, rfl, h104⟩
                  rw [hkN hz3 he1] at h104 ⊢
                  refine Tr.move rfl rfl rfl ?_
                  refine Tr.extract rfl rfl rfl rfl ?_
                  refine Tr.extract rfl rfl rfl rfl ?_
                  refine Tr.assign rfl rfl rfl ?_
                  refine Tr.nil ?_
                  refine at_n ?_
                  refine Sat.seq ?_
                  refine Sat.region ?_
                  refine Tr.move rfl rfl rfl ?_
                  refine Tr.eqi rfl rfl rfl rfl (decide_eq_true (rfl)) ?_
                  refine Tr.move rfl rfl rfl ?_
                  refine Tr.fld rfl rfl rfl Try.underlying47 rfl Sz5 dE _ rfl ?_
                  refine Tr.load1 rfl rfl rfl Try.underlying5 rfl mM (by first | exact Record.get_fKind (by first | exact oK  | exact hB | exact hC | exact hV | exact hK | exact ok38 | exact ok43 | exact ok48 | exact ok53 | exact ⟨trivial⟩ | exact hok2 | exact hK.o_fCut | exact hC.o_fCut) | exact vL) ?_
                  refine Tr.eqi rfl rfl rfl rfl (decide_eq_true (by rw [k43, (recOf_ok hz3).2.1]; rfl)) ?_
                  refine Tr.pick rfl rfl rfl rfl rfl rfl ?_
                  refine Tr.assign rfl rfl rfl ?_
                  refine Tr.nil ?_
                  refine at_n ?_
                  refine Sat.ret ?_
                  refine en_r ?_
                  refine ⟨_, [], res_tmp rfl rfl, sP, sP, ?_, rfl⟩
                  rfl
        ·
          first | have hs9_1 := of_decide_eq_true hs9_10 | have hs9_1 := of_decide_eq_false hs9_10 | have hs9_1 := nd_t hs9_10 | have hs9_1 := nd_f hs9_10 | have hs9_1 := hs9_10
          refine Tr.move rfl rfl rfl ?_
          refine Tr.skp rfl rfl ?_
          refine Tr.skp rfl rfl ?_
          refine Tr.skp rfl rfl ?_
          refine Tr.skp rfl rfl ?_
          refine Tr.skp rfl rfl ?_
          refine Tr.skp rfl rfl ?_
          refine Tr.pick rfl rfl rfl rfl rfl rfl ?_
          refine Tr.move rfl rfl rfl ?_
          refine Tr.move rfl rfl rfl ?_
          refine two (fun r hr k => Tr.eqi rfl rfl rfl rfl hr k) (fun hs9_120 => ?_) (fun hs9_120 => ?_)
          ·
            first | have hs9_12 := of_decide_eq_true hs9_120 | have hs9_12 := of_decide_eq_false hs9_120 | have hs9_12 := nd_t hs9_120 | have hs9_12 := nd_f hs9_120 | have hs9_12 := hs9_120
            refine Tr.move rfl rfl rfl ?_
            refine Tr.loadAll rfl rfl rfl Try.underlying47 rfl Sz47 mM (Record.length (by first | exact oK  | exact hB | exact hC | exact hV | exact hK | exact ok38 | exact ok43 | exact ok48 | exact ok53 | exact ⟨trivial⟩ | exact hok2 | exact hK.o_fCut | exact hC.o_fCut)) ?_
            refine Tr.loadAll rfl rfl rfl Try.underlying38 rfl Sz38 mM (Vote.length (by first | exact oK  | exact hB | exact hC | exact hV | exact hK | exact ok38 | exact ok43 | exact ok48 | exact ok53 | exact ⟨trivial⟩ | exact hok2 | exact hK.o_fCut | exact hC.o_fCut)) ?_
            refine Tr.mkRow (z := agg Vote.zero.cells) [agg V.cells] V.cells rfl rfl rfl Try.underlying34 Sz38 Vote.zr rfl rfl (by intro v hv; rw [List.mem_singleton.1 hv]; exact Vote.length hV) dE (by simp [Value.cells]) ?_
            intro q72
            refine Tr.build (cs := (⟨Sl.nil, Sl.nil, ⟨some ⟨q72, 0, none⟩, 1, 1⟩, Sl.nil⟩ : Kept).cells) rfl rfl rfl (fun w => by kernel_rfl) ?_
            refine Tr.callV rfl rfl rfl rfl Body13 (law26_alone X48 ⟨3, voteBy V⟩ 3 (⟨Sl.nil, Sl.nil, ⟨some ⟨q72, 0, none⟩, 1, 1⟩, Sl.nil⟩ : Kept) ⟨[], [], [V], []⟩ ⟨(fun d h => (by cases h)), (fun d h => (by cases h)), (fun d h => (by cases h))⟩ (hkV hs9_12) rfl dE (by have := (recOf_ok hs9_12).2.2; simp only []; omega)) (fun w h => ⟨rec_is (h48 w (Lies.of h iN)) hs9_12, ⟨⟨trivial⟩, ⟨[], SeqIs.none⟩, ⟨[], SeqIs.none⟩, ⟨_, seq_one q72 38 V (Lies.of h (by intro b hb; rw [List.mem_singleton.1 hb]; repeat (first | exact List.mem_cons_self | refine List.mem_cons_of_mem _ ?_ | refine mem_seg ?_))) (Vote.length hV) (by rw [Vote.length hV]) (hWV.ext h rfl)⟩, ⟨[], SeqIs.none⟩⟩⟩) ?_
            refine Tr.not rfl rfl rfl ?_
            refine Tr.pick rfl rfl rfl rfl rfl rfl ?_
            refine Tr.pick rfl rfl rfl rfl rfl rfl ?_
            refine Tr.move rfl rfl rfl ?_
            refine Tr.move rfl rfl rfl ?_
            refine two (fun r hr k => Tr.eqi rfl rfl rfl rfl hr k) (fun hs9_240 => ?_) (fun hs9_240 => ?_)
            ·
              first | have hs9_24 := of_decide_eq_true hs9_240 | have hs9_24 := of_decide_eq_false hs9_240 | have hs9_24 := nd_t hs9_240 | have hs9_24 := nd_f hs9_240 | have hs9_24 := hs9_240
              refine Tr.move rfl rfl rfl ?_
              refine Tr.loadAll rfl rfl rfl Try.underlying47 rfl Sz47 mM (Record.length (by first | exact oK  | exact hB | exact hC | exact hV | exact hK | exact ok38 | exact ok43 | exact ok48 | exact ok53 | exact ⟨trivial⟩ | exact hok2 | exact hK.o_fCut | exact hC.o_fCut)) ?_
              refine Tr.loadAll rfl rfl rfl Try.underlying33 rfl Sz33 mM (Cut.length (by first | exact oK  | exact hB | exact hC | exact hV | exact hK | exact ok38 | exact ok43 | exact ok48 | exact ok53 | exact ⟨trivial⟩ | exact hok2 | exact hK.o_fCut | exact hC.o_fCut)) ?_
              refine Tr.mkRow (z := agg Cut.zero.cells) [agg K.cells] K.cells rfl rfl rfl Try.underlying45 Sz33 Cut.zr rfl rfl (by intro v hv; rw [List.mem_singleton.1 hv]; exact Cut.length hK) dE (by simp [Value.cells]) ?_
              intro q84
              refine Tr.build (cs := (⟨Sl.nil, Sl.nil, Sl.nil, ⟨some ⟨q84, 0, none⟩, 1, 1⟩⟩ : Kept).cells) rfl rfl rfl (fun w => by kernel_rfl) ?_
              refine Tr.callV rfl rfl rfl rfl Body13 (law26_alone X53 ⟨4, cutR F⟩ 4 (⟨Sl.nil, Sl.nil, Sl.nil, ⟨some ⟨q84, 0, none⟩, 1, 1⟩⟩ : Kept) ⟨[], [], [], [F]⟩ ⟨(fun d h => (by cases h)), (fun d h => (by cases h)), (fun d h => by rw [List.mem_singleton.1 h]; omega)⟩ (hkC hs9_24) rfl dE (by have := (recOf_ok hs9_24).2.2; simp only []; omega)) (fun w h => ⟨rec_is (h53 w (Lies.of h iN)) hs9_24, ⟨⟨trivial⟩, ⟨[], SeqIs.none⟩, ⟨[], SeqIs.none⟩, ⟨[], SeqIs.none⟩, ⟨_, seq_one q84 33 K (Lies.of h (by intro b hb; rw [List.mem_singleton.1 hb]; repeat (first | exact List.mem_cons_self | refine List.mem_cons_of_mem _ ?_ | refine mem_seg ?_))) (Cut.length hK) (by rw [Cut.length hK]) (hWK.ext h rfl)⟩⟩⟩) ?_
              refine Tr.not rfl rfl rfl ?_
              refine Tr.pick rfl rfl rfl rfl rfl rfl ?_
              refine Tr.pick rfl rfl rfl rfl rfl rfl ?_
              refine Tr.nil ?_
              refine at_n ?_
              refine Sat.cond_f rfl rfl ?_
              refine Sat.skip ?_
              refine at_n ?_
              refine Sat.seq ?_
              refine Sat.seq ?_
              refine Sat.region ?_
              refine Tr.move rfl rfl rfl ?_
              refine Tr.nei rfl rfl rfl rfl rfl ?_
              refine Tr.nil ?_
              refine at_n ?_
              first
                | refine Sat.condP rfl (fun hc3 => ?_) (fun hc3 => ?_)
                | refine Sat.condNP rfl (fun hc3 => ?_) (fun hc3 => ?_)
                | refine Sat.cond rfl (fun hc3 => ?_) (fun hc3 => ?_)
              ·
                refine Sat.seq ?_
                refine Sat.region ?_
                refine Tr.assign rfl rfl rfl ?_
                refine Tr.nil ?_
                refine at_n ?_
                refine Sat.ret ?_
                refine at_r ?_
                refine en_r ?_
                refine ⟨_, [], res_tmp rfl rfl, sP, sP, ?_, rfl⟩
                rfl
              ·
                have hz3 : (recOf 2 (certBy E) E.check).2 = 0 := by omega
                refine Sat.skip ?_
                refine at_n ?_
                refine Sat.seq ?_
                refine Sat.seq ?_
                refine Sat.region ?_
                refine Tr.fld rfl rfl rfl Try.underlying36 rfl Sz33 dE _ rfl ?_
                refine Tr.fld rfl rfl rfl Try.underlying33 rfl Sz24 dE _ rfl ?_
                refine Tr.load1 rfl rfl rfl Try.underlying24 rfl mM (Cert.see_fCut hC 0 _ (Cut.get_fHeight hC.o_fCut)) ?_
                refine Tr.eqi rfl rfl rfl rfl rfl ?_
                refine Tr.nil ?_
                refine at_n ?_
                first
                  | refine Sat.condP rfl (fun hc4 => ?_) (fun hc4 => ?_)
                  | refine Sat.condNP rfl (fun hc4 => ?_) (fun hc4 => ?_)
                  | refine Sat.cond rfl (fun hc4 => ?_) (fun hc4 => ?_)
                ·
                  have he1 : E.dCut.dHeight.toNat = 1 := by have := hWC.fCut.fHeight; rw [← this]; omega
                  refine Sat.seq ?_
                  refine Sat.region ?_
                  refine Tr.loadAll rfl rfl rfl Try.underlying47 rfl Sz47 mM (Record.length (by first | exact oK  | exact hB | exact hC | exact hV | exact hK | exact ok38 | exact ok43 | exact ok48 | exact ok53 | exact ⟨trivial⟩ | exact hok2 | exact hK.o_fCut | exact hC.o_fCut)) ?_
                  refine Tr.loadAll rfl rfl rfl Try.underlying36 rfl Sz36 mM (Cert.length (by first | exact oK  | exact hB | exact hC | exact hV | exact hK | exact ok38 | exact ok43 | exact ok48 | exact ok53 | exact ⟨trivial⟩ | exact hok2 | exact hK.o_fCut | exact hC.o_fCut)) ?_
                  refine Tr.mkRow (z := agg Cert.zero.cells) [agg C.cells] C.cells rfl rfl rfl Try.underlying43 Sz36 Cert.zr rfl rfl (by intro v hv; rw [List.mem_singleton.1 hv]; exact Cert.length hC) dE (by simp [Value.cells]) ?_
                  intro q98
                  refine Tr.build (cs := (⟨Sl.nil, ⟨some ⟨q98, 0, none⟩, 1, 1⟩, Sl.nil, Sl.nil⟩ : Kept).cells) rfl rfl rfl (fun w => by kernel_rfl) ?_
                  refine Tr.callV rfl rfl rfl rfl Body13 (law26_alone X43 ⟨2, certBy E⟩ 2 (⟨Sl.nil, ⟨some ⟨q98, 0, none⟩, 1, 1⟩, Sl.nil, Sl.nil⟩ : Kept) ⟨[], [E], [], []⟩ ⟨(fun d h => (by cases h)), (fun d h => by rw [List.mem_singleton.1 h]; omega), (fun d h => (by cases h))⟩ (hkE hz3 he1) rfl dE (by have := (recOf_ok hz3).2.2; simp only []; omega)) (fun w h => ⟨rec_is (h43 w (Lies.of h iN)) hz3, ⟨⟨trivial⟩, ⟨[], SeqIs.none⟩, ⟨_, seq_one q98 36 C (Lies.of h (by intro b hb; rw [List.mem_singleton.1 hb]; repeat (first | exact List.mem_cons_self | refine List.mem_cons_of_mem _ ?_ | refine mem_seg ?_))) (Cert.length hC) (by rw [Cert.length hC]) (hWC.ext h rfl)⟩, ⟨[], SeqIs.none⟩, ⟨[], SeqIs.none⟩⟩⟩) ?_
                  refine Tr.assign rfl rfl rfl ?_
                  refine Tr.nil ?_
                  refine at_n ?_
                  refine Sat.ret ?_
                  refine at_r ?_
                  refine en_r ?_
                  refine ⟨_, [], res_tmp rfl rfl, sP, sP, ?_, rfl⟩
                  rfl
                ·
                  have he1 : ¬ E.dCut.dHeight.toNat = 1 := by have := hWC.fCut.fHeight; rw [← this]; omega
                  refine Sat.skip ?_
                  refine at_n ?_
                  refine Sat.seq ?_
                  refine Sat.region ?_
                  refine Tr.loadAll rfl rfl rfl Try.underlying47 rfl Sz47 mM (Record.length (by first | exact oK  | exact hB | exact hC | exact hV | exact hK | exact ok38 | exact ok43 | exact ok48 | exact ok53 | exact ⟨trivial⟩ | exact hok2 | exact hK.o_fCut | exact hC.o_fCut)) ?_
                  refine Tr.mkRow (z := agg Record.zero.cells) [agg X43.cells] X43.cells rfl rfl rfl Try.underlying60 Sz47 Record.zr rfl rfl (by intro v hv; rw [List.mem_singleton.1 hv]; exact Record.length ok43) dE (by simp [Value.cells]) ?_
                  intro q103
                  refine Tr.call4 rfl rfl rfl rfl rfl Body14 (keep_read ⟨some ⟨q103, 0, none⟩, 1, 1⟩ [⟨2, certBy E⟩] sP (fun x h => by rw [List.mem_singleton.1 h]; have := (recOf_ok hz3).2.2; simp only []; omega)) (fun w h => ⟨_, seq_one q103 47 X43 (Lies.of h (by intro b hb; rw [List.mem_singleton.1 hb]; repeat (first | exact List.mem_cons_self | refine List.mem_cons_of_mem _ ?_ | refine mem_seg ?_))) (Record.length ok43) (by rw [Record.length ok43]) (rec_is (h43 w (Lies.of h iN)) hz3)⟩) ?_
                  rintro v104 out104 ⟨X104, ok104, rfl, h104⟩
                  rw [hkN hz3 he1] at h104 ⊢
                  refine Tr.move rfl rfl rfl ?_
                  refine Tr.extract rfl rfl rfl rfl ?_
                  refine Tr.extract rfl rfl rfl rfl ?_
                  refine Tr.assign rfl rfl rfl ?_
                  refine Tr.nil ?_
                  refine at_n ?_
                  refine Sat.seq ?_
                  refine Sat.region ?_
                  refine Tr.move rfl rfl rfl ?_
                  refine Tr.eqi rfl rfl rfl rfl (decide_eq_true (rfl)) ?_
                  refine Tr.move rfl rfl rfl ?_
                  refine Tr.fld rfl rfl rfl Try.underlying47 rfl Sz5 dE _ rfl ?_
                  refine Tr.load1 rfl rfl rfl Try.underlying5 rfl mM (by first | exact Record.get_fKind (by first | exact oK  | exact hB | exact hC | exact hV | exact hK | exact ok38 | exact ok43 | exact ok48 | exact ok53 | exact ⟨trivial⟩ | exact hok2 | exact hK.o_fCut | exact hC.o_fCut) | exact vL) ?_
                  refine Tr.eqi rfl rfl rfl rfl (decide_eq_true (by rw [k43, (recOf_ok hz3).2.1]; rfl)) ?_
                  refine Tr.pick rfl rfl rfl rfl rfl rfl ?_
                  refine Tr.assign rfl rfl rfl ?_
                  refine Tr.nil ?_
                  refine at_n ?_
                  refine Sat.ret ?_
                  refine en_r ?_
                  refine ⟨_, [], res_tmp rfl rfl, sP, sP, ?_, rfl⟩
                  rfl
            ·
              first | have hs9_24 := of_decide_eq_true hs9_240 | have hs9_24 := of_decide_eq_false hs9_240 | have hs9_24 := nd_t hs9_240 | have hs9_24 := nd_f hs9_240 | have hs9_24 := hs9_240
              refine Tr.move rfl rfl rfl ?_
              refine Tr.skp rfl rfl ?_
              refine Tr.skp rfl rfl ?_
              refine Tr.skp rfl rfl ?_
              refine Tr.skp rfl rfl ?_
              refine Tr.skp rfl rfl ?_
              refine Tr.skp rfl rfl ?_
              refine Tr.pick rfl rfl rfl rfl rfl rfl ?_
              refine Tr.pick rfl rfl rfl rfl rfl rfl ?_
              refine Tr.nil ?_
              refine at_n ?_
              refine Sat.cond_f rfl rfl ?_
              refine Sat.skip ?_
              refine at_n ?_
              refine Sat.seq ?_
              refine Sat.seq ?_
              refine Sat.region ?_
              refine Tr.move rfl rfl rfl ?_
              refine Tr.nei rfl rfl rfl rfl rfl ?_
              refine Tr.nil ?_
              refine at_n ?_
              first
                | refine Sat.condP rfl (fun hc3 => ?_) (fun hc3 => ?_)
                | refine Sat.condNP rfl (fun hc3 => ?_) (fun hc3 => ?_)
                | refine Sat.cond rfl (fun hc3 => ?_) (fun hc3 => ?_)
              ·
                refine Sat.seq ?_
                refine Sat.region ?_
                refine Tr.assign rfl rfl rfl ?_
                refine Tr.nil ?_
                refine at_n ?_
                refine Sat.ret ?_
                refine at_r ?_
                refine en_r ?_
                refine ⟨_, [], res_tmp rfl rfl, sP, sP, ?_, rfl⟩
                rfl
              ·
                have hz3 : (recOf 2 (certBy E) E.check).2 = 0 := by omega
                refine Sat.skip ?_
                refine at_n ?_
                refine Sat.seq ?_
                refine Sat.seq ?_
                refine Sat.region ?_
                refine Tr.fld rfl rfl rfl Try.underlying36 rfl Sz33 dE _ rfl ?_
                refine Tr.fld rfl rfl rfl Try.underlying33 rfl Sz24 dE _ rfl ?_
                refine Tr.load1 rfl rfl rfl Try.underlying24 rfl mM (Cert.see_fCut hC 0 _ (Cut.get_fHeight hC.o_fCut)) ?_
                refine Tr.eqi rfl rfl rfl rfl rfl ?_
                refine Tr.nil ?_
                refine at_n ?_
                first
                  | refine Sat.condP rfl (fun hc4 => ?_) (fun hc4 => ?_)
                  | refine Sat.condNP rfl (fun hc4 => ?_) (fun hc4 => ?_)
                  | refine Sat.cond rfl (fun hc4 => ?_) (fun hc4 => ?_)
                ·
                  have he1 : E.dCut.dHeight.toNat = 1 := by have := hWC.fCut.fHeight; rw [← this]; omega
                  refine Sat.seq ?_
                  refine Sat.region ?_
                  refine Tr.loadAll rfl rfl rfl Try.underlying47 rfl Sz47 mM (Record.length (by first | exact oK  | exact hB | exact hC | exact hV | exact hK | exact ok38 | exact ok43 | exact ok48 | exact ok53 | exact ⟨trivial⟩ | exact hok2 | exact hK.o_fCut | exact hC.o_fCut)) ?_
                  refine Tr.loadAll rfl rfl rfl Try.underlying36 rfl Sz36 mM (Cert.length (by first | exact oK  | exact hB | exact hC | exact hV | exact hK | exact ok38 | exact ok43 | exact ok48 | exact ok53 | exact ⟨trivial⟩ | exact hok2 | exact hK.o_fCut | exact hC.o_fCut)) ?_
                  refine Tr.mkRow (z := agg Cert.zero.cells) [agg C.cells] C.cells rfl rfl rfl Try.underlying43 Sz36 Cert.zr rfl rfl (by intro v hv; rw [List.mem_singleton.1 hv]; exact Cert.length hC) dE (by simp [Value.cells]) ?_
                  intro q98
                  refine Tr.build (cs := (⟨Sl.nil, ⟨some ⟨q98, 0, none⟩, 1, 1⟩, Sl.nil, Sl.nil⟩ : Kept).cells) rfl rfl rfl (fun w => by kernel_rfl) ?_
                  refine Tr.callV rfl rfl rfl rfl Body13 (law26_alone X43 ⟨2, certBy E⟩ 2 (⟨Sl.nil, ⟨some ⟨q98, 0, none⟩, 1, 1⟩, Sl.nil, Sl.nil⟩ : Kept) ⟨[], [E], [], []⟩ ⟨(fun d h => (by cases h)), (fun d h => by rw [List.mem_singleton.1 h]; omega), (fun d h => (by cases h))⟩ (hkE hz3 he1) rfl dE (by have := (recOf_ok hz3).2.2; simp only []; omega)) (fun w h => ⟨rec_is (h43 w (Lies.of h iN)) hz3, ⟨⟨trivial⟩, ⟨[], SeqIs.none⟩, ⟨_, seq_one q98 36 C (Lies.of h (by intro b hb; rw [List.mem_singleton.1 hb]; repeat (first | exact List.mem_cons_self | refine List.mem_cons_of_mem _ ?_ | refine mem_seg ?_))) (Cert.length hC) (by rw [Cert.length hC]) (hWC.ext h rfl)⟩, ⟨[], SeqIs.none⟩, ⟨[], SeqIs.none⟩⟩⟩) ?_
                  refine Tr.assign rfl rfl rfl ?_
                  refine Tr.nil ?_
                  refine at_n ?_
                  refine Sat.ret ?_
                  refine at_r ?_
                  refine en_r ?_
                  refine ⟨_, [], res_tmp rfl rfl, sP, sP, ?_, rfl⟩
                  rfl
                ·
                  have he1 : ¬ E.dCut.dHeight.toNat = 1 := by have := hWC.fCut.fHeight; rw [← this]; omega
                  refine Sat.skip ?_
                  refine at_n ?_
                  refine Sat.seq ?_
                  refine Sat.region ?_
                  refine Tr.loadAll rfl rfl rfl Try.underlying47 rfl Sz47 mM (Record.length (by first | exact oK  | exact hB | exact hC | exact hV | exact hK | exact ok38 | exact ok43 | exact ok48 | exact ok53 | exact ⟨trivial⟩ | exact hok2 | exact hK.o_fCut | exact hC.o_fCut)) ?_
                  refine Tr.mkRow (z := agg Record.zero.cells) [agg X43.cells] X43.cells rfl rfl rfl Try.underlying60 Sz47 Record.zr rfl rfl (by intro v hv; rw [List.mem_singleton.1 hv]; exact Record.length ok43) dE (by simp [Value.cells]) ?_
                  intro q103
                  refine Tr.call4 rfl rfl rfl rfl rfl Body14 (keep_read ⟨some ⟨q103, 0, none⟩, 1, 1⟩ [⟨2, certBy E⟩] sP (fun x h => by rw [List.mem_singleton.1 h]; have := (recOf_ok hz3).2.2; simp only []; omega)) (fun w h => ⟨_, seq_one q103 47 X43 (Lies.of h (by intro b hb; rw [List.mem_singleton.1 hb]; repeat (first | exact List.mem_cons_self | refine List.mem_cons_of_mem _ ?_ | refine mem_seg ?_))) (Record.length ok43) (by rw [Record.length ok43]) (rec_is (h43 w (Lies.of h iN)) hz3)⟩) ?_
                  rintro v104 out104 ⟨X104, ok104, rfl, h104⟩
                  rw [hkN hz3 he1] at h104 ⊢
                  refine Tr.move rfl rfl rfl ?_
                  refine Tr.extract rfl rfl rfl rfl ?_
                  refine Tr.extract rfl rfl rfl rfl ?_
                  refine Tr.assign rfl rfl rfl ?_
                  refine Tr.nil ?_
                  refine at_n ?_
                  refine Sat.seq ?_
                  refine Sat.region ?_
                  refine Tr.move rfl rfl rfl ?_
                  refine Tr.eqi rfl rfl rfl rfl (decide_eq_true (rfl)) ?_
                  refine Tr.move rfl rfl rfl ?_
                  refine Tr.fld rfl rfl rfl Try.underlying47 rfl Sz5 dE _ rfl ?_
                  refine Tr.load1 rfl rfl rfl Try.underlying5 rfl mM (by first | exact Record.get_fKind (by first | exact oK  | exact hB | exact hC | exact hV | exact hK | exact ok38 | exact ok43 | exact ok48 | exact ok53 | exact ⟨trivial⟩ | exact hok2 | exact hK.o_fCut | exact hC.o_fCut) | exact vL) ?_
                  refine Tr.eqi rfl rfl rfl rfl (decide_eq_true (by rw [k43, (recOf_ok hz3).2.1]; rfl)) ?_
                  refine Tr.pick rfl rfl rfl rfl rfl rfl ?_
                  refine Tr.assign rfl rfl rfl ?_
                  refine Tr.nil ?_
                  refine at_n ?_
                  refine Sat.ret ?_
                  refine en_r ?_
                  refine ⟨_, [], res_tmp rfl rfl, sP, sP, ?_, rfl⟩
                  rfl
          ·
            first | have hs9_12 := of_decide_eq_true hs9_120 | have hs9_12 := of_decide_eq_false hs9_120 | have hs9_12 := nd_t hs9_120 | have hs9_12 := nd_f hs9_120 | have hs9_12 := hs9_120
            refine Tr.move rfl rfl rfl ?_
            refine Tr.skp rfl rfl ?_
            refine Tr.skp rfl rfl ?_
            refine Tr.skp rfl rfl ?_
            refine Tr.skp rfl rfl ?_
            refine Tr.skp rfl rfl ?_
            refine Tr.skp rfl rfl ?_
            refine Tr.pick rfl rfl rfl rfl rfl rfl ?_
            refine Tr.pick rfl rfl rfl rfl rfl rfl ?_
            refine Tr.move rfl rfl rfl ?_
            refine Tr.move rfl rfl rfl ?_
            refine two (fun r hr k => Tr.eqi rfl rfl rfl rfl hr k) (fun hs9_240 => ?_) (fun hs9_240 => ?_)
            ·
              first | have hs9_24 := of_decide_eq_true hs9_240 | have hs9_24 := of_decide_eq_false hs9_240 | have hs9_24 := nd_t hs9_240 | have hs9_24 := nd_f hs9_240 | have hs9_24 := hs9_240
              refine Tr.move rfl rfl rfl ?_
              refine Tr.loadAll rfl rfl rfl Try.underlying47 rfl Sz47 mM (Record.length (by first | exact oK  | exact hB | exact hC | exact hV | exact hK | exact ok38 | exact ok43 | exact ok48 | exact ok53 | exact ⟨trivial⟩ | exact hok2 | exact hK.o_fCut | exact hC.o_fCut)) ?_
              refine Tr.loadAll rfl rfl rfl Try.underlying33 rfl Sz33 mM (Cut.length (by first | exact oK  | exact hB | exact hC | exact hV | exact hK | exact ok38 | exact ok43 | exact ok48 | exact ok53 | exact ⟨trivial⟩ | exact hok2 | exact hK.o_fCut | exact hC.o_fCut)) ?_
              refine Tr.mkRow (z := agg Cut.zero.cells) [agg K.cells] K.cells rfl rfl rfl Try.underlying45 Sz33 Cut.zr rfl rfl (by intro v hv; rw [List.mem_singleton.1 hv]; exact Cut.length hK) dE (by simp [Value.cells]) ?_
              intro q84
              refine Tr.build (cs := (⟨Sl.nil, Sl.nil, Sl.nil, ⟨some ⟨q84, 0, none⟩, 1, 1⟩⟩ : Kept).cells) rfl rfl rfl (fun w => by kernel_rfl) ?_
              refine Tr.callV rfl rfl rfl rfl Body13 (law26_alone X53 ⟨4, cutR F⟩ 4 (⟨Sl.nil, Sl.nil, Sl.nil, ⟨some ⟨q84, 0, none⟩, 1, 1⟩⟩ : Kept) ⟨[], [], [], [F]⟩ ⟨(fun d h => (by cases h)), (fun d h => (by cases h)), (fun d h => by rw [List.mem_singleton.1 h]; omega)⟩ (hkC hs9_24) rfl dE (by have := (recOf_ok hs9_24).2.2; simp only []; omega)) (fun w h => ⟨rec_is (h53 w (Lies.of h iN)) hs9_24, ⟨⟨trivial⟩, ⟨[], SeqIs.none⟩, ⟨[], SeqIs.none⟩, ⟨[], SeqIs.none⟩, ⟨_, seq_one q84 33 K (Lies.of h (by intro b hb; rw [List.mem_singleton.1 hb]; repeat (first | exact List.mem_cons_self | refine List.mem_cons_of_mem _ ?_ | refine mem_seg ?_))) (Cut.length hK) (by rw [Cut.length hK]) (hWK.ext h rfl)⟩⟩⟩) ?_
              refine Tr.not rfl rfl rfl ?_
              refine Tr.pick rfl rfl rfl rfl rfl rfl ?_
              refine Tr.pick rfl rfl rfl rfl rfl rfl ?_
              refine Tr.nil ?_
              refine at_n ?_
              refine Sat.cond_f rfl rfl ?_
              refine Sat.skip ?_
              refine at_n ?_
              refine Sat.seq ?_
              refine Sat.seq ?_
              refine Sat.region ?_
              refine Tr.move rfl rfl rfl ?_
              refine Tr.nei rfl rfl rfl rfl rfl ?_
              refine Tr.nil ?_
              refine at_n ?_
              first
                | refine Sat.condP rfl (fun hc3 => ?_) (fun hc3 => ?_)
                | refine Sat.condNP rfl (fun hc3 => ?_) (fun hc3 => ?_)
                | refine Sat.cond rfl (fun hc3 => ?_) (fun hc3 => ?_)
              ·
                refine Sat.seq ?_
                refine Sat.region ?_
                refine Tr.assign rfl rfl rfl ?_
                refine Tr.nil ?_
                refine at_n ?_
                refine Sat.ret ?_
                refine at_r ?_
                refine en_r ?_
                refine ⟨_, [], res_tmp rfl rfl, sP, sP, ?_, rfl⟩
                rfl
              ·
                have hz3 : (recOf 2 (certBy E) E.check).2 = 0 := by omega
                refine Sat.skip ?_
                refine at_n ?_
                refine Sat.seq ?_
                refine Sat.seq ?_
                refine Sat.region ?_
                refine Tr.fld rfl rfl rfl Try.underlying36 rfl Sz33 dE _ rfl ?_
                refine Tr.fld rfl rfl rfl Try.underlying33 rfl Sz24 dE _ rfl ?_
                refine Tr.load1 rfl rfl rfl Try.underlying24 rfl mM (Cert.see_fCut hC 0 _ (Cut.get_fHeight hC.o_fCut)) ?_
                refine Tr.eqi rfl rfl rfl rfl rfl ?_
                refine Tr.nil ?_
                refine at_n ?_
                first
                  | refine Sat.condP rfl (fun hc4 => ?_) (fun hc4 => ?_)
                  | refine Sat.condNP rfl (fun hc4 => ?_) (fun hc4 => ?_)
                  | refine Sat.cond rfl (fun hc4 => ?_) (fun hc4 => ?_)
                ·
                  have he1 : E.dCut.dHeight.toNat = 1 := by have := hWC.fCut.fHeight; rw [← this]; omega
                  refine Sat.seq ?_
                  refine Sat.region ?_
                  refine Tr.loadAll rfl rfl rfl Try.underlying47 rfl Sz47 mM (Record.length (by first | exact oK  | exact hB | exact hC | exact hV | exact hK | exact ok38 | exact ok43 | exact ok48 | exact ok53 | exact ⟨trivial⟩ | exact hok2 | exact hK.o_fCut | exact hC.o_fCut)) ?_
                  refine Tr.loadAll rfl rfl rfl Try.underlying36 rfl Sz36 mM (Cert.length (by first | exact oK  | exact hB | exact hC | exact hV | exact hK | exact ok38 | exact ok43 | exact ok48 | exact ok53 | exact ⟨trivial⟩ | exact hok2 | exact hK.o_fCut | exact hC.o_fCut)) ?_
                  refine Tr.mkRow (z := agg Cert.zero.cells) [agg C.cells] C.cells rfl rfl rfl Try.underlying43 Sz36 Cert.zr rfl rfl (by intro v hv; rw [List.mem_singleton.1 hv]; exact Cert.length hC) dE (by simp [Value.cells]) ?_
                  intro q98
                  refine Tr.build (cs := (⟨Sl.nil, ⟨some ⟨q98, 0, none⟩, 1, 1⟩, Sl.nil, Sl.nil⟩ : Kept).cells) rfl rfl rfl (fun w => by kernel_rfl) ?_
                  refine Tr.callV rfl rfl rfl rfl Body13 (law26_alone X43 ⟨2, certBy E⟩ 2 (⟨Sl.nil, ⟨some ⟨q98, 0, none⟩, 1, 1⟩, Sl.nil, Sl.nil⟩ : Kept) ⟨[], [E], [], []⟩ ⟨(fun d h => (by cases h)), (fun d h => by rw [List.mem_singleton.1 h]; omega), (fun d h => (by cases h))⟩ (hkE hz3 he1) rfl dE (by have := (recOf_ok hz3).2.2; simp only []; omega)) (fun w h => ⟨rec_is (h43 w (Lies.of h iN)) hz3, ⟨⟨trivial⟩, ⟨[], SeqIs.none⟩, ⟨_, seq_one q98 36 C (Lies.of h (by intro b hb; rw [List.mem_singleton.1 hb]; repeat (first | exact List.mem_cons_self | refine List.mem_cons_of_mem _ ?_ | refine mem_seg ?_))) (Cert.length hC) (by rw [Cert.length hC]) (hWC.ext h rfl)⟩, ⟨[], SeqIs.none⟩, ⟨[], SeqIs.none⟩⟩⟩) ?_
                  refine Tr.assign rfl rfl rfl ?_
                  refine Tr.nil ?_
                  refine at_n ?_
                  refine Sat.ret ?_
                  refine at_r ?_
                  refine en_r ?_
                  refine ⟨_, [], res_tmp rfl rfl, sP, sP, ?_, rfl⟩
                  rfl
                ·
                  have he1 : ¬ E.dCut.dHeight.toNat = 1 := by have := hWC.fCut.fHeight; rw [← this]; omega
                  refine Sat.skip ?_
                  refine at_n ?_
                  refine Sat.seq ?_
                  refine Sat.region ?_
                  refine Tr.loadAll rfl rfl rfl Try.underlying47 rfl Sz47 mM (Record.length (by first | exact oK  | exact hB | exact hC | exact hV | exact hK | exact ok38 | exact ok43 | exact ok48 | exact ok53 | exact ⟨trivial⟩ | exact hok2 | exact hK.o_fCut | exact hC.o_fCut)) ?_
                  refine Tr.mkRow (z := agg Record.zero.cells) [agg X43.cells] X43.cells rfl rfl rfl Try.underlying60 Sz47 Record.zr rfl rfl (by intro v hv; rw [List.mem_singleton.1 hv]; exact Record.length ok43) dE (by simp [Value.cells]) ?_
                  intro q103
                  refine Tr.call4 rfl rfl rfl rfl rfl Body14 (keep_read ⟨some ⟨q103, 0, none⟩, 1, 1⟩ [⟨2, certBy E⟩] sP (fun x h => by rw [List.mem_singleton.1 h]; have := (recOf_ok hz3).2.2; simp only []; omega)) (fun w h => ⟨_, seq_one q103 47 X43 (Lies.of h (by intro b hb; rw [List.mem_singleton.1 hb]; repeat (first | exact List.mem_cons_self | refine List.mem_cons_of_mem _ ?_ | refine mem_seg ?_))) (Record.length ok43) (by rw [Record.length ok43]) (rec_is (h43 w (Lies.of h iN)) hz3)⟩) ?_
                  rintro v104 out104 ⟨X104, ok104, rfl, h104⟩
                  rw [hkN hz3 he1] at h104 ⊢
                  refine Tr.move rfl rfl rfl ?_
                  refine Tr.extract rfl rfl rfl rfl ?_
                  refine Tr.extract rfl rfl rfl rfl ?_
                  refine Tr.assign rfl rfl rfl ?_
                  refine Tr.nil ?_
                  refine at_n ?_
                  refine Sat.seq ?_
                  refine Sat.region ?_
                  refine Tr.move rfl rfl rfl ?_
                  refine Tr.eqi rfl rfl rfl rfl (decide_eq_true (rfl)) ?_
                  refine Tr.move rfl rfl rfl ?_
                  refine Tr.fld rfl rfl rfl Try.underlying47 rfl Sz5 dE _ rfl ?_
                  refine Tr.load1 rfl rfl rfl Try.underlying5 rfl mM (by first | exact Record.get_fKind (by first | exact oK  | exact hB | exact hC | exact hV | exact hK | exact ok38 | exact ok43 | exact ok48 | exact ok53 | exact ⟨trivial⟩ | exact hok2 | exact hK.o_fCut | exact hC.o_fCut) | exact vL) ?_
                  refine Tr.eqi rfl rfl rfl rfl (decide_eq_true (by rw [k43, (recOf_ok hz3).2.1]; rfl)) ?_
                  refine Tr.pick rfl rfl rfl rfl rfl rfl ?_
                  refine Tr.assign rfl rfl rfl ?_
                  refine Tr.nil ?_
                  refine at_n ?_
                  refine Sat.ret ?_
                  refine en_r ?_
                  refine ⟨_, [], res_tmp rfl rfl, sP, sP, ?_, rfl⟩
                  rfl
            ·
              first | have hs9_24 := of_decide_eq_true hs9_240 | have hs9_24 := of_decide_eq_false hs9_240 | have hs9_24 := nd_t hs9_240 | have hs9_24 := nd_f hs9_240 | have hs9_24 := hs9_240
              refine Tr.move rfl rfl rfl ?_
              refine Tr.skp rfl rfl ?_
              refine Tr.skp rfl rfl ?_
              refine Tr.skp rfl rfl ?_
              refine Tr.skp rfl rfl ?_
              refine Tr.skp rfl rfl ?_
              refine Tr.skp rfl rfl ?_
              refine Tr.pick rfl rfl rfl rfl rfl rfl ?_
              refine Tr.pick rfl rfl rfl rfl rfl rfl ?_
              refine Tr.nil ?_
              refine at_n ?_
              refine Sat.cond_f rfl rfl ?_
              refine Sat.skip ?_
              refine at_n ?_
              refine Sat.seq ?_
              refine Sat.seq ?_
              refine Sat.region ?_
              refine Tr.move rfl rfl rfl ?_
              refine Tr.nei rfl rfl rfl rfl rfl ?_
              refine Tr.nil ?_
              refine at_n ?_
              first
                | refine Sat.condP rfl (fun hc3 => ?_) (fun hc3 => ?_)
                | refine Sat.condNP rfl (fun hc3 => ?_) (fun hc3 => ?_)
                | refine Sat.cond rfl (fun hc3 => ?_) (fun hc3 => ?_)
              ·
                refine Sat.seq ?_
                refine Sat.region ?_
                refine Tr.assign rfl rfl rfl ?_
                refine Tr.nil ?_
                refine at_n ?_
                refine Sat.ret ?_
                refine at_r ?_
                refine en_r ?_
                refine ⟨_, [], res_tmp rfl rfl, sP, sP, ?_, rfl⟩
                rfl
              ·
                have hz3 : (recOf 2 (certBy E) E.check).2 = 0 := by omega
                refine Sat.skip ?_
                refine at_n ?_
                refine Sat.seq ?_
                refine Sat.seq ?_
                refine Sat.region ?_
                refine Tr.fld rfl rfl rfl Try.underlying36 rfl Sz33 dE _ rfl ?_
                refine Tr.fld rfl rfl rfl Try.underlying33 rfl Sz24 dE _ rfl ?_
                refine Tr.load1 rfl rfl rfl Try.underlying24 rfl mM (Cert.see_fCut hC 0 _ (Cut.get_fHeight hC.o_fCut)) ?_
                refine Tr.eqi rfl rfl rfl rfl rfl ?_
                refine Tr.nil ?_
                refine at_n ?_
                first
                  | refine Sat.condP rfl (fun hc4 => ?_) (fun hc4 => ?_)
                  | refine Sat.condNP rfl (fun hc4 => ?_) (fun hc4 => ?_)
                  | refine Sat.cond rfl (fun hc4 => ?_) (fun hc4 => ?_)
                ·
                  have he1 : E.dCut.dHeight.toNat = 1 := by have := hWC.fCut.fHeight; rw [← this]; omega
                  refine Sat.seq ?_
                  refine Sat.region ?_
                  refine Tr.loadAll rfl rfl rfl Try.underlying47 rfl Sz47 mM (Record.length (by first | exact oK  | exact hB | exact hC | exact hV | exact hK | exact ok38 | exact ok43 | exact ok48 | exact ok53 | exact ⟨trivial⟩ | exact hok2 | exact hK.o_fCut | exact hC.o_fCut)) ?_
                  refine Tr.loadAll rfl rfl rfl Try.underlying36 rfl Sz36 mM (Cert.length (by first | exact oK  | exact hB | exact hC | exact hV | exact hK | exact ok38 | exact ok43 | exact ok48 | exact ok53 | exact ⟨trivial⟩ | exact hok2 | exact hK.o_fCut | exact hC.o_fCut)) ?_
                  refine Tr.mkRow (z := agg Cert.zero.cells) [agg C.cells] C.cells rfl rfl rfl Try.underlying43 Sz36 Cert.zr rfl rfl (by intro v hv; rw [List.mem_singleton.1 hv]; exact Cert.length hC) dE (by simp [Value.cells]) ?_
                  intro q98
                  refine Tr.build (cs := (⟨Sl.nil, ⟨some ⟨q98, 0, none⟩, 1, 1⟩, Sl.nil, Sl.nil⟩ : Kept).cells) rfl rfl rfl (fun w => by kernel_rfl) ?_
                  refine Tr.callV rfl rfl rfl rfl Body13 (law26_alone X43 ⟨2, certBy E⟩ 2 (⟨Sl.nil, ⟨some ⟨q98, 0, none⟩, 1, 1⟩, Sl.nil, Sl.nil⟩ : Kept) ⟨[], [E], [], []⟩ ⟨(fun d h => (by cases h)), (fun d h => by rw [List.mem_singleton.1 h]; omega), (fun d h => (by cases h))⟩ (hkE hz3 he1) rfl dE (by have := (recOf_ok hz3).2.2; simp only []; omega)) (fun w h => ⟨rec_is (h43 w (Lies.of h iN)) hz3, ⟨⟨trivial⟩, ⟨[], SeqIs.none⟩, ⟨_, seq_one q98 36 C (Lies.of h (by intro b hb; rw [List.mem_singleton.1 hb]; repeat (first | exact List.mem_cons_self | refine List.mem_cons_of_mem _ ?_ | refine mem_seg ?_))) (Cert.length hC) (by rw [Cert.length hC]) (hWC.ext h rfl)⟩, ⟨[], SeqIs.none⟩, ⟨[], SeqIs.none⟩⟩⟩) ?_
                  refine Tr.assign rfl rfl rfl ?_
                  refine Tr.nil ?_
                  refine at_n ?_
                  refine Sat.ret ?_
                  refine at_r ?_
                  refine en_r ?_
                  refine ⟨_, [], res_tmp rfl rfl, sP, sP, ?_, rfl⟩
                  rfl
                ·
                  have he1 : ¬ E.dCut.dHeight.toNat = 1 := by have := hWC.fCut.fHeight; rw [← this]; omega
                  refine Sat.skip ?_
                  refine at_n ?_
                  refine Sat.seq ?_
                  refine Sat.region ?_
                  refine Tr.loadAll rfl rfl rfl Try.underlying47 rfl Sz47 mM (Record.length (by first | exact oK  | exact hB | exact hC | exact hV | exact hK | exact ok38 | exact ok43 | exact ok48 | exact ok53 | exact ⟨trivial⟩ | exact hok2 | exact hK.o_fCut | exact hC.o_fCut)) ?_
                  refine Tr.mkRow (z := agg Record.zero.cells) [agg X43.cells] X43.cells rfl rfl rfl Try.underlying60 Sz47 Record.zr rfl rfl (by intro v hv; rw [List.mem_singleton.1 hv]; exact Record.length ok43) dE (by simp [Value.cells]) ?_
                  intro q103
                  refine Tr.call4 rfl rfl rfl rfl rfl Body14 (keep_read ⟨some ⟨q103, 0, none⟩, 1, 1⟩ [⟨2, certBy E⟩] sP (fun x h => by rw [List.mem_singleton.1 h]; have := (recOf_ok hz3).2.2; simp only []; omega)) (fun w h => ⟨_, seq_one q103 47 X43 (Lies.of h (by intro b hb; rw [List.mem_singleton.1 hb]; repeat (first | exact List.mem_cons_self | refine List.mem_cons_of_mem _ ?_ | refine mem_seg ?_))) (Record.length ok43) (by rw [Record.length ok43]) (rec_is (h43 w (Lies.of h iN)) hz3)⟩) ?_
                  rintro v104 out104 ⟨X104, ok104, rfl, h104⟩
                  rw [hkN hz3 he1] at h104 ⊢
                  refine Tr.move rfl rfl rfl ?_
                  refine Tr.extract rfl rfl rfl rfl ?_
                  refine Tr.extract rfl rfl rfl rfl ?_
                  refine Tr.assign rfl rfl rfl ?_
                  refine Tr.nil ?_
                  refine at_n ?_
                  refine Sat.seq ?_
                  refine Sat.region ?_
                  refine Tr.move rfl rfl rfl ?_
                  refine Tr.eqi rfl rfl rfl rfl (decide_eq_true (rfl)) ?_
                  refine Tr.move rfl rfl rfl ?_
                  refine Tr.fld rfl rfl rfl Try.underlying47 rfl Sz5 dE _ rfl ?_
                  refine Tr.load1 rfl rfl rfl Try.underlying5 rfl mM (by first | exact Record.get_fKind (by first | exact oK  | exact hB | exact hC | exact hV | exact hK | exact ok38 | exact ok43 | exact ok48 | exact ok53 | exact ⟨trivial⟩ | exact hok2 | exact hK.o_fCut | exact hC.o_fCut) | exact vL) ?_
                  refine Tr.eqi rfl rfl rfl rfl (decide_eq_true (by rw [k43, (recOf_ok hz3).2.1]; rfl)) ?_
                  refine Tr.pick rfl rfl rfl rfl rfl rfl ?_
                  refine Tr.assign rfl rfl rfl ?_
                  refine Tr.nil ?_
                  refine at_n ?_
                  refine Sat.ret ?_
                  refine en_r ?_
                  refine ⟨_, [], res_tmp rfl rfl, sP, sP, ?_, rfl⟩
                  rfl
      ·
        first | have hs3_13 := of_decide_eq_true hs3_130 | have hs3_13 := of_decide_eq_false hs3_130 | have hs3_13 := nd_t hs3_130 | have hs3_13 := nd_f hs3_130 | have hs3_13 := hs3_130
        refine Tr.not rfl rfl rfl ?_
        refine Tr.pick rfl rfl rfl rfl rfl rfl ?_
        refine Tr.nil ?_
        refine at_n ?_
        refine Sat.cond_t rfl rfl ?_
        refine Sat.seq ?_
        refine Sat.region ?_
        refine Tr.assign rfl rfl rfl ?_
        refine Tr.nil ?_
        refine at_n ?_
        refine Sat.ret ?_
        refine at_r ?_
        refine en_r ?_
        refine ⟨_, [], res_tmp rfl rfl, sP, sP, ?_, rfl⟩
        rfl
    ·
      first | have hs3_7 := of_decide_eq_true hs3_70 | have hs3_7 := of_decide_eq_false hs3_70 | have hs3_7 := nd_t hs3_70 | have hs3_7 := nd_f hs3_70 | have hs3_7 := hs3_70
      refine Tr.not rfl rfl rfl ?_
      refine Tr.pick rfl rfl rfl rfl rfl rfl ?_
      refine Tr.move rfl rfl rfl ?_
      refine Tr.skp rfl rfl ?_
      refine Tr.skp rfl rfl ?_
      refine Tr.skp rfl rfl ?_
      refine Tr.skp rfl rfl ?_
      refine Tr.pick rfl rfl rfl rfl rfl rfl ?_
      refine Tr.nil ?_
      refine at_n ?_
      refine Sat.cond_t rfl rfl ?_
      refine Sat.seq ?_
      refine Sat.region ?_
      refine Tr.assign rfl rfl rfl ?_
      refine Tr.nil ?_
      refine at_n ?_
      refine Sat.ret ?_
      refine at_r ?_
      refine en_r ?_
      refine ⟨_, [], res_tmp rfl rfl, sP, sP, ?_, rfl⟩
      rfl
  ·
    first | have hs3_2 := of_decide_eq_true hs3_20 | have hs3_2 := of_decide_eq_false hs3_20 | have hs3_2 := nd_t hs3_20 | have hs3_2 := nd_f hs3_20 | have hs3_2 := hs3_20
    refine Tr.not rfl rfl rfl ?_
    refine Tr.move rfl rfl rfl ?_
    refine Tr.skp rfl rfl ?_
    refine Tr.skp rfl rfl ?_
    refine Tr.skp rfl rfl ?_
    refine Tr.skp rfl rfl ?_
    refine Tr.pick rfl rfl rfl rfl rfl rfl ?_
    refine Tr.move rfl rfl rfl ?_
    refine Tr.skp rfl rfl ?_
    refine Tr.skp rfl rfl ?_
    refine Tr.skp rfl rfl ?_
    refine Tr.skp rfl rfl ?_
    refine Tr.pick rfl rfl rfl rfl rfl rfl ?_
    refine Tr.nil ?_
    refine at_n ?_
    refine Sat.cond_t rfl rfl ?_
    refine Sat.seq ?_
    refine Sat.region ?_
    refine Tr.assign rfl rfl rfl ?_
    refine Tr.nil ?_
    refine at_n ?_
    refine Sat.ret ?_
    refine at_r ?_
    refine en_r ?_
    refine ⟨_, [], res_tmp rfl rfl, sP, sP, ?_, rfl⟩
    rfl

end Go.Proofs.Ytlgbmfokgnoocaa
end

section
namespace Go.Proofs.Ytlgbmfokgnoocaa
open Go Go.ChangeShapes Go.WideShapes Go.ChangeAt Go.RowKit
set_option linter.unusedVariables false

theorem ownKKinds : ownKnob Try.prog.godebug = none := by kernel_rfl
theorem laidOutKKinds : laidOutB Try.prog = true := by kernel_rfl

theorem walkKKinds (w : World) (x0 : Block) (D0 : DB) (is0 : BlockIs w x0 D0) (x1 : Cert) (D1 : DCert) (is1 : CertIs w x1 D1) (x2 : Vote) (D2 : Vote) (is2 : VoteIs w x2 D2) (x3 : Cut) (D3 : DCut) (is3 : CutIs w x3 D3) : Calls Try.prog 3 #[Hw.agg x0.cells, Hw.agg x1.cells, Hw.agg x2.cells, Hw.agg x3.cells] w fun e w' => e = .returned (.bool true) ∧ Below w.heap.size w w' :=
  by
  have fin : ∀ {us : Array Value}, Calls Try.prog 3 us w (fun e W' => ∃ v out, e = .returned v ∧ (v = .bool true ∧ out = []) ∧ Hw.Ret [] out w W') → Calls Try.prog 3 us w (fun e w' => e = .returned (.bool true) ∧ Below w.heap.size w w') :=
    fun h => h.mono fun e w' ⟨v, out, he, ⟨hv, ho⟩, hr⟩ => ⟨by rw [he, hv], Hw.Keeps.below hr.keeps⟩
  exact fin (law_keepkinds x0 D0 x1 D1 x2 D2 x3 D3 w ⟨is0, is1, is2, is3⟩)

set_option maxRecDepth 100000 in
theorem liftedKKinds (os : Os) (started : os.Started) (H : Type) (enc : TypeId × Value → H) :
    ReturnsInHanded {} Try.checked os 3 .any (Rows.keepKindsSpec.pre6 enc Try.prog Try.f3 Rows.keepKindsRow.domain false) (Rows.keepKindsSpec.post enc Try.prog Try.f3 false true false false) := by
  refine returnsInHanded_of_change (C := Try.checked) ownKKinds started (by kernel_rfl) Try.func3
    (ChangeSpec.witness6 (enc := enc) (C := Try.checked) false ⟨#[], #[.agg (Array.replicate 32 (.int .u8 0) ++ #[.int .u64 0] ++ Array.replicate 32 (.int .u8 0) ++ #[.slice none 0 0, .slice none 0 0] ++ Array.replicate 64 (.int .u8 0)), .agg (#[.int .u64 0] ++ Array.replicate 32 (.int .u8 0) ++ #[.slice none 0 0, .slice none 0 0]), .agg (#[.int .u64 0, .int .u64 0, .int .i64 0] ++ Array.replicate 32 (.int .u8 0) ++ #[.int .u64 0] ++ Array.replicate 96 (.int .u8 0)), .agg (#[.int .u64 0] ++ Array.replicate 32 (.int .u8 0) ++ #[.slice none 0 0])], []⟩ 8 (by kernel_rfl) (by kernel_rfl) (by kernel_rfl) (by kernel_rfl)) ?_
  intro W base args ds gs before hval0 hW hcnd _
  have hval : ∀ (j : Nat) t v, Try.f3.params[j]? = some t → args[j]? = some v → Value.okWide Try.prog W .any base t v := hval0
  have hW' := hW
  obtain ⟨p, q, hA0, hV, rfl, hfz, hnd⟩ := hW
  have hA : DataW.TrodAll enc Try.prog W 0 (fun _ => true) true Try.f3.params.toList args.toList ds p := hA0
  rw [Try.params3] at hA hval
  obtain ⟨v0, vs0, d0, ds0, p0, q0, hargs, rfl, rfl, h0, r0⟩ := trodAll_cons hA
  obtain ⟨v1, vs1, d1, ds1, p1, q1, rfl, rfl, rfl, h1, r1⟩ := trodAll_cons r0
  obtain ⟨v2, vs2, d2, ds2, p2, q2, rfl, rfl, rfl, h2, r2⟩ := trodAll_cons r1
  obtain ⟨v3, vs3, d3, ds3, p3, q3, rfl, rfl, rfl, h3, r3⟩ := trodAll_cons r2
  obtain ⟨rfl, rfl, rfl⟩ := trodAll_nil r3
  obtain rfl : args = #[v0, v1, v2, v3] := by cases args; simp_all
  obtain ⟨rfl, rfl⟩ := trodVars_none hV
  have k0 := h0
  have lt0 : ∀ x ∈ p0, x.block < W.heap.size := by obtain ⟨m, hm⟩ := k0; exact DataW.trod_lt m _ _ _ hm
  have k1 := h1
  have lt1 : ∀ x ∈ p1, x.block < W.heap.size := by obtain ⟨m, hm⟩ := k1; exact DataW.trod_lt m _ _ _ hm
  have k2 := h2
  have lt2 : ∀ x ∈ p2, x.block < W.heap.size := by obtain ⟨m, hm⟩ := k2; exact DataW.trod_lt m _ _ _ hm
  have k3 := h3
  have lt3 : ∀ x ∈ p3, x.block < W.heap.size := by obtain ⟨m, hm⟩ := k3; exact DataW.trod_lt m _ _ _ hm
  obtain ⟨x0, D0, rfl, is0⟩ := Block.openW (hval 0 31 v0 rfl rfl) h0
  obtain ⟨x1, D1, rfl, is1⟩ := Cert.openW (hval 1 36 v1 rfl rfl) h1
  obtain ⟨x2, D2, rfl, is2⟩ := Vote.openW (hval 2 38 v2 rfl rfl) h2
  obtain ⟨x3, D3, rfl, is3⟩ := Cut.openW (hval 3 33 v3 rfl rfl) h3
  clear hA0 hval0
  refine (walkKKinds W x0 D0 is0 x1 D1 is1 x2 D2 is2 x3 D3 is3).mono fun e W' ⟨he, bel⟩ => ?_
  subst he
  exact ⟨_, rfl, _, _, _, [], _, [], hW', trodAll_mk1 (shut_bool Try.underlying4 _), (trodAll_cons_mk (Below.trod laidOutKKinds (by kernel_rfl) (of_decide_eq_true (by kernel_rfl)) k0 bel lt0) (trodAll_cons_mk (Below.trod laidOutKKinds (by kernel_rfl) (of_decide_eq_true (by kernel_rfl)) k1 bel lt1) (trodAll_cons_mk (Below.trod laidOutKKinds (by kernel_rfl) (of_decide_eq_true (by kernel_rfl)) k2 bel lt2) (trodAll_cons_mk (Below.trod laidOutKKinds (by kernel_rfl) (of_decide_eq_true (by kernel_rfl)) k3 bel lt3) trodAll_mk0)))), rfl, bel.frame _, fun h => by cases h⟩

theorem keepKinds_holds : Rows.KeepKindsSaid :=
  OpenClaim.holds_of_wide 3 Try.f3 rfl rfl rfl rfl rfl rfl rfl ⟨rfl, rfl, rfl, rfl, rfl⟩ rfl rfl rfl rfl rfl (by kernel_rfl) Try.func3 (by kernel_rfl)
    (of_decide_eq_true (by kernel_rfl)) (by unfold Func.isWrapper; first | (rw [if_pos (by decide +kernel)]; kernel_rfl) | (rw [if_neg (by decide +kernel)]; exact ⟨rfl, rfl⟩))
    (fun os started H enc _ => liftedKKinds os started H enc)

end Go.Proofs.Ytlgbmfokgnoocaa
end
