/- DagNames returns true at every start, and leaves all old memory as it was. Conditions: none beyond the given statement's own. -/
import Derived.WalkKit
import Derived.Orders
import Derived.Deep.LoopGhost
import Derived.IntWalk
import Derived.Laws.StructEq
import Derived.ArgAppend
import Derived.Deep.AppendSrc
import Derived.Lib.Bytealg
import Derived.Lib.BytesEntry
import Derived.Laws.IdiomStrings
import Derived.WideKeyArr2
import Derived.ProofKit
import Derived.OpenShut
import Derived.Deep.Slices
import Derived.Laws.Pointers
import Derived.Laws.Cover3
import Derived.LaidEqlPtr
import Derived.LoopN
import Derived.RangeFuncLeaves
import Derived.RangeFuncSeq
import Derived.OrdersIn
import Derived.Maps.Keyed
import Derived.Maps.RangeRun
import Derived.DeepKeys4
import Derived.Below
import Derived.Test.YtfcbgdkpagcbbaaGreatRows
import Derived.KernelRfl
import Derived.Laws.Externs
import Derived.Defers
import Derived.Laws.MathBits
import Derived.Shelf.SlSortCmp.WholeK
import Derived.Shelf.SlGeneric
import Derived.Test.YtfcbgdkpagcbbaaGreatProg
import Derived.Shelf.SlSortCmp.NoneTotal
import Derived.Deep.QuietTactic
import Derived.BigQuiet
import Derived.ScopeJumps
import Derived.DeepKeys3
import Derived.ChangeOld
import Derived.Test.YtfcbgdkpagcbbaaGreatDNaX5
set_option maxRecDepth 100000
set_option maxHeartbeats 8000000
set_option linter.unusedVariables false
set_option linter.unusedSimpArgs false
set_option linter.unusedSectionVars false
set_option linter.unnecessarySimpa false
section
namespace Go.Proofs.YtfcbgdkpagcbbaaGreat
open Go Hw

section
variable {C : Cx} {ops : Array Oper} {rest : List (Nat × Oper)} {sl : List (Nat × Value)} {hp : List Blk} {Q : St → Prop} {c d : Nat} {ty : TypeId} {pos : String} {af : Array Edge} {g : Option (Nat × Bool)}
variable {xT yT : TypeId} {x y : Operand} {a b : Int}
end
def GetR (X : PD) (n : List UInt8) (v : Value) (out : List Blk) : Prop :=
  Au X.P n = none ∧ v = .tuple #[agg Block.zero.cells, i64 6] ∧ out = []
  ∨ ∃ D B, Au X.P n = some D ∧ SameB B D ∧ v = .tuple #[agg B.cells, i64 0] ∧ ∀ W2, Lies out W2 → BlockIs W2 B D
theorem ck_small {D : DB} (h : D.check = 0) : D.ls.length ≤ 16 ∧ D.ds.length ≤ 90000 := by
  obtain ⟨h1, h2⟩ := D.head_small h
  exact ⟨by omega, by omega⟩
theorem dag_get (x : DD) (hx : x.ok) (hck : ∀ p ∈ x.P, p.2.check = 0) (p : Nat) (n : List UInt8) (h32 : n.length = 32) : Meets Tryz.prog 11 [ptr p 0, agg (Aa n)] [] (fun W => Lies (x.blks p) W) (GetR x.pl n) := by
 intro W hW
 have hlies := hW
 have hd := DagSee.lies hW
 refine Ac Tryz.func11 J 27 Tryz.ntmps11 J (G3 ?_)
 intro n3 hn3 hf3
 refine .alloc (cs := Block.zero.cells) J Block.zr J ?_
 intro n4 hn4 hf4
 refine G7 ?_
 refine .cV J J J J Body33 (dag_valid x p) (fun w h => hd.ext h) (G3 ?_)
 refine .cond_f J J (G3 ?_)
 refine .draw [(0, 0), (0, 1), (0, 2), (1, 3), (1, 4), (1, 5), (0, 6), (0, 7), (0, 8), (2, 9), (4, 10), (0, 11)] Ap zK (G3 ?_)
 refine .loadE J J J Y69.h J sP (hd.at (o := 2) J) (.lA J J J Y25.h J Sz25 Z1 (by (simp [h32]; done)) ?_)
 refine .lookFC evE ME hd.2 sP J J J J h32 (fun hg => ?_) (fun e hg => ?_)
 ·
  skip
  refine G3 ?_
  refine .alloc (cs := DEnt.zero.cells) J DEnt.zr J ?_
  intro n6 hn6 hf6
  refine G11 ?_
  refine .cond_t J J (G2 ?_)
  refine .build (cs := Block.zero.cells) J J J (fun w => by kernel_rfl) ?_
  refine G4 ?_
  -- ret
  refine G3 ?_
  refine Az (out := []) (Bj J J J Y31.h J Sz31 Z1 (by exact Block.length (by exact Block.zero_ok))) Ak ?_
  exact .inl ⟨DD.noP hg, rfl, rfl⟩
 obtain ⟨hs1, hs2⟩ := ck_small (hck _ (List.mem_map.2 ⟨_, Cs hg, rfl⟩))
 simp only at hs1 hs2
 refine G3 ?_
 refine .alloc (cs := DEnt.zero.cells) J DEnt.zr J ?_
 intro n6 hn6 hf6
 refine .sA J J J J (DEnt.isCell (by exact hx.entOk hg)) Sz79 (DEnt.length (by exact hx.entOk hg)) Z0 (DEnt.length (by exact DEnt.zero_ok)) zU ?_
 refine G10 ?_
 refine .cond_f J J (G5 ?_)
 refine .lN (Block.cells _) J J J Y31.h J Sz31 Z0 (DEnt.row_fBlock (by exact hx.entOk hg)) (DEnt.rl_fBlock (by exact hx.entOk hg)) ?_
 refine .call4 J J J J J Body37 (dag_clone e.1.fBlock e.2 (hx.ent _ (Cs hg)).2.1.1 oM oM) (fun w h => (hx.ent _ (Cs hg)).2.1.2 w ((lies_keep hlies h).sub (x.mcb p))) ?_
 rintro v26 out26 ⟨B26, h26, rfl, hb26⟩
 refine .sA J J J J (Block.isCell (by exact h26.ok)) Sz31 (Block.length (by exact h26.ok)) mR (Block.length (by exact Block.zero_ok)) uU ?_
 refine G3 ?_
 -- ret
 refine G2 ?_
 refine Az (out := (out26 ++ [])) (Bj J J J Y31.h J Sz31 mR (by exact Block.length (by exact h26.ok))) (Af sG Ak) ?_
 exact .inr ⟨e.2, B26, (DD.atP hg).1, h26, rfl, fun W2 hl => hb26 W2 (by simpa using hl)⟩
theorem row_one {q : Nat} {w : World} {a : List UInt8} (ha : a.length = 32) (h : Sees w q 0 (Aa a)) : RowsAt w ⟨some ⟨q, 0, none⟩, 1, 1⟩ 32 [a] := ⟨rfl, fun l hl => by rw [List.mem_singleton.1 hl]; exact ha, Nat.le_refl 1, SeesP.of (by simpa using h), (by show 1 ≤ maxLen; decide), fun e => by cases e⟩
end Go.Proofs.YtfcbgdkpagcbbaaGreat
end

section
namespace Go.Proofs.YtfcbgdkpagcbbaaGreat
open Go Hw

def CapS (W : World) (c : Nat) (s : Sl) : Prop := W.cell? ⟨c, 0, none⟩ = some s.v
theorem CapS.keep {C : Cx} {hp : List Blk} {w : World} {c : Nat} {s : Sl} (h : CapS C.W0 c s) (hc : c < C.W0.heap.size) (hl : c ∉ C.lent) (hh : HRep C hp w) : w.cell? ⟨c, 0, none⟩ = some s.v := by
  have e := hh.keeps.block c hc hl
  unfold CapS at h
  unfold World.cell? at h ⊢
  rw [e]; exact h
theorem CapS.of_own {C : Cx} {hp : List Blk} {w : World} {c : Nat} {s : Sl} {T : TypeId} (hh : HRep C hp w) (hc : (⟨c, [s.v], T, 1⟩ : Blk) ∈ hp) : CapS w c s ∧ c < w.heap.size :=
  ⟨(hh.cells _ hc).cell (o := 0) rfl, (hh.cells _ hc).lt⟩
theorem cell_lt2 {w : World} {b o : Nat} {v : Value} (h : w.cell? ⟨b, o, none⟩ = some v) : b < w.heap.size := by
  refine Nat.lt_of_not_le fun hle => ?_
  unfold World.cell? at h
  rw [Array.getElem?_eq_none hle] at h
  cases h
theorem getD_mem2 {L : List (List UInt8)} {k : Nat} (h : k < L.length) : L.getD k [] ∈ L := by
  rw [List.getD_eq_getElem?_getD, List.getElem?_eq_getElem h]; exact List.getElem_mem h

theorem mk_vals (s : Sl) : Meets Tryz.prog 46 [s.v] [] (fun _ => True) (fun v out => ∃ c, v = .func (.func 69) #[] #[ptr c 0] ∧ out = [⟨c, [s.v], 26, 1⟩]) := by
 intro W hW
 refine Ac Tryz.func46 J 4 Tryz.ntmps46 J (G2 ?_)
 refine .box1 J J J ?_
 intro n1 hn1 hf1
 refine G9 ?_
 -- ret
 refine G2 ?_
 refine Az (out := (⟨n1, [s.v], 26, 1⟩ :: [])) (Al J J) (Ab rM Ak) ?_
 exact ⟨n1, rfl, rfl⟩

theorem vals_iter {σ : Type} (X : σ → List Blk) (vis : σ → List (List UInt8)) (s0 : σ) (names : List Nat) (l c : Nat) (s : Sl) (ks : List (List UInt8)) (w1 : World) (h32 : ∀ k ∈ ks, k.length = 32) (hn : s.n = ks.length) (hbig : s.n ≤ 1000000) (hv0 : vis s0 = []) (hbn : ∀ b o, s.p = some ⟨b, o, none⟩ → b ∉ names) (hcn : c ∉ names) : Meets Tryz.prog 69 [.func (.yield l) #[] #[], ptr c 0] names (fun W => W = w1 ∧ HRep ⟨Tryz.prog, w1, 0, names, [], []⟩ (X s0) W ∧ SeesP W s.p (A1 ks) ∧ CapS W c s ∧ c < W.heap.size ∧ ∀ s k, k.length = 32 → (vis s).length < ks.length → ∀ W2, HRep ⟨Tryz.prog, w1, 0, names, [], []⟩ (X s) W2 → YieldAt Fence.wide 0 Tryz.prog l #[agg (Aa k)] W2 fun e W3 => e = .returned (.bool true) ∧ ∃ s', vis s' = vis s ++ [k] ∧ Ret ((X s).map (·.n)) (X s') W2 W3) (fun v out => v = .tuple #[] ∧ ∃ s, (vis s).Perm ks ∧ out = X s) := by
  intro W hW
  obtain ⟨rfl, hW⟩ := hW
  obtain ⟨hH, hsee, hcap, hclt, hY⟩ := hW
  have hW := And.intro hH trivial
  have hfl := A7 h32
  refine calls_of (hp0 := X s0) Tryz.func69 J 16 Tryz.ntmps69 J (HRep.reN hW.1) (G2 ?_)
  refine .loadAny J J J (v := s.v) (fun w h => ?_) ?_
  · have hcc := hcap.keep (C := ⟨Tryz.prog, W, _, names, [], []⟩) hclt hcn h
    simp [loadVar, run_isAgg_plain Y26.h rfl, load, Sem.run, hcc]
  refine G5 ?_
  refine .loop (ι := Nat × σ) (fun p => ⟨[(0, .func (.yield l) #[] #[]), (1, ptr c 0), (5, s.v), (6, i64 (s.n : Int)), (7, i64 (p.1 : Int))], (X p.2 ++ [])⟩) (fun p => p.1 ≤ ks.length ∧ vis p.2 = ks.take p.1) (fun p => ks.length - p.1) ((0, s0)) ?_ ?_ ?_
  · exact ⟨Nat.zero_le _, hv0⟩
  · exact Ao (wk1 rfl (wk1 rfl (wk1 rfl (wk1 rfl (wk1 rfl wk0))))) (Af (by repeat (exact sg_end)) Ak)
  rintro ⟨k, s2⟩ ⟨hk, hvs⟩
  simp only at hk hvs ⊢
  refine G6 ?_
  refine .condP J (fun hc0 => ?_) (fun hc0 => ?_)
  ·
    have hk3 : k < ks.length := by omega
    obtain ⟨b0, o0, hp0, hs0⟩ := hsee.at (by rw [hfl]; omega)
    obtain ⟨kk, hkk⟩ : ∃ kk, kk = ks.getD k [] := ⟨_, rfl⟩
    have h32kk : kk.length = 32 := h32 _ (by rw [hkk]; exact getD_mem2 hk3)
    have hvl : (vis s2).length < ks.length := by rw [hvs, List.length_take]; omega
    refine G6 ?_
    refine .idxSlP 32 J J J hp0 J Y26.h Sz25 k J oM (.loadSN (n := 32) (Aa kk) J J J Y25.h J Sz25 (by rw [Aa, List.length_map]; exact h32kk) (fun w h => by rw [hkk]; exact sees_row h32 (fun j v hj => h.keeps.cell (p := ⟨b0, o0 + j, none⟩) (hbn b0 o0 hp0) (hs0 j v hj)) hk3) ?_)
    refine .alloc (cs := (Aa (List.replicate 32 0))) J Zr25 J ?_
    intro n4 hn4 hf4
    refine .sA J J J J zE Sz25 (by (simp [h32kk]; done)) Z0 sP zU ?_
    refine G3 ?_
    refine .regionY 2 J zK (G1 ?_)
    refine .lA J J J Y25.h J Sz25 Z0 (by (simp [h32kk]; done)) ?_
    refine .nil (yopR (S := fun s' => vis s' = vis s2 ++ [kk]) (hpF := X) J J J sG (fun w h => hY s2 kk h32kk hvl w h) ?_)
    intro s9 hs9
    refine G3 ?_
    refine .cond_f J J (G8 ?_)
    exact ⟨(k + 1, s9), ⟨by simp only; omega, by simp only; rw [hs9, hvs, hkk, take_one hk3 rfl]⟩, by simp only; omega, Ao (wk1 rfl (wk1 rfl (wk1 rfl (wk1 rfl (wk1 rfl wk0))))) (Af sG Ak)⟩
  have hke : k = ks.length := by omega
  refine G5 ?_
  refine Az (out := (X s2 ++ [])) (res_none J) (Af sG Ak) ?_
  rw [hke, List.take_length] at hvs
  exact ⟨rfl, s2, by rw [hvs], List.append_nil _⟩
theorem val_seq {s : Sl} {ks : List (List UInt8)} {c : Nat} {W : World} (h32 : ∀ k ∈ ks, k.length = 32) (hn : s.n = ks.length) (hbig : s.n ≤ 1000000) (hs : SeesP W s.p (A1 ks)) (hc : CapS W c s) (hcl : c < W.heap.size) (h0 : 0 < ks.length) : KeySeq Tryz.prog 69 #[ptr c 0] ks W := by
  intro σ X vis s0 names l w1 hk hn2 hv hH hY
  have hcn : c ∉ names := fun h => by have := hn2 c h; omega
  have hc1 : CapS w1 c s := by
    unfold CapS World.cell? at hc ⊢
    rw [hk.block c hcl sP]; exact hc
  have hlt : ∀ b o, s.p = some ⟨b, o, none⟩ → b < W.heap.size := fun b o e => by
    obtain ⟨b0, o0, e0, h1⟩ := hs.at (by rw [A7 h32]; omega)
    rw [e] at e0
    cases e0
    have hl : 0 < (A1 ks).length := by rw [A7 h32]; omega
    exact cell_lt2 (h1 0 _ (List.getElem?_eq_getElem hl))
  have hs1 : SeesP w1 s.p (A1 ks) := fun j v hj => by
    obtain ⟨b, o, e, h1⟩ := hs j v hj
    refine ⟨b, o, e, ?_⟩
    unfold World.cell? at h1 ⊢
    rw [hk.block b (hlt b o e) sP]; exact h1
  have hcl1 : c < w1.heap.size := Nat.lt_of_lt_of_le hcl hk.size
  refine callsIn_wide.2 ((vals_iter X vis s0 names l c s ks w1 h32 hn hbig hv (fun b o e h => by have := hn2 b h; have := hlt b o e; omega) hcn w1 ⟨rfl, hH, hs1, hc1, hcl1, fun s k h32 hvl W2 h => hY s k h32 hvl W2 h⟩).mono fun e W' ⟨v, out, he, ⟨_, s, hp, ho⟩, hr⟩ => ⟨⟨v, he⟩, s, hp, ?_⟩)
  subst ho
  exact ⟨hr.cells, hr.nodup, hr.own, hr.keeps, fun _ h => (by cases h), fun _ _ _ h => (by cases h)⟩


theorem insF1 (p : Option Addr) (c : Nat) (f : Value)  : Meets Tryz.prog 98 [.slice p 1 c, i64 0, i64 1, f] [] (fun _ => True) (fun v out => v = .tuple #[] ∧ out = []) := by
 intro W hW
 refine Ac Tryz.func98 J 53 Tryz.ntmps98 J (G8 ?_)
 refine .loop (ι := Unit) (fun u => ⟨[(2, i64 1), (8, i64 1)], []⟩) (fun u => True) (fun u => 0) (()) ?_ ?_ ?_
 · trivial
 · exact Ad (wk1 rfl (wk1 rfl wk0)) wh0 nD
 rintro u _
 refine G5 ?_
 refine .lss J J J J (decide_eq_false dE) (G2 ?_)
 refine .cond_f J J (G5 ?_)
 refine ⟨_, [], res_none J, sP, sP, ?_, rfl⟩
 rfl
theorem pdqF1 (p : Option Addr) (c : Nat) (l : Int) (f : Value)  : Meets Tryz.prog 71 [.slice p 1 c, i64 0, i64 1, i64 l, f] [] (fun _ => True) (fun v out => v = .tuple #[] ∧ out = []) := by
 intro W hW
 refine Ac Tryz.func71 J 148 Tryz.ntmps71 J (G11 ?_)
 refine .loop (ι := Unit) (fun u => ⟨[(0, .slice p 1 c), (1, i64 0), (2, i64 1), (4, f)], []⟩) (fun u => True) (fun u => 0) (()) ?_ ?_ ?_
 · trivial
 · exact Ad (wk1 rfl (wk1 rfl (wk1 rfl (wk1 rfl wk0)))) wh0 nD
 rintro u _
 refine G13 ?_
 refine .leq J J J J (decide_eq_true dE) (G2 ?_)
 refine .cond_t J J (G6 ?_)
 refine .cV J J J J Body98 (insF1 p c f) tV (G2 ?_)
 -- ret
 refine G6 ?_
 refine ⟨_, [], res_none J, sP, sP, ?_, rfl⟩
 rfl
theorem bits_len64_1  : Meets Tryz.prog 107 [u64 1] [] (fun _ => True) (fun v out => v = i64 1 ∧ out = []) := by
 intro W hW
 refine Ac Tryz.func107 J 25 Tryz.ntmps107 J (G9 ?_)
 refine .geq J J J J (decide_eq_false dE) (G2 ?_)
 refine .cond_f J J (G6 ?_)
 refine .geq J J J J (decide_eq_false dE) (G2 ?_)
 refine .cond_f J J (G6 ?_)
 refine .geq J J J J (decide_eq_false dE) (G2 ?_)
 refine .cond_f J J (G7 ?_)
 refine .idxStr (s := len8S) J J J J Tryz.underlying9 _ J (len8_get 1) (G1 ?_)
 rw [show (UInt8.ofNat (bLen (1 : UInt8).toNat)) = (1 : UInt8) from rfl, show (1 : UInt8).toNat = 1 from rfl]
 refine G4 ?_
 -- ret
 refine G2 ?_
 refine ⟨_, [], Al J J, sP, sP, ?_, rfl⟩
 rfl

theorem bits_len_1  : Meets Tryz.prog 72 [u64 1] [] (fun _ => True) (fun v out => v = i64 1 ∧ out = []) := by
 intro W hW
 refine Ac Tryz.func72 J 8 Tryz.ntmps72 J (G6 ?_)
 refine .cond_f J (rfl) (G5 ?_)
 refine .cV J J J J Body107 (bits_len64_1) tV (G3 ?_)
 -- ret
 refine G2 ?_
 refine ⟨_, [], Al J J, sP, sP, ?_, rfl⟩
 rfl

theorem sortF1 (p : Option Addr) (c : Nat) (f : Value)  : Meets Tryz.prog 48 [.slice p 1 c, f] [] (fun _ => True) (fun v out => v = .tuple #[] ∧ out = []) := by
 intro W hW
 refine Ac Tryz.func48 J 14 Tryz.ntmps48 J (G11 ?_)
 refine .conv J J J Y3.h Y112.h (show Value.int .u64 (IntKind.u64.wrap 1) = u64 1 from rfl) (.cV J J J J Body72 (bits_len_1) tV (G1 ?_))
 refine .cV J J J J Body71 (pdqF1 p c 1 f) tV (G2 ?_)
 refine ⟨_, [], res_none J, sP, sP, ?_, rfl⟩
 rfl

def trT (n : Nat) : Nat → Nat
  | 0 => 0
  | i + 1 => trT n i + (n - 1 - i)
theorem trT_le (n : Nat) : ∀ i j, i ≤ j → trT n i ≤ trT n j
  | i, 0, h => by obtain rfl : i = 0 := by omega
                  exact Nat.le_refl _
  | i, j + 1, h => by
    rcases Nat.lt_or_eq_of_le h with h1 | h1
    · have := trT_le n i j oM; rw [trT]; omega
    · rw [h1]; exact Nat.le_refl _
def forkN (l : List ((List UInt8 × UInt64) × RV)) : Nat := (l.map fun p => trT p.2.ks.length p.2.ks.length).sum
theorem forkN_perm {a b : List ((List UInt8 × UInt64) × RV)} (h : a.Perm b) : forkN a = forkN b := (h.map _).sum_nat
theorem forkN_app (a b : List ((List UInt8 × UInt64) × RV)) : forkN (a ++ b) = forkN a + forkN b := by unfold forkN; rw [List.map_append, List.sum_append]
theorem forkN_step {done todo all : List ((List UInt8 × UInt64) × RV)} {j : Nat} {q : (List UInt8 × UInt64) × RV} (h : (done ++ todo).Perm all) (hj : todo[j]? = some q) : forkN (done ++ [q]) = forkN done + trT q.2.ks.length q.2.ks.length ∧ forkN done + trT q.2.ks.length q.2.ks.length ≤ forkN all := by
  have e1 : forkN (done ++ [q]) = forkN done + trT q.2.ks.length q.2.ks.length := by unfold forkN; simp
  refine ⟨e1, ?_⟩
  have h2 := forkN_perm (perm_step h hj)
  rw [← h2, ← e1, forkN_app (done ++ [q])]
  exact Nat.le_add_right _ _
theorem DD.mpl {x : DD} {p : Nat} {b : Blk} (h : b ∈ rbl x.pls) : b ∈ x.blks p := by
  unfold DD.blks
  exact List.mem_cons_of_mem _ (List.mem_cons_of_mem _ (List.mem_cons_of_mem _ (List.mem_cons_of_mem _ (List.mem_cons_of_mem _ (List.mem_cons_of_mem _ (List.mem_append_right _ (List.mem_append_right _ (List.mem_append_left _ h))))))))
theorem row_open2 {s : Sl} {bl : List Blk} {L : List (List UInt8)} (h : Hw.Acc s bl (A1 L) 25 L.length 32) (h0 : 0 < L.length) : ∃ q c, s = ⟨some ⟨q, 0, none⟩, L.length, c⟩ ∧ L.length ≤ c ∧ ∀ w, Lies bl w → Sees w q 0 (A1 L) := by
  rcases h with ⟨_, _, _, e⟩ | ⟨q, c, e, h1, h2, h3⟩
  · omega
  · refine ⟨q, c, e, h1, fun w hw => ?_⟩
    have := (Acc.some (q := q) (E := 25) h1 h2).see (w := w) (by rw [← h3]; exact hw)
    intro j v hj
    obtain ⟨b, o, e2, e3⟩ := this j v hj
    cases e2
    exact e3
theorem fork_run {A B : List UInt8} (ha : A.length = 32) (hb : B.length = 32) (w : World) : (Instr.build 60 #[(0, agg (Aa A)), (1, agg (Aa B))]).run Tryz.prog w = .ok (agg (Aa A ++ Aa B)) w :=
  run_build2 (a := agg (Aa A)) (b := agg (Aa B)) (ca := Aa A) (cb := Aa B) Zr60 Tryz.underlying60 rfl rfl Sz25 Sz25 (by simp [Aa]) rfl rfl (by rw [Aa, List.length_map]; exact ha) (by rw [Aa, List.length_map]; exact hb) w

theorem dag_forks (x : DD) (hx : x.ok) (p : Nat) (hne : ∀ q ∈ x.pls, 0 < q.2.ks.length) (htot : forkN x.pls = 1) : Meets Tryz.prog 18 [ptr p 0] [] (fun W => Lies (x.blks p) W) (fun v out => ∃ s : Sl, v = s.v ∧ s.n = 1) := by
 intro W hW
 have hlies := hW
 have hd := DagSee.lies hW
 have hbig := hx.big
 obtain ⟨es, clock, hb, F⟩ := (hW _ (x.mP p)).map
 refine Ac Tryz.func18 J 52 Tryz.ntmps18 J (G9 ?_)
 refine .cV J J J J Body33 (dag_valid x p) (fun w h => hd.ext h) (G3 ?_)
 refine .cond_f J J (G13 ?_)
 refine .loadE J J J Tryz.underlying72 J sP (hd.at (o := 5) J) (.rangeMapC Tryz.underlying72 hb sP J J J J ?_)
 intro q17
 refine G3 ?_
 refine .loop (ι := Array Nat × List ((List UInt8 × UInt64) × RV) × List ((List UInt8 × UInt64) × RV) × Sl × List Blk × List Value) (fun q => ⟨[(0, ptr p 0), (17, ptr q17 0), (3, q.2.2.2.1.v)], (iblk q17 x.bP clock q.1 :: (q.2.2.2.2.1 ++ []))⟩) (fun q => ItOk (placeT 32 evR) es q.1 q.2.2.1 ∧ (q.2.1 ++ q.2.2.1).Perm x.pls ∧ Hw.Acc q.2.2.2.1 q.2.2.2.2.1 q.2.2.2.2.2 60 (forkN q.2.1) 64) (fun q => q.2.2.1.length) ((#[], [], x.pls, Sl.nil, [], [])) ?_ ?_ ?_
 · exact ⟨ItOk.start F, List.Perm.refl _, Acc.none⟩
 · exact Ao (wk1 rfl (wk1 rfl (wk1 rfl wk0))) (Ab rM (Af (by repeat (exact sg_end)) Ak))
 rintro ⟨seen, done, todo, sF, blF, cF⟩ ⟨hi, hpm, hac⟩
 simp only at hi hpm hac ⊢
 refine G2 ?_
 refine .nextMapC F hi hb sP J J J J rM ?_ ?_
 ·
  intro htd
  have hd1 : forkN done = 1 := by rw [← htot]; exact forkN_perm (by rw [htd, List.append_nil] at hpm; exact hpm)
  have hnF := hac.num
  obtain ⟨pF, nF, cF2⟩ := sF
  obtain rfl : nF = 1 := hnF.trans hd1
  refine G4 ?_
  refine .cond_f J J (G8 ?_)
  refine .cV J J J J Body48 (sortF1 pF cF2 (.func (.func 49) #[] #[])) tV (G8 ?_)
  -- ret
  refine G2 ?_
  refine Az (out := (blF ++ [])) (Al J J) (Af sG Ak) ?_
  exact ⟨⟨pF, 1, cF2⟩, rfl, rfl⟩
 intro j k0 v seen2 hj hit hat
 have hmem : (k0, v) ∈ x.pls := hpm.mem_iff.1 (List.mem_append_right _ (List.mem_of_getElem? hj))
 have hvo := hx.pls _ hmem
 have hv0 := hne _ hmem
 simp only at hvo hv0
 have hvb : ∀ b ∈ v.bl, b ∈ x.blks p := fun b hb => by exact DD.mpl (List.mem_flatten.2 ⟨v.bl, List.mem_map.2 ⟨(k0, v), hmem, rfl⟩, hb⟩)
 have hfs := forkN_step hpm hj
 simp only at hfs
 refine G4 ?_
 refine .cond_t J J (G5 ?_)
 refine .entryMapC F hat hb sP J J J Z0 ?_
 refine G7 ?_
 refine .call4 J J J J J Body46 (mk_vals v.s) tV ?_
 rintro v23 out23 ⟨c23, rfl, rfl⟩
 refine .call4 J J J J J Body45 (sorted_keys 69 #[ptr c23 0] v.ks Body69 oM hvo.2.1.r32) (fun w h => val_seq hvo.2.1.r32 hvo.2.1.acc.num (by rw [hvo.2.1.acc.num]; omega) (hvo.2.1.acc.see ((lies_keep hlies h).sub hvb)) (CapS.of_own h Z0).1 (CapS.of_own h Z0).2 hv0) ?_
 rintro v24 out24 ⟨s24, ns, hnp, hns, rfl, hac24⟩
 have hnl := hnp.length_eq
 have hn24 := hac24.num
 have hn32 : ∀ l ∈ ns, l.length = 32 := fun l hl => hvo.2.1.r32 l (hnp.mem_iff.1 hl)
 obtain ⟨q24, c24, hs24, hc24, see24⟩ := row_open2 hac24 oM
 subst hs24
 refine G11 ?_
 refine .loop (ι := Nat × Sl × List Blk × List Value) (fun r => ⟨[(0, ptr p 0), (17, ptr q17 0), (3, r.2.1.v), (5, .slice (some ⟨q24, 0, none⟩) ns.length c24), (25, .slice (some ⟨q24, 0, none⟩) ns.length c24), (26, i64 (ns.length : Int)), (27, i64 (r.1 : Int))], (iblk q17 x.bP clock seen2 :: (out24 ++ (r.2.2.1 ++ [])))⟩) (fun r => r.1 ≤ ns.length ∧ Hw.Acc r.2.1 r.2.2.1 r.2.2.2 60 (forkN done + trT ns.length r.1) 64) (fun r => ns.length - r.1) ((0, sF, blF, cF)) ?_ ?_ ?_
 · exact ⟨Nat.zero_le _, hac⟩
 · exact Ao (wk1 rfl (wk1 rfl (wk1 rfl (wk1 rfl (wk1 rfl (wk1 rfl (wk1 rfl wk0))))))) (Ab rM (Af sG (Af sG Ak)))
 rintro ⟨i, sGa, blG, cG⟩ ⟨hi1, hacG⟩
 simp only at hi1 hacG ⊢
 refine G6 ?_
 refine .condP J (fun hc2 => ?_) (fun hc2 => ?_)
 ·
  have hi3 : i < ns.length := by omega
  obtain ⟨A, hA⟩ : ∃ A, A = ns.getD i [] := ⟨_, rfl⟩
  have h32a : A.length = 32 := hn32 _ (by rw [hA]; exact getD_mem2 hi3)
  have hl32a : (Aa A).length = 32 := by rw [Aa, List.length_map]; exact h32a
  refine G7 ?_
  refine .idxSlP 32 J J J J J Y26.h Sz25 i J oM (.loadSN (n := 32) (Aa A) J J J Y25.h J Sz25 (by rw [Aa, List.length_map]; exact h32a) (fun w h => by rw [hA]; exact sees_row hn32 (see24 w (Lies.of h (by repeat (first | exact Bf | refine Bp ?_)))) hi3) ?_)
  refine .alloc (cs := (Aa (List.replicate 32 0))) J Zr25 J ?_
  intro n7 hn7 hf7
  refine G1 ?_
  refine .sA J J J J zE Sz25 zA Z0 sP zU ?_
  refine G7 ?_
  refine .sliceLoN (i + 1) J J J J oM oM hc24 Y26.h Sz25 ?_
  obtain ⟨OO, hOO⟩ : ∃ o, o = (if c24 = i + 1 then 0 else 0 + (i + 1) * 32) := ⟨_, rfl⟩
  rw [← hOO]
  have seeD : ∀ w, Lies out24 w → Sees w q24 OO (A1 (ns.drop (i + 1))) := fun w hw => by rw [hOO]; exact sees_rows_drop hn32 rfl hc24 (see24 w hw)
  refine G5 ?_
  refine .loop (ι := Nat × Sl × List Blk × List Value) (fun y => ⟨[(0, ptr p 0), (17, ptr q17 0), (3, y.2.1.v), (5, .slice (some ⟨q24, 0, none⟩) ns.length c24), (6, i64 (i : Int)), (7, ptr n7 0), (25, .slice (some ⟨q24, 0, none⟩) ns.length c24), (26, i64 (ns.length : Int)), (27, i64 (i : Int)), (35, .slice (some ⟨q24, OO, none⟩) (ns.length - (i + 1)) (c24 - (i + 1))), (36, i64 ((ns.length - (i + 1) : Nat) : Int)), (37, i64 (y.1 : Int))], (iblk q17 x.bP clock seen2 :: (⟨n7, Aa A, 25, 32⟩ :: (out24 ++ (y.2.2.1 ++ []))))⟩) (fun y => y.1 ≤ ns.length - (i + 1) ∧ Hw.Acc y.2.1 y.2.2.1 y.2.2.2 60 (forkN done + trT ns.length i + y.1) 64) (fun y => ns.length - (i + 1) - y.1) ((0, sGa, blG, cG)) ?_ ?_ ?_
  · exact ⟨Nat.zero_le _, hacG⟩
  · exact Ao (wk1 rfl (wk1 rfl (wk1 rfl (wk1 rfl (wk1 rfl (wk1 rfl (wk1 rfl (wk1 rfl (wk1 rfl (wk1 rfl (wk1 rfl (wk1 rfl wk0)))))))))))) (Ab rM (Ab rM (Af sG (Af sG Ak))))
  rintro ⟨j2, sHa, blH, cH⟩ ⟨hj2, hacH⟩
  simp only at hj2 hacH ⊢
  refine G6 ?_
  refine .condP J (fun hc3 => ?_) (fun hc3 => ?_)
  ·
   have hj3 : j2 < (ns.drop (i + 1)).length := by rw [List.length_drop]; omega
   obtain ⟨B, hB⟩ : ∃ B, B = (ns.drop (i + 1)).getD j2 [] := ⟨_, rfl⟩
   have hdr : ∀ l ∈ ns.drop (i + 1), l.length = 32 := fun l hl => hn32 l (List.mem_of_mem_drop hl)
   have h32b : B.length = 32 := hdr _ (by rw [hB]; exact getD_mem2 hj3)
   have hl32b : (Aa B).length = 32 := by rw [Aa, List.length_map]; exact h32b
   have hT1 := trT_le ns.length (i + 1) ns.length oM
   rw [trT] at hT1
   have hT2 := hfs.2
   rw [htot, ← hnl] at hT2
   refine G6 ?_
   refine .idxSlP 32 J J J J J Y26.h Sz25 j2 J oM (.loadSN (n := 32) (Aa B) J J J Y25.h J Sz25 (by rw [Aa, List.length_map]; exact h32b) (fun w h => by rw [hB]; exact sees_row hdr (seeD w (Lies.of h (by repeat (first | exact Bf | refine Bp ?_)))) hj3) ?_)
   refine .alloc (cs := (Aa (List.replicate 32 0))) J Zr25 J ?_
   intro n9 hn9 hf9
   refine .sA J J J J zE Sz25 zA Z0 sP zU ?_
   refine G4 ?_
   refine .lA J J J Y25.h J Sz25 Z2 zA ?_
   refine .lA J J J Y25.h J Sz25 Z0 zA ?_
   refine .build (cs := Aa A ++ Aa B) J J J (fun w => fork_run h32a h32b w) (.mkRow (z := agg (Aa (List.replicate 32 0) ++ Aa (List.replicate 32 0))) [agg (Aa A ++ Aa B)] (Aa A ++ Aa B) J J J Y44.h Sz60 Zr60 J J (by intro v hv; rw [List.mem_singleton.1 hv]; simp [Value.cells, Aa, h32a, h32b]) dE (by simp [Value.cells, agg]) ?_)
   intro q45
   refine .appendAcc (z := agg (Aa (List.replicate 32 0) ++ Aa (List.replicate 32 0))) (by' := 64) (Aa A ++ Aa B) J J J J J Y44.h Y44.h Sz60 Zr60 (by unfold By; kernel_rfl) J hacH sG (fun w h => SeesP.of (Ar h Z0)) (fun e => by cases e) (fun u hu => by rcases List.mem_append.1 hu with h | h; exact Ax _ u h; exact Ax _ u h) oM oM (by simp [Aa, h32a, h32b]) ?_
   intro s46 bl46 hac46
   refine G9 ?_
   exact ⟨(j2 + 1, s46, bl46, cH ++ (Aa A ++ Aa B)), ⟨by simp only; omega, hac46⟩, by simp only; omega, Ao (wk1 rfl (wk1 rfl (wk1 rfl (wk1 rfl (wk1 rfl (wk1 rfl (wk1 rfl (wk1 rfl (wk1 rfl (wk1 rfl (wk1 rfl (wk1 rfl wk0)))))))))))) (Ab rM (Ab rM (Af sG (Af sG Ak))))⟩
  have hje : j2 = ns.length - (i + 1) := by omega
  refine G11 ?_
  exact ⟨(i + 1, sHa, blH, cH), ⟨by simp only; omega, by simp only; rw [show forkN done + trT ns.length (i + 1) = forkN done + trT ns.length i + j2 by rw [trT]; omega]; exact hacH⟩, by simp only; omega, Ao (wk1 rfl (wk1 rfl (wk1 rfl (wk1 rfl (wk1 rfl (wk1 rfl (wk1 rfl wk0))))))) (Ab rM (Af sG (Af sG Ak)))⟩
 have hie : i = ns.length := by omega
 rw [hie] at hacG
 refine G6 ?_
 exact ⟨(seen2, done ++ [(k0, v)], todo.eraseIdx j, sGa, blG, cG), ⟨hit, perm_step hpm hj, by simp only; rw [hfs.1, ← hnl]; exact hacG⟩, by have h8 := (List.getElem?_eq_some_iff.1 hj).1; simp only [List.length_eraseIdx, h8, if_true]; omega, Ao (wk1 rfl (wk1 rfl (wk1 rfl wk0))) (Ab rM (Af (by repeat (first | exact Cm | apply sg_seg)) Ak))⟩

def or2 (x y : Int) : Int := if x ≠ 0 then x else y

theorem cmp_or2 (q : Nat) (x y : Int) : Meets Tryz.prog 50 [.slice (some ⟨q, 0, none⟩) 2 2] [] (fun W => Sees W q 0 [i64 x, i64 y]) (fun v out => v = i64 (or2 x y) ∧ out = []) := by
  intro W hW
  refine Ac Tryz.func50 J 18 Tryz.ntmps50 J (G19 ?_)
  refine .loop (ι := Nat) (fun k => ⟨[(0, .slice (some ⟨q, 0, none⟩) 2 2), (3, i64 0), (6, .slice (some ⟨q, 0, none⟩) 2 2), (7, i64 2), (8, i64 (k : Int))], []⟩) (fun k => k ≤ 2 ∧ (0 < k → x = 0) ∧ (1 < k → y = 0)) (fun k => 2 - k) (0) ?_ ?_ ?_
  · exact ⟨by decide, fun h => by omega, fun h => by omega⟩
  · exact Ad (wk1 rfl (wk1 rfl (wk1 rfl (wk1 rfl (wk1 rfl wk0))))) wh0 nD
  rintro k ⟨hk, hx, hy⟩
  refine G6 ?_
  refine .condP J (fun hc0 => ?_) (fun hc0 => ?_)
  ·
    have hk2 : k < 2 := by omega
    obtain ⟨z, hz⟩ : ∃ z, [x, y][k]? = some z := ⟨_, List.getElem?_eq_getElem (by simpa using hk2)⟩
    have hzz : z = [x, y].getD k 0 := by rw [List.getD_eq_getElem?_getD, hz]; rfl
    have hzc : [i64 x, i64 y][k]? = some (i64 z) := by rcases (show k = 0 ∨ k = 1 by omega) with rfl | rfl <;> (simp at hz; simp [hz])
    refine G6 ?_
    refine .idxSlP 1 J J J J J Y113.h Sz3 k J oM (.loadE J J J Y3.h J sP ((by have := hW k _ hzc; simpa using this)) ?_)
    refine G10 ?_
    refine .condNP J (fun hc1 => ?_) (fun hc1 => ?_)
    ·
      refine G6 ?_
      -- ret
      refine G7 ?_
      refine ⟨_, [], Al J J, sP, sP, ?_, rfl⟩
      first
        | (rcases (show k = 0 ∨ k = 1 by omega) with rfl | rfl
           · obtain rfl : z = x := by rw [hzz]; rfl
             rw [or2, if_pos oM]
           · obtain rfl : z = y := by rw [hzz]; rfl
             rw [or2, if_neg (by have := hx oM; omega)])
        | rw [or2, hx oM, hy oM]; rfl
    refine G8 ?_
    refine ⟨k + 1, ⟨by omega, fun _ => ?_, fun _ => ?_⟩, by omega, Ad (wk1 J (wk1 J (wk1 J (wk1 J (wk1 J wk0))))) wh0 nD⟩
    · rcases (show k = 0 ∨ k = 1 by omega) with rfl | rfl
      · rw [hzz] at hc1; simpa using hc1
      · exact hx oM
    · obtain rfl : k = 1 := by omega
      rw [hzz] at hc1; simpa using hc1
  have hke : k = 2 := by omega
  refine G11 ?_
  -- ret
  refine G2 ?_
  refine ⟨_, [], Al J J, sP, sP, ?_, rfl⟩
  first
    | (rcases (show k = 0 ∨ k = 1 by omega) with rfl | rfl
       · obtain rfl : z = x := by rw [hzz]; rfl
         rw [or2, if_pos oM]
       · obtain rfl : z = y := by rw [hzz]; rfl
         rw [or2, if_neg (by have := hx oM; omega)])
    | rw [or2, hx oM, hy oM]; rfl
theorem of_cmp (x : DD) (hx : x.ok) (p c : Nat) (a b : List UInt8) (ha : a.length = 32) (hb : b.length = 32) (ea eb : EV) (hga : Au x.ent a = some ea) (hgb : Au x.ent b = some eb) : Meets Tryz.prog 52 [agg (Aa a), agg (Aa b), ptr c 0] [] (fun W => DagSee x p W ∧ W.cell? ⟨c, 0, none⟩ = some (ptr p 0)) (fun v out => v = i64 (or2 (cmp1 ea.1.fBlock.fSeq eb.1.fBlock.fSeq) (cmpB a b)) ∧ out = []) := by
 intro W hW
 refine Ac Tryz.func52 J 28 Tryz.ntmps52 J (G3 ?_)
 intro n3 hn3 hf3
 refine G1 ?_
 intro n4 hn4 hf4
 refine G4 ?_
 refine .draw [(1, 0), (0, 1), (0, 2), (1, 3), (1, 4), (1, 5), (0, 6), (0, 7), (1, 8), (0, 9), (0, 10), (1, 11), (1, 12), (1, 13), (0, 14), (0, 15), (1, 17), (1, 18), (3, 16), (3, 19), (2, 20), (3, 21), (0, 22)] Ap zK (.loadE J J J Y35.h J sP (hW.2) (G2 ?_))
 refine .loadE J J J Y69.h J sP (hW.1.at (o := 2) J) (.lA J J J Y25.h J Sz25 Z1 (by (simp [ha]; done)) ?_)
 refine .lookSC ME hW.1.2 sP hga J J J J ha (.fieldN (_) J J J Y79.h J Y31.h J Sz31 (DEnt.row_fBlock (by exact hx.entOk hga)) ?_)
 refine .field1 J J J Y31.h J Y24.h J (Block.get_fSeq (hx.entOk hga).o_fBlock) (.loadE J J J Y35.h J sP (hW.2) (G2 ?_))
 refine .loadE J J J Y69.h J sP (hW.1.at (o := 2) J) (.lA J J J Y25.h J Sz25 Z0 (by (simp [hb]; done)) ?_)
 refine .lookSC ME hW.1.2 sP hgb J J J J hb (.fieldN (_) J J J Y79.h J Y31.h J Sz31 (DEnt.row_fBlock (by exact hx.entOk hgb)) ?_)
 refine .field1 J J J Y31.h J Y24.h J (Block.get_fSeq (hx.entOk hgb).o_fBlock) (.lA J J J Y25.h J Sz25 Z1 (by (simp [ha]; done)) ?_)
 refine .lA J J J Y25.h J Sz25 Z0 (by (simp [hb]; done)) ?_
 refine .cV J J J J Body53 (cmp_u64 ea.1.fBlock.fSeq eb.1.fBlock.fSeq) tV (.cV J J J J Body47 (block_cmp a b ha hb) tV (.mkRow2 (z := i64 0) [i64 (cmp1 ea.1.fBlock.fSeq eb.1.fBlock.fSeq), i64 (cmpB a b)] [i64 (cmp1 ea.1.fBlock.fSeq eb.1.fBlock.fSeq), i64 (cmpB a b)] rfl J Y113.h Sz3 Zr3 J J (by intro v hv; simp only [List.mem_cons, List.not_mem_nil, or_false] at hv; rcases hv with rfl | rfl <;> simp [Value.cells]) dE (by simp [Value.cells]) ?_))
 intro q26
 refine .cV J J J J Body50 (cmp_or2 q26 (cmp1 ea.1.fBlock.fSeq eb.1.fBlock.fSeq) (cmpB a b)) (fun w h => Ar h Z0) ?_
 refine G3 ?_
 -- ret
 refine G2 ?_
 refine ⟨_, [], Al J J, sP, sP, ?_, rfl⟩
 rfl


theorem DagSee.ext2 {C : Cx} {x : DD} {p : Nat} {hp : List Blk} {w : World} (hh : HRep C hp w) (h : DagSee x p C.W0) (h1 : p ∉ C.lent) (h2 : x.bE ∉ C.lent) : DagSee x p w :=
  ⟨h.1.of_heap (hh.keeps.block p h.1.lt h1), h.2.of_heap (hh.keeps.block x.bE h.2.lt h2)⟩
theorem upd_snd {A B X : List Value} {n : Nat} (hA : A.length = n) (hX : X.length = B.length) : upd (A ++ B) (0 + 1 * n) X = A ++ X := by
  subst hA
  simp [upd, hX]
theorem upd_fst {A B X : List Value} (hX : X.length = A.length) : upd (A ++ B) (0 + 0 * 32) X = X ++ B := by
  simp [upd, hX]
theorem part_fst {A B : List Value} {n : Nat} (hA : A.length = n) : ((A ++ B).drop (0 + 0 * n)).take n = A := by subst hA; simp
theorem part_snd {A B : List Value} {n : Nat} (hA : A.length = n) (hB : B.length = n) : ((A ++ B).drop (0 + 1 * n)).take n = B := by subst hA; simp [List.take_of_length_le (Nat.le_of_eq hB)]
theorem bl32 {l : List UInt8} (h : l.length = 32) : (Aa l).length = 32 := by rw [Aa, List.length_map]; exact h

theorem insD2 (x : DD) (hx : x.ok) (p c0 q c m : Nat) (a b : List UInt8) (ha : a.length = 32) (hb : b.length = 32) (ea eb : EV) (hga : Au x.ent a = some ea) (hgb : Au x.ent b = some eb) (hq : p ≠ q ∧ x.bE ≠ q ∧ c0 ≠ q) : Meets Tryz.prog 108 [.slice (some ⟨q, 0, none⟩) 2 c, i64 0, i64 2, (.func (.func 52) #[] #[ptr c0 0])] [q] (fun W => Lent [⟨q, Aa a ++ Aa b, 25, m⟩] W ∧ DagSee x p W ∧ W.cell? ⟨c0, 0, none⟩ = some (ptr p 0) ∧ c0 < W.heap.size) (fun v out => v = .tuple #[] ∧ ∃ u v' : List UInt8, u.length = 32 ∧ v'.length = 32 ∧ out = [⟨q, Aa u ++ Aa v', 25, m⟩]) := by
 intro W hW
 refine calls_of (hp0 := [⟨q, Aa a ++ Aa b, 25, m⟩]) Tryz.func108 J 53 Tryz.ntmps108 J hW.1.rep (G8 ?_)
 refine .loop (ι := Nat × List UInt8 × List UInt8) (fun r => ⟨[(0, .slice (some ⟨q, 0, none⟩) 2 c), (1, i64 0), (2, i64 2), (3, (.func (.func 52) #[] #[ptr c0 0])), (8, i64 (r.1 : Int))], [⟨q, Aa r.2.1 ++ Aa r.2.2, 25, m⟩]⟩) (fun r => (r.1 = 1 ∧ a = r.2.1 ∧ b = r.2.2) ∨ (r.1 = 2 ∧ r.2.1.length = 32 ∧ r.2.2.length = 32)) (fun r => 2 - r.1) ((1, a, b)) ?_ ?_ ?_
 · exact .inl ⟨rfl, rfl, rfl⟩
 · exact Ao (wk1 rfl (wk1 rfl (wk1 rfl (wk1 rfl (wk1 rfl wk0))))) (Ab rM Ak)
 rintro ⟨i, u, v⟩ hI
 simp only at hI ⊢
 refine G8 ?_
 refine .condP J (fun hc0 => ?_) (fun hc0 => ?_)
 ·
  obtain ⟨rfl, rfl, rfl⟩ : i = 1 ∧ a = u ∧ b = v := by rcases hI with h | h; exact h; omega
  refine G11 ?_
  refine .loop (ι := Nat × List UInt8 × List UInt8) (fun y => ⟨[(0, .slice (some ⟨q, 0, none⟩) 2 c), (1, i64 0), (2, i64 2), (3, (.func (.func 52) #[] #[ptr c0 0])), (8, i64 1), (9, i64 (y.1 : Int))], [⟨q, Aa y.2.1 ++ Aa y.2.2, 25, m⟩]⟩) (fun y => (y.1 = 1 ∧ a = y.2.1 ∧ b = y.2.2) ∨ (y.1 = 0 ∧ y.2.1.length = 32 ∧ y.2.2.length = 32)) (fun y => y.1) ((1, a, b)) ?_ ?_ ?_
  · exact .inl ⟨rfl, rfl, rfl⟩
  · exact Ao (wk1 rfl (wk1 rfl (wk1 rfl (wk1 rfl (wk1 rfl (wk1 rfl wk0)))))) (Ab rM Ak)
  rintro ⟨j, u2, v2⟩ hJ
  simp only at hJ ⊢
  refine G2 ?_
  refine .draw [(0, 0), (0, 1), (0, 2), (0, 3), (0, 4), (0, 5), (0, 6), (0, 7), (1, 8), (0, 9), (0, 10), (0, 11), (0, 12), (1, 13), (3, 14), (0, 15), (0, 16)] Ap zK (G2 ?_)
  refine two (fun r hr k => Tr.gtr J J J J hr k) (fun hs4_20 => ?_) (fun hs4_20 => ?_)
  ·
   have hs4_2 := of_decide_eq_true hs4_20
   refine G4 ?_
   obtain ⟨rfl, rfl, rfl⟩ : j = 1 ∧ a = u2 ∧ b = v2 := by rcases hJ with h | h; exact h; omega
   refine .idxSlP 32 J J J J J Y26.h Sz25 1 J oM (.lN (Aa b) J J J Y25.h J Sz25 Z0 (part_snd (bl32 ha) (bl32 hb)) (bl32 hb) ?_)
   refine G3 ?_
   refine .idxSlP 32 J J J J J Y26.h Sz25 0 oM oM (.lN (Aa a) J J J Y25.h J Sz25 Z0 (part_fst (bl32 ha)) (bl32 ha) ?_)
   refine .callCV J J J J J Body52 (of_cmp x hx p c0 b a hb ha eb ea hgb hga) (fun w h => ⟨DagSee.ext2 h hW.2.1 (by simpa using hq.1) (by simpa using hq.2.1), h.keeps.cell (p := ⟨c0, 0, none⟩) (by simpa using hq.2.2) hW.2.2.1⟩) ?_
   refine G4 ?_
   refine .condP J (fun hc1 => ?_) (fun hc1 => ?_)
   ·
    refine G4 ?_
    refine .draw [(0, 0), (0, 1), (0, 2), (0, 3), (0, 4), (0, 5), (0, 6), (0, 7), (0, 8), (1, 9), (0, 10), (0, 11), (0, 12), (1, 13), (0, 14), (4, 15), (0, 16), (4, 17)] Ap zK (G8 ?_)
    refine .idxSlP 32 J J J J J Y26.h Sz25 0 oM oM (.lN (Aa a) J J J Y25.h J Sz25 Z0 (part_fst (bl32 ha)) (bl32 ha) ?_)
    refine G2 ?_
    refine .idxSlP 32 J J J J J Y26.h Sz25 1 J oM (.lN (Aa b) J J J Y25.h J Sz25 Z0 (part_snd (bl32 ha) (bl32 hb)) (bl32 hb) ?_)
    refine .idxSlP 32 J J J J J Y26.h Sz25 1 J oM (.storeN (Aa a) (cs' := Aa a ++ Aa a) J J J J J (Ax _) Sz25 (bl32 ha) Z0 (by have := bl32 ha; have := bl32 hb; simp only [List.length_append]; omega) (upd_snd (bl32 ha) (by rw [bl32 ha, bl32 hb])) zU ?_)
    refine .idxSlP 32 J J J J J Y26.h Sz25 0 oM oM (.storeN (Aa b) (cs' := Aa b ++ Aa a) J J J J J (Ax _) Sz25 (bl32 hb) Z0 (by have := bl32 ha; have := bl32 hb; simp only [List.length_append]; omega) (upd_fst (by rw [bl32 ha, bl32 hb])) zU ?_)
    refine G9 ?_
    exact ⟨(0, b, a), .inr ⟨rfl, hb, ha⟩, by simp only; omega, Ao (wk1 rfl (wk1 rfl (wk1 rfl (wk1 rfl (wk1 rfl (wk1 rfl wk0)))))) (Ab rM Ak)⟩
   refine G12 ?_
   exact ⟨(2, a, b), .inr ⟨rfl, ha, hb⟩, by simp only; omega, Ao (wk1 rfl (wk1 rfl (wk1 rfl (wk1 rfl (wk1 rfl wk0))))) (Ab rM Ak)⟩
  have hs4_2 := of_decide_eq_false hs4_20
  refine G16 ?_
  refine .cond_f J J (G12 ?_)
  rcases hJ with h | h
  · exfalso; omega
  · exact ⟨(2, u2, v2), .inr ⟨rfl, h.2⟩, by simp only; omega, Ao (wk1 rfl (wk1 rfl (wk1 rfl (wk1 rfl (wk1 rfl wk0))))) (Ab rM Ak)⟩
 have hI2 : u.length = 32 ∧ v.length = 32 := by rcases hI with h | h; omega; exact h.2
 refine G5 ?_
 refine Az (out := (⟨q, Aa u ++ Aa v, 25, m⟩ :: [])) (res_none J) (Ab rM Ak) ?_
 exact ⟨rfl, u, v, hI2.1, hI2.2, rfl⟩
theorem pdqD2 (x : DD) (hx : x.ok) (p c0 q c m : Nat) (a b : List UInt8) (ha : a.length = 32) (hb : b.length = 32) (ea eb : EV) (hga : Au x.ent a = some ea) (hgb : Au x.ent b = some eb) (hq : p ≠ q ∧ x.bE ≠ q ∧ c0 ≠ q) (l : Int) : Meets Tryz.prog 73 [.slice (some ⟨q, 0, none⟩) 2 c, i64 0, i64 2, i64 l, (.func (.func 52) #[] #[ptr c0 0])] [q] (fun W => Lent [⟨q, Aa a ++ Aa b, 25, m⟩] W ∧ DagSee x p W ∧ W.cell? ⟨c0, 0, none⟩ = some (ptr p 0) ∧ c0 < W.heap.size) (fun v out => v = .tuple #[] ∧ ∃ u v' : List UInt8, u.length = 32 ∧ v'.length = 32 ∧ out = [⟨q, Aa u ++ Aa v', 25, m⟩]) := by
 intro W hW
 refine calls_of (hp0 := [⟨q, Aa a ++ Aa b, 25, m⟩]) Tryz.func73 J 148 Tryz.ntmps73 J hW.1.rep (G11 ?_)
 refine .loop (ι := Unit) (fun u => ⟨[(0, .slice (some ⟨q, 0, none⟩) 2 c), (1, i64 0), (2, i64 2), (4, (.func (.func 52) #[] #[ptr c0 0]))], [⟨q, Aa a ++ Aa b, 25, m⟩]⟩) (fun u => True) (fun u => 0) (()) ?_ ?_ ?_
 · trivial
 · exact Ao (wk1 rfl (wk1 rfl (wk1 rfl (wk1 rfl wk0)))) (Ab rM Ak)
 rintro u _
 refine G13 ?_
 refine .leq J J J J (decide_eq_true dE) (G2 ?_)
 refine .cond_t J J (G6 ?_)
 refine .callL (L := [⟨q, Aa a ++ Aa b, 25, m⟩]) J J J J J Body108 (insD2 x hx p c0 q c m a b ha hb ea eb hga hgb hq) (by repeat (exact sg_end)) (B6 J) (fun w h => ⟨Lent.of h (by repeat (exact sg_end)), DagSee.ext2 h hW.2.1 (by simpa using hq.1) (by simpa using hq.2.1), h.keeps.cell (p := ⟨c0, 0, none⟩) (by simpa using hq.2.2) hW.2.2.1, Nat.lt_of_lt_of_le hW.2.2.2 h.keeps.size⟩) ?_
 rintro v30 out30 ⟨rfl, u, v, hu, hv, rfl⟩
 refine G2 ?_
 -- ret
 refine G6 ?_
 refine Az (out := (⟨q, Aa u ++ Aa v, 25, m⟩ :: [])) (res_none J) (Ab rM Ak) ?_
 exact ⟨rfl, u, v, hu, hv, rfl⟩
theorem bits_len64_2  : Meets Tryz.prog 107 [u64 2] [] (fun _ => True) (fun v out => v = i64 2 ∧ out = []) := by
 intro W hW
 refine Ac Tryz.func107 J 25 Tryz.ntmps107 J (G9 ?_)
 refine .geq J J J J (decide_eq_false dE) (G2 ?_)
 refine .cond_f J J (G6 ?_)
 refine .geq J J J J (decide_eq_false dE) (G2 ?_)
 refine .cond_f J J (G6 ?_)
 refine .geq J J J J (decide_eq_false dE) (G2 ?_)
 refine .cond_f J J (G7 ?_)
 refine .idxStr (s := len8S) J J J J Tryz.underlying9 _ J (len8_get 2) (G1 ?_)
 rw [show (UInt8.ofNat (bLen (2 : UInt8).toNat)) = (2 : UInt8) from rfl, show (2 : UInt8).toNat = 2 from rfl]
 refine G4 ?_
 -- ret
 refine G2 ?_
 refine ⟨_, [], Al J J, sP, sP, ?_, rfl⟩
 rfl

theorem bits_len_2  : Meets Tryz.prog 72 [u64 2] [] (fun _ => True) (fun v out => v = i64 2 ∧ out = []) := by
 intro W hW
 refine Ac Tryz.func72 J 8 Tryz.ntmps72 J (G6 ?_)
 refine .cond_f J (rfl) (G5 ?_)
 refine .cV J J J J Body107 (bits_len64_2) tV (G3 ?_)
 -- ret
 refine G2 ?_
 refine ⟨_, [], Al J J, sP, sP, ?_, rfl⟩
 rfl

theorem sortD2 (x : DD) (hx : x.ok) (p c0 q c m : Nat) (a b : List UInt8) (ha : a.length = 32) (hb : b.length = 32) (ea eb : EV) (hga : Au x.ent a = some ea) (hgb : Au x.ent b = some eb) (hq : p ≠ q ∧ x.bE ≠ q ∧ c0 ≠ q) : Meets Tryz.prog 51 [.slice (some ⟨q, 0, none⟩) 2 c, (.func (.func 52) #[] #[ptr c0 0])] [q] (fun W => Lent [⟨q, Aa a ++ Aa b, 25, m⟩] W ∧ DagSee x p W ∧ W.cell? ⟨c0, 0, none⟩ = some (ptr p 0) ∧ c0 < W.heap.size) (fun v out => v = .tuple #[] ∧ ∃ u v' : List UInt8, u.length = 32 ∧ v'.length = 32 ∧ out = [⟨q, Aa u ++ Aa v', 25, m⟩]) := by
 intro W hW
 refine calls_of (hp0 := [⟨q, Aa a ++ Aa b, 25, m⟩]) Tryz.func51 J 14 Tryz.ntmps51 J hW.1.rep (G11 ?_)
 refine .conv J J J Y3.h Y112.h (show Value.int .u64 (IntKind.u64.wrap 2) = u64 2 from rfl) (.cV J J J J Body72 (bits_len_2) tV (G1 ?_))
 refine .callL (L := [⟨q, Aa a ++ Aa b, 25, m⟩]) J J J J J Body73 (pdqD2 x hx p c0 q c m a b ha hb ea eb hga hgb hq 2) (by repeat (exact sg_end)) (B6 J) (fun w h => ⟨Lent.of h (by repeat (exact sg_end)), DagSee.ext2 h hW.2.1 (by simpa using hq.1) (by simpa using hq.2.1), h.keeps.cell (p := ⟨c0, 0, none⟩) (by simpa using hq.2.2) hW.2.2.1, Nat.lt_of_lt_of_le hW.2.2.2 h.keeps.size⟩) ?_
 rintro v30 out30 ⟨rfl, u, v, hu, hv, rfl⟩
 refine G2 ?_
 refine Az (out := (⟨q, Aa u ++ Aa v, 25, m⟩ :: [])) (res_none J) (Ab rM Ak) ?_
 exact ⟨rfl, u, v, hu, hv, rfl⟩

theorem DD.mwl {x : DD} {p : Nat} {b : Blk} (h : b ∈ rbl x.wrs) : b ∈ x.blks p := by
  unfold DD.blks
  exact List.mem_cons_of_mem _ (List.mem_cons_of_mem _ (List.mem_cons_of_mem _ (List.mem_cons_of_mem _ (List.mem_cons_of_mem _ (List.mem_cons_of_mem _ (List.mem_append_right _ (List.mem_append_right _ (List.mem_append_right _ (List.mem_append_left _ h)))))))))

theorem dag_of (x : DD) (hx : x.ok) (p : Nat) (kw : List UInt8) (hkw : kw.length = 32) (r : RV) (hgw : Au x.wrs kw = some r) (a b : List UInt8) (hks : r.ks = [a, b]) (ea eb : EV) (hga : Au x.ent a = some ea) (hgb : Au x.ent b = some eb) : Meets Tryz.prog 19 [ptr p 0, agg (Aa kw)] [] (fun W => Lies (x.blks p) W) (fun v out => ∃ s : Sl, v = s.v ∧ s.n = 2) := by
  intro W hW
  have hlies := hW
  have hd := DagSee.lies hW
  have hro := (hx.wrs _ (Cs hgw)).2.1
  simp only at hro
  have hrb : ∀ b ∈ r.bl, b ∈ x.blks p := fun b hb => DD.mwl (List.mem_flatten.2 ⟨r.bl, List.mem_map.2 ⟨(kw, r), Cs hgw, rfl⟩, hb⟩)
  have ha : a.length = 32 := hro.r32 a (by rw [hks]; exact List.mem_cons_self)
  have hb : b.length = 32 := hro.r32 b (by rw [hks]; exact List.mem_cons_of_mem _ List.mem_cons_self)
  have hrn : r.s.n = 2 := by rw [hro.acc.num, hks]; rfl
  refine Ac Tryz.func19 J 20 Tryz.ntmps19 J (G2 ?_)
  refine .box1 J J J ?_
  intro n2 hn2 hf2
  refine G1 ?_
  intro n3 hn3 hf3
  refine G7 ?_
  refine .cV J J J J Body33 (dag_valid x p) (fun w h => hd.ext h) (G3 ?_)
  refine .cond_f J J (G3 ?_)
  refine .draw [(1, 0), (0, 1), (0, 2), (1, 3), (1, 4), (1, 5), (4, 6), (0, 7)] Ap zK (G3 ?_)
  refine .loadE J J J Tryz.underlying73 J sP (hd.at (o := 6) J) (.lA J J J Y23.h J Sz23 Z0 (by (simp [hkw]; done)) ?_)
  refine .lookSC MW (hlies _ (x.mW p)) sP hgw J J J J hkw (.call4 J J J J J Body42 (cl_digs r.s r.ks oM) (fun w h => acc_rows hro.acc ((lies_keep hlies h).sub hrb) hro.r32 J (by rw [hks]; show 2 ≤ 1000000; omega)) ?_)
  rintro v15 out15 ⟨s15, rfl, hac15⟩
  rw [hrn, hks] at hac15
  rcases hac15 with ⟨_, _, _, h0⟩ | ⟨q, cc, rfl, hcc, hfl, rfl⟩
  · exact absurd h0 dE
  rw [show A1 [a, b] = Aa a ++ Aa b by simp [A1]]
  refine G4 ?_
  refine .know (F := p ≠ q ∧ x.bE ≠ q ∧ n2 ≠ q) (fun w h => ?_) (fun hqq => ?_)
  · have h1 := h.own ⟨q, Aa a ++ Aa b, 25, cc * 32⟩ Z0
    have h2 := hd.1.lt
    have h3 := hd.2.lt
    have h4 := h.nodup
    simp only [List.not_mem_nil, or_false] at h1
    simp only at h1 h2 h3
    refine ⟨by omega, by omega, fun e => ?_⟩
    simp [e] at h4
  refine G3 ?_
  refine .callL (L := [⟨q, Aa a ++ Aa b, 25, cc * 32⟩]) J J J J J Body51 (sortD2 x hx p n2 q cc (cc * 32) a b ha hb ea eb hga hgb hqq) sG (B6 J) (fun w h => ⟨Lent.of h sG, hd.ext h, (h.cells ⟨n2, [ptr p 0], 35, 1⟩ Z2).cell (o := 0) J, (h.cells ⟨n2, [ptr p 0], 35, 1⟩ Z2).lt⟩) ?_
  rintro v18 out18 ⟨rfl, u, v, hu, hv, rfl⟩
  refine G8 ?_
  -- ret
  refine G2 ?_
  refine Az (out := (⟨q, Aa u ++ Aa v, 25, cc * 32⟩ :: [])) (Al J J) (Ab rM Ak) ?_
  exact ⟨⟨some ⟨q, 0, none⟩, 2, cc⟩, rfl, rfl⟩

end Go.Proofs.YtfcbgdkpagcbbaaGreat
end

section
namespace Go.Proofs.YtfcbgdkpagcbbaaGreat
open Go Hw Ed
def s1B : List UInt8 := [1, 0, 0, 0, 0, 0, 0, 0, 0, 0, 0, 0, 0, 0, 0, 0, 0, 0, 0, 0, 0, 0, 0, 0, 0, 0, 0, 0, 0, 0, 0, 77]
def s1H : List UInt8 := [87, 159, 104, 236, 80, 14, 38, 174, 240, 0, 164, 75, 108, 245, 33, 87, 115, 113, 131, 28, 237, 105, 185, 222, 57, 145, 233, 242, 112, 190, 170, 213, 35, 11, 137, 144, 70, 23, 17, 214, 148, 220, 86, 67, 25, 124, 131, 91, 42, 247, 30, 195, 63, 213, 16, 142, 181, 57, 199, 82, 96, 7, 203, 83]
def s1K : List UInt8 := [96, 107, 246, 169, 182, 86, 212, 252, 106, 138, 137, 108, 60, 10, 195, 142, 100, 120, 65, 80, 61, 64, 193, 87, 241, 248, 221, 83, 126, 228, 255, 164]
theorem s1_h : Bz s1B = s1H := by rw [sha512_N]; kernel_rfl
theorem s1_n : le (clampB ((s1H).take 32)) = 38748270507491543869280182973643753799655646515636239770492563660028217171792 := by kernel_rfl
theorem s1_k : sgK s1H = s1K := by
  rw [sgK, s1_n, pbN_eq dE]
  kernel_rfl
def s2B : List UInt8 := [2, 0, 0, 0, 0, 0, 0, 0, 0, 0, 0, 0, 0, 0, 0, 0, 0, 0, 0, 0, 0, 0, 0, 0, 0, 0, 0, 0, 0, 0, 0, 77]
def s2H : List UInt8 := [159, 230, 160, 217, 19, 92, 134, 97, 221, 29, 151, 92, 173, 55, 201, 96, 247, 140, 202, 26, 171, 176, 42, 66, 5, 66, 179, 216, 185, 188, 163, 0, 78, 178, 17, 189, 220, 26, 113, 236, 223, 171, 6, 169, 230, 174, 14, 221, 86, 213, 3, 69, 84, 255, 54, 249, 11, 147, 29, 173, 100, 208, 56, 60]
def s2K : List UInt8 := [135, 111, 12, 209, 122, 16, 16, 190, 105, 170, 2, 71, 173, 200, 90, 26, 237, 46, 45, 107, 189, 50, 216, 58, 186, 203, 54, 244, 172, 156, 8, 66]
theorem s2_h : Bz s2B = s2H := by rw [sha512_N]; kernel_rfl
theorem s2_n : le (clampB ((s2H).take 32)) = 29237320919612452970742533751157944247979243399322251012381788756161947821720 := by kernel_rfl
theorem s2_k : sgK s2H = s2K := by
  rw [sgK, s2_n, pbN_eq dE]
  kernel_rfl
def mAR : Nat × Nat × Nat × Nat := (565907765622320541399421425701583650488762096448569470237382742425803974514, 100601403375759064195258946539497424308391876113719775996124634348183556250024, 3579687427427459069974335426959508808461923918647704402293925102387200652691, 97113733480288696092322898458545537851336488749795256506728843684697484984565)
def mAN : List UInt8 := leb 32 mAR.2.2.2
def mW0 : DB := { DB.zero with seq := 1, prev := mAN }
def mWR : Nat × Nat × Nat × Nat := (888384083630326771693011838585689704801527998523957974796249587714068277170, 8772934873486910836085297964280398160142042150262592399620182198200825391710, 5769146907814899707090331158709766718932506663615313079232271176672900718498, 81589314349474726273707613719115942999924251840110894651920578698060019106521)
def mWN : List UInt8 := leb 32 mWR.2.2.2
def mWD : DB := blkD s2K mW0 mWR.2.1 mWR.2.2.1
theorem mW_ok : blkOk s2H s2K 29237320919612452970742533751157944247979243399322251012381788756161947821720 mW0 mWR.1 mWR.2.1 mWR.2.2.1 mWR.2.2.2 = true := by kernel_rfl
theorem mW_f : BlkF s2B s2K mW0 mWR.2.1 mWR.2.2.1 mWR.2.2.2 := blk_facts (H := s2H) rfl s2_h s2_n s2_k dE dE ⟨rfl, by rfl, rfl, fun l hl => (by first | (cases hl; done) | (rw [List.mem_singleton.1 hl]; rfl))⟩ mW_ok
def mO0 : DB := { DB.zero with ds := [111, 116, 104, 101, 114] }
def mOR : Nat × Nat × Nat × Nat := (6260426260421514854838240703369337866615096328601857388341949517464412737387, 25697211988617373872452076936828458570860651617254412830112111589428216348795, 2377209983641393216450851069547555282562800521269702857691980605769174181753, 26501480277204517872496390108655872616522681066152781123675360217932244787522)
def mON : List UInt8 := leb 32 mOR.2.2.2
def mOD : DB := blkD s1K mO0 mOR.2.1 mOR.2.2.1
theorem mO_ok : blkOk s1H s1K 38748270507491543869280182973643753799655646515636239770492563660028217171792 mO0 mOR.1 mOR.2.1 mOR.2.2.1 mOR.2.2.2 = true := by kernel_rfl
theorem mO_f : BlkF s1B s1K mO0 mOR.2.1 mOR.2.2.1 mOR.2.2.2 := blk_facts (H := s1H) rfl s1_h s1_n s1_k dE dE ⟨rfl, by rfl, rfl, fun l hl => (by first | (cases hl; done) | (rw [List.mem_singleton.1 hl]; rfl))⟩ mO_ok
end Go.Proofs.YtfcbgdkpagcbbaaGreat
end

section
namespace Go.Proofs.YtfcbgdkpagcbbaaGreat
open Go Hw

open Ed

theorem mA_eq : mAN = caN := by kernel_rfl
theorem cw_sign : ∀ B : Block, B.ok → Meets Tryz.prog 56 [agg (Aa s2B), agg B.cells] [] (fun W => BlockIs W B { DB.zero with seq := 1, prev := caN }) (BlkR 0 mWD) := by
  have h : ∀ B : Block, B.ok → Meets Tryz.prog 56 [agg (Aa s2B), agg B.cells] [] (fun W => BlockIs W B { DB.zero with seq := 1, prev := mAN }) (BlkR 0 mWD) := mW_f.2.2.2
  rw [mA_eq] at h
  exact h
def otherB : List UInt8 := [111, 116, 104, 101, 114]
theorem co_sign : ∀ B : Block, B.ok → Meets Tryz.prog 56 [agg (Aa seB), agg B.cells] [] (fun W => BlockIs W B { DB.zero with ds := otherB }) (BlkR 0 mOD) := mO_f.2.2.2
def nbD : DB := { cbD with ds := [1] }
theorem nb_chk : nbD.check = 0 := by kernel_rfl
def nbT : Nat := le (cbS.drop 32) + (L - (le (sgR (Bz (cbF ++ (seK ++ btxt nbD)))) * le seN + le (sgR cbH1)) % L)
theorem nb_num : Nat.beq (nbT % L) 0 = false := by kernel_rfl
theorem nb_bad : goodB seK (btxt nbD) cbS = false := by
  have e : cbS.take 32 = cbF := by kernel_rfl
  have h := good_other (s := seH) (s1 := cbH1) (sg := cbS) (bb := btxt nbD) (by rw [cb_f]; exact e) (by rw [se_n]) rfl rfl (by rw [e, se_k]) (fun hd => by
    have h1 : nbT % L = 0 := Nat.mod_eq_zero_of_dvd hd
    have h2 := nb_num
    rw [h1] at h2
    cases h2)
  rwa [se_k] at h
theorem nb_g : dgood nbD = 9 := by
  unfold dgood
  rw [if_pos nb_chk]
  exact if_neg (by rw [show nbD.w = seK from rfl, show nbD.sg = cbS from rfl, nb_bad]; decide)
def zsD : DB := { DB.zero with seq := 1 }
theorem zs_g : dgood zsD = 2 := by
  have h : zsD.check = 2 := by kernel_rfl
  unfold dgood
  rw [if_neg (by rw [h]; decide), h]
theorem mW_g : dgood mWD = 0 := mW_f.2.2.1
theorem mW_nm : Bd mWD = mWN := mW_f.2.1
theorem mO_g : dgood mOD = 0 := mO_f.2.2.1
theorem mO_nm : Bd mOD = mON := mO_f.2.1
def nX1 : PD := PD.new.adm caN caD
def nX2 : PD := nX1.adm mON mOD
theorem n_add1 : PD.new.add caD = (nX1, [caN], 0) := by
  have h := add_fits (X := PD.new) ca_g (by rw [ca_nm]; kernel_rfl) zK
  rw [ca_nm] at h
  have e : PD.settle (PD.new.adm caN caD).orp.length (PD.new.adm caN caD) = (nX1, []) := by kernel_rfl
  rw [h, e]
theorem n_add2 : nX1.add caD = (nX1, [], 8) := add_there ca_g (by rw [ca_nm]; kernel_rfl)
theorem n_add3 : nX1.add zsD = (nX1, [], 2) := by rw [add_bad (by rw [zs_g]; decide), zs_g]
theorem n_add4 : nX1.add nbD = (nX1, [], 9) := by rw [add_bad (by rw [nb_g]; decide), nb_g]
theorem n_add5 : nX1.add mWD = (nX1, [], 4) := add_wrong mW_g (by rw [mW_nm]; kernel_rfl) zK
theorem n_add6 : nX1.add mOD = (nX2, [mON], 0) := by
  have h := add_fits (X := nX1) mO_g (by rw [mO_nm]; kernel_rfl) zK
  rw [mO_nm] at h
  have e : PD.settle (nX1.adm mON mOD).orp.length (nX1.adm mON mOD) = (nX2, []) := by kernel_rfl
  rw [h, e]
theorem forkN_pl (x : DD) : forkN x.pls = (x.pl.pls.map fun p => trT p.2.length p.2.length).sum := by
  unfold forkN DD.pl
  simp only [List.map_map]
  rfl
theorem names_facts : ∃ (Da Db Dc Dw Do Dn Dz : DB) (na nb no : List UInt8) (X1 X2 : PD), (Da.ok ∧ Db.ok ∧ Dc.ok ∧ Dw.ok ∧ Do.ok) ∧ (na.length = 32 ∧ nb.length = 32) ∧ (Bd Da = na ∧ Bd Db = nb)
    ∧ (∀ B : Block, B.ok → Meets Tryz.prog 56 [agg (Aa seB), agg B.cells] [] (fun W => BlockIs W B DB.zero) (BlkR 0 Da))
    ∧ (∀ B : Block, B.ok → Meets Tryz.prog 56 [agg (Aa seB), agg B.cells] [] (fun W => BlockIs W B { DB.zero with seq := 1, prev := na }) (BlkR 0 Db))
    ∧ (∀ B : Block, B.ok → Meets Tryz.prog 56 [agg (Aa seB), agg B.cells] [] (fun W => BlockIs W B { DB.zero with seq := 2, prev := nb }) (BlkR 0 Dc))
    ∧ (∀ B : Block, B.ok → Meets Tryz.prog 56 [agg (Aa s2B), agg B.cells] [] (fun W => BlockIs W B { DB.zero with seq := 1, prev := na }) (BlkR 0 Dw))
    ∧ (∀ B : Block, B.ok → Meets Tryz.prog 56 [agg (Aa seB), agg B.cells] [] (fun W => BlockIs W B { DB.zero with ds := otherB }) (BlkR 0 Do))
    ∧ (Db.ls = [] ∧ Db.ds = [] ∧ Dn = { Db with ds := [1] } ∧ Dz = { DB.zero with seq := 1 })
    ∧ PD.new.add Da = (X1, [na], 0) ∧ X1.add Da = (X1, [], 8) ∧ X1.add Dz = (X1, [], 2) ∧ X1.add Dn = (X1, [], 9) ∧ X1.add Dw = (X1, [], 4) ∧ X1.add Do = (X2, [no], 0)
    ∧ Au X2.P nb = none ∧ Au X2.P (List.replicate 32 0) = none ∧ X2.hds.length = 2 ∧ X2.orp.length = 0 ∧ X2.pls = [((Da.w, 0), [na, no])] ∧ Au X2.wrs Da.w = some [na, no] ∧ Au X2.P na = some Da ∧ Au X2.P no = some Do ∧ (∀ p ∈ X2.P, p.2.check = 0) :=
  ⟨caD, cbD, ccD, mWD, mOD, nbD, zsD, caN, cbN, mON, nX1, nX2, ⟨caD_ok, cbD_ok, ccD_ok, mW_f.1, mO_f.1⟩, ⟨rfl, rfl⟩, ⟨ca_nm, cb_nm⟩, ca_sign, cb_sign, cc_sign, cw_sign, co_sign, ⟨rfl, rfl, rfl, rfl⟩, n_add1, n_add2, n_add3, n_add4, n_add5, n_add6,
    by kernel_rfl, by kernel_rfl, by kernel_rfl, by kernel_rfl, by kernel_rfl, by kernel_rfl, by kernel_rfl, by kernel_rfl, ((PD.Inv.new.add caD).add mOD |> fun h => by rw [n_add1] at h; rw [n_add6] at h; exact h.ck)⟩

theorem same_of {W : World} {B : Block} {D : DB} (h : BlockIs W B D) : SameB B D := ⟨h.ok, h.w, h.seq, h.prev, h.sg, h.ls.len.symm, h.ds.len.symm⟩
def zsB : Block := { Block.zero with fSeq := 1, fPrev := List.replicate 32 0 }
theorem zs_held : Held [] zsB { DB.zero with seq := 1 } := ⟨same_of (sp_is default 1 rfl), fun W _ => sp_is W 1 rfl⟩
theorem bm_held {q : Nat} {Bn : Block} {Db : DB} (h : Held [] Bn Db) : Held [⟨q, Aa [1], 5, 1⟩] ({ Bn with fData := ⟨some ⟨q, 0, none⟩, 1, 1⟩ } : Block) { Db with ds := [1] } := by
  have is : ∀ W2, Lies [⟨q, Aa [1], 5, 1⟩] W2 → BlockIs W2 ({ Bn with fData := ⟨some ⟨q, 0, none⟩, 1, 1⟩ } : Block) { Db with ds := [1] } := fun W2 hl => by
    have h0 := h.at W2
    have a2 : Hw.Acc ⟨some ⟨q, 0, none⟩, 1, 1⟩ [⟨q, Aa [1], 5, 1 * 1⟩] (Aa [1]) 5 1 1 := Acc.some (Nat.le_refl 1) rfl
    exact ⟨⟨h0.ok.l_fWriter, h0.ok.l_fPrev, h0.ok.l_fSig⟩, h0.w, h0.seq, h0.prev, h0.ls, acc_bytes a2 hl rfl dE, h0.sg⟩
  exact ⟨⟨⟨h.1.ok.l_fWriter, h.1.ok.l_fPrev, h.1.ok.l_fSig⟩, h.1.w, h.1.seq, h.1.prev, h.1.sg, h.1.ln, rfl⟩, is⟩
def bo5 (q : Nat) : Block := { Block.zero with fData := ⟨some ⟨q, 0, none⟩, 5, 5⟩ }
theorem bo5_ok (q : Nat) : (bo5 q).ok := ⟨rfl, rfl, rfl⟩
theorem bo5_is {q : Nat} {w : World} (h : Sees w q 0 (Aa otherB)) : BlockIs w (bo5 q) { DB.zero with ds := otherB } := ⟨bo5_ok q, rfl, rfl, rfl, (zero_is w).ls, ⟨rfl, Nat.le_refl 5, SeesP.of h, (by show 5 ≤ maxLen; decide), fun e => by cases e⟩, rfl⟩
theorem drop_same (x : DD) (h : x.orp = []) : ({ x with orp := [] } : DD) = x := by
  cases x
  simp only at h
  subst h
  rfl
theorem tri_w {a b c : Block} (ha : a.ok) : ((tri a b c).drop 0).take 32 = Aa a.fWriter := by
  have h := Block.row_fWriter ha
  rw [tri, List.drop_zero, List.take_append_of_le_length (by rw [Block.length ha]; omega)]
  simpa using h
theorem pm_one {hp R : List Blk} {x : Blk} (h : hp.Perm (x :: R)) : hp.Perm ([x] ++ R) := h
theorem pl_get {x : DD} {k : List UInt8} {l : List (List UInt8)} (h : Au x.pl.wrs k = some l) : ∃ r, Au x.wrs k = some r ∧ r.ks = l := by
  have e : Au x.pl.wrs k = (Au x.wrs k).map (fun r : RV => r.ks) := mget_map (fun r : RV => r.ks) x.wrs k
  rw [e] at h
  exact Option.map_eq_some_iff.1 h
theorem pl_ent {x : DD} {k : List UInt8} {D : DB} (h : Au x.pl.P k = some D) : ∃ e, Au x.ent k = some e := by
  have e : Au x.pl.P k = (Au x.ent k).map (fun e : EV => e.2) := x.getP k
  rw [e] at h
  obtain ⟨e2, h2, _⟩ := Option.map_eq_some_iff.1 h
  exact ⟨e2, h2⟩
theorem pl_ne {x : DD} {w : List UInt8 × UInt64} {a b : List UInt8} (h : x.pl.pls = [(w, [a, b])]) : ∀ q ∈ x.pls, 0 < q.2.ks.length := fun q hq => by
  have h2 : (q.1, q.2.ks) ∈ x.pl.pls := List.mem_map.2 ⟨q, hq, rfl⟩
  rw [h, List.mem_singleton] at h2
  rw [(Prod.mk.inj h2).2]; show 0 < 2; omega

theorem s2B_length : s2B.length = 32 := rfl

theorem kit_seed2  : Meets Tryz.prog 57 [i64 2] [] (fun _ => True) (fun v out => v = agg (Aa s2B) ∧ out = []) := by
 intro W hW
 refine Ac Tryz.func57 J 9 Tryz.ntmps57 J (G2 ?_)
 refine .alloc (cs := (Aa (List.replicate 32 0))) J Zr22 J ?_
 intro n2 hn2 hf2
 refine G5 ?_
 refine .conv J J J Y3.h Y5.h (show Value.int .u8 (IntKind.u8.wrap 2) = u8 2 from rfl) (G1 ?_)
 refine .shrN 2 8 J J J J J dE (.conv J J J Y3.h Y5.h (show Value.int .u8 (IntKind.u8.wrap ((2 / 2 ^ 8 : Nat) : Int)) = u8 0 from rfl) (.build (cs := Aa s2B) J J J (fun w => by kernel_rfl) ?_))
 refine .sA J J J J zE Sz22 (by (simp [s2B_length]; done)) Z0 sP zU ?_
 refine G2 ?_
 -- ret
 refine G2 ?_
 refine ⟨_, [], An J J Y22.h J Sz22 Z0 (by simp [s2B_length]), sP, sP, ?_, rfl⟩
 rfl

theorem law_dagnames  : Meets Tryz.prog 4 [] [] (fun _ => True) (fun v out => v = .bool true ∧ out = []) := by
 intro W hW
 obtain ⟨Da, Db, Dc, Dw, Do, Dn, Dz, na, nb, no, X1, X2, ⟨hDa, hDb, hDc, hDw, hDo⟩, ⟨lna, lnb⟩, ⟨hna, hnb⟩, cSa, cSb, cSc, cSw, cSo, ⟨hls, hds, rfl, rfl⟩, ad1, ad2, ad3, ad4, ad5, ad6, hgb, hgz, hh2, ho2, hp2, hw2, hga2, hgo2, hck2⟩ := names_facts
 refine Ac Tryz.func4 J 139 Tryz.ntmps4 J (G7 ?_)
 refine .call4 J J J J J Body22 (law16_chain Da Db Dc na nb hDa hDb hDc lna lnb hna hnb cSa cSb cSc) tV ?_
 rintro v18 out18 ⟨Ba, Bb, Bc, ha, hb, hc, rfl, hch⟩
 have cNa := r15_Name Ba Da ha.ok
 have cNb := r15_Name Bb Db hb.ok
 rw [hna] at cNa
 rw [hnb] at cNb
 refine .alloc (cs := (List.replicate 3 ((Aa (List.replicate 32 0)) ++ [u64 0] ++ (Aa (List.replicate 32 0)) ++ [.slice none 0 0] ++ [.slice none 0 0] ++ (Aa (List.replicate 64 0)))).flatten) J Zr50 J ?_
 intro n1 hn1 hf1
 refine .sA J J J J (tri_cell ha.ok hb.ok hc.ok) Sz50 (tri_len ha.ok hb.ok hc.ok) Z0 zK zU ?_
 refine G4 ?_
 refine .call4 J J J J J Body23 (dag_new2) tV ?_
 rintro v19 out19 ⟨p, x0, rfl, rfl, hx0, hplx0, hnx0⟩
 refine G6 ?_
 refine .idxArr 131 J J J J Y50 Sz31 0 J dE (.lN (Ba.cells) J J J Y31.h J Sz31 mR (tri_0 ha.ok) (Block.length ha.ok) ?_)
 refine .callL (L := (x0.blks p ++ out18)) J J J J J Body10 (dag_add x0 hx0 p Ba Da out18 ⟨ha, fun W hW => (hch W hW).1⟩ oM) (sg_two sG sG) (B6 J) (fun w h => Lent.of h (sg_two sG sG)) ?_
 rintro v23 out23 ⟨x1, ⟨p23, n23, c23⟩, bl23, rfl, rfl, hx1, hac23, h3223, hplx1, hnx1⟩
 rw [hplx0, ad1] at hac23 h3223 hplx1 ⊢
 simp only [List.append_assoc] at hac23 h3223 hplx1 ⊢
 obtain rfl : n23 = 1 := hac23.num
 refine G5 ?_
 refine .idxArr 131 J J J J Y50 Sz31 0 J dE (.lN (Ba.cells) J J J Y31.h J Sz31 mR (tri_0 ha.ok) (Block.length ha.ok) ?_)
 refine .callL (L := (x1.blks p ++ out18)) J J J J J Body10 (dag_add x1 hx1 p Ba Da out18 ⟨ha, fun W hW => (hch W hW).1⟩ oM) (sg_two sG (by repeat (first | exact Cm | apply sg_seg))) (B6 J) (fun w h => Lent.of h (sg_two sG (by repeat (first | exact Cm | apply sg_seg)))) ?_
 rintro v28 out28 ⟨x2, ⟨p28, n28, c28⟩, bl28, rfl, rfl, hx2, hac28, h3228, hplx2, hnx2⟩
 rw [hplx1, ad2] at hac28 h3228 hplx2 ⊢
 simp only [List.append_assoc] at hac28 h3228 hplx2 ⊢
 obtain rfl : n28 = 0 := hac28.num
 refine G10 ?_
 refine .build (cs := zsB.cells) J J J (fun w => by kernel_rfl) ?_
 refine .callL (L := (x2.blks p)) J J J J J Body10 (dag_add0 x2 hx2 p zsB { DB.zero with seq := 1 } zs_held oM) sG (B6 J) (fun w h => Lent.of h sG) ?_
 rintro v34 out34 ⟨x3, ⟨p34, n34, c34⟩, bl34, rfl, rfl, hx3, hac34, h3234, hplx3, hnx3⟩
 rw [hplx2, ad3] at hac34 h3234 hplx3 ⊢
 simp only [List.append_assoc] at hac34 h3234 hplx3 ⊢
 obtain rfl : n34 = 0 := hac34.num
 refine G9 ?_
 refine .idxArr 131 J J J J Y50 Sz31 1 J dE (.lN (Bb.cells) J J J Y31.h J Sz31 mR (tri_1 ha.ok hb.ok) (Block.length hb.ok) ?_)
 refine .call4 J J J J J Body24 (meets_knowN (db_own Bb Db (by rw [hls]; decide) (by rw [hds]; decide)) (blkN_know hls hds)) (fun w h => (hch w (Lies.of h (by repeat (first | exact Bf | refine Bp ?_ | refine in_seg ?_)))).2.1) ?_
 rintro v39 out39 ⟨Bn, rfl, hn1⟩
 refine .alloc (cs := Block.zero.cells) J Block.zr J ?_
 intro n7 hn7 hf7
 refine .sA J J J J (Block.isCell (by exact hn1.1.ok)) Sz31 (Block.length (by exact hn1.1.ok)) Z0 (Block.length (by exact Block.zero_ok)) zU ?_
 refine G4 ?_
 refine .mkRow (z := u8 0) [u8 1] (Aa [1]) J J J Y27.h Sz5 Zr5 J J (by intro v hv; rw [List.mem_singleton.1 hv]; rfl) dE J ?_
 intro q40
 refine G1 ?_
 refine .s1 J J J J J Sz27 Z1 (by rw [Block.length (by exact hn1.1.ok)]; decide) (by exact Block.setS_fData (by exact hn1.1.ok) _ _ _) zV ?_
 refine G5 ?_
 refine .lA J J J Y31.h J Sz31 Z1 (Block.length (by exact (bm_held hn1).1.ok)) ?_
 refine .callL (L := (x3.blks p ++ [⟨q40, Aa [1], 5, 1⟩])) J J J J J Body10 (dag_add x3 hx3 p ({ Bn with fData := ⟨some ⟨q40, 0, none⟩, 1, 1⟩ } : Block) { Db with ds := [1] } [⟨q40, Aa [1], 5, 1⟩] (bm_held hn1) oM) (sg_two sG (pm_one rM)) (B6 J) (fun w h => Lent.of h (sg_two sG (pm_one rM))) ?_
 rintro v45 out45 ⟨x4, ⟨p45, n45, c45⟩, bl45, rfl, rfl, hx4, hac45, h3245, hplx4, hnx4⟩
 rw [hplx3, ad4] at hac45 h3245 hplx4 ⊢
 simp only [List.append_assoc] at hac45 h3245 hplx4 ⊢
 obtain rfl : n45 = 0 := hac45.num
 refine G10 ?_
 refine .idxArr 131 J J J J Y50 Sz31 0 J dE (.lN (Ba.cells) J J J Y31.h J Sz31 mR (tri_0 ha.ok) (Block.length ha.ok) ?_)
 refine .cV J J J J Body26 (cNa) (fun w h => (hch w (Lies.of h (by repeat (first | exact Bf | refine Bp ?_ | refine in_seg ?_)))).1) ?_
 refine .build (cs := ({ Block.zero with fSeq := 1, fPrev := na } : Block).cells) J J J (fun w => build_sp 1 na lna w) (.call4 J J J J J Body25 (law16_signed 2 s2B J _ (sp_ok 1 lna) _ Dw hDw kit_seed2 cSw) (fun w h => sp_is w 1 lna) ?_)
 rintro v54 out54 ⟨Bw, hw1, rfl, hwo⟩
 refine .callL (L := (x4.blks p ++ out54)) J J J J J Body10 (dag_add x4 hx4 p Bw Dw out54 ⟨hw1, hwo⟩ oM) (sg_two (by repeat (first | exact Cm | apply sg_seg)) sG) (B6 J) (fun w h => Lent.of h (sg_two (by repeat (first | exact Cm | apply sg_seg)) sG)) ?_
 rintro v55 out55 ⟨x5, ⟨p55, n55, c55⟩, bl55, rfl, rfl, hx5, hac55, h3255, hplx5, hnx5⟩
 rw [hplx4, ad5] at hac55 h3255 hplx5 ⊢
 simp only [List.append_assoc] at hac55 h3255 hplx5 ⊢
 obtain rfl : n55 = 0 := hac55.num
 refine G10 ?_
 refine .mkRow (z := u8 0) [u8 111, u8 116, u8 104, u8 101, u8 114] (Aa otherB) J J J Y27.h Sz5 Zr5 J J (by intro v hv; simp only [List.mem_cons, List.not_mem_nil, or_false] at hv; rcases hv with rfl | rfl | rfl | rfl | rfl <;> rfl) dE J ?_
 intro q60
 refine .constB J J J J Y27.h Y5.h Z0 ?_
 refine .build (cs := (bo5 q60).cells) J J J (fun w => by kernel_rfl) ?_
 refine .call4 J J J J J Body25 (law16_signed 1 seB J (bo5 q60) (bo5_ok q60) _ Do hDo kit_seed1 cSo) (fun w h => bo5_is (Ar h Z0)) ?_
 rintro v63 out63 ⟨Bo, ho1, rfl, hoo⟩
 refine .callL (L := (x5.blks p ++ out63)) J J J J J Body10 (dag_add x5 hx5 p Bo Do out63 ⟨ho1, hoo⟩ oM) (sg_two sG sG) (B6 J) (fun w h => Lent.of h (sg_two sG sG)) ?_
 rintro v64 out64 ⟨x6, ⟨p64, n64, c64⟩, bl64, rfl, rfl, hx6, hac64, h3264, hplx6, hnx6⟩
 rw [hplx5, ad6] at hac64 h3264 hplx6 ⊢
 simp only [List.append_assoc] at hac64 h3264 hplx6 ⊢
 obtain rfl : n64 = 1 := hac64.num
 refine G9 ?_
 have hck6 : ∀ q ∈ x6.P, q.2.check = 0 := by rw [show x6.P = x6.pl.P from rfl, hplx6]; exact hck2
 have horp6 : x6.orp = [] := List.eq_nil_of_length_eq_zero (by have h9 := ho2; rw [← hplx6] at h9; unfold DD.pl at h9; simpa using h9)
 obtain ⟨r6, hgw6, hks6⟩ := pl_get (x := x6) (by rw [hplx6]; exact hw2)
 obtain ⟨ea6, hga6⟩ := pl_ent (x := x6) (by rw [hplx6]; exact hga2)
 obtain ⟨eo6, hgo6⟩ := pl_ent (x := x6) (by rw [hplx6]; exact hgo2)
 refine G1 ?_
 refine .idxArr 131 J J J J Y50 Sz31 1 J dE (.lN (Bb.cells) J J J Y31.h J Sz31 mR (tri_1 ha.ok hb.ok) (Block.length hb.ok) ?_)
 refine .cV J J J J Body26 (cNb) (fun w h => (hch w (Lies.of h (by repeat (first | exact Bf | refine Bp ?_ | refine in_seg ?_)))).2.1) ?_
 refine .call4 J J J J J Body11 (dag_get x6 hx6 hck6 p nb lnb) (fun w h => Lies.of h (by repeat (exact Bf))) ?_
 rintro v72 out72 (⟨h0, rfl, rfl⟩ | ⟨D9, B9, hD9, _⟩)
 rotate_left
 · exfalso; rw [hplx6, hgb] at hD9; cases hD9
 refine G3 ?_
 refine .alloc (cs := Block.zero.cells) J Block.zr J ?_
 intro n14 hn14 hf14
 refine G7 ?_
 refine .build (cs := Aa (List.replicate 32 0)) J J J (fun w => by kernel_rfl) ?_
 refine .mkRow (z := agg (Aa (List.replicate 32 0))) [agg (Aa (List.replicate 32 0))] (Aa (List.replicate 32 0)) J J J Y26.h Sz25 Zr25 J J (by intro v hv; rw [List.mem_singleton.1 hv]; simp [Value.cells, Aa]) dE (by simp [Value.cells, agg]) ?_
 intro q78
 refine .call4 J J J J J Body12 (dag_closure x6 hx6 (fun q hq => (ck_small (hck6 q hq)).1) p ⟨some ⟨q78, 0, none⟩, 1, 1⟩ [List.replicate 32 0] (by show 1 ≤ 90000; omega)) (fun w h => ⟨Lies.of h (by repeat (first | exact Bf | refine Bp ?_)), row_one J (Ar h Z0)⟩) ?_
 rintro v79 out79 (⟨_, rfl, rfl⟩ | ⟨hall, _⟩)
 rotate_left
 · exfalso; have h9 := hall _ List.mem_cons_self; rw [hplx6, hgz] at h9; cases h9
 refine G9 ?_
 refine .cV J J J J Body8 (law16_lives) tV (G2 ?_)
 refine .eqi J J J J (decide_eq_true (rfl)) (G3 ?_)
 refine .eqi J J J J (decide_eq_true (rfl)) (G3 ?_)
 refine .eqi J J J J (decide_eq_true (rfl)) (G3 ?_)
 refine .eqi J J J J (decide_eq_true (rfl)) (G3 ?_)
 refine .eqi J J J J (decide_eq_true (rfl)) (G3 ?_)
 refine .call4 J J J J J Body18 (dag_forks x6 hx6 p (pl_ne (by rw [hplx6]; exact hp2)) (by rw [forkN_pl, hplx6, hp2]; rfl)) (fun w h => Lies.of h (by repeat (first | exact Bf | refine Bp ?_))) ?_
 rintro v105 out105 ⟨⟨p105, n105, c105⟩, rfl, hn105⟩
 obtain rfl : n105 = 1 := hn105
 refine G1 ?_
 refine .eqi J J J J (decide_eq_true (rfl)) (G3 ?_)
 refine .call4 J J J J J Body15 (dag_heads x6 hx6 p) (fun w h => Lies.of h (by repeat (first | exact Bf | refine Bp ?_ | refine in_seg ?_))) ?_
 rintro v111 out111 ⟨⟨p111, n111, c111⟩, rfl, hac111⟩
 obtain rfl : n111 = 2 := by have h9 := hac111.num; rw [heads_len, hplx6, hh2] at h9; exact h9
 refine G1 ?_
 refine .eqi J J J J (decide_eq_true (rfl)) (G3 ?_)
 refine .eqi J J J J (decide_eq_true (rfl)) (G3 ?_)
 refine .eqi J J J J (decide_eq_true (rfl)) (G3 ?_)
 refine .callL (L := (x6.blks p)) J J J J J Body21 (dag_drop x6 hx6 p) sG (B6 J) (fun w h => Lent.of h sG) ?_
 rintro v125 out125 ⟨rfl, rfl⟩
 rw [drop_same x6 horp6, show x6.orp.length = 0 by rw [horp6]; rfl]
 refine .eqi J J J J (decide_eq_true (rfl)) (G3 ?_)
 refine .idxArr 131 J J J J Y50 Sz31 0 J dE (G1 ?_)
 refine .lN (Aa Ba.fWriter) J J J Y23.h J Sz23 mR (tri_w ha.ok) (by rw [Aa, List.length_map]; exact ha.ok.l_fWriter) ?_
 refine .call4 J J J J J Body19 (dag_of x6 hx6 p Ba.fWriter ha.ok.l_fWriter r6 (by rw [ha.w]; exact hgw6) na no hks6 ea6 eo6 hga6 hgo6) (fun w h => Lies.of h (by repeat (exact Bf))) ?_
 rintro v133 out133 ⟨⟨p133, n133, c133⟩, rfl, hn133⟩
 obtain rfl : n133 = 2 := hn133
 refine G1 ?_
 refine .eqi J J J J (decide_eq_true (rfl)) (G6 ?_)
 -- ret
 refine G2 ?_
 refine Az (out := []) (Al J J) Ak ?_
 exact ⟨rfl, rfl⟩

end Go.Proofs.YtfcbgdkpagcbbaaGreat
end

section
namespace Go.Proofs.YtfcbgdkpagcbbaaGreat
open Go Go.ChangeShapes Go.WideShapes Go.ChangeAt Go.RowKit

theorem ownDNams : ownKnob Tryz.prog.godebug = none := by kernel_rfl
theorem walkDNam (w : World) : Calls Tryz.prog 4 #[] w fun e w' => e = .returned (.bool true) ∧ Below w.heap.size w w' :=
  (law_dagnames w trivial).mono fun e w' ⟨v, out, he, ⟨hv, ho⟩, hr⟩ => ⟨by rw [he, hv], Hw.Keeps.below hr.keeps⟩

theorem liftedDNam (os : Os) (started : os.Started) (H : Type) (enc : TypeId × Value → H) :
    ReturnsInHanded {} Tryz.checked os 4 .any (Rows.dagNamesSpec.pre6 enc Tryz.prog Tryz.f4 Rows.dagNamesRow.domain false) (Rows.dagNamesSpec.post enc Tryz.prog Tryz.f4 false true false false) := by
  refine returnsInHanded_of_change (C := Tryz.checked) ownDNams started (by kernel_rfl) Tryz.func4
    (ChangeSpec.witness6 (enc := enc) (C := Tryz.checked) false ⟨#[], #[], []⟩ 8 (by kernel_rfl) (by kernel_rfl) (by kernel_rfl) (by kernel_rfl)) ?_
  intro W base args ds gs before hval0 hW hcnd _
  have hW' := hW
  obtain ⟨p, q, hA0, hV, rfl, hfz, hnd⟩ := hW
  have hA : DataW.TrodAll enc Tryz.prog W 0 (fun _ => true) true Tryz.f4.params.toList args.toList ds p := hA0
  rw [Tryz.params4] at hA
  obtain ⟨hargs, rfl, rfl⟩ := trodAll_nil hA
  obtain rfl : args = #[] := by cases args; simp_all
  obtain ⟨rfl, rfl⟩ := trodVars_none hV
  clear hA0 hval0
  refine (walkDNam W).mono fun e W' ⟨he, bel⟩ => ?_
  subst he
  exact ⟨_, rfl, _, _, _, [], _, [], hW', trodAll_mk1 (shut_bool Tryz.underlying4 _), trodAll_mk0, rfl, bel.frame _, fun h => by cases h⟩

theorem dagNames_holds : Rows.DagNamesSaid :=
  OpenClaim.holds_of_wide 4 Tryz.f4 rfl rfl rfl rfl rfl rfl rfl ⟨rfl, rfl, rfl, rfl, rfl⟩ rfl rfl rfl rfl rfl (by kernel_rfl) Tryz.func4 (by kernel_rfl)
    (of_decide_eq_true (by kernel_rfl)) (by unfold Func.isWrapper; first | (rw [if_pos (by decide +kernel)]; kernel_rfl) | (rw [if_neg (by decide +kernel)]; exact ⟨rfl, rfl⟩))
    (fun os started H enc _ => liftedDNam os started H enc)

end Go.Proofs.YtfcbgdkpagcbbaaGreat
end
