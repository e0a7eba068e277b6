/- KeepNames returns true at every start, and leaves all old memory as it was. Conditions: none beyond the given statement's own. -/
import Derived.WalkKit
import Derived.Orders
import Derived.Deep.LoopGhost
import Derived.IntWalk
import Derived.Laws.StructEq
import Derived.ArgAppend
import Derived.Deep.AppendSrc
import Derived.Lib.Bytealg
import Derived.Lib.BytesEntry
import Derived.Laws.IdiomStrings
import Derived.WideKeyArr2
import Derived.ProofKit
import Derived.OpenShut
import Derived.Deep.Slices
import Derived.Laws.Pointers
import Derived.Laws.Cover3
import Derived.LaidEqlPtr
import Derived.LoopN
import Derived.RangeFuncLeaves
import Derived.RangeFuncSeq
import Derived.OrdersIn
import Derived.Test.YtkfhpmidcbmofaaGreatRows
import Derived.KernelRfl
import Derived.Laws.Externs
import Derived.Defers
import Derived.ChangeOld
import Derived.Below
import Derived.Test.YtkfhpmidcbmofaaGreatKNmC3
set_option maxRecDepth 100000
set_option maxHeartbeats 8000000
set_option linter.unusedVariables false
set_option linter.unusedSimpArgs false
section
namespace Go.Proofs.YtkfhpmidcbmofaaGreat
open Go Hw

def drecz : DRecord := ⟨0, []⟩
def recOf (K : UInt8) (bs : List UInt8) (chk : Int) : DRecord × Int := if chk = 0 then (if (⟨K, bs⟩ : DRecord).check = 0 then (⟨K, bs⟩, 0) else (drecz, 2)) else (drecz, chk)
def RecMade (K : UInt8) (bs : List UInt8) (chk : Int) (v : Value) (out : List Blk) : Prop := ∃ X : Record, X.ok ∧ v = .tuple #[agg X.cells, i64 (recOf K bs chk).2] ∧ X.fKind = (recOf K bs chk).1.dKind ∧ ∀ W2, Lies out W2 → RecordIs W2 X (recOf K bs chk).1
theorem recz_is (W : World) : RecordIs W Record.zero drecz := ⟨Record.zero_ok, rfl, ⟨rfl, Nat.le_refl _, SeesP.nil, by decide, fun _ => rfl⟩⟩
theorem rec_bad1 {K : UInt8} {bs : List UInt8} {chk : Int} {out : List Blk} (h : ¬ chk = 0) : RecMade K bs chk (.tuple #[agg Record.zero.cells, i64 chk]) out := by
  have e : recOf K bs chk = (drecz, chk) := if_neg h
  refine ⟨Record.zero, Record.zero_ok, ?_, ?_, fun W2 _ => ?_⟩ <;> rw [e]
  · rfl
  · exact recz_is W2
theorem rec_bad2 {K : UInt8} {bs : List UInt8} {chk : Int} {out : List Blk} (h : chk = 0) (h2 : ¬ (⟨K, bs⟩ : DRecord).check = 0) : RecMade K bs chk (.tuple #[agg Record.zero.cells, i64 2]) out := by
  have e : recOf K bs chk = (drecz, 2) := by rw [recOf, if_pos h, if_neg h2]
  refine ⟨Record.zero, Record.zero_ok, ?_, ?_, fun W2 _ => ?_⟩ <;> rw [e]
  · rfl
  · exact recz_is W2
theorem rec_ok {K : UInt8} {bs : List UInt8} {chk : Int} {out : List Blk} {s : Sl} {E : TypeId} (h : chk = 0) (h2 : (⟨K, bs⟩ : DRecord).check = 0) (ha : Hw.Acc s out (Ab bs) E bs.length 1) (hm : bs.length ≤ 1000000) : RecMade K bs chk (.tuple #[agg (⟨K, s⟩ : Record).cells, i64 0]) out := by
  have e : recOf K bs chk = (⟨K, bs⟩, 0) := by rw [recOf, if_pos h, if_pos h2]
  refine ⟨⟨K, s⟩, ⟨trivial⟩, ?_, ?_, fun W2 hl => ?_⟩ <;> rw [e]
  exact ⟨⟨trivial⟩, rfl, acc_bytes ha hl rfl hm⟩

theorem rec_of_vote (K : UInt8) (X : Vote) (D : Vote) (hsz : (Ba D).length ≤ 40000) : Meets Tryz.prog 27 [u8 K, agg X.cells, .func (.func 28) #[] #[]] [] (fun W => VoteIs W X D) (RecMade K (Ba D) (Bk D)) := by
 intro W hW
 obtain rfl : D = X := hW.eq.symm
 refine Aj Tryz.func27 rfl 29 Tryz.ntmps27 rfl ?_
 refine Sat.seq (Sat.region ?_)
 refine Tr.boxA rfl rfl ?_
 intro n4 hn4 hf4
 refine Tr.alloc (cs := Record.zero.cells) rfl Record.zr rfl ?_
 intro n6 hn6 hf6
 refine Tr.a rfl rfl rfl ?_
 refine Tr.nil (Aa (Sat.seq (Sat.region ?_)))
 refine Tr.m rfl rfl rfl ?_
 refine Tr.lA rfl rfl rfl U29 rfl Bf mM (Vote.length (by first | exact oK  | exact hW.ok | exact ⟨trivial⟩)) ?_
 refine Tr.call4 rfl rfl rfl rfl rfl Body28 (vote_bytes D hW.ok) (fun w h => trivial) ?_
 rintro v14 out14 ⟨s14, rfl, hac14⟩
 have hnm := hac14.num
 refine Tr.m rfl rfl rfl ?_
 refine Tr.eX rfl rfl rfl rfl ?_
 refine Tr.eX rfl rfl rfl rfl ?_
 refine Tr.a rfl rfl rfl ?_
 refine Tr.a rfl rfl rfl ?_
 refine Tr.nil (Aa (Sat.seq (Sat.seq (Sat.region ?_))))
 refine Tr.m rfl rfl rfl ?_
 refine Tr.nei rfl rfl rfl rfl rfl ?_
 refine Tr.nil (Aa ?_)
 first
  | refine Sat.condP rfl (fun hc0 => ?_) (fun hc0 => ?_)
  | refine Sat.condNP rfl (fun hc0 => ?_) (fun hc0 => ?_)
  | refine Sat.cond rfl (fun hc0 => ?_) (fun hc0 => ?_)
 ·
  refine Sat.seq (Sat.region ?_)
  refine Tr.build (cs := Record.zero.cells) rfl rfl rfl (fun w => by kernel_rfl) ?_
  refine Tr.m rfl rfl rfl ?_
  refine Tr.sA rfl rfl rfl rfl (Record.isCell (by first | exact oK  | exact hW.ok | exact ⟨trivial⟩)) Sz32 (Record.length (by first | exact oK  | exact hW.ok | exact ⟨trivial⟩)) mM (Record.length (by first | exact oK  | exact hW.ok | exact ⟨trivial⟩)) uU ?_
  refine Tr.a rfl rfl rfl ?_
  refine Tr.nil (Aa (Sat.ret (As (Ak ?_))))
  refine Al (out := []) (Aq rfl rfl rfl U32 rfl Sz32 mM (by first | (simp; done) | exact Record.length (by first | exact oK  | exact hW.ok | exact ⟨trivial⟩))) Ag ?_
  exact rec_bad1 oM
 ·
  refine Sat.skip (Aa (Sat.seq (Sat.region ?_)))
  refine Tr.m rfl rfl rfl ?_
  refine Tr.m rfl rfl rfl ?_
  refine Tr.build (cs := (⟨K, s14⟩ : Record).cells) rfl rfl rfl (fun w => by kernel_rfl) ?_
  refine Tr.alloc (cs := Record.zero.cells) rfl Record.zr rfl ?_
  intro n10 hn10 hf10
  refine Tr.sA rfl rfl rfl rfl (Record.isCell (by first | exact oK  | exact hW.ok | exact ⟨trivial⟩)) Sz32 (Record.length (by first | exact oK  | exact hW.ok | exact ⟨trivial⟩)) mM (Record.length (by first | exact oK  | exact hW.ok | exact ⟨trivial⟩)) uU ?_
  refine Tr.nil (Aa (Sat.seq (Sat.seq (Sat.region ?_))))
  refine Tr.lA rfl rfl rfl U32 rfl Sz32 mM (Record.length (by first | exact oK  | exact hW.ok | exact ⟨trivial⟩)) ?_
  refine Tr.cV rfl rfl rfl rfl Body77 (record_check ⟨K, s14⟩ ⟨K, Ba D⟩) (fun w h => ⟨⟨trivial⟩, rfl, acc_bytes hac14 (Lies.of h iN) rfl oM⟩) ?_
  refine Tr.nei rfl rfl rfl rfl rfl ?_
  refine Tr.nil (Aa ?_)
  first
   | refine Sat.condP rfl (fun hc1 => ?_) (fun hc1 => ?_)
   | refine Sat.condNP rfl (fun hc1 => ?_) (fun hc1 => ?_)
   | refine Sat.cond rfl (fun hc1 => ?_) (fun hc1 => ?_)
  ·
   refine Sat.seq (Sat.region ?_)
   refine Tr.build (cs := Record.zero.cells) rfl rfl rfl (fun w => by kernel_rfl) ?_
   refine Tr.sA rfl rfl rfl rfl (Record.isCell (by first | exact oK  | exact hW.ok | exact ⟨trivial⟩)) Sz32 (Record.length (by first | exact oK  | exact hW.ok | exact ⟨trivial⟩)) mM (Record.length (by first | exact oK  | exact hW.ok | exact ⟨trivial⟩)) uU ?_
   refine Tr.a rfl rfl rfl ?_
   refine Tr.nil (Aa (Sat.ret (As (Ak ?_))))
   refine Al (out := []) (Aq rfl rfl rfl U32 rfl Sz32 mM (by first | (simp; done) | exact Record.length (by first | exact oK  | exact hW.ok | exact ⟨trivial⟩))) Ag ?_
   exact rec_bad2 oM oM
  ·
   refine Sat.skip (Aa (Sat.seq (Sat.region ?_)))
   refine Tr.lA rfl rfl rfl U32 rfl Sz32 mM (Record.length (by first | exact oK  | exact hW.ok | exact ⟨trivial⟩)) ?_
   refine Tr.sA rfl rfl rfl rfl (Record.isCell (by first | exact oK  | exact hW.ok | exact ⟨trivial⟩)) Sz32 (Record.length (by first | exact oK  | exact hW.ok | exact ⟨trivial⟩)) mM (Record.length (by first | exact oK  | exact hW.ok | exact ⟨trivial⟩)) uU ?_
   refine Tr.a rfl rfl rfl ?_
   refine Tr.nil (Aa (Sat.ret (Ak ?_)))
   refine Al (out := (out14 ++ [])) (Aq rfl rfl rfl U32 rfl Sz32 mM (by first | (simp; done) | exact Record.length (by first | exact oK  | exact hW.ok | exact ⟨trivial⟩))) (Ac sG Ag) ?_
   rw [List.append_nil]; exact rec_ok oM oM hac14 oM

theorem rec_of_cut (K : UInt8) (X : Cut) (D : DCut) (hsz : (cutR D).length ≤ 40000) : Meets Tryz.prog 29 [u8 K, agg X.cells, .func (.func 30) #[] #[]] [] (fun W => CutIs W X D) (RecMade K (cutR D) (D.check)) := by
 intro W hW
 have hok := hW.ok
 refine Aj Tryz.func29 rfl 29 Tryz.ntmps29 rfl ?_
 refine Sat.seq (Sat.region ?_)
 refine Tr.boxA rfl rfl ?_
 intro n4 hn4 hf4
 refine Tr.alloc (cs := Record.zero.cells) rfl Record.zr rfl ?_
 intro n6 hn6 hf6
 refine Tr.a rfl rfl rfl ?_
 refine Tr.nil (Aa (Sat.seq (Sat.region ?_)))
 refine Tr.m rfl rfl rfl ?_
 refine Tr.lA rfl rfl rfl U39 rfl Sz39 mM (Cut.length (by first | exact oK  | exact hW.ok | exact ⟨trivial⟩)) ?_
 refine Tr.call4 rfl rfl rfl rfl rfl Body30 (cut_bytes X D) (fun w h => hW.ext h rfl) ?_
 rintro v14 out14 ⟨s14, rfl, hac14⟩
 have hnm := hac14.num
 refine Tr.m rfl rfl rfl ?_
 refine Tr.eX rfl rfl rfl rfl ?_
 refine Tr.eX rfl rfl rfl rfl ?_
 refine Tr.a rfl rfl rfl ?_
 refine Tr.a rfl rfl rfl ?_
 refine Tr.nil (Aa (Sat.seq (Sat.seq (Sat.region ?_))))
 refine Tr.m rfl rfl rfl ?_
 refine Tr.nei rfl rfl rfl rfl rfl ?_
 refine Tr.nil (Aa ?_)
 first
  | refine Sat.condP rfl (fun hc0 => ?_) (fun hc0 => ?_)
  | refine Sat.condNP rfl (fun hc0 => ?_) (fun hc0 => ?_)
  | refine Sat.cond rfl (fun hc0 => ?_) (fun hc0 => ?_)
 ·
  refine Sat.seq (Sat.region ?_)
  refine Tr.build (cs := Record.zero.cells) rfl rfl rfl (fun w => by kernel_rfl) ?_
  refine Tr.m rfl rfl rfl ?_
  refine Tr.sA rfl rfl rfl rfl (Record.isCell (by first | exact oK  | exact hW.ok | exact ⟨trivial⟩)) Sz32 (Record.length (by first | exact oK  | exact hW.ok | exact ⟨trivial⟩)) mM (Record.length (by first | exact oK  | exact hW.ok | exact ⟨trivial⟩)) uU ?_
  refine Tr.a rfl rfl rfl ?_
  refine Tr.nil (Aa (Sat.ret (As (Ak ?_))))
  refine Al (out := []) (Aq rfl rfl rfl U32 rfl Sz32 mM (by first | (simp; done) | exact Record.length (by first | exact oK  | exact hW.ok | exact ⟨trivial⟩))) Ag ?_
  exact rec_bad1 oM
 ·
  refine Sat.skip (Aa (Sat.seq (Sat.region ?_)))
  refine Tr.m rfl rfl rfl ?_
  refine Tr.m rfl rfl rfl ?_
  refine Tr.build (cs := (⟨K, s14⟩ : Record).cells) rfl rfl rfl (fun w => by kernel_rfl) ?_
  refine Tr.alloc (cs := Record.zero.cells) rfl Record.zr rfl ?_
  intro n10 hn10 hf10
  refine Tr.sA rfl rfl rfl rfl (Record.isCell (by first | exact oK  | exact hW.ok | exact ⟨trivial⟩)) Sz32 (Record.length (by first | exact oK  | exact hW.ok | exact ⟨trivial⟩)) mM (Record.length (by first | exact oK  | exact hW.ok | exact ⟨trivial⟩)) uU ?_
  refine Tr.nil (Aa (Sat.seq (Sat.seq (Sat.region ?_))))
  refine Tr.lA rfl rfl rfl U32 rfl Sz32 mM (Record.length (by first | exact oK  | exact hW.ok | exact ⟨trivial⟩)) ?_
  refine Tr.cV rfl rfl rfl rfl Body77 (record_check ⟨K, s14⟩ ⟨K, cutR D⟩) (fun w h => ⟨⟨trivial⟩, rfl, acc_bytes hac14 (Lies.of h iN) rfl oM⟩) ?_
  refine Tr.nei rfl rfl rfl rfl rfl ?_
  refine Tr.nil (Aa ?_)
  first
   | refine Sat.condP rfl (fun hc1 => ?_) (fun hc1 => ?_)
   | refine Sat.condNP rfl (fun hc1 => ?_) (fun hc1 => ?_)
   | refine Sat.cond rfl (fun hc1 => ?_) (fun hc1 => ?_)
  ·
   refine Sat.seq (Sat.region ?_)
   refine Tr.build (cs := Record.zero.cells) rfl rfl rfl (fun w => by kernel_rfl) ?_
   refine Tr.sA rfl rfl rfl rfl (Record.isCell (by first | exact oK  | exact hW.ok | exact ⟨trivial⟩)) Sz32 (Record.length (by first | exact oK  | exact hW.ok | exact ⟨trivial⟩)) mM (Record.length (by first | exact oK  | exact hW.ok | exact ⟨trivial⟩)) uU ?_
   refine Tr.a rfl rfl rfl ?_
   refine Tr.nil (Aa (Sat.ret (As (Ak ?_))))
   refine Al (out := []) (Aq rfl rfl rfl U32 rfl Sz32 mM (by first | (simp; done) | exact Record.length (by first | exact oK  | exact hW.ok | exact ⟨trivial⟩))) Ag ?_
   exact rec_bad2 oM oM
  ·
   refine Sat.skip (Aa (Sat.seq (Sat.region ?_)))
   refine Tr.lA rfl rfl rfl U32 rfl Sz32 mM (Record.length (by first | exact oK  | exact hW.ok | exact ⟨trivial⟩)) ?_
   refine Tr.sA rfl rfl rfl rfl (Record.isCell (by first | exact oK  | exact hW.ok | exact ⟨trivial⟩)) Sz32 (Record.length (by first | exact oK  | exact hW.ok | exact ⟨trivial⟩)) mM (Record.length (by first | exact oK  | exact hW.ok | exact ⟨trivial⟩)) uU ?_
   refine Tr.a rfl rfl rfl ?_
   refine Tr.nil (Aa (Sat.ret (Ak ?_)))
   refine Al (out := (out14 ++ [])) (Aq rfl rfl rfl U32 rfl Sz32 mM (by first | (simp; done) | exact Record.length (by first | exact oK  | exact hW.ok | exact ⟨trivial⟩))) (Ac sG Ag) ?_
   rw [List.append_nil]; exact rec_ok oM oM hac14 oM

theorem rec_of_cert (K : UInt8) (X : Cert) (D : DCert) (hsz : (certBy D).length ≤ 40000) : Meets Tryz.prog 97 [u8 K, agg X.cells, .func (.func 98) #[] #[]] [] (fun W => CertIs W X D) (RecMade K (certBy D) (D.check)) := by
 intro W hW
 have hok := hW.ok
 refine Aj Tryz.func97 rfl 29 Tryz.ntmps97 rfl ?_
 refine Sat.seq (Sat.region ?_)
 refine Tr.boxA rfl rfl ?_
 intro n4 hn4 hf4
 refine Tr.alloc (cs := Record.zero.cells) rfl Record.zr rfl ?_
 intro n6 hn6 hf6
 refine Tr.a rfl rfl rfl ?_
 refine Tr.nil (Aa (Sat.seq (Sat.region ?_)))
 refine Tr.m rfl rfl rfl ?_
 refine Tr.lA rfl rfl rfl U80 rfl Sz80 mM (Cert.length (by first | exact oK  | exact hW.ok | exact ⟨trivial⟩)) ?_
 refine Tr.call4 rfl rfl rfl rfl rfl Body98 (cert_bytes X D) (fun w h => hW.ext h rfl) ?_
 rintro v14 out14 ⟨s14, rfl, hac14⟩
 have hnm := hac14.num
 refine Tr.m rfl rfl rfl ?_
 refine Tr.eX rfl rfl rfl rfl ?_
 refine Tr.eX rfl rfl rfl rfl ?_
 refine Tr.a rfl rfl rfl ?_
 refine Tr.a rfl rfl rfl ?_
 refine Tr.nil (Aa (Sat.seq (Sat.seq (Sat.region ?_))))
 refine Tr.m rfl rfl rfl ?_
 refine Tr.nei rfl rfl rfl rfl rfl ?_
 refine Tr.nil (Aa ?_)
 first
  | refine Sat.condP rfl (fun hc0 => ?_) (fun hc0 => ?_)
  | refine Sat.condNP rfl (fun hc0 => ?_) (fun hc0 => ?_)
  | refine Sat.cond rfl (fun hc0 => ?_) (fun hc0 => ?_)
 ·
  refine Sat.seq (Sat.region ?_)
  refine Tr.build (cs := Record.zero.cells) rfl rfl rfl (fun w => by kernel_rfl) ?_
  refine Tr.m rfl rfl rfl ?_
  refine Tr.sA rfl rfl rfl rfl (Record.isCell (by first | exact oK  | exact hW.ok | exact ⟨trivial⟩)) Sz32 (Record.length (by first | exact oK  | exact hW.ok | exact ⟨trivial⟩)) mM (Record.length (by first | exact oK  | exact hW.ok | exact ⟨trivial⟩)) uU ?_
  refine Tr.a rfl rfl rfl ?_
  refine Tr.nil (Aa (Sat.ret (As (Ak ?_))))
  refine Al (out := []) (Aq rfl rfl rfl U32 rfl Sz32 mM (by first | (simp; done) | exact Record.length (by first | exact oK  | exact hW.ok | exact ⟨trivial⟩))) Ag ?_
  exact rec_bad1 oM
 ·
  refine Sat.skip (Aa (Sat.seq (Sat.region ?_)))
  refine Tr.m rfl rfl rfl ?_
  refine Tr.m rfl rfl rfl ?_
  refine Tr.build (cs := (⟨K, s14⟩ : Record).cells) rfl rfl rfl (fun w => by kernel_rfl) ?_
  refine Tr.alloc (cs := Record.zero.cells) rfl Record.zr rfl ?_
  intro n10 hn10 hf10
  refine Tr.sA rfl rfl rfl rfl (Record.isCell (by first | exact oK  | exact hW.ok | exact ⟨trivial⟩)) Sz32 (Record.length (by first | exact oK  | exact hW.ok | exact ⟨trivial⟩)) mM (Record.length (by first | exact oK  | exact hW.ok | exact ⟨trivial⟩)) uU ?_
  refine Tr.nil (Aa (Sat.seq (Sat.seq (Sat.region ?_))))
  refine Tr.lA rfl rfl rfl U32 rfl Sz32 mM (Record.length (by first | exact oK  | exact hW.ok | exact ⟨trivial⟩)) ?_
  refine Tr.cV rfl rfl rfl rfl Body77 (record_check ⟨K, s14⟩ ⟨K, certBy D⟩) (fun w h => ⟨⟨trivial⟩, rfl, acc_bytes hac14 (Lies.of h iN) rfl oM⟩) ?_
  refine Tr.nei rfl rfl rfl rfl rfl ?_
  refine Tr.nil (Aa ?_)
  first
   | refine Sat.condP rfl (fun hc1 => ?_) (fun hc1 => ?_)
   | refine Sat.condNP rfl (fun hc1 => ?_) (fun hc1 => ?_)
   | refine Sat.cond rfl (fun hc1 => ?_) (fun hc1 => ?_)
  ·
   refine Sat.seq (Sat.region ?_)
   refine Tr.build (cs := Record.zero.cells) rfl rfl rfl (fun w => by kernel_rfl) ?_
   refine Tr.sA rfl rfl rfl rfl (Record.isCell (by first | exact oK  | exact hW.ok | exact ⟨trivial⟩)) Sz32 (Record.length (by first | exact oK  | exact hW.ok | exact ⟨trivial⟩)) mM (Record.length (by first | exact oK  | exact hW.ok | exact ⟨trivial⟩)) uU ?_
   refine Tr.a rfl rfl rfl ?_
   refine Tr.nil (Aa (Sat.ret (As (Ak ?_))))
   refine Al (out := []) (Aq rfl rfl rfl U32 rfl Sz32 mM (by first | (simp; done) | exact Record.length (by first | exact oK  | exact hW.ok | exact ⟨trivial⟩))) Ag ?_
   exact rec_bad2 oM oM
  ·
   refine Sat.skip (Aa (Sat.seq (Sat.region ?_)))
   refine Tr.lA rfl rfl rfl U32 rfl Sz32 mM (Record.length (by first | exact oK  | exact hW.ok | exact ⟨trivial⟩)) ?_
   refine Tr.sA rfl rfl rfl rfl (Record.isCell (by first | exact oK  | exact hW.ok | exact ⟨trivial⟩)) Sz32 (Record.length (by first | exact oK  | exact hW.ok | exact ⟨trivial⟩)) mM (Record.length (by first | exact oK  | exact hW.ok | exact ⟨trivial⟩)) uU ?_
   refine Tr.a rfl rfl rfl ?_
   refine Tr.nil (Aa (Sat.ret (Ak ?_)))
   refine Al (out := (out14 ++ [])) (Aq rfl rfl rfl U32 rfl Sz32 mM (by first | (simp; done) | exact Record.length (by first | exact oK  | exact hW.ok | exact ⟨trivial⟩))) (Ac sG Ag) ?_
   rw [List.append_nil]; exact rec_ok oM oM hac14 oM

def blockBy (D : DB) : List UInt8 := if D.check = 0 then D.bytes else []
theorem block_bytes (X : Block) (D : DB) : Meets Tryz.prog 44 [agg X.cells] [] (fun W => BlockIs W X D) (fun v out => ∃ s : Sl, v = .tuple #[s.v, i64 D.check] ∧ Hw.Acc s out (Ab (blockBy D)) 5 (blockBy D).length 1) := by
  intro W hW
  have hbc : bcheck X D.ls = D.check := hW.check
  by_cases hc : D.check = 0
  · refine (bytes_ok X hW.ok D.ls D.ds (by rw [hbc]; exact hc) W ⟨hW.ls, hW.ds⟩).mono fun e W' ⟨v, out, h1, h2, h4⟩ => ⟨v, out, h1, ?_, h4⟩
    clear h1 h4
    obtain ⟨q, c, N, hN, hN2, rfl, hNc, rfl⟩ := h2
    have e : bytesB X D.ls D.ds = blockBy D := by rw [blockBy, if_pos hc]; exact hW.bytes
    rw [e] at hN ⊢
    subst hN
    exact ⟨⟨some ⟨q, 0, none⟩, (blockBy D).length, c⟩, by rw [hc]; rfl, .inr ⟨q, c, rfl, hNc, by simp [Ab], rfl⟩⟩
  · refine (bytes_bad X hW.ok D.ls D.ds (by rw [hbc]; exact hc) W ⟨hW.ls, hW.ds⟩).mono fun e W' ⟨v, out, h1, h2, h4⟩ => ⟨v, out, h1, ?_, h4⟩
    clear h1 h4
    obtain ⟨rfl, rfl⟩ := h2
    rw [blockBy, if_neg hc, hbc]
    exact ⟨Sl.nil, rfl, .inl ⟨rfl, rfl, rfl, rfl⟩⟩

theorem rec_of_block (K : UInt8) (X : Block) (D : DB) (hsz : (blockBy D).length ≤ 40000) : Meets Tryz.prog 43 [u8 K, agg X.cells, .func (.func 44) #[] #[]] [] (fun W => BlockIs W X D) (RecMade K (blockBy D) (D.check)) := by
 intro W hW
 have hok := hW.ok
 refine Aj Tryz.func43 rfl 29 Tryz.ntmps43 rfl ?_
 refine Sat.seq (Sat.region ?_)
 refine Tr.boxA rfl rfl ?_
 intro n4 hn4 hf4
 refine Tr.alloc (cs := Record.zero.cells) rfl Record.zr rfl ?_
 intro n6 hn6 hf6
 refine Tr.a rfl rfl rfl ?_
 refine Tr.nil (Aa (Sat.seq (Sat.region ?_)))
 refine Tr.m rfl rfl rfl ?_
 refine Tr.lA rfl rfl rfl U52 rfl Sz52 mM (Block.length (by first | exact oK  | exact hW.ok | exact ⟨trivial⟩)) ?_
 refine Tr.call4 rfl rfl rfl rfl rfl Body44 (block_bytes X D) (fun w h => hW.ext h rfl) ?_
 rintro v14 out14 ⟨s14, rfl, hac14⟩
 have hnm := hac14.num
 refine Tr.m rfl rfl rfl ?_
 refine Tr.eX rfl rfl rfl rfl ?_
 refine Tr.eX rfl rfl rfl rfl ?_
 refine Tr.a rfl rfl rfl ?_
 refine Tr.a rfl rfl rfl ?_
 refine Tr.nil (Aa (Sat.seq (Sat.seq (Sat.region ?_))))
 refine Tr.m rfl rfl rfl ?_
 refine Tr.nei rfl rfl rfl rfl rfl ?_
 refine Tr.nil (Aa ?_)
 first
  | refine Sat.condP rfl (fun hc0 => ?_) (fun hc0 => ?_)
  | refine Sat.condNP rfl (fun hc0 => ?_) (fun hc0 => ?_)
  | refine Sat.cond rfl (fun hc0 => ?_) (fun hc0 => ?_)
 ·
  refine Sat.seq (Sat.region ?_)
  refine Tr.build (cs := Record.zero.cells) rfl rfl rfl (fun w => by kernel_rfl) ?_
  refine Tr.m rfl rfl rfl ?_
  refine Tr.sA rfl rfl rfl rfl (Record.isCell (by first | exact oK  | exact hW.ok | exact ⟨trivial⟩)) Sz32 (Record.length (by first | exact oK  | exact hW.ok | exact ⟨trivial⟩)) mM (Record.length (by first | exact oK  | exact hW.ok | exact ⟨trivial⟩)) uU ?_
  refine Tr.a rfl rfl rfl ?_
  refine Tr.nil (Aa (Sat.ret (As (Ak ?_))))
  refine Al (out := []) (Aq rfl rfl rfl U32 rfl Sz32 mM (by first | (simp; done) | exact Record.length (by first | exact oK  | exact hW.ok | exact ⟨trivial⟩))) Ag ?_
  exact rec_bad1 oM
 ·
  refine Sat.skip (Aa (Sat.seq (Sat.region ?_)))
  refine Tr.m rfl rfl rfl ?_
  refine Tr.m rfl rfl rfl ?_
  refine Tr.build (cs := (⟨K, s14⟩ : Record).cells) rfl rfl rfl (fun w => by kernel_rfl) ?_
  refine Tr.alloc (cs := Record.zero.cells) rfl Record.zr rfl ?_
  intro n10 hn10 hf10
  refine Tr.sA rfl rfl rfl rfl (Record.isCell (by first | exact oK  | exact hW.ok | exact ⟨trivial⟩)) Sz32 (Record.length (by first | exact oK  | exact hW.ok | exact ⟨trivial⟩)) mM (Record.length (by first | exact oK  | exact hW.ok | exact ⟨trivial⟩)) uU ?_
  refine Tr.nil (Aa (Sat.seq (Sat.seq (Sat.region ?_))))
  refine Tr.lA rfl rfl rfl U32 rfl Sz32 mM (Record.length (by first | exact oK  | exact hW.ok | exact ⟨trivial⟩)) ?_
  refine Tr.cV rfl rfl rfl rfl Body77 (record_check ⟨K, s14⟩ ⟨K, blockBy D⟩) (fun w h => ⟨⟨trivial⟩, rfl, acc_bytes hac14 (Lies.of h iN) rfl oM⟩) ?_
  refine Tr.nei rfl rfl rfl rfl rfl ?_
  refine Tr.nil (Aa ?_)
  first
   | refine Sat.condP rfl (fun hc1 => ?_) (fun hc1 => ?_)
   | refine Sat.condNP rfl (fun hc1 => ?_) (fun hc1 => ?_)
   | refine Sat.cond rfl (fun hc1 => ?_) (fun hc1 => ?_)
  ·
   refine Sat.seq (Sat.region ?_)
   refine Tr.build (cs := Record.zero.cells) rfl rfl rfl (fun w => by kernel_rfl) ?_
   refine Tr.sA rfl rfl rfl rfl (Record.isCell (by first | exact oK  | exact hW.ok | exact ⟨trivial⟩)) Sz32 (Record.length (by first | exact oK  | exact hW.ok | exact ⟨trivial⟩)) mM (Record.length (by first | exact oK  | exact hW.ok | exact ⟨trivial⟩)) uU ?_
   refine Tr.a rfl rfl rfl ?_
   refine Tr.nil (Aa (Sat.ret (As (Ak ?_))))
   refine Al (out := []) (Aq rfl rfl rfl U32 rfl Sz32 mM (by first | (simp; done) | exact Record.length (by first | exact oK  | exact hW.ok | exact ⟨trivial⟩))) Ag ?_
   exact rec_bad2 oM oM
  ·
   refine Sat.skip (Aa (Sat.seq (Sat.region ?_)))
   refine Tr.lA rfl rfl rfl U32 rfl Sz32 mM (Record.length (by first | exact oK  | exact hW.ok | exact ⟨trivial⟩)) ?_
   refine Tr.sA rfl rfl rfl rfl (Record.isCell (by first | exact oK  | exact hW.ok | exact ⟨trivial⟩)) Sz32 (Record.length (by first | exact oK  | exact hW.ok | exact ⟨trivial⟩)) mM (Record.length (by first | exact oK  | exact hW.ok | exact ⟨trivial⟩)) uU ?_
   refine Tr.a rfl rfl rfl ?_
   refine Tr.nil (Aa (Sat.ret (Ak ?_)))
   refine Al (out := (out14 ++ [])) (Aq rfl rfl rfl U32 rfl Sz32 mM (by first | (simp; done) | exact Record.length (by first | exact oK  | exact hW.ok | exact ⟨trivial⟩))) (Ac sG Ag) ?_
   rw [List.append_nil]; exact rec_ok oM oM hac14 oM

theorem keep_vote (X : Vote) (D : Vote) (hsz : (Ba D).length ≤ 40000) : Meets Tryz.prog 6 [agg X.cells] [] (fun W => VoteIs W X D) (RecMade 3 (Ba D) (Bk D)) := by
 intro W hW
 refine Aj Tryz.func6 rfl 8 Tryz.ntmps6 rfl ?_
 refine Sat.seq (Sat.region ?_)
 refine Tr.boxA rfl rfl ?_
 intro n1 hn1 hf1
 refine Tr.alloc (cs := Record.zero.cells) rfl Record.zr rfl ?_
 intro n2 hn2 hf2
 refine Tr.a rfl rfl rfl ?_
 refine Tr.nil (Aa (Sat.seq (Sat.region ?_)))
 refine Tr.lA rfl rfl rfl U29 rfl Bf mM (Vote.length (by first | exact oK  | exact hW.ok | exact okX5 | exact Record.zero_ok)) ?_
 refine Tr.call4 rfl rfl rfl rfl rfl Body27 (rec_of_vote 3 X D hsz) (fun w h => hW.ext h rfl) ?_
 rintro v5 out5 ⟨X5, okX5, rfl, kX5, hX5⟩
 refine Tr.eX rfl rfl rfl rfl ?_
 refine Tr.eX rfl rfl rfl rfl ?_
 refine Tr.sA rfl rfl rfl rfl (Record.isCell (by first | exact oK  | exact hW.ok | exact okX5 | exact Record.zero_ok)) Sz32 (Record.length (by first | exact oK  | exact hW.ok | exact okX5 | exact Record.zero_ok)) mM (Record.length (by first | exact oK  | exact hW.ok | exact okX5 | exact Record.zero_ok)) uU ?_
 refine Tr.a rfl rfl rfl ?_
 refine Tr.nil (Aa (Sat.ret (Ak ?_)))
 refine Al (out := (out5 ++ [])) (Aq rfl rfl rfl U32 rfl Sz32 mM (by first | (simp; done) | exact Record.length (by first | exact oK  | exact hW.ok | exact okX5 | exact Record.zero_ok))) (Ac sG Ag) ?_
 rw [List.append_nil]; exact ⟨X5, okX5, rfl, kX5, hX5⟩

theorem keep_cut (X : Cut) (D : DCut) (hsz : (cutR D).length ≤ 40000) : Meets Tryz.prog 7 [agg X.cells] [] (fun W => CutIs W X D) (RecMade 4 (cutR D) (D.check)) := by
 intro W hW
 refine Aj Tryz.func7 rfl 8 Tryz.ntmps7 rfl ?_
 refine Sat.seq (Sat.region ?_)
 refine Tr.boxA rfl rfl ?_
 intro n1 hn1 hf1
 refine Tr.alloc (cs := Record.zero.cells) rfl Record.zr rfl ?_
 intro n2 hn2 hf2
 refine Tr.a rfl rfl rfl ?_
 refine Tr.nil (Aa (Sat.seq (Sat.region ?_)))
 refine Tr.lA rfl rfl rfl U39 rfl Sz39 mM (Cut.length (by first | exact oK  | exact hW.ok | exact okX5 | exact Record.zero_ok)) ?_
 refine Tr.call4 rfl rfl rfl rfl rfl Body29 (rec_of_cut 4 X D hsz) (fun w h => hW.ext h rfl) ?_
 rintro v5 out5 ⟨X5, okX5, rfl, kX5, hX5⟩
 refine Tr.eX rfl rfl rfl rfl ?_
 refine Tr.eX rfl rfl rfl rfl ?_
 refine Tr.sA rfl rfl rfl rfl (Record.isCell (by first | exact oK  | exact hW.ok | exact okX5 | exact Record.zero_ok)) Sz32 (Record.length (by first | exact oK  | exact hW.ok | exact okX5 | exact Record.zero_ok)) mM (Record.length (by first | exact oK  | exact hW.ok | exact okX5 | exact Record.zero_ok)) uU ?_
 refine Tr.a rfl rfl rfl ?_
 refine Tr.nil (Aa (Sat.ret (Ak ?_)))
 refine Al (out := (out5 ++ [])) (Aq rfl rfl rfl U32 rfl Sz32 mM (by first | (simp; done) | exact Record.length (by first | exact oK  | exact hW.ok | exact okX5 | exact Record.zero_ok))) (Ac sG Ag) ?_
 rw [List.append_nil]; exact ⟨X5, okX5, rfl, kX5, hX5⟩

theorem keep_cert (X : Cert) (D : DCert) (hsz : (certBy D).length ≤ 40000) : Meets Tryz.prog 45 [agg X.cells] [] (fun W => CertIs W X D) (RecMade 2 (certBy D) (D.check)) := by
 intro W hW
 refine Aj Tryz.func45 rfl 8 Tryz.ntmps45 rfl ?_
 refine Sat.seq (Sat.region ?_)
 refine Tr.boxA rfl rfl ?_
 intro n1 hn1 hf1
 refine Tr.alloc (cs := Record.zero.cells) rfl Record.zr rfl ?_
 intro n2 hn2 hf2
 refine Tr.a rfl rfl rfl ?_
 refine Tr.nil (Aa (Sat.seq (Sat.region ?_)))
 refine Tr.lA rfl rfl rfl U80 rfl Sz80 mM (Cert.length (by first | exact oK  | exact hW.ok | exact okX5 | exact Record.zero_ok)) ?_
 refine Tr.call4 rfl rfl rfl rfl rfl Body97 (rec_of_cert 2 X D hsz) (fun w h => hW.ext h rfl) ?_
 rintro v5 out5 ⟨X5, okX5, rfl, kX5, hX5⟩
 refine Tr.eX rfl rfl rfl rfl ?_
 refine Tr.eX rfl rfl rfl rfl ?_
 refine Tr.sA rfl rfl rfl rfl (Record.isCell (by first | exact oK  | exact hW.ok | exact okX5 | exact Record.zero_ok)) Sz32 (Record.length (by first | exact oK  | exact hW.ok | exact okX5 | exact Record.zero_ok)) mM (Record.length (by first | exact oK  | exact hW.ok | exact okX5 | exact Record.zero_ok)) uU ?_
 refine Tr.a rfl rfl rfl ?_
 refine Tr.nil (Aa (Sat.ret (Ak ?_)))
 refine Al (out := (out5 ++ [])) (Aq rfl rfl rfl U32 rfl Sz32 mM (by first | (simp; done) | exact Record.length (by first | exact oK  | exact hW.ok | exact okX5 | exact Record.zero_ok))) (Ac sG Ag) ?_
 rw [List.append_nil]; exact ⟨X5, okX5, rfl, kX5, hX5⟩

theorem keep_block (X : Block) (D : DB) (hsz : (blockBy D).length ≤ 40000) : Meets Tryz.prog 10 [agg X.cells] [] (fun W => BlockIs W X D) (RecMade 1 (blockBy D) (D.check)) := by
 intro W hW
 refine Aj Tryz.func10 rfl 8 Tryz.ntmps10 rfl ?_
 refine Sat.seq (Sat.region ?_)
 refine Tr.boxA rfl rfl ?_
 intro n1 hn1 hf1
 refine Tr.alloc (cs := Record.zero.cells) rfl Record.zr rfl ?_
 intro n2 hn2 hf2
 refine Tr.a rfl rfl rfl ?_
 refine Tr.nil (Aa (Sat.seq (Sat.region ?_)))
 refine Tr.lA rfl rfl rfl U52 rfl Sz52 mM (Block.length (by first | exact oK  | exact hW.ok | exact okX5 | exact Record.zero_ok)) ?_
 refine Tr.call4 rfl rfl rfl rfl rfl Body43 (rec_of_block 1 X D hsz) (fun w h => hW.ext h rfl) ?_
 rintro v5 out5 ⟨X5, okX5, rfl, kX5, hX5⟩
 refine Tr.eX rfl rfl rfl rfl ?_
 refine Tr.eX rfl rfl rfl rfl ?_
 refine Tr.sA rfl rfl rfl rfl (Record.isCell (by first | exact oK  | exact hW.ok | exact okX5 | exact Record.zero_ok)) Sz32 (Record.length (by first | exact oK  | exact hW.ok | exact okX5 | exact Record.zero_ok)) mM (Record.length (by first | exact oK  | exact hW.ok | exact okX5 | exact Record.zero_ok)) uU ?_
 refine Tr.a rfl rfl rfl ?_
 refine Tr.nil (Aa (Sat.ret (Ak ?_)))
 refine Al (out := (out5 ++ [])) (Aq rfl rfl rfl U32 rfl Sz32 mM (by first | (simp; done) | exact Record.length (by first | exact oK  | exact hW.ok | exact okX5 | exact Record.zero_ok))) (Ac sG Ag) ?_
 rw [List.append_nil]; exact ⟨X5, okX5, rfl, kX5, hX5⟩

end Go.Proofs.YtkfhpmidcbmofaaGreat
end

section
namespace Go.Proofs.YtkfhpmidcbmofaaGreat
open Go Hw

theorem seesP_na0 {C : Cx} {hp : List Blk} {w : World} {p : Option Addr} {xs : List UInt8} {k : Nat} (h : HRep C hp w) (hs : SeesP C.W0 p (Ab xs)) (hl : xs.length = k) (hna : 0 < k → ∀ a, p = some a → a.block ∉ C.lent) : SeesP w p (Ab xs) := fun j v hj => by
  have h1 : j < (Ab xs).length := (List.getElem?_eq_some_iff.1 hj).1
  rw [Ab, List.length_map] at h1
  exact seesP_na h hs (hna oM) j v hj
def KB (n : Nat) (K : Kept) : Blk := ⟨n, K.cells, 45, 4⟩
theorem take_hrep {P : Program} {W : World} {N n : Nat} {K : Kept} {s : Sl} {bl : List Blk} {cells : List Value} {E : TypeId} {m size : Nat} (h : Hw.Acc s bl cells E m size) (hk : BlkOk W (KB n K)) (hl : Lies bl W) (hn : ∀ b ∈ bl, b.n ≠ n) : HRep ⟨P, W, N, n :: bl.map (·.n), [], []⟩ (KB n K :: (bl ++ [])) W := by
  rw [List.append_nil]
  have h1 := Acc.hrep (P := P) (N := N) h hl
  refine ⟨fun b hb => ?_, ?_, fun b hb => ?_, Keeps.refl _ _, fun _ h => (by cases h), fun _ _ _ h => (by cases h)⟩
  · rcases List.mem_cons.1 hb with rfl | hb
    · exact hk
    · exact hl b hb
  · refine List.nodup_cons.2 ⟨fun hm => ?_, h1.nodup⟩
    obtain ⟨b, hb, e⟩ := List.mem_map.1 hm
    exact hn b hb e
  · rcases List.mem_cons.1 hb with rfl | hb
    · exact .inr List.mem_cons_self
    · exact .inr (List.mem_cons_of_mem _ (List.mem_map.2 ⟨b, hb, rfl⟩))
theorem take_vote (n : Nat) (K : Kept) (hK : K.ok) (bl : List Blk) (rs : List Vote) (m : Nat) (hac : Hw.Acc K.fVotes bl (rs.map Vote.cells).flatten 29 m 132) (hm : m ≤ 100000) (p : Option Addr) (k c : Nat) (xs : List UInt8) (hl : xs.length = k) (hp : p = none → k = 0) (hk : k ≤ 90000) : Meets Tryz.prog 35 [ptr n 2, .slice p k c, .func (.func 36) #[] #[]] (n :: bl.map (·.n)) (fun W => BlkOk W (KB n K) ∧ Lies bl W ∧ SeesP W p (Ab xs) ∧ (0 < k → ∀ a, p = some a → a.block ∉ n :: bl.map (·.n)) ∧ ∀ b ∈ bl, b.n ≠ n) (fun v out => ∃ (s2 : Sl) (bl2 : List Blk), v = .bool (decide ((A1 xs).2 = 0)) ∧ ((¬ (A1 xs).2 = 0 ∧ out = KB n K :: (bl ++ [])) ∨ ((A1 xs).2 = 0 ∧ out = KB n { K with fVotes := s2 } :: (bl2 ++ []) ∧ Hw.Acc s2 bl2 ((rs ++ [(A1 xs).1]).map Vote.cells).flatten 29 (m + 1) 132))) := by
 intro W hW
 refine A6 (hp0 := KB n K :: (bl ++ [])) Tryz.func35 rfl 25 Tryz.ntmps35 rfl (take_hrep hac hW.1 hW.2.1 hW.2.2.2.2) ?_
 refine Sat.seq (Sat.region ?_)
 refine Tr.a rfl rfl rfl ?_
 refine Tr.nil (Aa (Sat.seq (Sat.region ?_)))
 refine Tr.m rfl rfl rfl ?_
 refine Tr.m rfl rfl rfl ?_
 refine Tr.call4 rfl rfl rfl rfl rfl Body36 (vote_read p k c xs hl hp hk) (fun w h => seesP_na0 h hW.2.2.1 hl hW.2.2.2.1) ?_
 rintro v12 out12 ⟨rfl, rfl⟩
 refine Tr.m rfl rfl rfl ?_
 refine Tr.eX rfl rfl rfl rfl ?_
 refine Tr.eX rfl rfl rfl rfl ?_
 refine Tr.alloc (cs := Vote.zero.cells) rfl Vote.zr rfl ?_
 intro n7 hn7 hf7
 refine Tr.sA rfl rfl rfl rfl (Vote.isCell (by first | exact oK  | exact hK | exact A8 _)) Bf (Vote.length (by first | exact oK  | exact hK | exact A8 _)) mM (Vote.length (by first | exact oK  | exact hK | exact A8 _)) uU ?_
 refine Tr.a rfl rfl rfl ?_
 refine Tr.nil (Aa (Sat.seq (Sat.seq (Sat.region ?_))))
 refine Tr.m rfl rfl rfl ?_
 refine Tr.nei rfl rfl rfl rfl rfl ?_
 refine Tr.nil (Aa ?_)
 first
  | refine Sat.condP rfl (fun hc0 => ?_) (fun hc0 => ?_)
  | refine Sat.condNP rfl (fun hc0 => ?_) (fun hc0 => ?_)
  | refine Sat.cond rfl (fun hc0 => ?_) (fun hc0 => ?_)
 ·
  refine Sat.seq (Sat.region ?_)
  refine Tr.a rfl rfl rfl ?_
  refine Tr.nil (Aa (Sat.ret (As (Ak ?_))))
  refine Al (out := (KB n K :: (bl ++ []))) (Ae rfl rfl) (Ad rM (Ac sG Ag)) ?_
  exact ⟨Sl.nil, [], by simp; omega, .inl ⟨by omega, rfl⟩⟩
 ·
  refine Sat.skip (Aa (Sat.seq ?_))
  refine Sat.draw [(0, 0), (0, 1), (0, 2), (1, 3), (1, 4), (2, 5), (4, 6), (0, 7), (4, 8)] Bt zK ?_
  refine Tr.m rfl rfl rfl ?_
  refine Tr.m rfl rfl rfl ?_
  refine Tr.nC rfl rfl rfl ?_
  refine Tr.load1 rfl rfl rfl U42 rfl mM (Kept.get_fVotes hK) ?_
  refine Tr.lA rfl rfl rfl U29 rfl Bf mM (Vote.length (by first | exact oK  | exact hK | exact A8 _)) ?_
  refine Tr.mkRow2 (z := agg Vote.zero.cells) [agg (A1 xs).1.cells] (A1 xs).1.cells rfl rfl U42 Bf Vote.zr rfl rfl (by intro v hv; rw [List.mem_singleton.1 hv]; exact Vote.length (A8 _)) dE (by simp [Value.cells]) ?_
  intro q22
  refine Tr.appendAcc (z := agg Vote.zero.cells) (by' := 160) ((A1 xs).1.cells) rfl rfl rfl rfl rfl U42 U42 Bf Zr29 (by unfold By; kernel_rfl) rfl hac sG (fun w h => SeesP.of (Ay h mM)) (fun e => by cases e) (Vote.isCell (A8 _)) oM oM (by rw [Vote.length (A8 _)]) ?_
  intro s23 bl23 hac23
  refine Tr.nC rfl rfl rfl ?_
  refine Tr.s1 rfl rfl rfl rfl rfl Sz42 mM (by rw [Kept.length hK]; decide) (Kept.setS_fVotes hK _ _ _) uU ?_
  refine Tr.nil (Aa (Sat.seq (Sat.region ?_)))
  refine Tr.a rfl rfl rfl ?_
  refine Tr.nil (Aa (Sat.ret (Ak ?_)))
  refine Al (out := (KB n { K with fVotes := s23 } :: (bl23 ++ []))) (Ae rfl rfl) (Ad rM (Ac sG Ag)) ?_
  exact ⟨s23, bl23, by simp; omega, .inr ⟨by omega, rfl, by simpa using hac23⟩⟩

theorem take_cut (n : Nat) (K : Kept) (hK : K.ok) (bl : List Blk) (rs : List Cut) (m : Nat) (hac : Hw.Acc K.fCuts bl (rs.map Cut.cells).flatten 39 m 34) (hm : m ≤ 100000) (p : Option Addr) (k c : Nat) (xs : List UInt8) (hl : xs.length = k) (hp : p = none → k = 0) (hk : k ≤ 90000) : Meets Tryz.prog 37 [ptr n 3, .slice p k c, .func (.func 38) #[] #[]] (n :: bl.map (·.n)) (fun W => BlkOk W (KB n K) ∧ Lies bl W ∧ SeesP W p (Ab xs) ∧ (0 < k → ∀ a, p = some a → a.block ∉ n :: bl.map (·.n)) ∧ ∀ b ∈ bl, b.n ≠ n) (fun v out => ∃ (s2 : Sl) (bl2 o : List Blk) (X : Cut), v = .bool (decide ((cutRd xs).2 = 0)) ∧ X.ok ∧ (∀ W2, Lies o W2 → CutIs W2 X (cutRd xs).1) ∧ ((¬ (cutRd xs).2 = 0 ∧ out = KB n K :: (bl ++ [])) ∨ ((cutRd xs).2 = 0 ∧ out = KB n { K with fCuts := s2 } :: (bl2 ++ (o ++ [])) ∧ Hw.Acc s2 bl2 ((rs ++ [X]).map Cut.cells).flatten 39 (m + 1) 34))) := by
 intro W hW
 refine A6 (hp0 := KB n K :: (bl ++ [])) Tryz.func37 rfl 25 Tryz.ntmps37 rfl (take_hrep hac hW.1 hW.2.1 hW.2.2.2.2) ?_
 refine Sat.seq (Sat.region ?_)
 refine Tr.a rfl rfl rfl ?_
 refine Tr.nil (Aa (Sat.seq (Sat.region ?_)))
 refine Tr.m rfl rfl rfl ?_
 refine Tr.m rfl rfl rfl ?_
 refine Tr.call4 rfl rfl rfl rfl rfl Body38 (cut_read p k c xs hl hp hk) (fun w h => seesP_na0 h hW.2.2.1 hl hW.2.2.2.1) ?_
 rintro v12 out12 ⟨C12, okC, rfl, hC12⟩
 refine Tr.m rfl rfl rfl ?_
 refine Tr.eX rfl rfl rfl rfl ?_
 refine Tr.eX rfl rfl rfl rfl ?_
 refine Tr.alloc (cs := Cut.zero.cells) rfl Cut.zr rfl ?_
 intro n7 hn7 hf7
 refine Tr.sA rfl rfl rfl rfl (Cut.isCell (by first | exact oK  | exact hK | exact okC)) Sz39 (Cut.length (by first | exact oK  | exact hK | exact okC)) mM (Cut.length (by first | exact oK  | exact hK | exact okC)) uU ?_
 refine Tr.a rfl rfl rfl ?_
 refine Tr.nil (Aa (Sat.seq (Sat.seq (Sat.region ?_))))
 refine Tr.m rfl rfl rfl ?_
 refine Tr.nei rfl rfl rfl rfl rfl ?_
 refine Tr.nil (Aa ?_)
 first
  | refine Sat.condP rfl (fun hc0 => ?_) (fun hc0 => ?_)
  | refine Sat.condNP rfl (fun hc0 => ?_) (fun hc0 => ?_)
  | refine Sat.cond rfl (fun hc0 => ?_) (fun hc0 => ?_)
 ·
  refine Sat.seq (Sat.region ?_)
  refine Tr.a rfl rfl rfl ?_
  refine Tr.nil (Aa (Sat.ret (As (Ak ?_))))
  refine Al (out := (KB n K :: (bl ++ []))) (Ae rfl rfl) (Ad rM (Ac sG Ag)) ?_
  exact ⟨Sl.nil, [], out12, C12, by simp; omega, okC, hC12, .inl ⟨by omega, rfl⟩⟩
 ·
  refine Sat.skip (Aa (Sat.seq ?_))
  refine Sat.draw [(0, 0), (0, 1), (0, 2), (1, 3), (1, 4), (2, 5), (4, 6), (0, 7), (4, 8)] Bt zK ?_
  refine Tr.m rfl rfl rfl ?_
  refine Tr.m rfl rfl rfl ?_
  refine Tr.nC rfl rfl rfl ?_
  refine Tr.load1 rfl rfl rfl U43 rfl mM (Kept.get_fCuts hK) ?_
  refine Tr.lA rfl rfl rfl U39 rfl Sz39 mM (Cut.length (by first | exact oK  | exact hK | exact okC)) ?_
  refine Tr.mkRow2 (z := agg Cut.zero.cells) [agg C12.cells] C12.cells rfl rfl U43 Sz39 Cut.zr rfl rfl (by intro v hv; rw [List.mem_singleton.1 hv]; exact Cut.length okC) dE (by simp [Value.cells]) ?_
  intro q22
  refine Tr.appendAcc (z := agg Cut.zero.cells) (by' := 64) (C12.cells) rfl rfl rfl rfl rfl U43 U43 Sz39 Zr39 (by unfold By; kernel_rfl) rfl hac sG (fun w h => SeesP.of (Ay h mM)) (fun e => by cases e) (Cut.isCell okC) oM oM (by rw [Cut.length okC]) ?_
  intro s23 bl23 hac23
  refine Tr.nC rfl rfl rfl ?_
  refine Tr.s1 rfl rfl rfl rfl rfl Sz43 mM (by rw [Kept.length hK]; decide) (Kept.setS_fCuts hK _ _ _) uU ?_
  refine Tr.nil (Aa (Sat.seq (Sat.region ?_)))
  refine Tr.a rfl rfl rfl ?_
  refine Tr.nil (Aa (Sat.ret (Ak ?_)))
  refine Al (out := (KB n { K with fCuts := s23 } :: (bl23 ++ (out12 ++ [])))) (Ae rfl rfl) (Ad rM (Ac sG (Ac sG Ag))) ?_
  exact ⟨s23, bl23, out12, C12, by simp; omega, okC, hC12, .inr ⟨by omega, rfl, by simpa using hac23⟩⟩

theorem take_cert (n : Nat) (K : Kept) (hK : K.ok) (bl : List Blk) (rs : List Cert) (m : Nat) (hac : Hw.Acc K.fCerts bl (rs.map Cert.cells).flatten 80 m 35) (hm : m ≤ 100000) (p : Option Addr) (k c : Nat) (xs : List UInt8) (hl : xs.length = k) (hp : p = none → k = 0) (hk : k ≤ 90000) : Meets Tryz.prog 33 [ptr n 1, .slice p k c, .func (.func 34) #[] #[]] (n :: bl.map (·.n)) (fun W => BlkOk W (KB n K) ∧ Lies bl W ∧ SeesP W p (Ab xs) ∧ (0 < k → ∀ a, p = some a → a.block ∉ n :: bl.map (·.n)) ∧ ∀ b ∈ bl, b.n ≠ n) (fun v out => ∃ (s2 : Sl) (bl2 o : List Blk) (X : Cert), v = .bool (decide ((certRd xs).2 = 0)) ∧ X.ok ∧ (∀ W2, Lies o W2 → CertIs W2 X (certRd xs).1) ∧ ((¬ (certRd xs).2 = 0 ∧ out = KB n K :: (bl ++ [])) ∨ ((certRd xs).2 = 0 ∧ out = KB n { K with fCerts := s2 } :: (bl2 ++ (o ++ [])) ∧ Hw.Acc s2 bl2 ((rs ++ [X]).map Cert.cells).flatten 80 (m + 1) 35))) := by
 intro W hW
 refine A6 (hp0 := KB n K :: (bl ++ [])) Tryz.func33 rfl 25 Tryz.ntmps33 rfl (take_hrep hac hW.1 hW.2.1 hW.2.2.2.2) ?_
 refine Sat.seq (Sat.region ?_)
 refine Tr.a rfl rfl rfl ?_
 refine Tr.nil (Aa (Sat.seq (Sat.region ?_)))
 refine Tr.m rfl rfl rfl ?_
 refine Tr.m rfl rfl rfl ?_
 refine Tr.call4 rfl rfl rfl rfl rfl Body34 (cert_read p k c xs hl hp hk) (fun w h => seesP_na0 h hW.2.2.1 hl hW.2.2.2.1) ?_
 rintro v12 out12 ⟨C12, okC, rfl, hC12⟩
 refine Tr.m rfl rfl rfl ?_
 refine Tr.eX rfl rfl rfl rfl ?_
 refine Tr.eX rfl rfl rfl rfl ?_
 refine Tr.alloc (cs := Cert.zero.cells) rfl Cert.zr rfl ?_
 intro n7 hn7 hf7
 refine Tr.sA rfl rfl rfl rfl (Cert.isCell (by first | exact oK  | exact hK | exact okC)) Sz80 (Cert.length (by first | exact oK  | exact hK | exact okC)) mM (Cert.length (by first | exact oK  | exact hK | exact okC)) uU ?_
 refine Tr.a rfl rfl rfl ?_
 refine Tr.nil (Aa (Sat.seq (Sat.seq (Sat.region ?_))))
 refine Tr.m rfl rfl rfl ?_
 refine Tr.nei rfl rfl rfl rfl rfl ?_
 refine Tr.nil (Aa ?_)
 first
  | refine Sat.condP rfl (fun hc0 => ?_) (fun hc0 => ?_)
  | refine Sat.condNP rfl (fun hc0 => ?_) (fun hc0 => ?_)
  | refine Sat.cond rfl (fun hc0 => ?_) (fun hc0 => ?_)
 ·
  refine Sat.seq (Sat.region ?_)
  refine Tr.a rfl rfl rfl ?_
  refine Tr.nil (Aa (Sat.ret (As (Ak ?_))))
  refine Al (out := (KB n K :: (bl ++ []))) (Ae rfl rfl) (Ad rM (Ac sG Ag)) ?_
  exact ⟨Sl.nil, [], out12, C12, by simp; omega, okC, hC12, .inl ⟨by omega, rfl⟩⟩
 ·
  refine Sat.skip (Aa (Sat.seq ?_))
  refine Sat.draw [(0, 0), (0, 1), (0, 2), (1, 3), (1, 4), (2, 5), (4, 6), (0, 7), (4, 8)] Bt zK ?_
  refine Tr.m rfl rfl rfl ?_
  refine Tr.m rfl rfl rfl ?_
  refine Tr.nC rfl rfl rfl ?_
  refine Tr.load1 rfl rfl rfl U41 rfl mM (Kept.get_fCerts hK) ?_
  refine Tr.lA rfl rfl rfl U80 rfl Sz80 mM (Cert.length (by first | exact oK  | exact hK | exact okC)) ?_
  refine Tr.mkRow2 (z := agg Cert.zero.cells) [agg C12.cells] C12.cells rfl rfl U41 Sz80 Cert.zr rfl rfl (by intro v hv; rw [List.mem_singleton.1 hv]; exact Cert.length okC) dE (by simp [Value.cells]) ?_
  intro q22
  refine Tr.appendAcc (z := agg Cert.zero.cells) (by' := 88) (C12.cells) rfl rfl rfl rfl rfl U41 U41 Sz80 Zr80 (by unfold By; kernel_rfl) rfl hac sG (fun w h => SeesP.of (Ay h mM)) (fun e => by cases e) (Cert.isCell okC) oM oM (by rw [Cert.length okC]) ?_
  intro s23 bl23 hac23
  refine Tr.nC rfl rfl rfl ?_
  refine Tr.s1 rfl rfl rfl rfl rfl Sz41 mM (by rw [Kept.length hK]; decide) (Kept.setS_fCerts hK _ _ _) uU ?_
  refine Tr.nil (Aa (Sat.seq (Sat.region ?_)))
  refine Tr.a rfl rfl rfl ?_
  refine Tr.nil (Aa (Sat.ret (Ak ?_)))
  refine Al (out := (KB n { K with fCerts := s23 } :: (bl23 ++ (out12 ++ [])))) (Ae rfl rfl) (Ad rM (Ac sG (Ac sG Ag))) ?_
  exact ⟨s23, bl23, out12, C12, by simp; omega, okC, hC12, .inr ⟨by omega, rfl, by simpa using hac23⟩⟩

theorem take_block (n : Nat) (K : Kept) (hK : K.ok) (bl : List Blk) (rs : List Block) (m : Nat) (hac : Hw.Acc K.fBlocks bl (rs.map Block.cells).flatten 52 m 131) (hm : m ≤ 100000) (p : Option Addr) (k c : Nat) (xs : List UInt8) (hl : xs.length = k) (hp : p = none → k = 0) (hk : k ≤ 90000) : Meets Tryz.prog 31 [ptr n 0, .slice p k c, .func (.func 32) #[] #[]] (n :: bl.map (·.n)) (fun W => BlkOk W (KB n K) ∧ Lies bl W ∧ SeesP W p (Ab xs) ∧ (0 < k → ∀ a, p = some a → a.block ∉ n :: bl.map (·.n)) ∧ ∀ b ∈ bl, b.n ≠ n) (fun v out => ∃ (s2 : Sl) (bl2 o : List Blk) (X : Block), v = .bool (decide ((readD xs).2 = 0)) ∧ X.ok ∧ (∀ W2, Lies o W2 → BlockIs W2 X (readD xs).1) ∧ ((¬ (readD xs).2 = 0 ∧ out = KB n K :: (bl ++ [])) ∨ ((readD xs).2 = 0 ∧ out = KB n { K with fBlocks := s2 } :: (bl2 ++ (o ++ [])) ∧ Hw.Acc s2 bl2 ((rs ++ [X]).map Block.cells).flatten 52 (m + 1) 131))) := by
 intro W hW
 refine A6 (hp0 := KB n K :: (bl ++ [])) Tryz.func31 rfl 25 Tryz.ntmps31 rfl (take_hrep hac hW.1 hW.2.1 hW.2.2.2.2) ?_
 refine Sat.seq (Sat.region ?_)
 refine Tr.a rfl rfl rfl ?_
 refine Tr.nil (Aa (Sat.seq (Sat.region ?_)))
 refine Tr.m rfl rfl rfl ?_
 refine Tr.m rfl rfl rfl ?_
 refine Tr.call4 rfl rfl rfl rfl rfl Body32 (block_read p k c xs hl hp hk) (fun w h => seesP_na0 h hW.2.2.1 hl hW.2.2.2.1) ?_
 rintro v12 out12 ⟨C12, okC, rfl, hC12⟩
 refine Tr.m rfl rfl rfl ?_
 refine Tr.eX rfl rfl rfl rfl ?_
 refine Tr.eX rfl rfl rfl rfl ?_
 refine Tr.alloc (cs := Block.zero.cells) rfl Block.zr rfl ?_
 intro n7 hn7 hf7
 refine Tr.sA rfl rfl rfl rfl (Block.isCell (by first | exact oK  | exact hK | exact okC)) Sz52 (Block.length (by first | exact oK  | exact hK | exact okC)) mM (Block.length (by first | exact oK  | exact hK | exact okC)) uU ?_
 refine Tr.a rfl rfl rfl ?_
 refine Tr.nil (Aa (Sat.seq (Sat.seq (Sat.region ?_))))
 refine Tr.m rfl rfl rfl ?_
 refine Tr.nei rfl rfl rfl rfl rfl ?_
 refine Tr.nil (Aa ?_)
 first
  | refine Sat.condP rfl (fun hc0 => ?_) (fun hc0 => ?_)
  | refine Sat.condNP rfl (fun hc0 => ?_) (fun hc0 => ?_)
  | refine Sat.cond rfl (fun hc0 => ?_) (fun hc0 => ?_)
 ·
  refine Sat.seq (Sat.region ?_)
  refine Tr.a rfl rfl rfl ?_
  refine Tr.nil (Aa (Sat.ret (As (Ak ?_))))
  refine Al (out := (KB n K :: (bl ++ []))) (Ae rfl rfl) (Ad rM (Ac sG Ag)) ?_
  exact ⟨Sl.nil, [], out12, C12, by simp; omega, okC, hC12, .inl ⟨by omega, rfl⟩⟩
 ·
  refine Sat.skip (Aa (Sat.seq ?_))
  refine Sat.draw [(0, 0), (0, 1), (0, 2), (1, 3), (1, 4), (2, 5), (4, 6), (0, 7), (4, 8)] Bt zK ?_
  refine Tr.m rfl rfl rfl ?_
  refine Tr.m rfl rfl rfl ?_
  refine Tr.nC rfl rfl rfl ?_
  refine Tr.load1 rfl rfl rfl U40 rfl mM (Kept.get_fBlocks hK) ?_
  refine Tr.lA rfl rfl rfl U52 rfl Sz52 mM (Block.length (by first | exact oK  | exact hK | exact okC)) ?_
  refine Tr.mkRow2 (z := agg Block.zero.cells) [agg C12.cells] C12.cells rfl rfl U40 Sz52 Block.zr rfl rfl (by intro v hv; rw [List.mem_singleton.1 hv]; exact Block.length okC) dE (by simp [Value.cells]) ?_
  intro q22
  refine Tr.appendAcc (z := agg Block.zero.cells) (by' := 184) (C12.cells) rfl rfl rfl rfl rfl U40 U40 Sz52 Zr52 (by unfold By; kernel_rfl) rfl hac sG (fun w h => SeesP.of (Ay h mM)) (fun e => by cases e) (Block.isCell okC) oM oM (by rw [Block.length okC]) ?_
  intro s23 bl23 hac23
  refine Tr.nC rfl rfl rfl ?_
  refine Tr.s1 rfl rfl rfl rfl rfl Sz40 mM (by rw [Kept.length hK]; decide) (Kept.setS_fBlocks hK _ _ _) uU ?_
  refine Tr.nil (Aa (Sat.seq (Sat.region ?_)))
  refine Tr.a rfl rfl rfl ?_
  refine Tr.nil (Aa (Sat.ret (Ak ?_)))
  refine Al (out := (KB n { K with fBlocks := s23 } :: (bl23 ++ (out12 ++ [])))) (Ae rfl rfl) (Ad rM (Ac sG (Ac sG Ag))) ?_
  exact ⟨s23, bl23, out12, C12, by simp; omega, okC, hC12, .inr ⟨by omega, rfl, by simpa using hac23⟩⟩

end Go.Proofs.YtkfhpmidcbmofaaGreat
end

section
namespace Go.Proofs.YtkfhpmidcbmofaaGreat
open Go Hw

def dkz : DKept := ⟨[], [], [], []⟩
noncomputable def keepStep (D : DKept) (r : DRecord) : Option DKept :=
  if r.dKind = 1 then (if (readD r.dData).2 = 0 then some { D with dBlocks := D.dBlocks ++ [(readD r.dData).1] } else none)
  else if r.dKind = 2 then (if (certRd r.dData).2 = 0 then some { D with dCerts := D.dCerts ++ [(certRd r.dData).1] } else none)
  else if r.dKind = 3 then (if (A1 r.dData).2 = 0 then some { D with dVotes := D.dVotes ++ [(A1 r.dData).1] } else none)
  else if r.dKind = 4 then (if (cutRd r.dData).2 = 0 then some { D with dCuts := D.dCuts ++ [(cutRd r.dData).1] } else none)
  else none
noncomputable def keepR (ds : List DRecord) : Option DKept := ds.foldl (fun o r => o.bind fun D => keepStep D r) (some dkz)
noncomputable def keepRd (ds : List DRecord) : DKept × Int := match keepR ds with
  | some D => if inOrd D.dCerts = true then (D, 0) else (dkz, 4)
  | none => (dkz, 4)
theorem keepR_nil : keepR [] = some dkz := rfl
theorem keepR_snoc (l : List DRecord) (d : DRecord) : keepR (l ++ [d]) = (keepR l).bind fun D => keepStep D d := by simp [keepR, List.foldl_append]
theorem fold_none (l : List DRecord) : l.foldl (fun o r => o.bind fun D => keepStep D r) none = none := by
  induction l with
  | nil => rfl
  | cons a l ih => exact ih
theorem keepR_none {ds : List DRecord} {j : Nat} (h : keepR (ds.take j) = none) : keepR ds = none := by
  have e : keepR ds = keepR (ds.take j ++ ds.drop j) := by rw [List.take_append_drop]
  rw [e, keepR, List.foldl_append]
  have h' : (ds.take j).foldl (fun o r => o.bind fun D => keepStep D r) (some dkz) = none := h
  rw [h', fold_none]
theorem keepR_step {ds : List DRecord} {k : Nat} {d : DRecord} (h : ds[k]? = some d) {D : DKept} (hD : keepR (ds.take k) = some D) : keepR (ds.take (k + 1)) = keepStep D d := by
  rw [take_snoc h, keepR_snoc, hD]; rfl
theorem keepRd_bad {ds : List DRecord} (h : keepR ds = none) : keepRd ds = (dkz, 4) := by rw [keepRd, h]
theorem keepRd_ord {ds : List DRecord} {D : DKept} (h : keepR ds = some D) (h2 : inOrd D.dCerts = false) : keepRd ds = (dkz, 4) := by simp only [keepRd, h, h2]; rfl
theorem keepRd_ok {ds : List DRecord} {D : DKept} (h : keepR ds = some D) (h2 : inOrd D.dCerts = true) : keepRd ds = (D, 0) := by simp only [keepRd, h, h2]; rfl
def KeepRead (ds : List DRecord) (v : Value) (out : List Blk) : Prop := ∃ X : Kept, X.ok ∧ v = .tuple #[agg X.cells, i64 (keepRd ds).2] ∧ ∀ W2, Lies out W2 → KeptIs W2 X (keepRd ds).1
theorem keptz_is (W : World) : KeptIs W Kept.zero dkz := ⟨Kept.zero_ok, ⟨[], SeqIs.none⟩, ⟨[], SeqIs.none⟩, ⟨[], SeqIs.none⟩, ⟨[], SeqIs.none⟩⟩
theorem keep_bad {ds : List DRecord} {out : List Blk} (h : keepRd ds = (dkz, 4)) : KeepRead ds (.tuple #[agg Kept.zero.cells, i64 4]) out :=
  ⟨Kept.zero, Kept.zero_ok, by rw [h], fun W2 _ => by rw [h]; exact keptz_is W2⟩
structure KSt where
  i : Nat
  K : Kept
  D : DKept
  m1 : Nat
  m2 : Nat
  m3 : Nat
  m4 : Nat
  b1 : List Blk
  o1 : List Blk
  r1 : List Block
  b2 : List Blk
  o2 : List Blk
  r2 : List Cert
  b3 : List Blk
  r3 : List Vote
  b4 : List Blk
  o4 : List Blk
  r4 : List Cut
structure KInv (ds : List DRecord) (p : KSt) : Prop where
  fold : keepR (ds.take p.i) = some p.D
  ok : p.K.ok
  q1 : OwnSeq Block.cells 131 BlockIs 52 p.K.fBlocks p.b1 p.o1 p.r1 p.D.dBlocks p.m1
  q2 : OwnSeq Cert.cells 35 CertIs 80 p.K.fCerts p.b2 p.o2 p.r2 p.D.dCerts p.m2
  q3 : OwnSeq Vote.cells 132 VoteIs 29 p.K.fVotes p.b3 [] p.r3 p.D.dVotes p.m3
  q4 : OwnSeq Cut.cells 34 CutIs 39 p.K.fCuts p.b4 p.o4 p.r4 p.D.dCuts p.m4
  le : p.m1 ≤ p.i ∧ p.m2 ≤ p.i ∧ p.m3 ≤ p.i ∧ p.m4 ≤ p.i
def ks0 : KSt := ⟨0, Kept.zero, dkz, 0, 0, 0, 0, [], [], [], [], [], [], [], [], [], [], []⟩
theorem KInv.first (ds : List DRecord) : KInv ds ks0 := ⟨rfl, Kept.zero_ok, OwnSeq.none, OwnSeq.none, OwnSeq.none, OwnSeq.none, ⟨Nat.le_refl _, Nat.le_refl _, Nat.le_refl _, Nat.le_refl _⟩⟩
theorem uniO {A : Prop} {n : Nat} {K K' : Kept} {bl bl2 o out : List Blk} {Q : Prop} (h : (¬ A ∧ out = KB n K :: (bl ++ [])) ∨ (A ∧ out = KB n K' :: (bl2 ++ (o ++ [])) ∧ Q)) : ∃ K2 bl3 o3, out = KB n K2 :: (bl3 ++ (o3 ++ [])) ∧ (A → K2 = K' ∧ bl3 = bl2 ∧ o3 = o ∧ Q) := by
  rcases h with ⟨h, rfl⟩ | ⟨h, rfl, q⟩
  · exact ⟨K, bl, [], by simp, fun a => absurd a h⟩
  · exact ⟨K', bl2, o, rfl, fun _ => ⟨rfl, rfl, rfl, q⟩⟩
theorem uniV {A : Prop} {n : Nat} {K K' : Kept} {bl bl2 out : List Blk} {Q : Prop} (h : (¬ A ∧ out = KB n K :: (bl ++ [])) ∨ (A ∧ out = KB n K' :: (bl2 ++ []) ∧ Q)) : ∃ K2 bl3, out = KB n K2 :: (bl3 ++ []) ∧ (A → K2 = K' ∧ bl3 = bl2 ∧ Q) := by
  rcases h with ⟨h, rfl⟩ | ⟨h, rfl, q⟩
  · exact ⟨K, bl, rfl, fun a => absurd a h⟩
  · exact ⟨K', bl2, rfl, fun _ => ⟨rfl, rfl, q⟩⟩
theorem seesP_lt {W : World} {p : Option Addr} {xs : List UInt8} (hs : SeesP W p (Ab xs)) (h : 0 < xs.length) {a : Addr} (ha : p = some a) : a.block < W.heap.size := by
  cases xs with
  | nil => simp at h
  | cons x xs =>
    obtain ⟨b, o, e, hc⟩ := hs 0 (u8 x) rfl
    rw [ha] at e
    obtain rfl : a = ⟨b, o, none⟩ := Option.some.inj e
    rcases Nat.lt_or_ge b W.heap.size with h1 | h1
    · exact h1
    · exact absurd hc (by rw [World.cell?]; simp [Array.getElem?_eq_none h1])
theorem take_pre {C : Cx} {hp R bl : List Blk} {w : World} {n : Nat} {K : Kept} {s : Sl} {xs : List UInt8} (h : HRep C hp w) (hl : C.lent = []) (hb : BytesAt C.W0 s xs) (hp' : hp.Perm ((KB n K :: bl) ++ R)) :
    BlkOk w (KB n K) ∧ Lies bl w ∧ SeesP w s.p (Ab xs) ∧ (0 < s.n → ∀ a, s.p = some a → a.block ∉ n :: bl.map (·.n)) ∧ ∀ b ∈ bl, b.n ≠ n := by
  have hK : KB n K ∈ hp := hp'.mem_iff.2 sP
  have hB : ∀ b ∈ bl, b ∈ hp := fun b hb => hp'.mem_iff.2 (by simp [hb])
  have own : ∀ b ∈ hp, C.W0.heap.size ≤ b.n := fun b hb => by
    rcases h.own b hb with h1 | h1
    · exact h1
    · rw [hl] at h1; cases h1
  have nd := ((hp'.map (·.n)).nodup_iff.1 h.nodup)
  rw [List.cons_append, List.map_cons, List.nodup_cons] at nd
  refine ⟨h.cells _ hK, Lies.of h hB, Az h hl hb.see, fun h0 a ha hm => ?_, fun b hb e => nd.1 ?_⟩
  · have h1 := seesP_lt hb.see (by rw [hb.len]; exact h0) ha
    rcases List.mem_cons.1 hm with e | hm
    · have := own _ hK
      simp only [KB] at this
      omega
    · obtain ⟨b, hb, e⟩ := List.mem_map.1 hm
      have := own b (hB b hb)
      omega
  · exact List.mem_map.2 ⟨b, List.mem_append_left _ hb, e⟩
theorem KInv.end' {ds : List DRecord} {p : KSt} (h : KInv ds p) (hi : ds.length ≤ p.i) (hs : p.i ≤ 100000) (ho : inOrd p.D.dCerts = true) {W2 : World} (l1 : Lies p.b1 W2) (l2 : Lies p.o1 W2) (l3 : Lies p.b2 W2) (l4 : Lies p.o2 W2) (l5 : Lies p.b3 W2) (l6 : Lies p.b4 W2) (l7 : Lies p.o4 W2) : KeptIs W2 p.K (keepRd ds).1 := by
  have hf := h.fold
  rw [List.take_of_length_le hi] at hf
  rw [keepRd_ok hf ho]
  have := h.le
  exact ⟨h.ok, ⟨_, h.q1.seq l1 l2 oM⟩, ⟨_, h.q2.seq l3 l4 oM⟩, ⟨_, h.q3.seq l5 (fun b hb => (by cases hb)) oM⟩, ⟨_, h.q4.seq l6 l7 oM⟩⟩

def JI (ds : List DRecord) (i : Nat) (pb : Bool × KSt) : Prop := (pb.1 = true → KInv ds pb.2 ∧ pb.2.i = i + 1) ∧ (pb.1 = false → keepR ds = none)
theorem KInv.fail {ds : List DRecord} {p : KSt} {d : DRecord} (h : KInv ds p) (hd : ds[p.i]? = some d) (h1 : d.dKind = 1 → ¬ (readD d.dData).2 = 0) (h2 : d.dKind = 2 → ¬ (certRd d.dData).2 = 0) (h3 : d.dKind = 3 → ¬ (A1 d.dData).2 = 0) (h4 : d.dKind = 4 → ¬ (cutRd d.dData).2 = 0) : keepR ds = none := by
  refine keepR_none (j := p.i + 1) ?_
  rw [keepR_step hd h.fold, keepStep]
  split
  · rename_i e; rw [if_neg (h1 e)]
  · split
    · rename_i e; rw [if_neg (h2 e)]
    · split
      · rename_i e; rw [if_neg (h3 e)]
      · split
        · rename_i e; rw [if_neg (h4 e)]
        · rfl
theorem kind_of {x y : UInt8} {n : Nat} (h : x = y) (hn : n < 256) (e : (x.toNat : Int) = n) : y = UInt8.ofNat n := by
  subst h
  refine UInt8.toNat_inj.1 ?_
  rw [UInt8.toNat_ofNat', Nat.mod_eq_of_lt oM]; omega
theorem kind_no {x y : UInt8} {n : Nat} (h : x = y) (hn : n < 256) (e : ¬ (x.toNat : Int) = n) : ¬ y = UInt8.ofNat n := fun h2 => by
  subst h
  rw [h2, UInt8.toNat_ofNat', Nat.mod_eq_of_lt oM] at e
  exact e rfl
theorem voteRd_is (xs : List UInt8) (W : World) : VoteIs W (A1 xs).1 (A1 xs).1 := ⟨(voteRd_good xs).ok, rfl, (voteRd_good xs).wf⟩
theorem KInv.skip {ds : List DRecord} {p : KSt} {d : DRecord} (h : KInv ds p) (hd : ds[p.i]? = some d) (h1 : ¬ d.dKind = 1) (h2 : ¬ d.dKind = 2) (h3 : ¬ d.dKind = 3) (h4 : ¬ d.dKind = 4) : JI ds p.i (false, p) :=
  ⟨fun e => (by cases e), fun _ => h.fail hd (fun e => absurd e h1) (fun e => absurd e h2) (fun e => absurd e h3) (fun e => absurd e h4)⟩

theorem KInv.j1 {ds : List DRecord} {p : KSt} {d : DRecord} (h : KInv ds p) (hd : ds[p.i]? = some d) (hk : d.dKind = 1) {K2 : Kept} {s2 : Sl} {b3 o3 bl2 o2 : List Blk} {X : Block} (hX : ∀ W2, Lies o2 W2 → BlockIs W2 X (readD d.dData).1) (hlen : X.cells.length = 131)
    (hg : (readD d.dData).2 = 0 → K2 = { p.K with fBlocks := s2 } ∧ b3 = bl2 ∧ o3 = o2 ∧ Hw.Acc s2 bl2 ((p.r1 ++ [X]).map Block.cells).flatten 52 (p.m1 + 1) 131) :
    JI ds p.i (decide ((readD d.dData).2 = 0), { p with i := p.i + 1, K := K2, D := { p.D with dBlocks := p.D.dBlocks ++ [(readD d.dData).1] }, m1 := p.m1 + 1, b1 := b3, o1 := o3 ++ p.o1, r1 := p.r1 ++ [X] }) := by
  refine ⟨fun e => ?_, fun e => h.fail hd (fun _ => of_decide_eq_false e) (fun e => absurd (hk.symm.trans e) dE) (fun e => absurd (hk.symm.trans e) dE) (fun e => absurd (hk.symm.trans e) dE)⟩
  have hz : (readD d.dData).2 = 0 := of_decide_eq_true e
  obtain ⟨rfl, rfl, rfl, ha⟩ := hg hz
  have hle := h.le
  have hs : OwnSeq Block.cells 131 BlockIs 52 s2 b3 (o3 ++ p.o1) (p.r1 ++ [X]) (p.D.dBlocks ++ [(readD d.dData).1]) (p.m1 + 1) := h.q1.snoc (by simpa using ha) hlen hX
  refine ⟨⟨?_, ⟨trivial⟩, hs, h.q2, h.q3, h.q4, by simp only []; omega⟩, rfl⟩
  show keepR (ds.take (p.i + 1)) = _
  rw [keepR_step hd h.fold, keepStep, if_pos hk, if_pos hz]
theorem KInv.j2 {ds : List DRecord} {p : KSt} {d : DRecord} (h : KInv ds p) (hd : ds[p.i]? = some d) (hk : d.dKind = 2) {K2 : Kept} {s2 : Sl} {b3 o3 bl2 o2 : List Blk} {X : Cert} (hX : ∀ W2, Lies o2 W2 → CertIs W2 X (certRd d.dData).1) (hlen : X.cells.length = 35)
    (hg : (certRd d.dData).2 = 0 → K2 = { p.K with fCerts := s2 } ∧ b3 = bl2 ∧ o3 = o2 ∧ Hw.Acc s2 bl2 ((p.r2 ++ [X]).map Cert.cells).flatten 80 (p.m2 + 1) 35) :
    JI ds p.i (decide ((certRd d.dData).2 = 0), { p with i := p.i + 1, K := K2, D := { p.D with dCerts := p.D.dCerts ++ [(certRd d.dData).1] }, m2 := p.m2 + 1, b2 := b3, o2 := o3 ++ p.o2, r2 := p.r2 ++ [X] }) := by
  refine ⟨fun e => ?_, fun e => h.fail hd (fun e => absurd (hk.symm.trans e) dE) (fun _ => of_decide_eq_false e) (fun e => absurd (hk.symm.trans e) dE) (fun e => absurd (hk.symm.trans e) dE)⟩
  have hz : (certRd d.dData).2 = 0 := of_decide_eq_true e
  obtain ⟨rfl, rfl, rfl, ha⟩ := hg hz
  have hle := h.le
  have hs : OwnSeq Cert.cells 35 CertIs 80 s2 b3 (o3 ++ p.o2) (p.r2 ++ [X]) (p.D.dCerts ++ [(certRd d.dData).1]) (p.m2 + 1) := h.q2.snoc (by simpa using ha) hlen hX
  refine ⟨⟨?_, ⟨trivial⟩, h.q1, hs, h.q3, h.q4, by simp only []; omega⟩, rfl⟩
  show keepR (ds.take (p.i + 1)) = _
  rw [keepR_step hd h.fold, keepStep, if_neg (by rw [hk]; decide), if_pos hk, if_pos hz]
theorem KInv.j3 {ds : List DRecord} {p : KSt} {d : DRecord} (h : KInv ds p) (hd : ds[p.i]? = some d) (hk : d.dKind = 3) {K2 : Kept} {s2 : Sl} {b3 bl2 : List Blk} {X : Vote} (hX : ∀ W2, Lies [] W2 → VoteIs W2 X (A1 d.dData).1) (hlen : X.cells.length = 132)
    (hg : (A1 d.dData).2 = 0 → K2 = { p.K with fVotes := s2 } ∧ b3 = bl2 ∧ Hw.Acc s2 bl2 ((p.r3 ++ [X]).map Vote.cells).flatten 29 (p.m3 + 1) 132) :
    JI ds p.i (decide ((A1 d.dData).2 = 0), { p with i := p.i + 1, K := K2, D := { p.D with dVotes := p.D.dVotes ++ [(A1 d.dData).1] }, m3 := p.m3 + 1, b3 := b3, r3 := p.r3 ++ [X] }) := by
  refine ⟨fun e => ?_, fun e => h.fail hd (fun e => absurd (hk.symm.trans e) dE) (fun e => absurd (hk.symm.trans e) dE) (fun _ => of_decide_eq_false e) (fun e => absurd (hk.symm.trans e) dE)⟩
  have hz : (A1 d.dData).2 = 0 := of_decide_eq_true e
  obtain ⟨rfl, rfl, ha⟩ := hg hz
  have hle := h.le
  have hs : OwnSeq Vote.cells 132 VoteIs 29 s2 b3 ([] ++ []) (p.r3 ++ [X]) (p.D.dVotes ++ [(A1 d.dData).1]) (p.m3 + 1) := h.q3.snoc (by simpa using ha) hlen hX
  refine ⟨⟨?_, ⟨trivial⟩, h.q1, h.q2, hs, h.q4, by simp only []; omega⟩, rfl⟩
  show keepR (ds.take (p.i + 1)) = _
  rw [keepR_step hd h.fold, keepStep, if_neg (by rw [hk]; decide), if_neg (by rw [hk]; decide), if_pos hk, if_pos hz]
theorem KInv.j4 {ds : List DRecord} {p : KSt} {d : DRecord} (h : KInv ds p) (hd : ds[p.i]? = some d) (hk : d.dKind = 4) {K2 : Kept} {s2 : Sl} {b3 o3 bl2 o2 : List Blk} {X : Cut} (hX : ∀ W2, Lies o2 W2 → CutIs W2 X (cutRd d.dData).1) (hlen : X.cells.length = 34)
    (hg : (cutRd d.dData).2 = 0 → K2 = { p.K with fCuts := s2 } ∧ b3 = bl2 ∧ o3 = o2 ∧ Hw.Acc s2 bl2 ((p.r4 ++ [X]).map Cut.cells).flatten 39 (p.m4 + 1) 34) :
    JI ds p.i (decide ((cutRd d.dData).2 = 0), { p with i := p.i + 1, K := K2, D := { p.D with dCuts := p.D.dCuts ++ [(cutRd d.dData).1] }, m4 := p.m4 + 1, b4 := b3, o4 := o3 ++ p.o4, r4 := p.r4 ++ [X] }) := by
  refine ⟨fun e => ?_, fun e => h.fail hd (fun e => absurd (hk.symm.trans e) dE) (fun e => absurd (hk.symm.trans e) dE) (fun e => absurd (hk.symm.trans e) dE) (fun _ => of_decide_eq_false e)⟩
  have hz : (cutRd d.dData).2 = 0 := of_decide_eq_true e
  obtain ⟨rfl, rfl, rfl, ha⟩ := hg hz
  have hle := h.le
  have hs : OwnSeq Cut.cells 34 CutIs 39 s2 b3 (o3 ++ p.o4) (p.r4 ++ [X]) (p.D.dCuts ++ [(cutRd d.dData).1]) (p.m4 + 1) := h.q4.snoc (by simpa using ha) hlen hX
  refine ⟨⟨?_, ⟨trivial⟩, h.q1, h.q2, h.q3, hs, by simp only []; omega⟩, rfl⟩
  show keepR (ds.take (p.i + 1)) = _
  rw [keepR_step hd h.fold, keepStep, if_neg (by rw [hk]; decide), if_neg (by rw [hk]; decide), if_neg (by rw [hk]; decide), if_pos hk, if_pos hz]

theorem keep_read (s : Sl) (ds : List DRecord) (hsn : s.n ≤ 1000) (hsm : ∀ d ∈ ds, d.dData.length ≤ 90000) : Meets Tryz.prog 8 [s.v] [] (fun W => RecordsAt W s ds) (KeepRead ds) := by
 intro W hW
 obtain ⟨rs, hs⟩ := hW
 have hnd := hs.nd
 refine Aj Tryz.func8 rfl 50 Tryz.ntmps8 rfl ?_
 refine Sat.seq (Sat.region ?_)
 refine Tr.alloc (cs := Kept.zero.cells) rfl Kept.zr rfl ?_
 intro n2 hn2 hf2
 refine Tr.a rfl rfl rfl ?_
 refine Tr.nil (Aa (Sat.seq (Sat.region ?_)))
 refine Tr.alloc (cs := Kept.zero.cells) rfl Kept.zr rfl ?_
 intro n4 hn4 hf4
 refine Tr.nil (Aa (Sat.seq (Sat.seq (Sat.region ?_))))
 refine Tr.m rfl rfl rfl ?_
 refine Tr.lenSl rfl rfl rfl Tryz.underlying48 ?_
 refine Tr.m rfl rfl rfl ?_
 refine Tr.nil (Aa (Sat.block ?_))
 refine Sat.loop (ι := KSt) (fun p => ⟨[(2, ptr n2 0), (4, ptr n4 0), (8, s.v), (9, i64 (s.n : Int)), (10, i64 (p.i : Int))], (⟨n2, Kept.zero.cells, 45, 4⟩ :: (KB n4 p.K :: (p.b1 ++ (p.o1 ++ (p.b2 ++ (p.o2 ++ (p.b3 ++ (p.b4 ++ (p.o4 ++ [])))))))))⟩) (fun p => KInv ds p ∧ p.i ≤ s.n) (fun p => s.n - p.i) (ks0) ?_ ?_ ?_
 · exact ⟨KInv.first ds, Nat.zero_le _⟩
 · exact Am (wk1 rfl (wk1 rfl (wk1 rfl (wk1 rfl (wk1 rfl wk0))))) (Ad rM (Ad rM (pm_none (pm_none (pm_none (pm_none (pm_none (pm_none (pm_none Ag)))))))))
 ·
  rintro p ⟨hi, hile⟩
  obtain ⟨i, K, D, m1, m2, m3, m4, b1, o1, r1, b2, o2, r2, b3, r3, b4, o4, r4⟩ := p
  have hle := hi.le
  dsimp only at hile hle ⊢
  refine Sat.seq (Sat.region ?_)
  refine Tr.lss rfl rfl rfl rfl rfl ?_
  refine Tr.nil (Aa (Sat.seq ?_))
  first
   | refine Sat.condP rfl (fun hc0 => ?_) (fun hc0 => ?_)
   | refine Sat.condNP rfl (fun hc0 => ?_) (fun hc0 => ?_)
   | refine Sat.cond rfl (fun hc0 => ?_) (fun hc0 => ?_)
  ·
   have hk0 : i < s.n := by omega
   obtain ⟨b, o, r, d, hsp, hr, hd, his, hlen, hsee⟩ := hs.at dE hk0
   refine Sat.skip (Aa (Sat.seq (Sat.block (Sat.seq (Sat.region ?_)))))
   refine Tr.idxSlP 2 rfl rfl rfl hsp rfl Tryz.underlying48 Sz32 i rfl oM ?_
   refine Tr.loadEN r.cells rfl rfl rfl U32 rfl Sz32 sP hlen hsee ?_
   refine Tr.alloc (cs := Record.zero.cells) rfl Record.zr rfl ?_
   intro n6 hn6 hf6
   refine Tr.sA rfl rfl rfl rfl (Record.isCell (by first | exact oK  | exact his.ok | exact hi.ok)) Sz32 (Record.length (by first | exact oK  | exact his.ok | exact hi.ok)) mM (Record.length (by first | exact oK  | exact his.ok | exact hi.ok)) uU ?_
   refine Tr.nil (Aa (Sat.seq (Sat.region ?_)))
   refine Tr.a rfl rfl rfl ?_
   refine Tr.nil (Aa ?_)
   refine Sat.join (ι := Bool × KSt) (fun pj => ⟨[(2, ptr n2 0), (4, ptr n4 0), (7, .bool pj.1), (8, s.v), (9, i64 (s.n : Int)), (10, i64 (i : Int))], (⟨n2, Kept.zero.cells, 45, 4⟩ :: (KB n4 pj.2.K :: (pj.2.b1 ++ (pj.2.o1 ++ (pj.2.b2 ++ (pj.2.o2 ++ (pj.2.b3 ++ (pj.2.b4 ++ (pj.2.o4 ++ [])))))))))⟩) (fun pj => JI ds i pj) ?_ ?_
   ·
    refine Sat.seq (Sat.region ?_)
    refine Tr.fld rfl rfl rfl U32 rfl Sz5 dE _ rfl ?_
    refine Tr.load1 rfl rfl rfl U5 rfl mM (by first | exact Record.get_fKind (by first | exact oK  | exact his.ok | exact hi.ok) | exact vL) ?_
    refine Tr.nil (Aa (Sat.block (Sat.seq (Sat.region ?_))))
    refine Tr.eqi rfl rfl rfl rfl rfl ?_
    refine Tr.a rfl rfl rfl ?_
    refine Tr.nil (Aa ?_)
    first
     | refine Sat.condP rfl (fun hc1 => ?_) (fun hc1 => ?_)
     | refine Sat.condNP rfl (fun hc1 => ?_) (fun hc1 => ?_)
     | refine Sat.cond rfl (fun hc1 => ?_) (fun hc1 => ?_)
    ·
     have hk1 : d.dKind = 1 := kind_of (n := 1) his.fKind dE hc1
     refine Sat.region ?_
     refine Tr.fld rfl rfl rfl U45 rfl Sz40 dE _ rfl ?_
     refine Tr.fld rfl rfl rfl U32 rfl Sz30 dE _ rfl ?_
     refine Tr.load1 rfl rfl rfl U30 rfl mM (by first | exact Record.get_fData (by first | exact oK  | exact his.ok | exact hi.ok) | exact vL) ?_
     refine Tr.callL (L := KB n4 K :: b1) rfl rfl rfl rfl rfl Body31 (take_block n4 K hi.ok b1 r1 m1 hi.q1.acc oM r.fData.p r.fData.n r.fData.c d.dData his.fData.len (fun e => by have := his.fData.nil e; have := his.fData.cap; omega) (by rw [← his.fData.len]; exact hsm d (List.mem_of_getElem? hd))) (Ad rM sG) (A4 rfl) (fun w h => take_pre h rfl his.fData (Ad rM sG)) ?_
     rintro v21 out21 ⟨s21, bl21, o21, X21, rfl, okX, hX, hor⟩
     obtain ⟨K21, b21, p21, rfl, hgd⟩ := uniO hor
     simp only [List.cons_append, List.append_assoc, List.nil_append]
     refine Tr.a rfl rfl rfl ?_
     refine Tr.nil (Bu (Aa ?_))
     first
      | exact ⟨(decide ((readD d.dData).2 = 0), ⟨i + 1, K21, { D with dBlocks := D.dBlocks ++ [(readD d.dData).1] }, m1 + 1, m2, m3, m4, b21, p21 ++ o1, r1 ++ [X21], b2, o2, r2, b3, r3, b4, o4, r4⟩), hi.j1 hd hk1 hX (Block.length okX) hgd, Am (wk1 rfl (wk1 rfl (wk1 rfl (wk1 rfl (wk1 rfl (wk1 rfl wk0)))))) (Ad rM (Ad rM (Ac sG (pm_two (Ac sG (Ac sG (Ac sG (Ac sG (Ac sG (Ac sG (Ac sG Ag)))))))))))⟩
      | exact ⟨(decide ((certRd d.dData).2 = 0), ⟨i + 1, K27, { D with dCerts := D.dCerts ++ [(certRd d.dData).1] }, m1, m2 + 1, m3, m4, b1, o1, r1, b27, p27 ++ o2, r2 ++ [X27], b3, r3, b4, o4, r4⟩), hi.j2 hd hk2 hX (Cert.length okX) hgd, Am (wk1 rfl (wk1 rfl (wk1 rfl (wk1 rfl (wk1 rfl (wk1 rfl wk0)))))) (Ad rM (Ad rM (Ac sG (Ac sG (Ac sG (pm_two (Ac sG (Ac sG (Ac sG (Ac sG (Ac sG Ag)))))))))))⟩
      | exact ⟨(decide ((A1 d.dData).2 = 0), ⟨i + 1, K33, { D with dVotes := D.dVotes ++ [(A1 d.dData).1] }, m1, m2, m3 + 1, m4, b1, o1, r1, b2, o2, r2, b33, r3 ++ [(A1 d.dData).1], b4, o4, r4⟩), hi.j3 hd hk3 (fun W2 _ => voteRd_is _ W2) (Vote.length (A8 _)) hgd, Am (wk1 rfl (wk1 rfl (wk1 rfl (wk1 rfl (wk1 rfl (wk1 rfl wk0)))))) (Ad rM (Ad rM (Ac sG (Ac sG (Ac sG (Ac sG (Ac sG (Ac sG (Ac sG Ag)))))))))⟩
      | exact ⟨(decide ((cutRd d.dData).2 = 0), ⟨i + 1, K39, { D with dCuts := D.dCuts ++ [(cutRd d.dData).1] }, m1, m2, m3, m4 + 1, b1, o1, r1, b2, o2, r2, b3, r3, b39, p39 ++ o4, r4 ++ [X39]⟩), hi.j4 hd hk4 hX (Cut.length okX) hgd, Am (wk1 rfl (wk1 rfl (wk1 rfl (wk1 rfl (wk1 rfl (wk1 rfl wk0)))))) (Ad rM (Ad rM (Ac sG (Ac sG (Ac sG (Ac sG (Ac sG (Ac sG (pm_two (Ac sG (Ac sG Ag)))))))))))⟩
      | exact ⟨(false, ⟨i, K, D, m1, m2, m3, m4, b1, o1, r1, b2, o2, r2, b3, r3, b4, o4, r4⟩), hi.skip hd hn1 hn2 hn3 hn4, Am (wk1 rfl (wk1 rfl (wk1 rfl (wk1 rfl (wk1 rfl (wk1 rfl wk0)))))) (Ad rM (Ad rM (Ac sG (Ac sG (Ac sG (Ac sG (Ac sG (Ac sG (Ac sG Ag)))))))))⟩
    ·
     have hn1 : ¬ d.dKind = 1 := kind_no (n := 1) his.fKind dE hc1
     refine Sat.seq (Sat.region ?_)
     refine Tr.eqi rfl rfl rfl rfl rfl ?_
     refine Tr.a rfl rfl rfl ?_
     refine Tr.nil (Aa ?_)
     first
      | refine Sat.condP rfl (fun hc2 => ?_) (fun hc2 => ?_)
      | refine Sat.condNP rfl (fun hc2 => ?_) (fun hc2 => ?_)
      | refine Sat.cond rfl (fun hc2 => ?_) (fun hc2 => ?_)
     ·
      have hk2 : d.dKind = 2 := kind_of (n := 2) his.fKind dE hc2
      refine Sat.region ?_
      refine Tr.fld rfl rfl rfl U45 rfl Sz41 dE _ rfl ?_
      refine Tr.fld rfl rfl rfl U32 rfl Sz30 dE _ rfl ?_
      refine Tr.load1 rfl rfl rfl U30 rfl mM (by first | exact Record.get_fData (by first | exact oK  | exact his.ok | exact hi.ok) | exact vL) ?_
      refine Tr.callL (L := KB n4 K :: b2) rfl rfl rfl rfl rfl Body33 (take_cert n4 K hi.ok b2 r2 m2 hi.q2.acc oM r.fData.p r.fData.n r.fData.c d.dData his.fData.len (fun e => by have := his.fData.nil e; have := his.fData.cap; omega) (by rw [← his.fData.len]; exact hsm d (List.mem_of_getElem? hd))) (Ad rM sG) (A4 rfl) (fun w h => take_pre h rfl his.fData (Ad rM sG)) ?_
      rintro v27 out27 ⟨s27, bl27, o27, X27, rfl, okX, hX, hor⟩
      obtain ⟨K27, b27, p27, rfl, hgd⟩ := uniO hor
      simp only [List.cons_append, List.append_assoc, List.nil_append]
      refine Tr.a rfl rfl rfl ?_
      refine Tr.nil (Bu (Aa ?_))
      first
       | exact ⟨(decide ((readD d.dData).2 = 0), ⟨i + 1, K21, { D with dBlocks := D.dBlocks ++ [(readD d.dData).1] }, m1 + 1, m2, m3, m4, b21, p21 ++ o1, r1 ++ [X21], b2, o2, r2, b3, r3, b4, o4, r4⟩), hi.j1 hd hk1 hX (Block.length okX) hgd, Am (wk1 rfl (wk1 rfl (wk1 rfl (wk1 rfl (wk1 rfl (wk1 rfl wk0)))))) (Ad rM (Ad rM (Ac sG (pm_two (Ac sG (Ac sG (Ac sG (Ac sG (Ac sG (Ac sG (Ac sG Ag)))))))))))⟩
       | exact ⟨(decide ((certRd d.dData).2 = 0), ⟨i + 1, K27, { D with dCerts := D.dCerts ++ [(certRd d.dData).1] }, m1, m2 + 1, m3, m4, b1, o1, r1, b27, p27 ++ o2, r2 ++ [X27], b3, r3, b4, o4, r4⟩), hi.j2 hd hk2 hX (Cert.length okX) hgd, Am (wk1 rfl (wk1 rfl (wk1 rfl (wk1 rfl (wk1 rfl (wk1 rfl wk0)))))) (Ad rM (Ad rM (Ac sG (Ac sG (Ac sG (pm_two (Ac sG (Ac sG (Ac sG (Ac sG (Ac sG Ag)))))))))))⟩
       | exact ⟨(decide ((A1 d.dData).2 = 0), ⟨i + 1, K33, { D with dVotes := D.dVotes ++ [(A1 d.dData).1] }, m1, m2, m3 + 1, m4, b1, o1, r1, b2, o2, r2, b33, r3 ++ [(A1 d.dData).1], b4, o4, r4⟩), hi.j3 hd hk3 (fun W2 _ => voteRd_is _ W2) (Vote.length (A8 _)) hgd, Am (wk1 rfl (wk1 rfl (wk1 rfl (wk1 rfl (wk1 rfl (wk1 rfl wk0)))))) (Ad rM (Ad rM (Ac sG (Ac sG (Ac sG (Ac sG (Ac sG (Ac sG (Ac sG Ag)))))))))⟩
       | exact ⟨(decide ((cutRd d.dData).2 = 0), ⟨i + 1, K39, { D with dCuts := D.dCuts ++ [(cutRd d.dData).1] }, m1, m2, m3, m4 + 1, b1, o1, r1, b2, o2, r2, b3, r3, b39, p39 ++ o4, r4 ++ [X39]⟩), hi.j4 hd hk4 hX (Cut.length okX) hgd, Am (wk1 rfl (wk1 rfl (wk1 rfl (wk1 rfl (wk1 rfl (wk1 rfl wk0)))))) (Ad rM (Ad rM (Ac sG (Ac sG (Ac sG (Ac sG (Ac sG (Ac sG (pm_two (Ac sG (Ac sG Ag)))))))))))⟩
       | exact ⟨(false, ⟨i, K, D, m1, m2, m3, m4, b1, o1, r1, b2, o2, r2, b3, r3, b4, o4, r4⟩), hi.skip hd hn1 hn2 hn3 hn4, Am (wk1 rfl (wk1 rfl (wk1 rfl (wk1 rfl (wk1 rfl (wk1 rfl wk0)))))) (Ad rM (Ad rM (Ac sG (Ac sG (Ac sG (Ac sG (Ac sG (Ac sG (Ac sG Ag)))))))))⟩
     ·
      have hn2 : ¬ d.dKind = 2 := kind_no (n := 2) his.fKind dE hc2
      refine Sat.seq (Sat.region ?_)
      refine Tr.eqi rfl rfl rfl rfl rfl ?_
      refine Tr.a rfl rfl rfl ?_
      refine Tr.nil (Aa ?_)
      first
       | refine Sat.condP rfl (fun hc3 => ?_) (fun hc3 => ?_)
       | refine Sat.condNP rfl (fun hc3 => ?_) (fun hc3 => ?_)
       | refine Sat.cond rfl (fun hc3 => ?_) (fun hc3 => ?_)
      ·
       have hk3 : d.dKind = 3 := kind_of (n := 3) his.fKind dE hc3
       refine Sat.region ?_
       refine Tr.fld rfl rfl rfl U45 rfl Sz42 dE _ rfl ?_
       refine Tr.fld rfl rfl rfl U32 rfl Sz30 dE _ rfl ?_
       refine Tr.load1 rfl rfl rfl U30 rfl mM (by first | exact Record.get_fData (by first | exact oK  | exact his.ok | exact hi.ok) | exact vL) ?_
       refine Tr.callL (L := KB n4 K :: b3) rfl rfl rfl rfl rfl Body35 (take_vote n4 K hi.ok b3 r3 m3 hi.q3.acc oM r.fData.p r.fData.n r.fData.c d.dData his.fData.len (fun e => by have := his.fData.nil e; have := his.fData.cap; omega) (by rw [← his.fData.len]; exact hsm d (List.mem_of_getElem? hd))) (Ad rM sG) (A4 rfl) (fun w h => take_pre h rfl his.fData (Ad rM sG)) ?_
       rintro v33 out33 ⟨s33, bl33, rfl, hor⟩
       obtain ⟨K33, b33, rfl, hgd⟩ := uniV hor
       simp only [List.cons_append, List.append_assoc, List.nil_append]
       refine Tr.a rfl rfl rfl ?_
       refine Tr.nil (Bu (Aa ?_))
       first
        | exact ⟨(decide ((readD d.dData).2 = 0), ⟨i + 1, K21, { D with dBlocks := D.dBlocks ++ [(readD d.dData).1] }, m1 + 1, m2, m3, m4, b21, p21 ++ o1, r1 ++ [X21], b2, o2, r2, b3, r3, b4, o4, r4⟩), hi.j1 hd hk1 hX (Block.length okX) hgd, Am (wk1 rfl (wk1 rfl (wk1 rfl (wk1 rfl (wk1 rfl (wk1 rfl wk0)))))) (Ad rM (Ad rM (Ac sG (pm_two (Ac sG (Ac sG (Ac sG (Ac sG (Ac sG (Ac sG (Ac sG Ag)))))))))))⟩
        | exact ⟨(decide ((certRd d.dData).2 = 0), ⟨i + 1, K27, { D with dCerts := D.dCerts ++ [(certRd d.dData).1] }, m1, m2 + 1, m3, m4, b1, o1, r1, b27, p27 ++ o2, r2 ++ [X27], b3, r3, b4, o4, r4⟩), hi.j2 hd hk2 hX (Cert.length okX) hgd, Am (wk1 rfl (wk1 rfl (wk1 rfl (wk1 rfl (wk1 rfl (wk1 rfl wk0)))))) (Ad rM (Ad rM (Ac sG (Ac sG (Ac sG (pm_two (Ac sG (Ac sG (Ac sG (Ac sG (Ac sG Ag)))))))))))⟩
        | exact ⟨(decide ((A1 d.dData).2 = 0), ⟨i + 1, K33, { D with dVotes := D.dVotes ++ [(A1 d.dData).1] }, m1, m2, m3 + 1, m4, b1, o1, r1, b2, o2, r2, b33, r3 ++ [(A1 d.dData).1], b4, o4, r4⟩), hi.j3 hd hk3 (fun W2 _ => voteRd_is _ W2) (Vote.length (A8 _)) hgd, Am (wk1 rfl (wk1 rfl (wk1 rfl (wk1 rfl (wk1 rfl (wk1 rfl wk0)))))) (Ad rM (Ad rM (Ac sG (Ac sG (Ac sG (Ac sG (Ac sG (Ac sG (Ac sG Ag)))))))))⟩
        | exact ⟨(decide ((cutRd d.dData).2 = 0), ⟨i + 1, K39, { D with dCuts := D.dCuts ++ [(cutRd d.dData).1] }, m1, m2, m3, m4 + 1, b1, o1, r1, b2, o2, r2, b3, r3, b39, p39 ++ o4, r4 ++ [X39]⟩), hi.j4 hd hk4 hX (Cut.length okX) hgd, Am (wk1 rfl (wk1 rfl (wk1 rfl (wk1 rfl (wk1 rfl (wk1 rfl wk0)))))) (Ad rM (Ad rM (Ac sG (Ac sG (Ac sG (Ac sG (Ac sG (Ac sG (pm_two (Ac sG (Ac sG Ag)))))))))))⟩
        | exact ⟨(false, ⟨i, K, D, m1, m2, m3, m4, b1, o1, r1, b2, o2, r2, b3, r3, b4, o4, r4⟩), hi.skip hd hn1 hn2 hn3 hn4, Am (wk1 rfl (wk1 rfl (wk1 rfl (wk1 rfl (wk1 rfl (wk1 rfl wk0)))))) (Ad rM (Ad rM (Ac sG (Ac sG (Ac sG (Ac sG (Ac sG (Ac sG (Ac sG Ag)))))))))⟩
      ·
       have hn3 : ¬ d.dKind = 3 := kind_no (n := 3) his.fKind dE hc3
       refine Sat.seq (Sat.region ?_)
       refine Tr.eqi rfl rfl rfl rfl rfl ?_
       refine Tr.a rfl rfl rfl ?_
       refine Tr.nil (Aa ?_)
       first
        | refine Sat.condP rfl (fun hc4 => ?_) (fun hc4 => ?_)
        | refine Sat.condNP rfl (fun hc4 => ?_) (fun hc4 => ?_)
        | refine Sat.cond rfl (fun hc4 => ?_) (fun hc4 => ?_)
       ·
        have hk4 : d.dKind = 4 := kind_of (n := 4) his.fKind dE hc4
        refine Sat.region ?_
        refine Tr.fld rfl rfl rfl U45 rfl Sz43 dE _ rfl ?_
        refine Tr.fld rfl rfl rfl U32 rfl Sz30 dE _ rfl ?_
        refine Tr.load1 rfl rfl rfl U30 rfl mM (by first | exact Record.get_fData (by first | exact oK  | exact his.ok | exact hi.ok) | exact vL) ?_
        refine Tr.callL (L := KB n4 K :: b4) rfl rfl rfl rfl rfl Body37 (take_cut n4 K hi.ok b4 r4 m4 hi.q4.acc oM r.fData.p r.fData.n r.fData.c d.dData his.fData.len (fun e => by have := his.fData.nil e; have := his.fData.cap; omega) (by rw [← his.fData.len]; exact hsm d (List.mem_of_getElem? hd))) (Ad rM sG) (A4 rfl) (fun w h => take_pre h rfl his.fData (Ad rM sG)) ?_
        rintro v39 out39 ⟨s39, bl39, o39, X39, rfl, okX, hX, hor⟩
        obtain ⟨K39, b39, p39, rfl, hgd⟩ := uniO hor
        simp only [List.cons_append, List.append_assoc, List.nil_append]
        refine Tr.a rfl rfl rfl ?_
        refine Tr.nil (Bu (Aa ?_))
        first
         | exact ⟨(decide ((readD d.dData).2 = 0), ⟨i + 1, K21, { D with dBlocks := D.dBlocks ++ [(readD d.dData).1] }, m1 + 1, m2, m3, m4, b21, p21 ++ o1, r1 ++ [X21], b2, o2, r2, b3, r3, b4, o4, r4⟩), hi.j1 hd hk1 hX (Block.length okX) hgd, Am (wk1 rfl (wk1 rfl (wk1 rfl (wk1 rfl (wk1 rfl (wk1 rfl wk0)))))) (Ad rM (Ad rM (Ac sG (pm_two (Ac sG (Ac sG (Ac sG (Ac sG (Ac sG (Ac sG (Ac sG Ag)))))))))))⟩
         | exact ⟨(decide ((certRd d.dData).2 = 0), ⟨i + 1, K27, { D with dCerts := D.dCerts ++ [(certRd d.dData).1] }, m1, m2 + 1, m3, m4, b1, o1, r1, b27, p27 ++ o2, r2 ++ [X27], b3, r3, b4, o4, r4⟩), hi.j2 hd hk2 hX (Cert.length okX) hgd, Am (wk1 rfl (wk1 rfl (wk1 rfl (wk1 rfl (wk1 rfl (wk1 rfl wk0)))))) (Ad rM (Ad rM (Ac sG (Ac sG (Ac sG (pm_two (Ac sG (Ac sG (Ac sG (Ac sG (Ac sG Ag)))))))))))⟩
         | exact ⟨(decide ((A1 d.dData).2 = 0), ⟨i + 1, K33, { D with dVotes := D.dVotes ++ [(A1 d.dData).1] }, m1, m2, m3 + 1, m4, b1, o1, r1, b2, o2, r2, b33, r3 ++ [(A1 d.dData).1], b4, o4, r4⟩), hi.j3 hd hk3 (fun W2 _ => voteRd_is _ W2) (Vote.length (A8 _)) hgd, Am (wk1 rfl (wk1 rfl (wk1 rfl (wk1 rfl (wk1 rfl (wk1 rfl wk0)))))) (Ad rM (Ad rM (Ac sG (Ac sG (Ac sG (Ac sG (Ac sG (Ac sG (Ac sG Ag)))))))))⟩
         | exact ⟨(decide ((cutRd d.dData).2 = 0), ⟨i + 1, K39, { D with dCuts := D.dCuts ++ [(cutRd d.dData).1] }, m1, m2, m3, m4 + 1, b1, o1, r1, b2, o2, r2, b3, r3, b39, p39 ++ o4, r4 ++ [X39]⟩), hi.j4 hd hk4 hX (Cut.length okX) hgd, Am (wk1 rfl (wk1 rfl (wk1 rfl (wk1 rfl (wk1 rfl (wk1 rfl wk0)))))) (Ad rM (Ad rM (Ac sG (Ac sG (Ac sG (Ac sG (Ac sG (Ac sG (pm_two (Ac sG (Ac sG Ag)))))))))))⟩
         | exact ⟨(false, ⟨i, K, D, m1, m2, m3, m4, b1, o1, r1, b2, o2, r2, b3, r3, b4, o4, r4⟩), hi.skip hd hn1 hn2 hn3 hn4, Am (wk1 rfl (wk1 rfl (wk1 rfl (wk1 rfl (wk1 rfl (wk1 rfl wk0)))))) (Ad rM (Ad rM (Ac sG (Ac sG (Ac sG (Ac sG (Ac sG (Ac sG (Ac sG Ag)))))))))⟩
       ·
        have hn4 : ¬ d.dKind = 4 := kind_no (n := 4) his.fKind dE hc4
        refine Sat.skip (Bu (Aa ?_))
        first
         | exact ⟨(decide ((readD d.dData).2 = 0), ⟨i + 1, K21, { D with dBlocks := D.dBlocks ++ [(readD d.dData).1] }, m1 + 1, m2, m3, m4, b21, p21 ++ o1, r1 ++ [X21], b2, o2, r2, b3, r3, b4, o4, r4⟩), hi.j1 hd hk1 hX (Block.length okX) hgd, Am (wk1 rfl (wk1 rfl (wk1 rfl (wk1 rfl (wk1 rfl (wk1 rfl wk0)))))) (Ad rM (Ad rM (Ac sG (pm_two (Ac sG (Ac sG (Ac sG (Ac sG (Ac sG (Ac sG (Ac sG Ag)))))))))))⟩
         | exact ⟨(decide ((certRd d.dData).2 = 0), ⟨i + 1, K27, { D with dCerts := D.dCerts ++ [(certRd d.dData).1] }, m1, m2 + 1, m3, m4, b1, o1, r1, b27, p27 ++ o2, r2 ++ [X27], b3, r3, b4, o4, r4⟩), hi.j2 hd hk2 hX (Cert.length okX) hgd, Am (wk1 rfl (wk1 rfl (wk1 rfl (wk1 rfl (wk1 rfl (wk1 rfl wk0)))))) (Ad rM (Ad rM (Ac sG (Ac sG (Ac sG (pm_two (Ac sG (Ac sG (Ac sG (Ac sG (Ac sG Ag)))))))))))⟩
         | exact ⟨(decide ((A1 d.dData).2 = 0), ⟨i + 1, K33, { D with dVotes := D.dVotes ++ [(A1 d.dData).1] }, m1, m2, m3 + 1, m4, b1, o1, r1, b2, o2, r2, b33, r3 ++ [(A1 d.dData).1], b4, o4, r4⟩), hi.j3 hd hk3 (fun W2 _ => voteRd_is _ W2) (Vote.length (A8 _)) hgd, Am (wk1 rfl (wk1 rfl (wk1 rfl (wk1 rfl (wk1 rfl (wk1 rfl wk0)))))) (Ad rM (Ad rM (Ac sG (Ac sG (Ac sG (Ac sG (Ac sG (Ac sG (Ac sG Ag)))))))))⟩
         | exact ⟨(decide ((cutRd d.dData).2 = 0), ⟨i + 1, K39, { D with dCuts := D.dCuts ++ [(cutRd d.dData).1] }, m1, m2, m3, m4 + 1, b1, o1, r1, b2, o2, r2, b3, r3, b39, p39 ++ o4, r4 ++ [X39]⟩), hi.j4 hd hk4 hX (Cut.length okX) hgd, Am (wk1 rfl (wk1 rfl (wk1 rfl (wk1 rfl (wk1 rfl (wk1 rfl wk0)))))) (Ad rM (Ad rM (Ac sG (Ac sG (Ac sG (Ac sG (Ac sG (Ac sG (pm_two (Ac sG (Ac sG Ag)))))))))))⟩
         | exact ⟨(false, ⟨i, K, D, m1, m2, m3, m4, b1, o1, r1, b2, o2, r2, b3, r3, b4, o4, r4⟩), hi.skip hd hn1 hn2 hn3 hn4, Am (wk1 rfl (wk1 rfl (wk1 rfl (wk1 rfl (wk1 rfl (wk1 rfl wk0)))))) (Ad rM (Ad rM (Ac sG (Ac sG (Ac sG (Ac sG (Ac sG (Ac sG (Ac sG Ag)))))))))⟩
   ·
    intro pj hj
    skip
    refine Sat.seq (Sat.region ?_)
    refine Tr.m rfl rfl rfl ?_
    refine Tr.not rfl rfl rfl ?_
    refine Tr.nil (Aa ?_)
    refine Sat.cond rfl (fun hc5 => ?_) (fun hc5 => ?_)
    ·
     have hnone := hj.2 (by simpa using hc5)
     refine Sat.seq (Sat.region ?_)
     refine Tr.build (cs := Kept.zero.cells) rfl rfl rfl (fun w => by kernel_rfl) ?_
     refine Tr.sA rfl rfl rfl rfl (Kept.isCell (by first | exact oK  | exact his.ok | exact hi.ok)) Sz45 (Kept.length (by first | exact oK  | exact his.ok | exact hi.ok)) mM (Kept.length (by first | exact oK  | exact his.ok | exact hi.ok)) uU ?_
     refine Tr.a rfl rfl rfl ?_
     refine Tr.nil (Aa (Sat.ret (bl_r (As (As (bl_r (As (Ak ?_))))))))
     refine Al (out := []) (Aq rfl rfl rfl U45 rfl Sz45 mM (by first | (simp; done) | exact Kept.length (by first | exact oK  | exact his.ok | exact hi.ok))) Ag ?_
     exact keep_bad (keepRd_bad hnone)
    ·
     have hj2 := hj.1 (by simpa using hc5)
     refine Sat.skip (Bu (Aa (Sat.region ?_)))
     refine Tr.aI rfl rfl rfl rfl oM ?_
     refine Tr.m rfl rfl rfl ?_
     refine Tr.nil (Aa ?_)
     exact ⟨pj.2, ⟨hj2.1, by omega⟩, by omega, Am (wk1 rfl (wk1 rfl (wk1 rfl (wk1 rfl (wk1 (congrArg (fun z : Nat => some (i64 (z : Int))) hj2.2.symm) wk0))))) (Ad rM (Ad rM (Ac sG (Ac sG (Ac sG (Ac sG (Ac sG (Ac sG (Ac sG Ag)))))))))⟩
  ·
   have hie : i = s.n := by omega
   refine Sat.exit (A9 (A9 (bl_h (Aa (Sat.seq (Sat.seq (Sat.region ?_)))))))
   refine Tr.fld rfl rfl rfl U45 rfl Sz41 dE _ rfl ?_
   refine Tr.load1 rfl rfl rfl U41 rfl mM (by first | exact Kept.get_fCerts (by first | exact oK  | exact his.ok | exact hi.ok) | exact vL) ?_
   refine Tr.cV rfl rfl rfl rfl Body39 (in_order K.fCerts D.dCerts) (fun w h => ⟨_, hi.q2.seq (Lies.of h iN) (Lies.of h iN) (by dsimp only; omega)⟩) ?_
   refine Tr.not rfl rfl rfl ?_
   refine Tr.nil (Aa ?_)
   refine Sat.cond rfl (fun hc6 => ?_) (fun hc6 => ?_)
   ·
    have ho : inOrd D.dCerts = false := by simpa using hc6
    have hf := hi.fold
    dsimp only at hf
    rw [List.take_of_length_le oM] at hf
    refine Sat.seq (Sat.region ?_)
    refine Tr.build (cs := Kept.zero.cells) rfl rfl rfl (fun w => by kernel_rfl) ?_
    refine Tr.sA rfl rfl rfl rfl (Kept.isCell (by first | exact oK  | exact his.ok | exact hi.ok)) Sz45 (Kept.length (by first | exact oK  | exact his.ok | exact hi.ok)) mM (Kept.length (by first | exact oK  | exact his.ok | exact hi.ok)) uU ?_
    refine Tr.a rfl rfl rfl ?_
    refine Tr.nil (Aa (Sat.ret (As (Ak ?_))))
    refine Al (out := []) (Aq rfl rfl rfl U45 rfl Sz45 mM (by first | (simp; done) | exact Kept.length (by first | exact oK  | exact his.ok | exact hi.ok))) Ag ?_
    exact keep_bad (keepRd_ord hf ho)
   ·
    have ho : inOrd D.dCerts = true := by simpa using hc6
    refine Sat.skip (Aa (Sat.seq (Sat.region ?_)))
    refine Tr.lA rfl rfl rfl U45 rfl Sz45 mM (Kept.length (by first | exact oK  | exact his.ok | exact hi.ok)) ?_
    refine Tr.sA rfl rfl rfl rfl (Kept.isCell (by first | exact oK  | exact his.ok | exact hi.ok)) Sz45 (Kept.length (by first | exact oK  | exact his.ok | exact hi.ok)) mM (Kept.length (by first | exact oK  | exact his.ok | exact hi.ok)) uU ?_
    refine Tr.a rfl rfl rfl ?_
    refine Tr.nil (Aa (Sat.ret (Ak ?_)))
    refine Al (out := (b1 ++ (o1 ++ (b2 ++ (o2 ++ (b3 ++ (b4 ++ (o4 ++ [])))))))) (Aq rfl rfl rfl U45 rfl Sz45 mM (by first | (simp; done) | exact Kept.length (by first | exact oK  | exact his.ok | exact hi.ok))) (Ac sG (Ac sG (Ac sG (Ac sG (Ac sG (Ac sG (Ac sG Ag))))))) ?_
    refine ⟨K, hi.ok, ?_, fun W2 hl => hi.end' (by simp only []; omega) (by simp only []; omega) ho (hl.sub iN) (hl.sub iN) (hl.sub iN) (hl.sub iN) (hl.sub iN) (hl.sub iN) (hl.sub iN)⟩
    have hf := hi.fold
    dsimp only at hf
    rw [List.take_of_length_le oM] at hf
    rw [keepRd_ok hf ho]

end Go.Proofs.YtkfhpmidcbmofaaGreat
end

section
namespace Go.Proofs.YtkfhpmidcbmofaaGreat
open Go Hw

def sameC (a b : DCut) : Bool := decide ((a.dHeight.toNat : Int) = (b.dHeight.toNat : Int)) && (decide (a.dPrev = b.dPrev) && decide (a.dHeads = b.dHeads))

theorem kit_cut (A B : Cut) (a b : DCut) (hn : A.fHeads.n ≤ 1000000) : Meets Tryz.prog 75 [agg A.cells, agg B.cells] [] (fun W => CutIs W A a ∧ CutIs W B b) (fun v out => v = .bool (sameC a b) ∧ out = []) := by
 intro W hW
 have hA := hW.1.ok
 have hB := hW.2.ok
 have e1 := hW.1.fHeight
 have e2 := hW.2.fHeight
 have e3 := hW.1.fPrev
 have e4 := hW.2.fPrev
 refine Aj Tryz.func75 rfl 24 Tryz.ntmps75 rfl ?_
 refine Sat.seq (Sat.region ?_)
 refine Tr.boxA rfl rfl ?_
 intro n2 hn2 hf2
 refine Tr.boxA rfl rfl ?_
 intro n3 hn3 hf3
 refine Tr.a rfl rfl rfl ?_
 refine Tr.nil (Aa (Sat.seq (Sat.region ?_)))
 refine Tr.fld rfl rfl rfl U39 rfl Bp dE _ rfl ?_
 refine Tr.load1 rfl rfl rfl U22 rfl mM (by first | exact Cut.get_fHeight (by first | (simp [hA.l_fPrev, hB.l_fPrev]; done) | exact oK  | exact hA | exact hB) | exact (by first | rfl | exact Ap (by first | omega | (simp [hA.l_fPrev, hB.l_fPrev]; done) | (simp [hA.l_fPrev, hB.l_fPrev]; omega)) | exact Ax (by first | omega | (simp [hA.l_fPrev, hB.l_fPrev]; done) | (simp [hA.l_fPrev, hB.l_fPrev]; omega)) | exact Bd (by first | omega | (simp [hA.l_fPrev, hB.l_fPrev]; done) | (simp [hA.l_fPrev, hB.l_fPrev]; omega)))) ?_
 refine Tr.fld rfl rfl rfl U39 rfl Bp dE _ rfl ?_
 refine Tr.load1 rfl rfl rfl U22 rfl mM (by first | exact Cut.get_fHeight (by first | (simp [hA.l_fPrev, hB.l_fPrev]; done) | exact oK  | exact hA | exact hB) | exact (by first | rfl | exact Ap (by first | omega | (simp [hA.l_fPrev, hB.l_fPrev]; done) | (simp [hA.l_fPrev, hB.l_fPrev]; omega)) | exact Ax (by first | omega | (simp [hA.l_fPrev, hB.l_fPrev]; done) | (simp [hA.l_fPrev, hB.l_fPrev]; omega)) | exact Bd (by first | omega | (simp [hA.l_fPrev, hB.l_fPrev]; done) | (simp [hA.l_fPrev, hB.l_fPrev]; omega)))) ?_
 refine two (fun r hr k => Tr.eqi rfl rfl rfl rfl hr k) (fun hs1_40 => ?_) (fun hs1_40 => ?_)
 ·
  first | have hs1_4 := of_decide_eq_true hs1_40 | have hs1_4 := of_decide_eq_false hs1_40 | have hs1_4 := nd_t hs1_40 | have hs1_4 := nd_f hs1_40 | have hs1_4 := hs1_40
  refine Tr.m rfl rfl rfl ?_
  refine Tr.fld rfl rfl rfl U39 rfl A5 dE _ rfl ?_
  first
   | refine Tr.lN (Ab _) rfl rfl rfl U24 rfl A5 mM (Cut.row_fPrev (by first | (simp [hA.l_fPrev, hB.l_fPrev]; done) | exact oK  | exact hA | exact hB)) (Cut.rl_fPrev (by first | (simp [hA.l_fPrev, hB.l_fPrev]; done) | exact oK  | exact hA | exact hB)) ?_
  refine Tr.fld rfl rfl rfl U39 rfl A5 dE _ rfl ?_
  first
   | refine Tr.lN (Ab _) rfl rfl rfl U24 rfl A5 mM (Cut.row_fPrev (by first | (simp [hA.l_fPrev, hB.l_fPrev]; done) | exact oK  | exact hA | exact hB)) (Cut.rl_fPrev (by first | (simp [hA.l_fPrev, hB.l_fPrev]; done) | exact oK  | exact hA | exact hB)) ?_
  refine two (fun r hr k => Tr.eql_bytes rfl rfl rfl rfl Tryz.eqGuardType24 U24 U5 Sz5 (by first | (simp [hA.l_fPrev, hB.l_fPrev]; done) | assumption | (rw [Ab, List.length_map]; assumption)) (by first | (simp [hA.l_fPrev, hB.l_fPrev]; done) | assumption | (rw [Ab, List.length_map]; assumption)) hr k) (fun hs1_100 => ?_) (fun hs1_100 => ?_)
  ·
   first | have hs1_10 := of_decide_eq_true hs1_100 | have hs1_10 := of_decide_eq_false hs1_100 | have hs1_10 := nd_t hs1_100 | have hs1_10 := nd_f hs1_100 | have hs1_10 := hs1_100
   refine Tr.pick rfl rfl rfl rfl rfl rfl ?_
   refine Tr.m rfl rfl rfl ?_
   refine Tr.fld rfl rfl rfl U39 rfl Sz37 dE _ rfl ?_
   refine Tr.load1 rfl rfl rfl U37 rfl mM (by first | exact Cut.get_fHeads (by first | (simp [hA.l_fPrev, hB.l_fPrev]; done) | exact oK  | exact hA | exact hB) | exact (by first | rfl | exact Ap (by first | omega | (simp [hA.l_fPrev, hB.l_fPrev]; done) | (simp [hA.l_fPrev, hB.l_fPrev]; omega)) | exact Ax (by first | omega | (simp [hA.l_fPrev, hB.l_fPrev]; done) | (simp [hA.l_fPrev, hB.l_fPrev]; omega)) | exact Bd (by first | omega | (simp [hA.l_fPrev, hB.l_fPrev]; done) | (simp [hA.l_fPrev, hB.l_fPrev]; omega)))) ?_
   refine Tr.fld rfl rfl rfl U39 rfl Sz37 dE _ rfl ?_
   refine Tr.load1 rfl rfl rfl U37 rfl mM (by first | exact Cut.get_fHeads (by first | (simp [hA.l_fPrev, hB.l_fPrev]; done) | exact oK  | exact hA | exact hB) | exact (by first | rfl | exact Ap (by first | omega | (simp [hA.l_fPrev, hB.l_fPrev]; done) | (simp [hA.l_fPrev, hB.l_fPrev]; omega)) | exact Ax (by first | omega | (simp [hA.l_fPrev, hB.l_fPrev]; done) | (simp [hA.l_fPrev, hB.l_fPrev]; omega)) | exact Bd (by first | omega | (simp [hA.l_fPrev, hB.l_fPrev]; done) | (simp [hA.l_fPrev, hB.l_fPrev]; omega)))) ?_
   refine Tr.cV rfl rfl rfl rfl Body115 (digests_any2 _ _ _ _ _ _ a.dHeads b.dHeads hW.1.fHeads.row hW.2.fHeads.row hW.1.fHeads.len hW.2.fHeads.len hn) (fun w h => ⟨Az h rfl hW.1.fHeads.see, Az h rfl hW.2.fHeads.see⟩) ?_
   refine Tr.pick rfl rfl rfl rfl rfl rfl ?_
   refine Tr.a rfl rfl rfl ?_
   refine Tr.nil (Aa (Sat.ret (Ak ?_)))
   refine ⟨_, [], Ae rfl rfl, sP, sP, ?_, rfl⟩
   unfold sameC
   simp_all
  ·
   first | have hs1_10 := of_decide_eq_true hs1_100 | have hs1_10 := of_decide_eq_false hs1_100 | have hs1_10 := nd_t hs1_100 | have hs1_10 := nd_f hs1_100 | have hs1_10 := hs1_100
   refine Tr.pick rfl rfl rfl rfl rfl rfl ?_
   refine Tr.m rfl rfl rfl ?_
   refine Tr.skp rfl rfl ?_
   refine Tr.skp rfl rfl ?_
   refine Tr.skp rfl rfl ?_
   refine Tr.skp rfl rfl ?_
   refine Tr.skp rfl rfl ?_
   refine Tr.pick rfl rfl rfl rfl rfl rfl ?_
   refine Tr.a rfl rfl rfl ?_
   refine Tr.nil (Aa (Sat.ret (Ak ?_)))
   refine ⟨_, [], Ae rfl rfl, sP, sP, ?_, rfl⟩
   unfold sameC
   simp_all
 ·
  first | have hs1_4 := of_decide_eq_true hs1_40 | have hs1_4 := of_decide_eq_false hs1_40 | have hs1_4 := nd_t hs1_40 | have hs1_4 := nd_f hs1_40 | have hs1_4 := hs1_40
  refine Tr.m rfl rfl rfl ?_
  refine Tr.skp rfl rfl ?_
  refine Tr.skp rfl rfl ?_
  refine Tr.skp rfl rfl ?_
  refine Tr.skp rfl rfl ?_
  refine Tr.skp rfl rfl ?_
  refine Tr.pick rfl rfl rfl rfl rfl rfl ?_
  refine Tr.m rfl rfl rfl ?_
  refine Tr.skp rfl rfl ?_
  refine Tr.skp rfl rfl ?_
  refine Tr.skp rfl rfl ?_
  refine Tr.skp rfl rfl ?_
  refine Tr.skp rfl rfl ?_
  refine Tr.pick rfl rfl rfl rfl rfl rfl ?_
  refine Tr.a rfl rfl rfl ?_
  refine Tr.nil (Aa (Sat.ret (Ak ?_)))
  refine ⟨_, [], Ae rfl rfl, sP, sP, ?_, rfl⟩
  unfold sameC
  simp_all

def sameL {D : Type} (f : D → D → Bool) (xs ys : List D) : Bool := decide (xs.length = ys.length) && (xs.zip ys).all fun p => f p.1 p.2
theorem sameL_yes {D : Type} {f : D → D → Bool} {xs ys : List D} (hl : xs.length = ys.length) (h : ∀ (j : Nat) (a b : D), j < xs.length → xs[j]? = some a → ys[j]? = some b → f a b = true) : sameL f xs ys = true := by
  have e : ((xs.zip ys).all fun p => f p.1 p.2) = true := by
    rw [List.all_eq_true]
    rintro ⟨a, b⟩ hm
    obtain ⟨j, hj⟩ := List.getElem?_of_mem hm
    obtain ⟨h1, h2⟩ := List.getElem?_zip_eq_some.1 hj
    exact h j a b (List.getElem?_eq_some_iff.1 h1).1 h1 h2
  rw [sameL, e, decide_eq_true hl]; rfl
theorem sameL_no {D : Type} {f : D → D → Bool} {xs ys : List D} {k : Nat} {a b : D} (ha : xs[k]? = some a) (hb : ys[k]? = some b) (h : f a b = false) : sameL f xs ys = false := by
  have e : ((xs.zip ys).all fun p => f p.1 p.2) = false := by
    rw [List.all_eq_false]
    exact ⟨(a, b), List.mem_of_getElem? (List.getElem?_zip_eq_some.2 ⟨ha, hb⟩), by rw [h]; simp⟩
  rw [sameL, e, Bool.and_false]
theorem sameL_len {D : Type} {f : D → D → Bool} {xs ys : List D} (h : ¬ xs.length = ys.length) : sameL f xs ys = false := by rw [sameL, decide_eq_false h]; rfl

theorem kit_cuts (s u : Sl) (xs ys : List DCut) (hsm : ∀ d ∈ xs, d.dHeads.length ≤ 1000000) : Meets Tryz.prog 23 [s.v, u.v] [] (fun W => CutsAt W s xs ∧ CutsAt W u ys) (fun v out => v = .bool (sameL sameC xs ys) ∧ out = []) := by
 intro W hW
 obtain ⟨⟨rs, hs⟩, ⟨ru, hu⟩⟩ := hW
 have hnd := hs.nd
 have hnu := hu.nd
 have hmax := hs.max
 have hmaxu := hu.max
 simp only [maxLen] at hmax hmaxu
 refine Aj Tryz.func23 rfl 27 Tryz.ntmps23 rfl ?_
 refine Sat.seq (Sat.region ?_)
 refine Tr.a rfl rfl rfl ?_
 refine Tr.nil (Aa (Sat.seq (Sat.seq (Sat.region ?_))))
 refine Tr.m rfl rfl rfl ?_
 refine Tr.lenSl rfl rfl rfl U43 ?_
 refine Tr.m rfl rfl rfl ?_
 refine Tr.lenSl rfl rfl rfl U43 ?_
 refine Tr.nei rfl rfl rfl rfl rfl ?_
 refine Tr.nil (Aa ?_)
 first
  | refine Sat.condP rfl (fun hc0 => ?_) (fun hc0 => ?_)
  | refine Sat.condNP rfl (fun hc0 => ?_) (fun hc0 => ?_)
  | refine Sat.cond rfl (fun hc0 => ?_) (fun hc0 => ?_)
 ·
  refine Sat.seq (Sat.region ?_)
  refine Tr.a rfl rfl rfl ?_
  refine Tr.nil (Aa (Sat.ret (As (Ak ?_))))
  refine ⟨_, [], Ae rfl rfl, sP, sP, ?_, rfl⟩
  first
   | exact congrArg Value.bool (sameL_len (by rw [hnd, hnu]; omega)).symm
   | exact congrArg Value.bool (sameL_yes (by rw [hnd, hnu]; omega) (by rw [hnd]; exact hg)).symm
   | exact congrArg Value.bool (sameL_no hd hdu (by simp_all; done)).symm
 ·
  refine Sat.skip (Aa (Sat.seq (Sat.seq (Sat.region ?_))))
  refine Tr.a rfl rfl rfl ?_
  refine Tr.nil (Aa (Sat.block ?_))
  refine Sat.loop (ι := Nat) (fun k => ⟨[(0, s.v), (1, u.v), (5, i64 (k : Int))], []⟩) (fun k => k ≤ s.n ∧ s.n = u.n ∧ ∀ (j : Nat) (a b : DCut), j < k → xs[j]? = some a → ys[j]? = some b → sameC a b = true) (fun k => s.n - k) (0) ?_ ?_ ?_
  · exact ⟨by omega, by omega, fun j a b hj => by omega⟩
  · exact Ao (wk1 rfl (wk1 rfl (wk1 rfl wk0))) wh0 nD
  ·
   rintro k ⟨hk, hsu, hg⟩
   refine Sat.seq (Sat.seq (Sat.region ?_))
   refine Tr.m rfl rfl rfl ?_
   refine Tr.m rfl rfl rfl ?_
   refine Tr.lenSl rfl rfl rfl U43 ?_
   refine Tr.lss rfl rfl rfl rfl rfl ?_
   refine Tr.nil (Aa ?_)
   first
    | refine Sat.condP rfl (fun hc1 => ?_) (fun hc1 => ?_)
    | refine Sat.condNP rfl (fun hc1 => ?_) (fun hc1 => ?_)
    | refine Sat.cond rfl (fun hc1 => ?_) (fun hc1 => ?_)
   ·
    have hk2 : k < s.n := by omega
    obtain ⟨b, o, r, d, hsp, hr, hd, his, hlen, hsee⟩ := hs.at dE hk2
    obtain ⟨b2, o2, r2, d2, hspu, hru, hdu, hiu, hlenu, hseeu⟩ := hu.at dE (show k < u.n by omega)
    refine Sat.skip (Aa (Sat.seq (Sat.block (Sat.seq ?_))))
    refine Sat.draw [(0, 0), (0, 1), (0, 2), (1, 3), (0, 4), (0, 5), (0, 6), (1, 7), (3, 8), (0, 9)] Bt zK ?_
    refine Tr.m rfl rfl rfl ?_
    refine Tr.m rfl rfl rfl ?_
    refine Tr.idxSlP 34 rfl rfl rfl hsp rfl U43 Sz39 k rfl oM ?_
    refine Tr.loadEN r.cells rfl rfl rfl U39 rfl Sz39 sP hlen hsee ?_
    refine Tr.m rfl rfl rfl ?_
    refine Tr.m rfl rfl rfl ?_
    refine Tr.idxSlP 34 rfl rfl rfl hspu rfl U43 Sz39 k rfl oM ?_
    refine Tr.loadEN r2.cells rfl rfl rfl U39 rfl Sz39 sP hlenu hseeu ?_
    refine Tr.cV rfl rfl rfl rfl Body75 (kit_cut r r2 d d2 (by rw [← his.fHeads.len]; exact hsm d (List.mem_of_getElem? hd))) (fun w h => ⟨his.ext h rfl, hiu.ext h rfl⟩) ?_
    refine Tr.not rfl rfl rfl ?_
    refine Tr.nil (Aa ?_)
    first
     | refine Sat.condP rfl (fun hc2 => ?_) (fun hc2 => ?_)
     | refine Sat.condNP rfl (fun hc2 => ?_) (fun hc2 => ?_)
     | refine Sat.cond rfl (fun hc2 => ?_) (fun hc2 => ?_)
    ·
     refine Sat.seq (Sat.region ?_)
     refine Tr.a rfl rfl rfl ?_
     refine Tr.nil (Aa (Sat.ret (bl_r (As (As (bl_r (As (Ak ?_))))))))
     refine ⟨_, [], Ae rfl rfl, sP, sP, ?_, rfl⟩
     first
      | exact congrArg Value.bool (sameL_len (by rw [hnd, hnu]; omega)).symm
      | exact congrArg Value.bool (sameL_yes (by rw [hnd, hnu]; omega) (by rw [hnd]; exact hg)).symm
      | exact congrArg Value.bool (sameL_no hd hdu (by simp_all; done)).symm
    ·
     refine Sat.skip (Bu (Aa (Sat.region ?_)))
     refine Tr.m rfl rfl rfl ?_
     refine Tr.aI rfl rfl rfl rfl oM ?_
     refine Tr.a rfl rfl rfl ?_
     refine Tr.nil (Aa ?_)
     exact ⟨k + 1, ⟨by omega, hsu, fun j a b hj ha hb => by rcases Nat.lt_succ_iff_lt_or_eq.1 hj with h | rfl; exact hg j a b h ha hb; exact (by rw [hd] at ha; rw [hdu] at hb; cases ha; cases hb; simp_all)⟩, by omega, Ao (wk1 rfl (wk1 rfl (wk1 rfl wk0))) wh0 nD⟩
   ·
    obtain rfl : k = s.n := by omega
    refine Sat.exit (A9 (A9 (bl_h (Aa (Sat.seq (Sat.region ?_))))))
    refine Tr.a rfl rfl rfl ?_
    refine Tr.nil (Aa (Sat.ret (Ak ?_)))
    refine ⟨_, [], Ae rfl rfl, sP, sP, ?_, rfl⟩
    first
     | exact congrArg Value.bool (sameL_len (by rw [hnd, hnu]; omega)).symm
     | exact congrArg Value.bool (sameL_yes (by rw [hnd, hnu]; omega) (by rw [hnd]; exact hg)).symm
     | exact congrArg Value.bool (sameL_no hd hdu (by simp_all; done)).symm

open Classical in
noncomputable def sameV (a b : Vote) : Bool := decide (a = b)
theorem sameV_eq {a b : Vote} (h : a = b) : sameV a b = true := by unfold sameV; simp [h]
theorem sameV_ne {a b : Vote} (h : ¬ a = b) : sameV a b = false := by unfold sameV; simp [h]

theorem kit_votes (s u : Sl) (xs ys : List Vote) : Meets Tryz.prog 20 [s.v, u.v] [] (fun W => VotesAt W s xs ∧ VotesAt W u ys) (fun v out => v = .bool (sameL sameV xs ys) ∧ out = []) := by
 intro W hW
 obtain ⟨⟨rs, hs⟩, ⟨ru, hu⟩⟩ := hW
 have hnd := hs.nd
 have hnu := hu.nd
 have hmax := hs.max
 have hmaxu := hu.max
 simp only [maxLen] at hmax hmaxu
 refine Aj Tryz.func20 rfl 26 Tryz.ntmps20 rfl ?_
 refine Sat.seq (Sat.region ?_)
 refine Tr.a rfl rfl rfl ?_
 refine Tr.nil (Aa (Sat.seq (Sat.seq (Sat.region ?_))))
 refine Tr.m rfl rfl rfl ?_
 refine Tr.lenSl rfl rfl rfl U42 ?_
 refine Tr.m rfl rfl rfl ?_
 refine Tr.lenSl rfl rfl rfl U42 ?_
 refine Tr.nei rfl rfl rfl rfl rfl ?_
 refine Tr.nil (Aa ?_)
 first
  | refine Sat.condP rfl (fun hc0 => ?_) (fun hc0 => ?_)
  | refine Sat.condNP rfl (fun hc0 => ?_) (fun hc0 => ?_)
  | refine Sat.cond rfl (fun hc0 => ?_) (fun hc0 => ?_)
 ·
  refine Sat.seq (Sat.region ?_)
  refine Tr.a rfl rfl rfl ?_
  refine Tr.nil (Aa (Sat.ret (As (Ak ?_))))
  refine ⟨_, [], Ae rfl rfl, sP, sP, ?_, rfl⟩
  first
   | exact congrArg Value.bool (sameL_len (by rw [hnd, hnu]; omega)).symm
   | exact congrArg Value.bool (sameL_yes (by rw [hnd, hnu]; omega) (by rw [hnd]; exact hg)).symm
   | exact congrArg Value.bool (sameL_no hd hdu (sameV_ne (by first | assumption | (intro h9; simp_all; done)))).symm
 ·
  refine Sat.skip (Aa (Sat.seq (Sat.seq (Sat.region ?_))))
  refine Tr.a rfl rfl rfl ?_
  refine Tr.nil (Aa (Sat.block ?_))
  refine Sat.loop (ι := Nat) (fun k => ⟨[(0, s.v), (1, u.v), (5, i64 (k : Int))], []⟩) (fun k => k ≤ s.n ∧ s.n = u.n ∧ ∀ (j : Nat) (a b : Vote), j < k → xs[j]? = some a → ys[j]? = some b → sameV a b = true) (fun k => s.n - k) (0) ?_ ?_ ?_
  · exact ⟨by omega, by omega, fun j a b hj => by omega⟩
  · exact Ao (wk1 rfl (wk1 rfl (wk1 rfl wk0))) wh0 nD
  ·
   rintro k ⟨hk, hsu, hg⟩
   refine Sat.seq (Sat.seq (Sat.region ?_))
   refine Tr.m rfl rfl rfl ?_
   refine Tr.m rfl rfl rfl ?_
   refine Tr.lenSl rfl rfl rfl U42 ?_
   refine Tr.lss rfl rfl rfl rfl rfl ?_
   refine Tr.nil (Aa ?_)
   first
    | refine Sat.condP rfl (fun hc1 => ?_) (fun hc1 => ?_)
    | refine Sat.condNP rfl (fun hc1 => ?_) (fun hc1 => ?_)
    | refine Sat.cond rfl (fun hc1 => ?_) (fun hc1 => ?_)
   ·
    have hk2 : k < s.n := by omega
    obtain ⟨b, o, r, d, hsp, hr, hd, his, hlen, hsee⟩ := hs.at dE hk2
    obtain ⟨b2, o2, r2, d2, hspu, hru, hdu, hiu, hlenu, hseeu⟩ := hu.at dE (show k < u.n by omega)
    obtain rfl := his.eq
    obtain rfl := hiu.eq
    refine Sat.skip (Aa (Sat.seq (Sat.block (Sat.seq ?_))))
    refine Sat.draw [(0, 0), (0, 1), (0, 2), (1, 3), (0, 4), (0, 5), (0, 6), (1, 7), (0, 8)] Bt zK ?_
    refine Tr.m rfl rfl rfl ?_
    refine Tr.m rfl rfl rfl ?_
    refine Tr.idxSlP 132 rfl rfl rfl hsp rfl U42 Bf k rfl oM ?_
    refine Tr.loadEN r.cells rfl rfl rfl U29 rfl Bf sP hlen hsee ?_
    refine Tr.m rfl rfl rfl ?_
    refine Tr.m rfl rfl rfl ?_
    refine Tr.idxSlP 132 rfl rfl rfl hspu rfl U42 Bf k rfl oM ?_
    refine Tr.loadEN r2.cells rfl rfl rfl U29 rfl Bf sP hlenu hseeu ?_
    refine Tr.neq_rec rfl rfl rfl rfl Vote.eg (fun w => Vote.eq_runC (by first | exact oK  | exact his.ok | exact hiu.ok) (by first | exact oK  | exact his.ok | exact hiu.ok) w) rfl ?_
    refine Tr.nil (Aa ?_)
    first
     | refine Sat.condP rfl (fun hc2 => ?_) (fun hc2 => ?_)
     | refine Sat.condNP rfl (fun hc2 => ?_) (fun hc2 => ?_)
     | refine Sat.cond rfl (fun hc2 => ?_) (fun hc2 => ?_)
    ·
     refine Sat.seq (Sat.region ?_)
     refine Tr.a rfl rfl rfl ?_
     refine Tr.nil (Aa (Sat.ret (bl_r (As (As (bl_r (As (Ak ?_))))))))
     refine ⟨_, [], Ae rfl rfl, sP, sP, ?_, rfl⟩
     first
      | exact congrArg Value.bool (sameL_len (by rw [hnd, hnu]; omega)).symm
      | exact congrArg Value.bool (sameL_yes (by rw [hnd, hnu]; omega) (by rw [hnd]; exact hg)).symm
      | exact congrArg Value.bool (sameL_no hd hdu (sameV_ne (by first | assumption | (intro h9; simp_all; done)))).symm
    ·
     refine Sat.skip (Bu (Aa (Sat.region ?_)))
     refine Tr.m rfl rfl rfl ?_
     refine Tr.aI rfl rfl rfl rfl oM ?_
     refine Tr.a rfl rfl rfl ?_
     refine Tr.nil (Aa ?_)
     exact ⟨k + 1, ⟨by omega, hsu, fun j a b hj ha hb => by rcases Nat.lt_succ_iff_lt_or_eq.1 hj with h | rfl; exact hg j a b h ha hb; exact (by rw [hd] at ha; rw [hdu] at hb; cases ha; cases hb; exact sameV_eq (by first | assumption | (simp_all; done)))⟩, by omega, Ao (wk1 rfl (wk1 rfl (wk1 rfl wk0))) wh0 nD⟩
   ·
    obtain rfl : k = s.n := by omega
    refine Sat.exit (A9 (A9 (bl_h (Aa (Sat.seq (Sat.region ?_))))))
    refine Tr.a rfl rfl rfl ?_
    refine Tr.nil (Aa (Sat.ret (Ak ?_)))
    refine ⟨_, [], Ae rfl rfl, sP, sP, ?_, rfl⟩
    first
     | exact congrArg Value.bool (sameL_len (by rw [hnd, hnu]; omega)).symm
     | exact congrArg Value.bool (sameL_yes (by rw [hnd, hnu]; omega) (by rw [hnd]; exact hg)).symm
     | exact congrArg Value.bool (sameL_no hd hdu (sameV_ne (by first | assumption | (intro h9; simp_all; done)))).symm

noncomputable def sameE (a b : DCert) : Bool := sameC a.dCut b.dCut && sameL sameV a.dVotes b.dVotes

theorem kit_cert (A B : Cert) (a b : DCert) (hn : A.fCut.fHeads.n ≤ 1000000) : Meets Tryz.prog 74 [agg A.cells, agg B.cells] [] (fun W => CertIs W A a ∧ CertIs W B b) (fun v out => v = .bool (sameE a b) ∧ out = []) := by
 intro W hW
 have hA := hW.1.ok
 have hB := hW.2.ok
 refine Aj Tryz.func74 rfl 17 Tryz.ntmps74 rfl ?_
 refine Sat.seq (Sat.region ?_)
 refine Tr.boxA rfl rfl ?_
 intro n2 hn2 hf2
 refine Tr.boxA rfl rfl ?_
 intro n3 hn3 hf3
 refine Tr.a rfl rfl rfl ?_
 refine Tr.nil (Aa (Sat.seq (Sat.region ?_)))
 refine Tr.fld rfl rfl rfl U80 rfl Sz39 dE _ rfl ?_
 refine Tr.lN (Cut.cells _) rfl rfl rfl U39 rfl Sz39 mM (Cert.row_fCut (by first | exact oK  | exact hA | exact hB)) (Cert.rl_fCut (by first | exact oK  | exact hA | exact hB)) ?_
 refine Tr.fld rfl rfl rfl U80 rfl Sz39 dE _ rfl ?_
 refine Tr.lN (Cut.cells _) rfl rfl rfl U39 rfl Sz39 mM (Cert.row_fCut (by first | exact oK  | exact hA | exact hB)) (Cert.rl_fCut (by first | exact oK  | exact hA | exact hB)) ?_
 refine Tr.callB rfl rfl rfl rfl Body75 (kit_cut A.fCut B.fCut a.dCut b.dCut hn) (fun w h => ⟨hW.1.fCut.ext h rfl, hW.2.fCut.ext h rfl⟩) (fun hs1_40 => ?_) (fun hs1_40 => ?_)
 ·
  first | have hs1_4 := of_decide_eq_true hs1_40 | have hs1_4 := of_decide_eq_false hs1_40 | have hs1_4 := nd_t hs1_40 | have hs1_4 := nd_f hs1_40 | have hs1_4 := hs1_40
  refine Tr.m rfl rfl rfl ?_
  refine Tr.fld rfl rfl rfl U80 rfl Sz42 dE _ rfl ?_
  refine Tr.load1 rfl rfl rfl U42 rfl mM (by first | exact Cert.get_fVotes (by first | exact oK  | exact hA | exact hB) | exact vL) ?_
  refine Tr.fld rfl rfl rfl U80 rfl Sz42 dE _ rfl ?_
  refine Tr.load1 rfl rfl rfl U42 rfl mM (by first | exact Cert.get_fVotes (by first | exact oK  | exact hA | exact hB) | exact vL) ?_
  refine Tr.cV rfl rfl rfl rfl Body20 (kit_votes A.fVotes B.fVotes a.dVotes b.dVotes) (fun w h => ⟨Votes_ext h rfl hW.1.fVotes, Votes_ext h rfl hW.2.fVotes⟩) ?_
  refine Tr.pick rfl rfl rfl rfl rfl rfl ?_
  refine Tr.a rfl rfl rfl ?_
  refine Tr.nil (Aa (Sat.ret (Ak ?_)))
  refine ⟨_, [], Ae rfl rfl, sP, sP, ?_, rfl⟩
  simp_all [sameE]
 ·
  first | have hs1_4 := of_decide_eq_true hs1_40 | have hs1_4 := of_decide_eq_false hs1_40 | have hs1_4 := nd_t hs1_40 | have hs1_4 := nd_f hs1_40 | have hs1_4 := hs1_40
  refine Tr.m rfl rfl rfl ?_
  refine Tr.skp rfl rfl ?_
  refine Tr.skp rfl rfl ?_
  refine Tr.skp rfl rfl ?_
  refine Tr.skp rfl rfl ?_
  refine Tr.skp rfl rfl ?_
  refine Tr.pick rfl rfl rfl rfl rfl rfl ?_
  refine Tr.a rfl rfl rfl ?_
  refine Tr.nil (Aa (Sat.ret (Ak ?_)))
  refine ⟨_, [], Ae rfl rfl, sP, sP, ?_, rfl⟩
  simp_all [sameE]

theorem kit_certs (s u : Sl) (xs ys : List DCert) (hsm : ∀ d ∈ xs, d.dCut.dHeads.length ≤ 1000000) : Meets Tryz.prog 22 [s.v, u.v] [] (fun W => CertsAt W s xs ∧ CertsAt W u ys) (fun v out => v = .bool (sameL sameE xs ys) ∧ out = []) := by
 intro W hW
 obtain ⟨⟨rs, hs⟩, ⟨ru, hu⟩⟩ := hW
 have hnd := hs.nd
 have hnu := hu.nd
 have hmax := hs.max
 have hmaxu := hu.max
 simp only [maxLen] at hmax hmaxu
 refine Aj Tryz.func22 rfl 27 Tryz.ntmps22 rfl ?_
 refine Sat.seq (Sat.region ?_)
 refine Tr.a rfl rfl rfl ?_
 refine Tr.nil (Aa (Sat.seq (Sat.seq (Sat.region ?_))))
 refine Tr.m rfl rfl rfl ?_
 refine Tr.lenSl rfl rfl rfl U41 ?_
 refine Tr.m rfl rfl rfl ?_
 refine Tr.lenSl rfl rfl rfl U41 ?_
 refine Tr.nei rfl rfl rfl rfl rfl ?_
 refine Tr.nil (Aa ?_)
 first
  | refine Sat.condP rfl (fun hc0 => ?_) (fun hc0 => ?_)
  | refine Sat.condNP rfl (fun hc0 => ?_) (fun hc0 => ?_)
  | refine Sat.cond rfl (fun hc0 => ?_) (fun hc0 => ?_)
 ·
  refine Sat.seq (Sat.region ?_)
  refine Tr.a rfl rfl rfl ?_
  refine Tr.nil (Aa (Sat.ret (As (Ak ?_))))
  refine ⟨_, [], Ae rfl rfl, sP, sP, ?_, rfl⟩
  first
   | exact congrArg Value.bool (sameL_len (by rw [hnd, hnu]; omega)).symm
   | exact congrArg Value.bool (sameL_yes (by rw [hnd, hnu]; omega) (by rw [hnd]; exact hg)).symm
   | exact congrArg Value.bool (sameL_no hd hdu (by simp_all; done)).symm
 ·
  refine Sat.skip (Aa (Sat.seq (Sat.seq (Sat.region ?_))))
  refine Tr.a rfl rfl rfl ?_
  refine Tr.nil (Aa (Sat.block ?_))
  refine Sat.loop (ι := Nat) (fun k => ⟨[(0, s.v), (1, u.v), (5, i64 (k : Int))], []⟩) (fun k => k ≤ s.n ∧ s.n = u.n ∧ ∀ (j : Nat) (a b : DCert), j < k → xs[j]? = some a → ys[j]? = some b → sameE a b = true) (fun k => s.n - k) (0) ?_ ?_ ?_
  · exact ⟨by omega, by omega, fun j a b hj => by omega⟩
  · exact Ao (wk1 rfl (wk1 rfl (wk1 rfl wk0))) wh0 nD
  ·
   rintro k ⟨hk, hsu, hg⟩
   refine Sat.seq (Sat.seq (Sat.region ?_))
   refine Tr.m rfl rfl rfl ?_
   refine Tr.m rfl rfl rfl ?_
   refine Tr.lenSl rfl rfl rfl U41 ?_
   refine Tr.lss rfl rfl rfl rfl rfl ?_
   refine Tr.nil (Aa ?_)
   first
    | refine Sat.condP rfl (fun hc1 => ?_) (fun hc1 => ?_)
    | refine Sat.condNP rfl (fun hc1 => ?_) (fun hc1 => ?_)
    | refine Sat.cond rfl (fun hc1 => ?_) (fun hc1 => ?_)
   ·
    have hk2 : k < s.n := by omega
    obtain ⟨b, o, r, d, hsp, hr, hd, his, hlen, hsee⟩ := hs.at dE hk2
    obtain ⟨b2, o2, r2, d2, hspu, hru, hdu, hiu, hlenu, hseeu⟩ := hu.at dE (show k < u.n by omega)
    refine Sat.skip (Aa (Sat.seq (Sat.block (Sat.seq ?_))))
    refine Sat.draw [(0, 0), (0, 1), (0, 2), (1, 3), (0, 4), (0, 5), (0, 6), (1, 7), (3, 8), (0, 9)] Bt zK ?_
    refine Tr.m rfl rfl rfl ?_
    refine Tr.m rfl rfl rfl ?_
    refine Tr.idxSlP 35 rfl rfl rfl hsp rfl U41 Sz80 k rfl oM ?_
    refine Tr.loadEN r.cells rfl rfl rfl U80 rfl Sz80 sP hlen hsee ?_
    refine Tr.m rfl rfl rfl ?_
    refine Tr.m rfl rfl rfl ?_
    refine Tr.idxSlP 35 rfl rfl rfl hspu rfl U41 Sz80 k rfl oM ?_
    refine Tr.loadEN r2.cells rfl rfl rfl U80 rfl Sz80 sP hlenu hseeu ?_
    refine Tr.cV rfl rfl rfl rfl Body74 (kit_cert r r2 d d2 (by rw [← his.fCut.fHeads.len]; exact hsm d (List.mem_of_getElem? hd))) (fun w h => ⟨his.ext h rfl, hiu.ext h rfl⟩) ?_
    refine Tr.not rfl rfl rfl ?_
    refine Tr.nil (Aa ?_)
    first
     | refine Sat.condP rfl (fun hc2 => ?_) (fun hc2 => ?_)
     | refine Sat.condNP rfl (fun hc2 => ?_) (fun hc2 => ?_)
     | refine Sat.cond rfl (fun hc2 => ?_) (fun hc2 => ?_)
    ·
     refine Sat.seq (Sat.region ?_)
     refine Tr.a rfl rfl rfl ?_
     refine Tr.nil (Aa (Sat.ret (bl_r (As (As (bl_r (As (Ak ?_))))))))
     refine ⟨_, [], Ae rfl rfl, sP, sP, ?_, rfl⟩
     first
      | exact congrArg Value.bool (sameL_len (by rw [hnd, hnu]; omega)).symm
      | exact congrArg Value.bool (sameL_yes (by rw [hnd, hnu]; omega) (by rw [hnd]; exact hg)).symm
      | exact congrArg Value.bool (sameL_no hd hdu (by simp_all; done)).symm
    ·
     refine Sat.skip (Bu (Aa (Sat.region ?_)))
     refine Tr.m rfl rfl rfl ?_
     refine Tr.aI rfl rfl rfl rfl oM ?_
     refine Tr.a rfl rfl rfl ?_
     refine Tr.nil (Aa ?_)
     exact ⟨k + 1, ⟨by omega, hsu, fun j a b hj ha hb => by rcases Nat.lt_succ_iff_lt_or_eq.1 hj with h | rfl; exact hg j a b h ha hb; exact (by rw [hd] at ha; rw [hdu] at hb; cases ha; cases hb; simp_all)⟩, by omega, Ao (wk1 rfl (wk1 rfl (wk1 rfl wk0))) wh0 nD⟩
   ·
    obtain rfl : k = s.n := by omega
    refine Sat.exit (A9 (A9 (bl_h (Aa (Sat.seq (Sat.region ?_))))))
    refine Tr.a rfl rfl rfl ?_
    refine Tr.nil (Aa (Sat.ret (Ak ?_)))
    refine ⟨_, [], Ae rfl rfl, sP, sP, ?_, rfl⟩
    first
     | exact congrArg Value.bool (sameL_len (by rw [hnd, hnu]; omega)).symm
     | exact congrArg Value.bool (sameL_yes (by rw [hnd, hnu]; omega) (by rw [hnd]; exact hg)).symm
     | exact congrArg Value.bool (sameL_no hd hdu (by simp_all; done)).symm

def sameBk (a b : DB) : Bool := decide (a.w = b.w) && (decide ((a.seq.toNat : Int) = (b.seq.toNat : Int)) && (decide (a.prev = b.prev) && (decide (a.ls = b.ls) && (decide (a.ds = b.ds) && decide (a.sg = b.sg)))))
theorem sameB_Bk {W : World} {A B : Block} {a b : DB} (h1 : BlockIs W A a) (h2 : BlockIs W B b) : sameB A B a.ls b.ls a.ds b.ds = sameBk a b := by
  simp only [sameB, sameBk, h1.w, h2.w, h1.seq, h2.seq, h1.prev, h2.prev, h1.sg, h2.sg]
theorem kit_blockD (A B : Block) (a b : DB) (hn : A.fLinks.n ≤ 1000000) : Meets Tryz.prog 73 [agg A.cells, agg B.cells] [] (fun W => BlockIs W A a ∧ BlockIs W B b) (fun v out => v = .bool (sameBk a b) ∧ out = []) := fun W hW => by
  rw [← sameB_Bk hW.1 hW.2]
  exact kit_block A B hW.1.ok hW.2.ok a.ls b.ls a.ds b.ds hn W ⟨⟨hW.1.ls, hW.1.ds⟩, ⟨hW.2.ls, hW.2.ds⟩⟩

theorem kit_blocks (s u : Sl) (xs ys : List DB) (hsm : ∀ d ∈ xs, d.ls.length ≤ 1000000) : Meets Tryz.prog 21 [s.v, u.v] [] (fun W => BlocksAt W s xs ∧ BlocksAt W u ys) (fun v out => v = .bool (sameL sameBk xs ys) ∧ out = []) := by
 intro W hW
 obtain ⟨⟨rs, hs⟩, ⟨ru, hu⟩⟩ := hW
 have hnd := hs.nd
 have hnu := hu.nd
 have hmax := hs.max
 have hmaxu := hu.max
 simp only [maxLen] at hmax hmaxu
 refine Aj Tryz.func21 rfl 27 Tryz.ntmps21 rfl ?_
 refine Sat.seq (Sat.region ?_)
 refine Tr.a rfl rfl rfl ?_
 refine Tr.nil (Aa (Sat.seq (Sat.seq (Sat.region ?_))))
 refine Tr.m rfl rfl rfl ?_
 refine Tr.lenSl rfl rfl rfl U40 ?_
 refine Tr.m rfl rfl rfl ?_
 refine Tr.lenSl rfl rfl rfl U40 ?_
 refine Tr.nei rfl rfl rfl rfl rfl ?_
 refine Tr.nil (Aa ?_)
 first
  | refine Sat.condP rfl (fun hc0 => ?_) (fun hc0 => ?_)
  | refine Sat.condNP rfl (fun hc0 => ?_) (fun hc0 => ?_)
  | refine Sat.cond rfl (fun hc0 => ?_) (fun hc0 => ?_)
 ·
  refine Sat.seq (Sat.region ?_)
  refine Tr.a rfl rfl rfl ?_
  refine Tr.nil (Aa (Sat.ret (As (Ak ?_))))
  refine ⟨_, [], Ae rfl rfl, sP, sP, ?_, rfl⟩
  first
   | exact congrArg Value.bool (sameL_len (by rw [hnd, hnu]; omega)).symm
   | exact congrArg Value.bool (sameL_yes (by rw [hnd, hnu]; omega) (by rw [hnd]; exact hg)).symm
   | exact congrArg Value.bool (sameL_no hd hdu (by simp_all; done)).symm
 ·
  refine Sat.skip (Aa (Sat.seq (Sat.seq (Sat.region ?_))))
  refine Tr.a rfl rfl rfl ?_
  refine Tr.nil (Aa (Sat.block ?_))
  refine Sat.loop (ι := Nat) (fun k => ⟨[(0, s.v), (1, u.v), (5, i64 (k : Int))], []⟩) (fun k => k ≤ s.n ∧ s.n = u.n ∧ ∀ (j : Nat) (a b : DB), j < k → xs[j]? = some a → ys[j]? = some b → sameBk a b = true) (fun k => s.n - k) (0) ?_ ?_ ?_
  · exact ⟨by omega, by omega, fun j a b hj => by omega⟩
  · exact Ao (wk1 rfl (wk1 rfl (wk1 rfl wk0))) wh0 nD
  ·
   rintro k ⟨hk, hsu, hg⟩
   refine Sat.seq (Sat.seq (Sat.region ?_))
   refine Tr.m rfl rfl rfl ?_
   refine Tr.m rfl rfl rfl ?_
   refine Tr.lenSl rfl rfl rfl U40 ?_
   refine Tr.lss rfl rfl rfl rfl rfl ?_
   refine Tr.nil (Aa ?_)
   first
    | refine Sat.condP rfl (fun hc1 => ?_) (fun hc1 => ?_)
    | refine Sat.condNP rfl (fun hc1 => ?_) (fun hc1 => ?_)
    | refine Sat.cond rfl (fun hc1 => ?_) (fun hc1 => ?_)
   ·
    have hk2 : k < s.n := by omega
    obtain ⟨b, o, r, d, hsp, hr, hd, his, hlen, hsee⟩ := hs.at dE hk2
    obtain ⟨b2, o2, r2, d2, hspu, hru, hdu, hiu, hlenu, hseeu⟩ := hu.at dE (show k < u.n by omega)
    refine Sat.skip (Aa (Sat.seq (Sat.block (Sat.seq ?_))))
    refine Sat.draw [(0, 0), (0, 1), (0, 2), (1, 3), (0, 4), (0, 5), (0, 6), (1, 7), (3, 8), (0, 9)] Bt zK ?_
    refine Tr.m rfl rfl rfl ?_
    refine Tr.m rfl rfl rfl ?_
    refine Tr.idxSlP 131 rfl rfl rfl hsp rfl U40 Sz52 k rfl oM ?_
    refine Tr.loadEN r.cells rfl rfl rfl U52 rfl Sz52 sP hlen hsee ?_
    refine Tr.m rfl rfl rfl ?_
    refine Tr.m rfl rfl rfl ?_
    refine Tr.idxSlP 131 rfl rfl rfl hspu rfl U40 Sz52 k rfl oM ?_
    refine Tr.loadEN r2.cells rfl rfl rfl U52 rfl Sz52 sP hlenu hseeu ?_
    refine Tr.cV rfl rfl rfl rfl Body73 (kit_blockD r r2 d d2 (by rw [← his.ls.len]; exact hsm d (List.mem_of_getElem? hd))) (fun w h => ⟨his.ext h rfl, hiu.ext h rfl⟩) ?_
    refine Tr.not rfl rfl rfl ?_
    refine Tr.nil (Aa ?_)
    first
     | refine Sat.condP rfl (fun hc2 => ?_) (fun hc2 => ?_)
     | refine Sat.condNP rfl (fun hc2 => ?_) (fun hc2 => ?_)
     | refine Sat.cond rfl (fun hc2 => ?_) (fun hc2 => ?_)
    ·
     refine Sat.seq (Sat.region ?_)
     refine Tr.a rfl rfl rfl ?_
     refine Tr.nil (Aa (Sat.ret (bl_r (As (As (bl_r (As (Ak ?_))))))))
     refine ⟨_, [], Ae rfl rfl, sP, sP, ?_, rfl⟩
     first
      | exact congrArg Value.bool (sameL_len (by rw [hnd, hnu]; omega)).symm
      | exact congrArg Value.bool (sameL_yes (by rw [hnd, hnu]; omega) (by rw [hnd]; exact hg)).symm
      | exact congrArg Value.bool (sameL_no hd hdu (by simp_all; done)).symm
    ·
     refine Sat.skip (Bu (Aa (Sat.region ?_)))
     refine Tr.m rfl rfl rfl ?_
     refine Tr.aI rfl rfl rfl rfl oM ?_
     refine Tr.a rfl rfl rfl ?_
     refine Tr.nil (Aa ?_)
     exact ⟨k + 1, ⟨by omega, hsu, fun j a b hj ha hb => by rcases Nat.lt_succ_iff_lt_or_eq.1 hj with h | rfl; exact hg j a b h ha hb; exact (by rw [hd] at ha; rw [hdu] at hb; cases ha; cases hb; simp_all)⟩, by omega, Ao (wk1 rfl (wk1 rfl (wk1 rfl wk0))) wh0 nD⟩
   ·
    obtain rfl : k = s.n := by omega
    refine Sat.exit (A9 (A9 (bl_h (Aa (Sat.seq (Sat.region ?_))))))
    refine Tr.a rfl rfl rfl ?_
    refine Tr.nil (Aa (Sat.ret (Ak ?_)))
    refine ⟨_, [], Ae rfl rfl, sP, sP, ?_, rfl⟩
    first
     | exact congrArg Value.bool (sameL_len (by rw [hnd, hnu]; omega)).symm
     | exact congrArg Value.bool (sameL_yes (by rw [hnd, hnu]; omega) (by rw [hnd]; exact hg)).symm
     | exact congrArg Value.bool (sameL_no hd hdu (by simp_all; done)).symm

noncomputable def sameK (a b : DKept) : Bool := sameL sameBk a.dBlocks b.dBlocks && (sameL sameE a.dCerts b.dCerts && (sameL sameV a.dVotes b.dVotes && sameL sameC a.dCuts b.dCuts))
def DKept.small (a : DKept) : Prop := (∀ d ∈ a.dBlocks, d.ls.length ≤ 1000000) ∧ (∀ d ∈ a.dCerts, d.dCut.dHeads.length ≤ 1000000) ∧ ∀ d ∈ a.dCuts, d.dHeads.length ≤ 1000000

theorem kit_kept (A B : Kept) (a b : DKept) (hsm : a.small) : Meets Tryz.prog 18 [agg A.cells, agg B.cells] [] (fun W => KeptIs W A a ∧ KeptIs W B b) (fun v out => v = .bool (sameK a b) ∧ out = []) := by
 intro W hW
 have hA := hW.1.ok
 have hB := hW.2.ok
 refine Aj Tryz.func18 rfl 31 Tryz.ntmps18 rfl ?_
 refine Sat.seq (Sat.region ?_)
 refine Tr.boxA rfl rfl ?_
 intro n2 hn2 hf2
 refine Tr.boxA rfl rfl ?_
 intro n3 hn3 hf3
 refine Tr.a rfl rfl rfl ?_
 refine Tr.nil (Aa (Sat.seq (Sat.region ?_)))
 refine Tr.fld rfl rfl rfl U45 rfl Sz40 dE _ rfl ?_
 refine Tr.load1 rfl rfl rfl U40 rfl mM (by first | exact Kept.get_fBlocks (by first | exact oK  | exact hA | exact hB) | exact vL) ?_
 refine Tr.fld rfl rfl rfl U45 rfl Sz40 dE _ rfl ?_
 refine Tr.load1 rfl rfl rfl U40 rfl mM (by first | exact Kept.get_fBlocks (by first | exact oK  | exact hA | exact hB) | exact vL) ?_
 refine Tr.callB rfl rfl rfl rfl Body21 (kit_blocks A.fBlocks B.fBlocks a.dBlocks b.dBlocks hsm.1) (fun w h => ⟨Blocks_ext h rfl hW.1.fBlocks, Blocks_ext h rfl hW.2.fBlocks⟩) (fun hs1_40 => ?_) (fun hs1_40 => ?_)
 ·
  first | have hs1_4 := of_decide_eq_true hs1_40 | have hs1_4 := of_decide_eq_false hs1_40 | have hs1_4 := nd_t hs1_40 | have hs1_4 := nd_f hs1_40 | have hs1_4 := hs1_40
  refine Tr.m rfl rfl rfl ?_
  refine Tr.fld rfl rfl rfl U45 rfl Sz41 dE _ rfl ?_
  refine Tr.load1 rfl rfl rfl U41 rfl mM (by first | exact Kept.get_fCerts (by first | exact oK  | exact hA | exact hB) | exact vL) ?_
  refine Tr.fld rfl rfl rfl U45 rfl Sz41 dE _ rfl ?_
  refine Tr.load1 rfl rfl rfl U41 rfl mM (by first | exact Kept.get_fCerts (by first | exact oK  | exact hA | exact hB) | exact vL) ?_
  refine Tr.callB rfl rfl rfl rfl Body22 (kit_certs A.fCerts B.fCerts a.dCerts b.dCerts hsm.2.1) (fun w h => ⟨Certs_ext h rfl hW.1.fCerts, Certs_ext h rfl hW.2.fCerts⟩) (fun hs1_100 => ?_) (fun hs1_100 => ?_)
  ·
   first | have hs1_10 := of_decide_eq_true hs1_100 | have hs1_10 := of_decide_eq_false hs1_100 | have hs1_10 := nd_t hs1_100 | have hs1_10 := nd_f hs1_100 | have hs1_10 := hs1_100
   refine Tr.pick rfl rfl rfl rfl rfl rfl ?_
   refine Tr.m rfl rfl rfl ?_
   refine Tr.fld rfl rfl rfl U45 rfl Sz42 dE _ rfl ?_
   refine Tr.load1 rfl rfl rfl U42 rfl mM (by first | exact Kept.get_fVotes (by first | exact oK  | exact hA | exact hB) | exact vL) ?_
   refine Tr.fld rfl rfl rfl U45 rfl Sz42 dE _ rfl ?_
   refine Tr.load1 rfl rfl rfl U42 rfl mM (by first | exact Kept.get_fVotes (by first | exact oK  | exact hA | exact hB) | exact vL) ?_
   refine Tr.callB rfl rfl rfl rfl Body20 (kit_votes A.fVotes B.fVotes a.dVotes b.dVotes) (fun w h => ⟨Votes_ext h rfl hW.1.fVotes, Votes_ext h rfl hW.2.fVotes⟩) (fun hs1_170 => ?_) (fun hs1_170 => ?_)
   ·
    first | have hs1_17 := of_decide_eq_true hs1_170 | have hs1_17 := of_decide_eq_false hs1_170 | have hs1_17 := nd_t hs1_170 | have hs1_17 := nd_f hs1_170 | have hs1_17 := hs1_170
    refine Tr.pick rfl rfl rfl rfl rfl rfl ?_
    refine Tr.m rfl rfl rfl ?_
    refine Tr.fld rfl rfl rfl U45 rfl Sz43 dE _ rfl ?_
    refine Tr.load1 rfl rfl rfl U43 rfl mM (by first | exact Kept.get_fCuts (by first | exact oK  | exact hA | exact hB) | exact vL) ?_
    refine Tr.fld rfl rfl rfl U45 rfl Sz43 dE _ rfl ?_
    refine Tr.load1 rfl rfl rfl U43 rfl mM (by first | exact Kept.get_fCuts (by first | exact oK  | exact hA | exact hB) | exact vL) ?_
    refine Tr.cV rfl rfl rfl rfl Body23 (kit_cuts A.fCuts B.fCuts a.dCuts b.dCuts hsm.2.2) (fun w h => ⟨Cuts_ext h rfl hW.1.fCuts, Cuts_ext h rfl hW.2.fCuts⟩) ?_
    refine Tr.pick rfl rfl rfl rfl rfl rfl ?_
    refine Tr.a rfl rfl rfl ?_
    refine Tr.nil (Aa (Sat.ret (Ak ?_)))
    refine ⟨_, [], Ae rfl rfl, sP, sP, ?_, rfl⟩
    simp_all [sameK]
   ·
    first | have hs1_17 := of_decide_eq_true hs1_170 | have hs1_17 := of_decide_eq_false hs1_170 | have hs1_17 := nd_t hs1_170 | have hs1_17 := nd_f hs1_170 | have hs1_17 := hs1_170
    refine Tr.pick rfl rfl rfl rfl rfl rfl ?_
    refine Tr.m rfl rfl rfl ?_
    refine Tr.skp rfl rfl ?_
    refine Tr.skp rfl rfl ?_
    refine Tr.skp rfl rfl ?_
    refine Tr.skp rfl rfl ?_
    refine Tr.skp rfl rfl ?_
    refine Tr.pick rfl rfl rfl rfl rfl rfl ?_
    refine Tr.a rfl rfl rfl ?_
    refine Tr.nil (Aa (Sat.ret (Ak ?_)))
    refine ⟨_, [], Ae rfl rfl, sP, sP, ?_, rfl⟩
    simp_all [sameK]
  ·
   first | have hs1_10 := of_decide_eq_true hs1_100 | have hs1_10 := of_decide_eq_false hs1_100 | have hs1_10 := nd_t hs1_100 | have hs1_10 := nd_f hs1_100 | have hs1_10 := hs1_100
   refine Tr.pick rfl rfl rfl rfl rfl rfl ?_
   refine Tr.m rfl rfl rfl ?_
   refine Tr.skp rfl rfl ?_
   refine Tr.skp rfl rfl ?_
   refine Tr.skp rfl rfl ?_
   refine Tr.skp rfl rfl ?_
   refine Tr.skp rfl rfl ?_
   refine Tr.pick rfl rfl rfl rfl rfl rfl ?_
   refine Tr.m rfl rfl rfl ?_
   refine Tr.skp rfl rfl ?_
   refine Tr.skp rfl rfl ?_
   refine Tr.skp rfl rfl ?_
   refine Tr.skp rfl rfl ?_
   refine Tr.skp rfl rfl ?_
   refine Tr.pick rfl rfl rfl rfl rfl rfl ?_
   refine Tr.a rfl rfl rfl ?_
   refine Tr.nil (Aa (Sat.ret (Ak ?_)))
   refine ⟨_, [], Ae rfl rfl, sP, sP, ?_, rfl⟩
   simp_all [sameK]
 ·
  first | have hs1_4 := of_decide_eq_true hs1_40 | have hs1_4 := of_decide_eq_false hs1_40 | have hs1_4 := nd_t hs1_40 | have hs1_4 := nd_f hs1_40 | have hs1_4 := hs1_40
  refine Tr.m rfl rfl rfl ?_
  refine Tr.skp rfl rfl ?_
  refine Tr.skp rfl rfl ?_
  refine Tr.skp rfl rfl ?_
  refine Tr.skp rfl rfl ?_
  refine Tr.skp rfl rfl ?_
  refine Tr.pick rfl rfl rfl rfl rfl rfl ?_
  refine Tr.m rfl rfl rfl ?_
  refine Tr.skp rfl rfl ?_
  refine Tr.skp rfl rfl ?_
  refine Tr.skp rfl rfl ?_
  refine Tr.skp rfl rfl ?_
  refine Tr.skp rfl rfl ?_
  refine Tr.pick rfl rfl rfl rfl rfl rfl ?_
  refine Tr.m rfl rfl rfl ?_
  refine Tr.skp rfl rfl ?_
  refine Tr.skp rfl rfl ?_
  refine Tr.skp rfl rfl ?_
  refine Tr.skp rfl rfl ?_
  refine Tr.skp rfl rfl ?_
  refine Tr.pick rfl rfl rfl rfl rfl rfl ?_
  refine Tr.a rfl rfl rfl ?_
  refine Tr.nil (Aa (Sat.ret (Ak ?_)))
  refine ⟨_, [], Ae rfl rfl, sP, sP, ?_, rfl⟩
  simp_all [sameK]

end Go.Proofs.YtkfhpmidcbmofaaGreat
end

section
namespace Go.Proofs.YtkfhpmidcbmofaaGreat
open Go Hw

theorem seq_one {R D : Type} {cells : R → List Value} {k : Nat} {Is : World → R → D → Prop} {w : World} (q : Nat) (E : TypeId) (r : R) {m : Nat} {d : D} (hl : Lies [⟨q, cells r, E, m⟩] w) (hlen : (cells r).length = k) (hm : m = 1 * k) (hi : Is w r d) : SeqIs cells k Is w ⟨some ⟨q, 0, none⟩, 1, 1⟩ [r] [d] := by
  subst hm
  have ha : Hw.Acc ⟨some ⟨q, 0, none⟩, 1, 1⟩ [⟨q, cells r, E, 1 * k⟩] (cells r) E 1 k := Acc.some (Nat.le_refl _) (by rw [hlen, Nat.one_mul])
  have e : ([r].map cells).flatten = cells r := by simp
  refine acc_seq (by rw [e]; exact ha) hl rfl rfl (fun x hx => by rw [List.mem_singleton.1 hx]; exact hlen) sP fun i x y hx hy => ?_
  obtain ⟨hi1, rfl⟩ := List.getElem?_eq_some_iff.1 hx
  obtain ⟨hi2, rfl⟩ := List.getElem?_eq_some_iff.1 hy
  have e0 : i = 0 := by simp at hi1; exact hi1
  subst e0
  exact hi
theorem sameC_self (a : DCut) : sameC a a = true := by simp [sameC]
theorem sameV_self (a : Vote) : sameV a a = true := sameV_eq rfl
theorem sameL_self {D : Type} {f : D → D → Bool} (h : ∀ a, f a a = true) (l : List D) : sameL f l l = true := sameL_yes rfl fun j a b _ ha hb => by rw [ha] at hb; cases hb; exact h a
theorem sameE_self (a : DCert) : sameE a a = true := by simp only [sameE, sameC_self, sameL_self sameV_self, Bool.and_self]
theorem sameBk_self (a : DB) : sameBk a a = true := by simp [sameBk]
theorem sameK_self (a : DKept) : sameK a a = true := by simp only [sameK, sameL_self sameBk_self, sameL_self sameE_self, sameL_self sameV_self, sameL_self sameC_self, Bool.and_self]
theorem kit_kept_same (A B : Kept) (a : DKept) (h : a.small) : Meets Tryz.prog 18 [agg A.cells, agg B.cells] [] (fun W => KeptIs W A a ∧ KeptIs W B a) (fun v out => v = .bool true ∧ out = []) := by
  have h := kit_kept A B a a h
  rwa [sameK_self] at h
theorem dkz_small : dkz.small := ⟨fun d h => (by cases h), fun d h => (by cases h), fun d h => (by cases h)⟩
def oneB : List UInt8 := 1 :: List.replicate 31 0
def sevB : List UInt8 := 7 :: List.replicate 31 0
def exCut (q : Nat) : Cut := ⟨1, List.replicate 32 0, ⟨some ⟨q, 0, none⟩, 1, 1⟩⟩
def exCutD : DCut := ⟨1, List.replicate 32 0, [oneB]⟩
def exVote : Vote := ⟨1, 0, 3, sevB, 0, List.replicate 32 0, List.replicate 64 0⟩
def exCert (q r : Nat) : Cert := ⟨exCut q, ⟨some ⟨r, 0, none⟩, 1, 1⟩⟩
def exD : DCert := ⟨exCutD, [exVote]⟩
theorem Ar (q : Nat) : (exCut q).ok := ⟨rfl⟩
theorem Bs : exVote.ok := ⟨rfl, rfl, rfl⟩
theorem exCert_ok (q r : Nat) : (exCert q r).ok := ⟨Ar q⟩
theorem ex_name : (decide (sevB = cnameD exCutD)) = false := by kernel_rfl
theorem ex_check : exD.check = 2 := cert_bad2 (k := 0) dE (.inr (.inr (.inr (.inl (of_decide_eq_false ex_name)))))
theorem ex_by : certBy exD = [] := if_neg (by rw [ex_check]; decide)
theorem ex_rec : (recOf 2 (certBy exD) exD.check).2 = 2 := by rw [recOf, if_neg (by rw [ex_check]; decide)]; exact ex_check
theorem ex_r0 : keepRd [] = (dkz, 0) := keepRd_ok keepR_nil rfl
theorem keepR_one (r : DRecord) : keepR [r] = keepStep dkz r := rfl
theorem step_no {D : DKept} {r : DRecord} (h : 4 < r.dKind.toNat) : keepStep D r = none := by
  have hn : ∀ k : UInt8, k.toNat ≤ 4 → ¬ r.dKind = k := fun k hk e => by rw [e] at h; omega
  rw [keepStep, if_neg (hn 1 dE), if_neg (hn 2 dE), if_neg (hn 3 dE), if_neg (hn 4 dE)]
theorem rd_kind {r : DRecord} (h : 4 < r.dKind.toNat) : keepRd [r] = (dkz, 4) := keepRd_bad (by rw [keepR_one, step_no h])
theorem exCut_is {w : World} {q : Nat} {m : Nat} (hl : Lies [⟨q, flatB [oneB], 24, m⟩] w) (hm : m = 1 * 32) : CutIs w (exCut q) exCutD := by
  subst hm
  exact ⟨Ar q, rfl, rfl, acc_rows (Acc.some (E := 24) (cells := flatB [oneB]) (Nat.le_refl _) rfl) hl (fun l h => by rw [List.mem_singleton.1 h]; rfl) rfl dE⟩

theorem law26_lives  : Meets Tryz.prog 11 [] [] (fun _ => True) (fun v out => v = .bool true ∧ out = []) := by
 intro W hW
 refine Aj Tryz.func11 rfl 45 Tryz.ntmps11 rfl ?_
 refine Sat.seq (Sat.region ?_)
 refine Tr.a rfl rfl rfl ?_
 refine Tr.nil (Aa (Sat.seq (Sat.region ?_)))
 refine Tr.build (cs := Ab oneB) rfl rfl rfl (fun w => by kernel_rfl) ?_
 refine Tr.mkRow2 (z := agg (Ab (List.replicate 32 0))) [agg (Ab oneB)] (flatB [oneB]) rfl rfl U37 A5 Zr24 rfl rfl (by intro v hv; rw [List.mem_singleton.1 hv]; rfl) dE (by rfl) ?_
 intro q9
 refine Tr.build (cs := (exCut q9).cells) rfl rfl rfl (fun w => by kernel_rfl) ?_
 refine Tr.build (cs := Ab sevB) rfl rfl rfl (fun w => by kernel_rfl) ?_
 refine Tr.build (cs := exVote.cells) rfl rfl rfl (fun w => by kernel_rfl) ?_
 refine Tr.mkRow2 (z := agg Vote.zero.cells) [agg exVote.cells] exVote.cells rfl rfl U42 Bf Vote.zr rfl rfl (by intro v hv; rw [List.mem_singleton.1 hv]; exact Vote.length Bs) dE (by simp [Value.cells]) ?_
 intro q13
 refine Tr.build (cs := (exCert q9 q13).cells) rfl rfl rfl (fun w => by kernel_rfl) ?_
 refine Tr.alloc (cs := Cert.zero.cells) rfl Cert.zr rfl ?_
 intro n1 hn1 hf1
 refine Tr.sA rfl rfl rfl rfl (Cert.isCell (by first | exact oK  | exact exCert_ok _ _ | exact Ar _ | exact Bs | exact ok16 | exact ok22 | exact ok27 | exact ⟨trivial⟩)) Sz80 (Cert.length (by first | exact oK  | exact exCert_ok _ _ | exact Ar _ | exact Bs | exact ok16 | exact ok22 | exact ok27 | exact ⟨trivial⟩)) mM (Cert.length (by first | exact oK  | exact exCert_ok _ _ | exact Ar _ | exact Bs | exact ok16 | exact ok22 | exact ok27 | exact ⟨trivial⟩)) uU ?_
 refine Tr.nil (Aa (Sat.seq (Sat.region ?_)))
 refine Tr.call4 rfl rfl rfl rfl rfl Body8 (keep_read Sl.nil [] dE (fun d h => by cases h)) (fun w h => ⟨[], SeqIs.none⟩) ?_
 rintro v16 out16 ⟨X16, ok16, rfl, h16⟩
 rw [ex_r0] at h16 ⊢
 refine Tr.m rfl rfl rfl ?_
 refine Tr.eX rfl rfl rfl rfl ?_
 refine Tr.eX rfl rfl rfl rfl ?_
 refine Tr.alloc (cs := Kept.zero.cells) rfl Kept.zr rfl ?_
 intro n2 hn2 hf2
 refine Tr.sA rfl rfl rfl rfl (Kept.isCell (by first | exact oK  | exact exCert_ok _ _ | exact Ar _ | exact Bs | exact ok16 | exact ok22 | exact ok27 | exact ⟨trivial⟩)) Sz45 (Kept.length (by first | exact oK  | exact exCert_ok _ _ | exact Ar _ | exact Bs | exact ok16 | exact ok22 | exact ok27 | exact ⟨trivial⟩)) mM (Kept.length (by first | exact oK  | exact exCert_ok _ _ | exact Ar _ | exact Bs | exact ok16 | exact ok22 | exact ok27 | exact ⟨trivial⟩)) uU ?_
 refine Tr.a rfl rfl rfl ?_
 refine Tr.nil (Aa (Sat.seq (Sat.region ?_)))
 refine Tr.build (cs := (⟨5, Sl.nil⟩ : Record).cells) rfl rfl rfl (fun w => by kernel_rfl) ?_
 refine Tr.mkRow2 (z := agg Record.zero.cells) [agg (⟨5, Sl.nil⟩ : Record).cells] (⟨5, Sl.nil⟩ : Record).cells rfl rfl Tryz.underlying48 Sz32 Record.zr rfl rfl (by intro v hv; rw [List.mem_singleton.1 hv]; exact rfl) dE (by simp [Value.cells]) ?_
 intro q21
 refine Tr.call4 rfl rfl rfl rfl rfl Body8 (keep_read ⟨some ⟨q21, 0, none⟩, 1, 1⟩ [⟨5, []⟩] sP (fun d h => by rw [List.mem_singleton.1 h]; decide)) (fun w h => ⟨_, seq_one q21 32 (⟨5, Sl.nil⟩ : Record) (Lies.of h (by intro b hb; rw [List.mem_singleton.1 hb]; repeat (first | exact List.mem_cons_self | refine List.mem_cons_of_mem _ ?_ | refine mem_seg ?_))) (Record.length (show (⟨5, Sl.nil⟩ : Record).ok from ⟨trivial⟩)) (by rw [Record.length (show (⟨5, Sl.nil⟩ : Record).ok from ⟨trivial⟩)]) ⟨⟨trivial⟩, rfl, ⟨rfl, Nat.le_refl _, SeesP.nil, by decide, fun _ => rfl⟩⟩⟩) ?_
 rintro v22 out22 ⟨X22, ok22, rfl, h22⟩
 rw [rd_kind dE] at h22 ⊢
 refine Tr.m rfl rfl rfl ?_
 refine Tr.eX rfl rfl rfl rfl ?_
 refine Tr.eX rfl rfl rfl rfl ?_
 refine Tr.alloc (cs := Kept.zero.cells) rfl Kept.zr rfl ?_
 intro n4 hn4 hf4
 refine Tr.sA rfl rfl rfl rfl (Kept.isCell (by first | exact oK  | exact exCert_ok _ _ | exact Ar _ | exact Bs | exact ok16 | exact ok22 | exact ok27 | exact ⟨trivial⟩)) Sz45 (Kept.length (by first | exact oK  | exact exCert_ok _ _ | exact Ar _ | exact Bs | exact ok16 | exact ok22 | exact ok27 | exact ⟨trivial⟩)) mM (Kept.length (by first | exact oK  | exact exCert_ok _ _ | exact Ar _ | exact Bs | exact ok16 | exact ok22 | exact ok27 | exact ⟨trivial⟩)) uU ?_
 refine Tr.a rfl rfl rfl ?_
 refine Tr.nil (Aa (Sat.seq (Sat.region ?_)))
 refine Tr.lA rfl rfl rfl U80 rfl Sz80 mM (Cert.length (by first | exact oK  | exact exCert_ok _ _ | exact Ar _ | exact Bs | exact ok16 | exact ok22 | exact ok27 | exact ⟨trivial⟩)) ?_
 refine Tr.call4 rfl rfl rfl rfl rfl Body45 (keep_cert (exCert q9 q13) exD (by rw [ex_by]; decide)) (fun w h => ⟨exCert_ok _ _, exCut_is (q := q9) (Lies.of h (by intro b hb; rw [List.mem_singleton.1 hb]; repeat (first | exact List.mem_cons_self | refine List.mem_cons_of_mem _ ?_ | refine mem_seg ?_))) rfl, ⟨_, seq_one q13 29 exVote (Lies.of h (by intro b hb; rw [List.mem_singleton.1 hb]; repeat (first | exact List.mem_cons_self | refine List.mem_cons_of_mem _ ?_ | refine mem_seg ?_))) (Vote.length Bs) rfl ⟨Bs, rfl, by decide⟩⟩⟩) ?_
 rintro v27 out27 ⟨X27, ok27, rfl, k27, h27⟩
 refine Tr.m rfl rfl rfl ?_
 refine Tr.eX rfl rfl rfl rfl ?_
 refine Tr.eX rfl rfl rfl rfl ?_
 refine Tr.alloc (cs := Record.zero.cells) rfl Record.zr rfl ?_
 intro n6 hn6 hf6
 refine Tr.sA rfl rfl rfl rfl (Record.isCell (by first | exact oK  | exact exCert_ok _ _ | exact Ar _ | exact Bs | exact ok16 | exact ok22 | exact ok27 | exact ⟨trivial⟩)) Sz32 (Record.length (by first | exact oK  | exact exCert_ok _ _ | exact Ar _ | exact Bs | exact ok16 | exact ok22 | exact ok27 | exact ⟨trivial⟩)) mM (Record.length (by first | exact oK  | exact exCert_ok _ _ | exact Ar _ | exact Bs | exact ok16 | exact ok22 | exact ok27 | exact ⟨trivial⟩)) uU ?_
 refine Tr.a rfl rfl rfl ?_
 refine Tr.nil (Aa (Sat.seq (Sat.region ?_)))
 refine Tr.m rfl rfl rfl ?_
 refine Tr.eqi rfl rfl rfl rfl (decide_eq_true (rfl)) ?_
 refine Tr.m rfl rfl rfl ?_
 refine Tr.lA rfl rfl rfl U45 rfl Sz45 mM (Kept.length (by first | exact oK  | exact exCert_ok _ _ | exact Ar _ | exact Bs | exact ok16 | exact ok22 | exact ok27 | exact ⟨trivial⟩)) ?_
 refine Tr.build (cs := Kept.zero.cells) rfl rfl rfl (fun w => by kernel_rfl) ?_
 refine Tr.cV rfl rfl rfl rfl Body18 (kit_kept_same X16 Kept.zero dkz dkz_small) (fun w h => ⟨h16 w (Lies.of h iN), keptz_is w⟩) ?_
 refine Tr.pick rfl rfl rfl rfl rfl rfl ?_
 refine Tr.m rfl rfl rfl ?_
 refine Tr.m rfl rfl rfl ?_
 refine Tr.eqi rfl rfl rfl rfl (decide_eq_true (rfl)) ?_
 refine Tr.pick rfl rfl rfl rfl rfl rfl ?_
 refine Tr.m rfl rfl rfl ?_
 refine Tr.m rfl rfl rfl ?_
 refine Tr.eqi rfl rfl rfl rfl (decide_eq_true (ex_rec)) ?_
 refine Tr.pick rfl rfl rfl rfl rfl rfl ?_
 refine Tr.a rfl rfl rfl ?_
 refine Tr.nil (Aa (Sat.ret (Ak ?_)))
 refine ⟨_, [], Ae rfl rfl, sP, sP, ?_, rfl⟩
 rfl

end Go.Proofs.YtkfhpmidcbmofaaGreat
end

section
namespace Go.Proofs.YtkfhpmidcbmofaaGreat
open Go Hw

theorem all_blockk_1 (x : Block) (d : DB) (q : Nat) : Meets Tryz.prog 100 [agg x.cells, ptr q 0] [] (fun W => BlockIs W x d ∧ W.cell? ⟨q, 0, none⟩ = some (.func (.func 48) #[] #[])) (fun v out => v = .bool (!decide (d.check = 0)) ∧ out = []) := by
 intro W hW
 refine Aj Tryz.func100 rfl 8 Tryz.ntmps100 rfl ?_
 refine Sat.seq (Sat.region ?_)
 refine Tr.boxA rfl rfl ?_
 intro n2 hn2 hf2
 refine Tr.a rfl rfl rfl ?_
 refine Tr.nil (Aa (Sat.seq (Sat.region ?_)))
 refine Tr.loadE rfl rfl rfl Tryz.underlying98 rfl (by first | (simp; done) | (simp; exact hW.2.2) | (simp [Cx.with]; done) | (simp [Cx.with]; omega)) (hW.2) ?_
 refine Tr.lA rfl rfl rfl U52 rfl Sz52 mM (Block.length (by first | exact oK  | exact hW.1.ok)) ?_
 refine Tr.cV rfl rfl rfl rfl Body48 (db_check x d) (fun w h => hW.1.ext h rfl) ?_
 refine Tr.nei rfl rfl rfl rfl rfl ?_
 refine Tr.a rfl rfl rfl ?_
 refine Tr.nil (Aa (Sat.ret (Ak ?_)))
 refine ⟨_, [], Ae rfl rfl, sP, sP, ?_, rfl⟩
 first
  | rfl
  | simp

theorem index_blockk (s : Sl) (ds : List DB) (q : Nat) : Meets Tryz.prog 133 [s.v, .func (.func 100) #[] #[ptr q 0]] [] (fun W => BlocksAt W s ds ∧ W.cell? ⟨q, 0, none⟩ = some (.func (.func 48) #[] #[])) (fun v out => v = i64 (fstBad (fun d : DB => !decide (d.check = 0)) ds) ∧ out = []) := by
 intro W hW
 obtain ⟨⟨rs, hs⟩, hq⟩ := hW
 have hmax := hs.max
 simp only [maxLen] at hmax
 have hcap := hs.cap
 refine Aj Tryz.func133 rfl 19 Tryz.ntmps133 rfl ?_
 refine Sat.seq (Sat.region ?_)
 refine Tr.a rfl rfl rfl ?_
 refine Tr.nil (Aa (Sat.seq (Sat.seq (Sat.region ?_))))
 refine Tr.m rfl rfl rfl ?_
 refine Tr.lenSl rfl rfl rfl U40 ?_
 refine Tr.m rfl rfl rfl ?_
 refine Tr.nil (Aa (Sat.block ?_))
 refine Sat.loop (ι := Nat) (fun k => ⟨[(0, s.v), (1, .func (.func 100) #[] #[ptr q 0]), (7, i64 (s.n : Int)), (8, i64 (k : Int))], []⟩) (fun k => k ≤ s.n ∧ ∀ j, j < k → (ds.map (fun d : DB => !decide (d.check = 0)))[j]? = some false) (fun k => s.n - k) (0) ?_ ?_ ?_
 · exact ⟨by omega, fun j hj => by omega⟩
 · exact Ao (wk1 rfl (wk1 rfl (wk1 rfl (wk1 rfl wk0)))) wh0 nD
 ·
  rintro k ⟨hk, hg⟩
  refine Sat.seq (Sat.region ?_)
  refine Tr.lss rfl rfl rfl rfl rfl ?_
  refine Tr.nil (Aa (Sat.seq ?_))
  first
   | refine Sat.condP rfl (fun hc0 => ?_) (fun hc0 => ?_)
   | refine Sat.condNP rfl (fun hc0 => ?_) (fun hc0 => ?_)
   | refine Sat.cond rfl (fun hc0 => ?_) (fun hc0 => ?_)
  ·
   have hk2 : k < s.n := by omega
   obtain ⟨b, o, r, d, hsp, hr, hd, his, hlen, hsee⟩ := hs.at dE hk2
   refine Sat.skip (Aa (Sat.seq (Sat.block (Sat.seq (Sat.region ?_)))))
   refine Tr.m rfl rfl rfl ?_
   refine Tr.a rfl rfl rfl ?_
   refine Tr.nil (Aa (Sat.seq (Sat.region ?_)))
   refine Tr.m rfl rfl rfl ?_
   refine Tr.m rfl rfl rfl ?_
   refine Tr.m rfl rfl rfl ?_
   refine Tr.idxSlP 131 rfl rfl rfl hsp rfl U40 Sz52 k oM oM ?_
   refine Tr.loadEN r.cells rfl rfl rfl U52 rfl Sz52 sP hlen hsee ?_
   refine Tr.callCV rfl rfl rfl rfl rfl Body100 (all_blockk_1 r d q) (fun w h => ⟨his.ext h rfl, h.keeps.cell sP hq⟩) ?_
   refine Tr.nil (Aa ?_)
   first
    | refine Sat.condP rfl (fun hc1 => ?_) (fun hc1 => ?_)
    | refine Sat.condNP rfl (fun hc1 => ?_) (fun hc1 => ?_)
    | refine Sat.cond rfl (fun hc1 => ?_) (fun hc1 => ?_)
   ·
    refine Sat.seq (Sat.region ?_)
    refine Tr.m rfl rfl rfl ?_
    refine Tr.a rfl rfl rfl ?_
    refine Tr.nil (Aa (Sat.ret (bl_r (As (As (bl_r (As (Ak ?_))))))))
    refine ⟨_, [], Ae rfl rfl, sP, sP, ?_, rfl⟩
    first
     | exact congrArg i64 (fstBad_none (by intro j hj; exact hg j (by rw [hs.nd] at hj; exact hj))).symm
     | exact congrArg i64 (fstBad_at hg (by rw [List.getElem?_map, hd]; simpa using hc1)).symm
   ·
    refine Sat.skip (Bu (Aa (Sat.region ?_)))
    refine Tr.aI rfl rfl rfl rfl oM ?_
    refine Tr.m rfl rfl rfl ?_
    refine Tr.nil (Aa ?_)
    exact ⟨k + 1, ⟨by omega, fun j hj => by rcases Nat.lt_succ_iff_lt_or_eq.1 hj with h | rfl; exact hg j h; rw [List.getElem?_map, hd]; simpa using hc1⟩, by omega, Ao (wk1 rfl (wk1 rfl (wk1 rfl (wk1 rfl wk0)))) wh0 nD⟩
  ·
   obtain rfl : k = s.n := by omega
   refine Sat.exit (A9 (A9 (bl_h (Aa (Sat.seq (Sat.region ?_))))))
   refine Tr.a rfl rfl rfl ?_
   refine Tr.nil (Aa (Sat.ret (Ak ?_)))
   refine ⟨_, [], Ae rfl rfl, sP, sP, ?_, rfl⟩
   first
    | exact congrArg i64 (fstBad_none (by intro j hj; exact hg j (by rw [hs.nd] at hj; exact hj))).symm
    | exact congrArg i64 (fstBad_at hg (by rw [List.getElem?_map, hd]; simpa using hc1)).symm

theorem contains_blockk (s : Sl) (ds : List DB) (q : Nat) : Meets Tryz.prog 99 [s.v, .func (.func 100) #[] #[ptr q 0]] [] (fun W => BlocksAt W s ds ∧ W.cell? ⟨q, 0, none⟩ = some (.func (.func 48) #[] #[])) (fun v out => v = .bool (ds.any (fun d : DB => !decide (d.check = 0))) ∧ out = []) := by
 intro W hW
 refine Aj Tryz.func99 rfl 9 Tryz.ntmps99 rfl ?_
 refine Sat.seq (Sat.region ?_)
 refine Tr.a rfl rfl rfl ?_
 refine Tr.nil (Aa (Sat.seq (Sat.region ?_)))
 refine Tr.m rfl rfl rfl ?_
 refine Tr.m rfl rfl rfl ?_
 refine Tr.cV rfl rfl rfl rfl Body133 (index_blockk s ds q) (fun w h => ⟨Blocks_ext h rfl hW.1, h.keeps.cell sP hW.2⟩) ?_
 refine Tr.geq rfl rfl rfl rfl rfl ?_
 refine Tr.a rfl rfl rfl ?_
 refine Tr.nil (Aa (Sat.ret (Ak ?_)))
 refine ⟨_, [], Ae rfl rfl, sP, sP, ?_, rfl⟩
 exact congrArg Value.bool (fstBad_ge _ _)

theorem all_blockk (s : Sl) (ds : List DB) : Meets Tryz.prog 47 [s.v, .func (.func 48) #[] #[]] [] (fun W => BlocksAt W s ds) (fun v out => v = .bool (ds.all fun d => decide (d.check = 0)) ∧ out = []) := by
 intro W hW
 refine Aj Tryz.func47 rfl 9 Tryz.ntmps47 rfl ?_
 refine Sat.seq (Sat.region ?_)
 refine Tr.box1 rfl rfl rfl ?_
 intro n3 hn3 hf3
 refine Tr.a rfl rfl rfl ?_
 refine Tr.nil (Aa (Sat.seq (Sat.region ?_)))
 refine Tr.m rfl rfl rfl ?_
 refine Tr.makeFunc rfl rfl rfl rfl ?_
 refine Tr.cV rfl rfl rfl rfl Body99 (contains_blockk s ds n3) (fun w h => ⟨Blocks_ext h rfl hW, (An h mM).cell (o := 0) rfl⟩) ?_
 refine Tr.not rfl rfl rfl ?_
 refine Tr.a rfl rfl rfl ?_
 refine Tr.nil (Aa (Sat.ret (Ak ?_)))
 refine ⟨_, [], Ae rfl rfl, sP, sP, ?_, rfl⟩
 exact congrArg Value.bool (any_all _ _)

theorem all_certk_1 (x : Cert) (d : DCert) (q : Nat) : Meets Tryz.prog 103 [agg x.cells, ptr q 0] [] (fun W => CertIs W x d ∧ W.cell? ⟨q, 0, none⟩ = some (.func (.func 50) #[] #[])) (fun v out => v = .bool (!decide (d.check = 0)) ∧ out = []) := by
 intro W hW
 refine Aj Tryz.func103 rfl 8 Tryz.ntmps103 rfl ?_
 refine Sat.seq (Sat.region ?_)
 refine Tr.boxA rfl rfl ?_
 intro n2 hn2 hf2
 refine Tr.a rfl rfl rfl ?_
 refine Tr.nil (Aa (Sat.seq (Sat.region ?_)))
 refine Tr.loadE rfl rfl rfl Tryz.underlying100 rfl (by first | (simp; done) | (simp; exact hW.2.2) | (simp [Cx.with]; done) | (simp [Cx.with]; omega)) (hW.2) ?_
 refine Tr.lA rfl rfl rfl U80 rfl Sz80 mM (Cert.length (by first | exact oK  | exact hW.1.ok)) ?_
 refine Tr.cV rfl rfl rfl rfl Body50 (cert_check x d) (fun w h => hW.1.ext h rfl) ?_
 refine Tr.nei rfl rfl rfl rfl rfl ?_
 refine Tr.a rfl rfl rfl ?_
 refine Tr.nil (Aa (Sat.ret (Ak ?_)))
 refine ⟨_, [], Ae rfl rfl, sP, sP, ?_, rfl⟩
 first
  | rfl
  | simp

theorem index_certk (s : Sl) (ds : List DCert) (q : Nat) : Meets Tryz.prog 134 [s.v, .func (.func 103) #[] #[ptr q 0]] [] (fun W => CertsAt W s ds ∧ W.cell? ⟨q, 0, none⟩ = some (.func (.func 50) #[] #[])) (fun v out => v = i64 (fstBad (fun d : DCert => !decide (d.check = 0)) ds) ∧ out = []) := by
 intro W hW
 obtain ⟨⟨rs, hs⟩, hq⟩ := hW
 have hmax := hs.max
 simp only [maxLen] at hmax
 have hcap := hs.cap
 refine Aj Tryz.func134 rfl 19 Tryz.ntmps134 rfl ?_
 refine Sat.seq (Sat.region ?_)
 refine Tr.a rfl rfl rfl ?_
 refine Tr.nil (Aa (Sat.seq (Sat.seq (Sat.region ?_))))
 refine Tr.m rfl rfl rfl ?_
 refine Tr.lenSl rfl rfl rfl U41 ?_
 refine Tr.m rfl rfl rfl ?_
 refine Tr.nil (Aa (Sat.block ?_))
 refine Sat.loop (ι := Nat) (fun k => ⟨[(0, s.v), (1, .func (.func 103) #[] #[ptr q 0]), (7, i64 (s.n : Int)), (8, i64 (k : Int))], []⟩) (fun k => k ≤ s.n ∧ ∀ j, j < k → (ds.map (fun d : DCert => !decide (d.check = 0)))[j]? = some false) (fun k => s.n - k) (0) ?_ ?_ ?_
 · exact ⟨by omega, fun j hj => by omega⟩
 · exact Ao (wk1 rfl (wk1 rfl (wk1 rfl (wk1 rfl wk0)))) wh0 nD
 ·
  rintro k ⟨hk, hg⟩
  refine Sat.seq (Sat.region ?_)
  refine Tr.lss rfl rfl rfl rfl rfl ?_
  refine Tr.nil (Aa (Sat.seq ?_))
  first
   | refine Sat.condP rfl (fun hc0 => ?_) (fun hc0 => ?_)
   | refine Sat.condNP rfl (fun hc0 => ?_) (fun hc0 => ?_)
   | refine Sat.cond rfl (fun hc0 => ?_) (fun hc0 => ?_)
  ·
   have hk2 : k < s.n := by omega
   obtain ⟨b, o, r, d, hsp, hr, hd, his, hlen, hsee⟩ := hs.at dE hk2
   refine Sat.skip (Aa (Sat.seq (Sat.block (Sat.seq (Sat.region ?_)))))
   refine Tr.m rfl rfl rfl ?_
   refine Tr.a rfl rfl rfl ?_
   refine Tr.nil (Aa (Sat.seq (Sat.region ?_)))
   refine Tr.m rfl rfl rfl ?_
   refine Tr.m rfl rfl rfl ?_
   refine Tr.m rfl rfl rfl ?_
   refine Tr.idxSlP 35 rfl rfl rfl hsp rfl U41 Sz80 k oM oM ?_
   refine Tr.loadEN r.cells rfl rfl rfl U80 rfl Sz80 sP hlen hsee ?_
   refine Tr.callCV rfl rfl rfl rfl rfl Body103 (all_certk_1 r d q) (fun w h => ⟨his.ext h rfl, h.keeps.cell sP hq⟩) ?_
   refine Tr.nil (Aa ?_)
   first
    | refine Sat.condP rfl (fun hc1 => ?_) (fun hc1 => ?_)
    | refine Sat.condNP rfl (fun hc1 => ?_) (fun hc1 => ?_)
    | refine Sat.cond rfl (fun hc1 => ?_) (fun hc1 => ?_)
   ·
    refine Sat.seq (Sat.region ?_)
    refine Tr.m rfl rfl rfl ?_
    refine Tr.a rfl rfl rfl ?_
    refine Tr.nil (Aa (Sat.ret (bl_r (As (As (bl_r (As (Ak ?_))))))))
    refine ⟨_, [], Ae rfl rfl, sP, sP, ?_, rfl⟩
    first
     | exact congrArg i64 (fstBad_none (by intro j hj; exact hg j (by rw [hs.nd] at hj; exact hj))).symm
     | exact congrArg i64 (fstBad_at hg (by rw [List.getElem?_map, hd]; simpa using hc1)).symm
   ·
    refine Sat.skip (Bu (Aa (Sat.region ?_)))
    refine Tr.aI rfl rfl rfl rfl oM ?_
    refine Tr.m rfl rfl rfl ?_
    refine Tr.nil (Aa ?_)
    exact ⟨k + 1, ⟨by omega, fun j hj => by rcases Nat.lt_succ_iff_lt_or_eq.1 hj with h | rfl; exact hg j h; rw [List.getElem?_map, hd]; simpa using hc1⟩, by omega, Ao (wk1 rfl (wk1 rfl (wk1 rfl (wk1 rfl wk0)))) wh0 nD⟩
  ·
   obtain rfl : k = s.n := by omega
   refine Sat.exit (A9 (A9 (bl_h (Aa (Sat.seq (Sat.region ?_))))))
   refine Tr.a rfl rfl rfl ?_
   refine Tr.nil (Aa (Sat.ret (Ak ?_)))
   refine ⟨_, [], Ae rfl rfl, sP, sP, ?_, rfl⟩
   first
    | exact congrArg i64 (fstBad_none (by intro j hj; exact hg j (by rw [hs.nd] at hj; exact hj))).symm
    | exact congrArg i64 (fstBad_at hg (by rw [List.getElem?_map, hd]; simpa using hc1)).symm

theorem contains_certk (s : Sl) (ds : List DCert) (q : Nat) : Meets Tryz.prog 102 [s.v, .func (.func 103) #[] #[ptr q 0]] [] (fun W => CertsAt W s ds ∧ W.cell? ⟨q, 0, none⟩ = some (.func (.func 50) #[] #[])) (fun v out => v = .bool (ds.any (fun d : DCert => !decide (d.check = 0))) ∧ out = []) := by
 intro W hW
 refine Aj Tryz.func102 rfl 9 Tryz.ntmps102 rfl ?_
 refine Sat.seq (Sat.region ?_)
 refine Tr.a rfl rfl rfl ?_
 refine Tr.nil (Aa (Sat.seq (Sat.region ?_)))
 refine Tr.m rfl rfl rfl ?_
 refine Tr.m rfl rfl rfl ?_
 refine Tr.cV rfl rfl rfl rfl Body134 (index_certk s ds q) (fun w h => ⟨Certs_ext h rfl hW.1, h.keeps.cell sP hW.2⟩) ?_
 refine Tr.geq rfl rfl rfl rfl rfl ?_
 refine Tr.a rfl rfl rfl ?_
 refine Tr.nil (Aa (Sat.ret (Ak ?_)))
 refine ⟨_, [], Ae rfl rfl, sP, sP, ?_, rfl⟩
 exact congrArg Value.bool (fstBad_ge _ _)

theorem all_certk (s : Sl) (ds : List DCert) : Meets Tryz.prog 49 [s.v, .func (.func 50) #[] #[]] [] (fun W => CertsAt W s ds) (fun v out => v = .bool (ds.all fun d => decide (d.check = 0)) ∧ out = []) := by
 intro W hW
 refine Aj Tryz.func49 rfl 9 Tryz.ntmps49 rfl ?_
 refine Sat.seq (Sat.region ?_)
 refine Tr.box1 rfl rfl rfl ?_
 intro n3 hn3 hf3
 refine Tr.a rfl rfl rfl ?_
 refine Tr.nil (Aa (Sat.seq (Sat.region ?_)))
 refine Tr.m rfl rfl rfl ?_
 refine Tr.makeFunc rfl rfl rfl rfl ?_
 refine Tr.cV rfl rfl rfl rfl Body102 (contains_certk s ds n3) (fun w h => ⟨Certs_ext h rfl hW, (An h mM).cell (o := 0) rfl⟩) ?_
 refine Tr.not rfl rfl rfl ?_
 refine Tr.a rfl rfl rfl ?_
 refine Tr.nil (Aa (Sat.ret (Ak ?_)))
 refine ⟨_, [], Ae rfl rfl, sP, sP, ?_, rfl⟩
 exact congrArg Value.bool (any_all _ _)

theorem all_votek_1 (x : Vote) (d : Vote) (q : Nat) : Meets Tryz.prog 107 [agg x.cells, ptr q 0] [] (fun W => VoteIs W x d ∧ W.cell? ⟨q, 0, none⟩ = some (.func (.func 52) #[] #[])) (fun v out => v = .bool (!decide (Bk d = 0)) ∧ out = []) := by
 intro W hW
 refine Aj Tryz.func107 rfl 8 Tryz.ntmps107 rfl ?_
 refine Sat.seq (Sat.region ?_)
 refine Tr.boxA rfl rfl ?_
 intro n2 hn2 hf2
 refine Tr.a rfl rfl rfl ?_
 refine Tr.nil (Aa (Sat.seq (Sat.region ?_)))
 refine Tr.loadE rfl rfl rfl Tryz.underlying102 rfl (by first | (simp; done) | (simp; exact hW.2.2) | (simp [Cx.with]; done) | (simp [Cx.with]; omega)) (hW.2) ?_
 refine Tr.lA rfl rfl rfl U29 rfl Bf mM (Vote.length (by first | exact oK  | exact hW.1.ok)) ?_
 refine Tr.cV rfl rfl rfl rfl Body52 ((vote_check x hW.1.ok).imp (fun w h => trivial) (fun v out h => by rwa [hW.1.eq] at h)) (fun w h => hW.1.ext h rfl) ?_
 refine Tr.nei rfl rfl rfl rfl rfl ?_
 refine Tr.a rfl rfl rfl ?_
 refine Tr.nil (Aa (Sat.ret (Ak ?_)))
 refine ⟨_, [], Ae rfl rfl, sP, sP, ?_, rfl⟩
 first
  | rfl
  | simp

theorem index_votek (s : Sl) (ds : List Vote) (q : Nat) : Meets Tryz.prog 137 [s.v, .func (.func 107) #[] #[ptr q 0]] [] (fun W => VotesAt W s ds ∧ W.cell? ⟨q, 0, none⟩ = some (.func (.func 52) #[] #[])) (fun v out => v = i64 (fstBad (fun d : Vote => !decide (Bk d = 0)) ds) ∧ out = []) := by
 intro W hW
 obtain ⟨⟨rs, hs⟩, hq⟩ := hW
 have hmax := hs.max
 simp only [maxLen] at hmax
 have hcap := hs.cap
 refine Aj Tryz.func137 rfl 19 Tryz.ntmps137 rfl ?_
 refine Sat.seq (Sat.region ?_)
 refine Tr.a rfl rfl rfl ?_
 refine Tr.nil (Aa (Sat.seq (Sat.seq (Sat.region ?_))))
 refine Tr.m rfl rfl rfl ?_
 refine Tr.lenSl rfl rfl rfl U42 ?_
 refine Tr.m rfl rfl rfl ?_
 refine Tr.nil (Aa (Sat.block ?_))
 refine Sat.loop (ι := Nat) (fun k => ⟨[(0, s.v), (1, .func (.func 107) #[] #[ptr q 0]), (7, i64 (s.n : Int)), (8, i64 (k : Int))], []⟩) (fun k => k ≤ s.n ∧ ∀ j, j < k → (ds.map (fun d : Vote => !decide (Bk d = 0)))[j]? = some false) (fun k => s.n - k) (0) ?_ ?_ ?_
 · exact ⟨by omega, fun j hj => by omega⟩
 · exact Ao (wk1 rfl (wk1 rfl (wk1 rfl (wk1 rfl wk0)))) wh0 nD
 ·
  rintro k ⟨hk, hg⟩
  refine Sat.seq (Sat.region ?_)
  refine Tr.lss rfl rfl rfl rfl rfl ?_
  refine Tr.nil (Aa (Sat.seq ?_))
  first
   | refine Sat.condP rfl (fun hc0 => ?_) (fun hc0 => ?_)
   | refine Sat.condNP rfl (fun hc0 => ?_) (fun hc0 => ?_)
   | refine Sat.cond rfl (fun hc0 => ?_) (fun hc0 => ?_)
  ·
   have hk2 : k < s.n := by omega
   obtain ⟨b, o, r, d, hsp, hr, hd, his, hlen, hsee⟩ := hs.at dE hk2
   refine Sat.skip (Aa (Sat.seq (Sat.block (Sat.seq (Sat.region ?_)))))
   refine Tr.m rfl rfl rfl ?_
   refine Tr.a rfl rfl rfl ?_
   refine Tr.nil (Aa (Sat.seq (Sat.region ?_)))
   refine Tr.m rfl rfl rfl ?_
   refine Tr.m rfl rfl rfl ?_
   refine Tr.m rfl rfl rfl ?_
   refine Tr.idxSlP 132 rfl rfl rfl hsp rfl U42 Bf k oM oM ?_
   refine Tr.loadEN r.cells rfl rfl rfl U29 rfl Bf sP hlen hsee ?_
   refine Tr.callCV rfl rfl rfl rfl rfl Body107 (all_votek_1 r d q) (fun w h => ⟨his.ext h rfl, h.keeps.cell sP hq⟩) ?_
   refine Tr.nil (Aa ?_)
   first
    | refine Sat.condP rfl (fun hc1 => ?_) (fun hc1 => ?_)
    | refine Sat.condNP rfl (fun hc1 => ?_) (fun hc1 => ?_)
    | refine Sat.cond rfl (fun hc1 => ?_) (fun hc1 => ?_)
   ·
    refine Sat.seq (Sat.region ?_)
    refine Tr.m rfl rfl rfl ?_
    refine Tr.a rfl rfl rfl ?_
    refine Tr.nil (Aa (Sat.ret (bl_r (As (As (bl_r (As (Ak ?_))))))))
    refine ⟨_, [], Ae rfl rfl, sP, sP, ?_, rfl⟩
    first
     | exact congrArg i64 (fstBad_none (by intro j hj; exact hg j (by rw [hs.nd] at hj; exact hj))).symm
     | exact congrArg i64 (fstBad_at hg (by rw [List.getElem?_map, hd]; simpa using hc1)).symm
   ·
    refine Sat.skip (Bu (Aa (Sat.region ?_)))
    refine Tr.aI rfl rfl rfl rfl oM ?_
    refine Tr.m rfl rfl rfl ?_
    refine Tr.nil (Aa ?_)
    exact ⟨k + 1, ⟨by omega, fun j hj => by rcases Nat.lt_succ_iff_lt_or_eq.1 hj with h | rfl; exact hg j h; rw [List.getElem?_map, hd]; simpa using hc1⟩, by omega, Ao (wk1 rfl (wk1 rfl (wk1 rfl (wk1 rfl wk0)))) wh0 nD⟩
  ·
   obtain rfl : k = s.n := by omega
   refine Sat.exit (A9 (A9 (bl_h (Aa (Sat.seq (Sat.region ?_))))))
   refine Tr.a rfl rfl rfl ?_
   refine Tr.nil (Aa (Sat.ret (Ak ?_)))
   refine ⟨_, [], Ae rfl rfl, sP, sP, ?_, rfl⟩
   first
    | exact congrArg i64 (fstBad_none (by intro j hj; exact hg j (by rw [hs.nd] at hj; exact hj))).symm
    | exact congrArg i64 (fstBad_at hg (by rw [List.getElem?_map, hd]; simpa using hc1)).symm

theorem contains_votek (s : Sl) (ds : List Vote) (q : Nat) : Meets Tryz.prog 106 [s.v, .func (.func 107) #[] #[ptr q 0]] [] (fun W => VotesAt W s ds ∧ W.cell? ⟨q, 0, none⟩ = some (.func (.func 52) #[] #[])) (fun v out => v = .bool (ds.any (fun d : Vote => !decide (Bk d = 0))) ∧ out = []) := by
 intro W hW
 refine Aj Tryz.func106 rfl 9 Tryz.ntmps106 rfl ?_
 refine Sat.seq (Sat.region ?_)
 refine Tr.a rfl rfl rfl ?_
 refine Tr.nil (Aa (Sat.seq (Sat.region ?_)))
 refine Tr.m rfl rfl rfl ?_
 refine Tr.m rfl rfl rfl ?_
 refine Tr.cV rfl rfl rfl rfl Body137 (index_votek s ds q) (fun w h => ⟨Votes_ext h rfl hW.1, h.keeps.cell sP hW.2⟩) ?_
 refine Tr.geq rfl rfl rfl rfl rfl ?_
 refine Tr.a rfl rfl rfl ?_
 refine Tr.nil (Aa (Sat.ret (Ak ?_)))
 refine ⟨_, [], Ae rfl rfl, sP, sP, ?_, rfl⟩
 exact congrArg Value.bool (fstBad_ge _ _)

theorem all_votek (s : Sl) (ds : List Vote) : Meets Tryz.prog 51 [s.v, .func (.func 52) #[] #[]] [] (fun W => VotesAt W s ds) (fun v out => v = .bool (ds.all fun d => decide (Bk d = 0)) ∧ out = []) := by
 intro W hW
 refine Aj Tryz.func51 rfl 9 Tryz.ntmps51 rfl ?_
 refine Sat.seq (Sat.region ?_)
 refine Tr.box1 rfl rfl rfl ?_
 intro n3 hn3 hf3
 refine Tr.a rfl rfl rfl ?_
 refine Tr.nil (Aa (Sat.seq (Sat.region ?_)))
 refine Tr.m rfl rfl rfl ?_
 refine Tr.makeFunc rfl rfl rfl rfl ?_
 refine Tr.cV rfl rfl rfl rfl Body106 (contains_votek s ds n3) (fun w h => ⟨Votes_ext h rfl hW, (An h mM).cell (o := 0) rfl⟩) ?_
 refine Tr.not rfl rfl rfl ?_
 refine Tr.a rfl rfl rfl ?_
 refine Tr.nil (Aa (Sat.ret (Ak ?_)))
 refine ⟨_, [], Ae rfl rfl, sP, sP, ?_, rfl⟩
 exact congrArg Value.bool (any_all _ _)

theorem all_cutk_1 (x : Cut) (d : DCut) (q : Nat) : Meets Tryz.prog 109 [agg x.cells, ptr q 0] [] (fun W => CutIs W x d ∧ W.cell? ⟨q, 0, none⟩ = some (.func (.func 54) #[] #[])) (fun v out => v = .bool (!decide (d.check = 0)) ∧ out = []) := by
 intro W hW
 refine Aj Tryz.func109 rfl 8 Tryz.ntmps109 rfl ?_
 refine Sat.seq (Sat.region ?_)
 refine Tr.boxA rfl rfl ?_
 intro n2 hn2 hf2
 refine Tr.a rfl rfl rfl ?_
 refine Tr.nil (Aa (Sat.seq (Sat.region ?_)))
 refine Tr.loadE rfl rfl rfl Tryz.underlying104 rfl (by first | (simp; done) | (simp; exact hW.2.2) | (simp [Cx.with]; done) | (simp [Cx.with]; omega)) (hW.2) ?_
 refine Tr.lA rfl rfl rfl U39 rfl Sz39 mM (Cut.length (by first | exact oK  | exact hW.1.ok)) ?_
 refine Tr.cV rfl rfl rfl rfl Body54 (cut_check x d) (fun w h => hW.1.ext h rfl) ?_
 refine Tr.nei rfl rfl rfl rfl rfl ?_
 refine Tr.a rfl rfl rfl ?_
 refine Tr.nil (Aa (Sat.ret (Ak ?_)))
 refine ⟨_, [], Ae rfl rfl, sP, sP, ?_, rfl⟩
 first
  | rfl
  | simp

theorem index_cutk (s : Sl) (ds : List DCut) (q : Nat) : Meets Tryz.prog 138 [s.v, .func (.func 109) #[] #[ptr q 0]] [] (fun W => CutsAt W s ds ∧ W.cell? ⟨q, 0, none⟩ = some (.func (.func 54) #[] #[])) (fun v out => v = i64 (fstBad (fun d : DCut => !decide (d.check = 0)) ds) ∧ out = []) := by
 intro W hW
 obtain ⟨⟨rs, hs⟩, hq⟩ := hW
 have hmax := hs.max
 simp only [maxLen] at hmax
 have hcap := hs.cap
 refine Aj Tryz.func138 rfl 19 Tryz.ntmps138 rfl ?_
 refine Sat.seq (Sat.region ?_)
 refine Tr.a rfl rfl rfl ?_
 refine Tr.nil (Aa (Sat.seq (Sat.seq (Sat.region ?_))))
 refine Tr.m rfl rfl rfl ?_
 refine Tr.lenSl rfl rfl rfl U43 ?_
 refine Tr.m rfl rfl rfl ?_
 refine Tr.nil (Aa (Sat.block ?_))
 refine Sat.loop (ι := Nat) (fun k => ⟨[(0, s.v), (1, .func (.func 109) #[] #[ptr q 0]), (7, i64 (s.n : Int)), (8, i64 (k : Int))], []⟩) (fun k => k ≤ s.n ∧ ∀ j, j < k → (ds.map (fun d : DCut => !decide (d.check = 0)))[j]? = some false) (fun k => s.n - k) (0) ?_ ?_ ?_
 · exact ⟨by omega, fun j hj => by omega⟩
 · exact Ao (wk1 rfl (wk1 rfl (wk1 rfl (wk1 rfl wk0)))) wh0 nD
 ·
  rintro k ⟨hk, hg⟩
  refine Sat.seq (Sat.region ?_)
  refine Tr.lss rfl rfl rfl rfl rfl ?_
  refine Tr.nil (Aa (Sat.seq ?_))
  first
   | refine Sat.condP rfl (fun hc0 => ?_) (fun hc0 => ?_)
   | refine Sat.condNP rfl (fun hc0 => ?_) (fun hc0 => ?_)
   | refine Sat.cond rfl (fun hc0 => ?_) (fun hc0 => ?_)
  ·
   have hk2 : k < s.n := by omega
   obtain ⟨b, o, r, d, hsp, hr, hd, his, hlen, hsee⟩ := hs.at dE hk2
   refine Sat.skip (Aa (Sat.seq (Sat.block (Sat.seq (Sat.region ?_)))))
   refine Tr.m rfl rfl rfl ?_
   refine Tr.a rfl rfl rfl ?_
   refine Tr.nil (Aa (Sat.seq (Sat.region ?_)))
   refine Tr.m rfl rfl rfl ?_
   refine Tr.m rfl rfl rfl ?_
   refine Tr.m rfl rfl rfl ?_
   refine Tr.idxSlP 34 rfl rfl rfl hsp rfl U43 Sz39 k oM oM ?_
   refine Tr.loadEN r.cells rfl rfl rfl U39 rfl Sz39 sP hlen hsee ?_
   refine Tr.callCV rfl rfl rfl rfl rfl Body109 (all_cutk_1 r d q) (fun w h => ⟨his.ext h rfl, h.keeps.cell sP hq⟩) ?_
   refine Tr.nil (Aa ?_)
   first
    | refine Sat.condP rfl (fun hc1 => ?_) (fun hc1 => ?_)
    | refine Sat.condNP rfl (fun hc1 => ?_) (fun hc1 => ?_)
    | refine Sat.cond rfl (fun hc1 => ?_) (fun hc1 => ?_)
   ·
    refine Sat.seq (Sat.region ?_)
    refine Tr.m rfl rfl rfl ?_
    refine Tr.a rfl rfl rfl ?_
    refine Tr.nil (Aa (Sat.ret (bl_r (As (As (bl_r (As (Ak ?_))))))))
    refine ⟨_, [], Ae rfl rfl, sP, sP, ?_, rfl⟩
    first
     | exact congrArg i64 (fstBad_none (by intro j hj; exact hg j (by rw [hs.nd] at hj; exact hj))).symm
     | exact congrArg i64 (fstBad_at hg (by rw [List.getElem?_map, hd]; simpa using hc1)).symm
   ·
    refine Sat.skip (Bu (Aa (Sat.region ?_)))
    refine Tr.aI rfl rfl rfl rfl oM ?_
    refine Tr.m rfl rfl rfl ?_
    refine Tr.nil (Aa ?_)
    exact ⟨k + 1, ⟨by omega, fun j hj => by rcases Nat.lt_succ_iff_lt_or_eq.1 hj with h | rfl; exact hg j h; rw [List.getElem?_map, hd]; simpa using hc1⟩, by omega, Ao (wk1 rfl (wk1 rfl (wk1 rfl (wk1 rfl wk0)))) wh0 nD⟩
  ·
   obtain rfl : k = s.n := by omega
   refine Sat.exit (A9 (A9 (bl_h (Aa (Sat.seq (Sat.region ?_))))))
   refine Tr.a rfl rfl rfl ?_
   refine Tr.nil (Aa (Sat.ret (Ak ?_)))
   refine ⟨_, [], Ae rfl rfl, sP, sP, ?_, rfl⟩
   first
    | exact congrArg i64 (fstBad_none (by intro j hj; exact hg j (by rw [hs.nd] at hj; exact hj))).symm
    | exact congrArg i64 (fstBad_at hg (by rw [List.getElem?_map, hd]; simpa using hc1)).symm

theorem contains_cutk (s : Sl) (ds : List DCut) (q : Nat) : Meets Tryz.prog 108 [s.v, .func (.func 109) #[] #[ptr q 0]] [] (fun W => CutsAt W s ds ∧ W.cell? ⟨q, 0, none⟩ = some (.func (.func 54) #[] #[])) (fun v out => v = .bool (ds.any (fun d : DCut => !decide (d.check = 0))) ∧ out = []) := by
 intro W hW
 refine Aj Tryz.func108 rfl 9 Tryz.ntmps108 rfl ?_
 refine Sat.seq (Sat.region ?_)
 refine Tr.a rfl rfl rfl ?_
 refine Tr.nil (Aa (Sat.seq (Sat.region ?_)))
 refine Tr.m rfl rfl rfl ?_
 refine Tr.m rfl rfl rfl ?_
 refine Tr.cV rfl rfl rfl rfl Body138 (index_cutk s ds q) (fun w h => ⟨Cuts_ext h rfl hW.1, h.keeps.cell sP hW.2⟩) ?_
 refine Tr.geq rfl rfl rfl rfl rfl ?_
 refine Tr.a rfl rfl rfl ?_
 refine Tr.nil (Aa (Sat.ret (Ak ?_)))
 refine ⟨_, [], Ae rfl rfl, sP, sP, ?_, rfl⟩
 exact congrArg Value.bool (fstBad_ge _ _)

theorem all_cutk (s : Sl) (ds : List DCut) : Meets Tryz.prog 53 [s.v, .func (.func 54) #[] #[]] [] (fun W => CutsAt W s ds) (fun v out => v = .bool (ds.all fun d => decide (d.check = 0)) ∧ out = []) := by
 intro W hW
 refine Aj Tryz.func53 rfl 9 Tryz.ntmps53 rfl ?_
 refine Sat.seq (Sat.region ?_)
 refine Tr.box1 rfl rfl rfl ?_
 intro n3 hn3 hf3
 refine Tr.a rfl rfl rfl ?_
 refine Tr.nil (Aa (Sat.seq (Sat.region ?_)))
 refine Tr.m rfl rfl rfl ?_
 refine Tr.makeFunc rfl rfl rfl rfl ?_
 refine Tr.cV rfl rfl rfl rfl Body108 (contains_cutk s ds n3) (fun w h => ⟨Cuts_ext h rfl hW, (An h mM).cell (o := 0) rfl⟩) ?_
 refine Tr.not rfl rfl rfl ?_
 refine Tr.a rfl rfl rfl ?_
 refine Tr.nil (Aa (Sat.ret (Ak ?_)))
 refine ⟨_, [], Ae rfl rfl, sP, sP, ?_, rfl⟩
 exact congrArg Value.bool (any_all _ _)

noncomputable def DKept.good (D : DKept) : Bool := (D.dBlocks.all fun d => decide (d.check = 0)) && ((D.dCerts.all fun d => decide (d.check = 0)) && ((D.dVotes.all fun d => decide (Bk d = 0)) && ((D.dCuts.all fun d => decide (d.check = 0)) && inOrd D.dCerts)))
noncomputable def DKept.check (D : DKept) : Int := if D.good = true then 0 else 2

theorem keep_check (X : Kept) (D : DKept) : Meets Tryz.prog 14 [agg X.cells] [] (fun W => KeptIs W X D) (fun v out => v = i64 D.check ∧ out = []) := by
 intro W hW
 have hok := hW.ok
 refine Aj Tryz.func14 rfl 31 Tryz.ntmps14 rfl ?_
 refine Sat.seq (Sat.region ?_)
 refine Tr.boxA rfl rfl ?_
 intro n1 hn1 hf1
 refine Tr.a rfl rfl rfl ?_
 refine Tr.nil (Aa (Sat.seq (Sat.seq (Sat.region ?_))))
 refine Tr.fld rfl rfl rfl U45 rfl Sz40 dE _ rfl ?_
 refine Tr.load1 rfl rfl rfl U40 rfl mM (by first | exact Kept.get_fBlocks (by first | exact oK  | exact hok) | exact vL) ?_
 refine Tr.callB rfl rfl rfl rfl Body47 (all_blockk X.fBlocks D.dBlocks) (fun w h => Blocks_ext h rfl hW.fBlocks) (fun hs1_20 => ?_) (fun hs1_20 => ?_)
 ·
  first | have hs1_2 := of_decide_eq_true hs1_20 | have hs1_2 := of_decide_eq_false hs1_20 | have hs1_2 := nd_t hs1_20 | have hs1_2 := nd_f hs1_20 | have hs1_2 := hs1_20
  refine Tr.not rfl rfl rfl ?_
  refine Tr.m rfl rfl rfl ?_
  refine Tr.fld rfl rfl rfl U45 rfl Sz41 dE _ rfl ?_
  refine Tr.load1 rfl rfl rfl U41 rfl mM (by first | exact Kept.get_fCerts (by first | exact oK  | exact hok) | exact vL) ?_
  refine Tr.callB rfl rfl rfl rfl Body49 (all_certk X.fCerts D.dCerts) (fun w h => Certs_ext h rfl hW.fCerts) (fun hs1_70 => ?_) (fun hs1_70 => ?_)
  ·
   first | have hs1_7 := of_decide_eq_true hs1_70 | have hs1_7 := of_decide_eq_false hs1_70 | have hs1_7 := nd_t hs1_70 | have hs1_7 := nd_f hs1_70 | have hs1_7 := hs1_70
   refine Tr.not rfl rfl rfl ?_
   refine Tr.pick rfl rfl rfl rfl rfl rfl ?_
   refine Tr.m rfl rfl rfl ?_
   refine Tr.fld rfl rfl rfl U45 rfl Sz42 dE _ rfl ?_
   refine Tr.load1 rfl rfl rfl U42 rfl mM (by first | exact Kept.get_fVotes (by first | exact oK  | exact hok) | exact vL) ?_
   refine Tr.callB rfl rfl rfl rfl Body51 (all_votek X.fVotes D.dVotes) (fun w h => Votes_ext h rfl hW.fVotes) (fun hs1_130 => ?_) (fun hs1_130 => ?_)
   ·
    first | have hs1_13 := of_decide_eq_true hs1_130 | have hs1_13 := of_decide_eq_false hs1_130 | have hs1_13 := nd_t hs1_130 | have hs1_13 := nd_f hs1_130 | have hs1_13 := hs1_130
    refine Tr.not rfl rfl rfl ?_
    refine Tr.pick rfl rfl rfl rfl rfl rfl ?_
    refine Tr.m rfl rfl rfl ?_
    refine Tr.fld rfl rfl rfl U45 rfl Sz43 dE _ rfl ?_
    refine Tr.load1 rfl rfl rfl U43 rfl mM (by first | exact Kept.get_fCuts (by first | exact oK  | exact hok) | exact vL) ?_
    refine Tr.callB rfl rfl rfl rfl Body53 (all_cutk X.fCuts D.dCuts) (fun w h => Cuts_ext h rfl hW.fCuts) (fun hs1_190 => ?_) (fun hs1_190 => ?_)
    ·
     first | have hs1_19 := of_decide_eq_true hs1_190 | have hs1_19 := of_decide_eq_false hs1_190 | have hs1_19 := nd_t hs1_190 | have hs1_19 := nd_f hs1_190 | have hs1_19 := hs1_190
     refine Tr.not rfl rfl rfl ?_
     refine Tr.pick rfl rfl rfl rfl rfl rfl ?_
     refine Tr.m rfl rfl rfl ?_
     refine Tr.fld rfl rfl rfl U45 rfl Sz41 dE _ rfl ?_
     refine Tr.load1 rfl rfl rfl U41 rfl mM (by first | exact Kept.get_fCerts (by first | exact oK  | exact hok) | exact vL) ?_
     refine Tr.cV rfl rfl rfl rfl Body39 (in_order X.fCerts D.dCerts) (fun w h => Certs_ext h rfl hW.fCerts) ?_
     refine Tr.not rfl rfl rfl ?_
     refine Tr.pick rfl rfl rfl rfl rfl rfl ?_
     refine Tr.nil (Aa ?_)
     first
      | refine Sat.condP rfl (fun hc0 => ?_) (fun hc0 => ?_)
      | refine Sat.condNP rfl (fun hc0 => ?_) (fun hc0 => ?_)
      | refine Sat.cond rfl (fun hc0 => ?_) (fun hc0 => ?_)
     ·
      refine Sat.seq (Sat.region ?_)
      refine Tr.a rfl rfl rfl ?_
      refine Tr.nil (Aa (Sat.ret (As (Ak ?_))))
      refine ⟨_, [], Ae rfl rfl, sP, sP, ?_, rfl⟩
      first
       | (simp only [DKept.check, DKept.good, hs1_2, hs1_7, hs1_13, hs1_19, Bool.and_true, Bool.and_false, Bool.true_and, Bool.false_and, Bool.false_eq_true, if_true, if_false]; done)
       | (simp only [DKept.check, DKept.good, hs1_2, hs1_7, hs1_13, Bool.and_true, Bool.and_false, Bool.true_and, Bool.false_and, Bool.false_eq_true, if_true, if_false]; done)
       | (simp only [DKept.check, DKept.good, hs1_2, hs1_7, Bool.and_true, Bool.and_false, Bool.true_and, Bool.false_and, Bool.false_eq_true, if_true, if_false]; done)
       | (simp only [DKept.check, DKept.good, hs1_2, Bool.and_true, Bool.and_false, Bool.true_and, Bool.false_and, Bool.false_eq_true, if_true, if_false]; done)
       | simp_all [DKept.check, DKept.good]
     ·
      refine Sat.skip (Aa (Sat.seq (Sat.region ?_)))
      refine Tr.a rfl rfl rfl ?_
      refine Tr.nil (Aa (Sat.ret (Ak ?_)))
      refine ⟨_, [], Ae rfl rfl, sP, sP, ?_, rfl⟩
      first
       | (simp only [DKept.check, DKept.good, hs1_2, hs1_7, hs1_13, hs1_19, Bool.and_true, Bool.and_false, Bool.true_and, Bool.false_and, Bool.false_eq_true, if_true, if_false]; done)
       | (simp only [DKept.check, DKept.good, hs1_2, hs1_7, hs1_13, Bool.and_true, Bool.and_false, Bool.true_and, Bool.false_and, Bool.false_eq_true, if_true, if_false]; done)
       | (simp only [DKept.check, DKept.good, hs1_2, hs1_7, Bool.and_true, Bool.and_false, Bool.true_and, Bool.false_and, Bool.false_eq_true, if_true, if_false]; done)
       | (simp only [DKept.check, DKept.good, hs1_2, Bool.and_true, Bool.and_false, Bool.true_and, Bool.false_and, Bool.false_eq_true, if_true, if_false]; done)
       | simp_all [DKept.check, DKept.good]
    ·
     first | have hs1_19 := of_decide_eq_true hs1_190 | have hs1_19 := of_decide_eq_false hs1_190 | have hs1_19 := nd_t hs1_190 | have hs1_19 := nd_f hs1_190 | have hs1_19 := hs1_190
     refine Tr.not rfl rfl rfl ?_
     refine Tr.pick rfl rfl rfl rfl rfl rfl ?_
     refine Tr.m rfl rfl rfl ?_
     refine Tr.skp rfl rfl ?_
     refine Tr.skp rfl rfl ?_
     refine Tr.skp rfl rfl ?_
     refine Tr.skp rfl rfl ?_
     refine Tr.pick rfl rfl rfl rfl rfl rfl ?_
     refine Tr.nil (Aa ?_)
     refine Sat.cond_t rfl rfl ?_
     refine Sat.seq (Sat.region ?_)
     refine Tr.a rfl rfl rfl ?_
     refine Tr.nil (Aa (Sat.ret (As (Ak ?_))))
     refine ⟨_, [], Ae rfl rfl, sP, sP, ?_, rfl⟩
     first
      | (simp only [DKept.check, DKept.good, hs1_2, hs1_7, hs1_13, hs1_19, Bool.and_true, Bool.and_false, Bool.true_and, Bool.false_and, Bool.false_eq_true, if_true, if_false]; done)
      | (simp only [DKept.check, DKept.good, hs1_2, hs1_7, hs1_13, Bool.and_true, Bool.and_false, Bool.true_and, Bool.false_and, Bool.false_eq_true, if_true, if_false]; done)
      | (simp only [DKept.check, DKept.good, hs1_2, hs1_7, Bool.and_true, Bool.and_false, Bool.true_and, Bool.false_and, Bool.false_eq_true, if_true, if_false]; done)
      | (simp only [DKept.check, DKept.good, hs1_2, Bool.and_true, Bool.and_false, Bool.true_and, Bool.false_and, Bool.false_eq_true, if_true, if_false]; done)
      | simp_all [DKept.check, DKept.good]
   ·
    first | have hs1_13 := of_decide_eq_true hs1_130 | have hs1_13 := of_decide_eq_false hs1_130 | have hs1_13 := nd_t hs1_130 | have hs1_13 := nd_f hs1_130 | have hs1_13 := hs1_130
    refine Tr.not rfl rfl rfl ?_
    refine Tr.pick rfl rfl rfl rfl rfl rfl ?_
    refine Tr.m rfl rfl rfl ?_
    refine Tr.skp rfl rfl ?_
    refine Tr.skp rfl rfl ?_
    refine Tr.skp rfl rfl ?_
    refine Tr.skp rfl rfl ?_
    refine Tr.pick rfl rfl rfl rfl rfl rfl ?_
    refine Tr.m rfl rfl rfl ?_
    refine Tr.skp rfl rfl ?_
    refine Tr.skp rfl rfl ?_
    refine Tr.skp rfl rfl ?_
    refine Tr.skp rfl rfl ?_
    refine Tr.pick rfl rfl rfl rfl rfl rfl ?_
    refine Tr.nil (Aa ?_)
    refine Sat.cond_t rfl rfl ?_
    refine Sat.seq (Sat.region ?_)
    refine Tr.a rfl rfl rfl ?_
    refine Tr.nil (Aa (Sat.ret (As (Ak ?_))))
    refine ⟨_, [], Ae rfl rfl, sP, sP, ?_, rfl⟩
    first
     | (simp only [DKept.check, DKept.good, hs1_2, hs1_7, hs1_13, hs1_19, Bool.and_true, Bool.and_false, Bool.true_and, Bool.false_and, Bool.false_eq_true, if_true, if_false]; done)
     | (simp only [DKept.check, DKept.good, hs1_2, hs1_7, hs1_13, Bool.and_true, Bool.and_false, Bool.true_and, Bool.false_and, Bool.false_eq_true, if_true, if_false]; done)
     | (simp only [DKept.check, DKept.good, hs1_2, hs1_7, Bool.and_true, Bool.and_false, Bool.true_and, Bool.false_and, Bool.false_eq_true, if_true, if_false]; done)
     | (simp only [DKept.check, DKept.good, hs1_2, Bool.and_true, Bool.and_false, Bool.true_and, Bool.false_and, Bool.false_eq_true, if_true, if_false]; done)
     | simp_all [DKept.check, DKept.good]
  ·
   first | have hs1_7 := of_decide_eq_true hs1_70 | have hs1_7 := of_decide_eq_false hs1_70 | have hs1_7 := nd_t hs1_70 | have hs1_7 := nd_f hs1_70 | have hs1_7 := hs1_70
   refine Tr.not rfl rfl rfl ?_
   refine Tr.pick rfl rfl rfl rfl rfl rfl ?_
   refine Tr.m rfl rfl rfl ?_
   refine Tr.skp rfl rfl ?_
   refine Tr.skp rfl rfl ?_
   refine Tr.skp rfl rfl ?_
   refine Tr.skp rfl rfl ?_
   refine Tr.pick rfl rfl rfl rfl rfl rfl ?_
   refine Tr.m rfl rfl rfl ?_
   refine Tr.skp rfl rfl ?_
   refine Tr.skp rfl rfl ?_
   refine Tr.skp rfl rfl ?_
   refine Tr.skp rfl rfl ?_
   refine Tr.pick rfl rfl rfl rfl rfl rfl ?_
   refine Tr.m rfl rfl rfl ?_
   refine Tr.skp rfl rfl ?_
   refine Tr.skp rfl rfl ?_
   refine Tr.skp rfl rfl ?_
   refine Tr.skp rfl rfl ?_
   refine Tr.pick rfl rfl rfl rfl rfl rfl ?_
   refine Tr.nil (Aa ?_)
   refine Sat.cond_t rfl rfl ?_
   refine Sat.seq (Sat.region ?_)
   refine Tr.a rfl rfl rfl ?_
   refine Tr.nil (Aa (Sat.ret (As (Ak ?_))))
   refine ⟨_, [], Ae rfl rfl, sP, sP, ?_, rfl⟩
   first
    | (simp only [DKept.check, DKept.good, hs1_2, hs1_7, hs1_13, hs1_19, Bool.and_true, Bool.and_false, Bool.true_and, Bool.false_and, Bool.false_eq_true, if_true, if_false]; done)
    | (simp only [DKept.check, DKept.good, hs1_2, hs1_7, hs1_13, Bool.and_true, Bool.and_false, Bool.true_and, Bool.false_and, Bool.false_eq_true, if_true, if_false]; done)
    | (simp only [DKept.check, DKept.good, hs1_2, hs1_7, Bool.and_true, Bool.and_false, Bool.true_and, Bool.false_and, Bool.false_eq_true, if_true, if_false]; done)
    | (simp only [DKept.check, DKept.good, hs1_2, Bool.and_true, Bool.and_false, Bool.true_and, Bool.false_and, Bool.false_eq_true, if_true, if_false]; done)
    | simp_all [DKept.check, DKept.good]
 ·
  first | have hs1_2 := of_decide_eq_true hs1_20 | have hs1_2 := of_decide_eq_false hs1_20 | have hs1_2 := nd_t hs1_20 | have hs1_2 := nd_f hs1_20 | have hs1_2 := hs1_20
  refine Tr.not rfl rfl rfl ?_
  refine Tr.m rfl rfl rfl ?_
  refine Tr.skp rfl rfl ?_
  refine Tr.skp rfl rfl ?_
  refine Tr.skp rfl rfl ?_
  refine Tr.skp rfl rfl ?_
  refine Tr.pick rfl rfl rfl rfl rfl rfl ?_
  refine Tr.m rfl rfl rfl ?_
  refine Tr.skp rfl rfl ?_
  refine Tr.skp rfl rfl ?_
  refine Tr.skp rfl rfl ?_
  refine Tr.skp rfl rfl ?_
  refine Tr.pick rfl rfl rfl rfl rfl rfl ?_
  refine Tr.m rfl rfl rfl ?_
  refine Tr.skp rfl rfl ?_
  refine Tr.skp rfl rfl ?_
  refine Tr.skp rfl rfl ?_
  refine Tr.skp rfl rfl ?_
  refine Tr.pick rfl rfl rfl rfl rfl rfl ?_
  refine Tr.m rfl rfl rfl ?_
  refine Tr.skp rfl rfl ?_
  refine Tr.skp rfl rfl ?_
  refine Tr.skp rfl rfl ?_
  refine Tr.skp rfl rfl ?_
  refine Tr.pick rfl rfl rfl rfl rfl rfl ?_
  refine Tr.nil (Aa ?_)
  refine Sat.cond_t rfl rfl ?_
  refine Sat.seq (Sat.region ?_)
  refine Tr.a rfl rfl rfl ?_
  refine Tr.nil (Aa (Sat.ret (As (Ak ?_))))
  refine ⟨_, [], Ae rfl rfl, sP, sP, ?_, rfl⟩
  first
   | (simp only [DKept.check, DKept.good, hs1_2, hs1_7, hs1_13, hs1_19, Bool.and_true, Bool.and_false, Bool.true_and, Bool.false_and, Bool.false_eq_true, if_true, if_false]; done)
   | (simp only [DKept.check, DKept.good, hs1_2, hs1_7, hs1_13, Bool.and_true, Bool.and_false, Bool.true_and, Bool.false_and, Bool.false_eq_true, if_true, if_false]; done)
   | (simp only [DKept.check, DKept.good, hs1_2, hs1_7, Bool.and_true, Bool.and_false, Bool.true_and, Bool.false_and, Bool.false_eq_true, if_true, if_false]; done)
   | (simp only [DKept.check, DKept.good, hs1_2, Bool.and_true, Bool.and_false, Bool.true_and, Bool.false_and, Bool.false_eq_true, if_true, if_false]; done)
   | simp_all [DKept.check, DKept.good]

end Go.Proofs.YtkfhpmidcbmofaaGreat
end

section
namespace Go.Proofs.YtkfhpmidcbmofaaGreat
open Go Hw

def LenR (k : Nat) (v : Value) (out : List Blk) : Prop := ∃ s : Sl, v = s.v ∧ s.n = k
theorem LenR.loose (k : Nat) : Loose (LenR k) := fun l hl => ⟨(⟨none, k, 0⟩ : Sl).v, [], ⟨_, rfl, rfl⟩, hl⟩
theorem count_step {ds : List Vote} {F : Vote → Bool} {k m : Nat} {d : Vote} (hd : ds[k]? = some d) (h : m = (ds.take k).countP F) : (if F d = true then m + 1 else m) = (ds.take (k + 1)).countP F := by
  rw [take_snoc hd, List.countP_append, ← h]
  by_cases hf : F d = true
  · rw [if_pos hf]; simp [hf]
  · rw [if_neg hf]; simp [hf]

theorem keep_said (X : Kept) (hX : X.ok) (s : Sl) (hXs : X.fVotes = s) (ds : List Vote) (h : UInt64) (hsn : s.n ≤ 1000) : Meets Tryz.prog 12 [agg X.cells, u64 h] [] (fun W => VotesAt W s ds) (LenR (ds.countP (fun V => decide ((V.fHeight.toNat : Int) = (h.toNat : Int))))) := by
  intro W hW
  obtain ⟨rs, hs⟩ := hW
  have hnd := hs.nd
  refine Aj Tryz.func12 rfl 25 Tryz.ntmps12 rfl ?_
  refine Sat.seq (Sat.region ?_)
  refine Tr.boxA rfl rfl ?_
  intro n2 hn2 hf2
  refine Tr.a rfl rfl rfl ?_
  refine Tr.nil (Aa (Sat.seq (Sat.region ?_)))
  refine Tr.a rfl rfl rfl ?_
  refine Tr.nil (Aa (Sat.seq (Sat.seq (Sat.region ?_))))
  refine Tr.fld rfl rfl rfl U45 rfl Sz42 dE _ rfl ?_
  refine Tr.load1 rfl rfl rfl U42 rfl mM (by first | exact Kept.get_fVotes (by first | exact oK  | exact hX | exact okr) | exact vL) ?_
  rw [hXs]
  refine Tr.lenSl rfl rfl rfl U42 ?_
  refine Tr.m rfl rfl rfl ?_
  refine Tr.nil (Aa (Sat.block ?_))
  refine Sat.loop (ι := Nat × Sl × List Blk × Nat × List Value) (fun p => ⟨[(1, u64 h), (5, p.2.1.v), (9, s.v), (10, i64 (s.n : Int)), (11, i64 (p.1 : Int))], (p.2.2.1 ++ [])⟩) (fun p => p.1 ≤ s.n ∧ Acc p.2.1 p.2.2.1 p.2.2.2.2 29 p.2.2.2.1 132 ∧ p.2.2.2.1 = (ds.take p.1).countP (fun V => decide ((V.fHeight.toNat : Int) = (h.toNat : Int)))) (fun p => s.n - p.1) ((0, Sl.nil, [], 0, [])) ?_ ?_ ?_
  · exact ⟨Nat.zero_le _, Acc.none, rfl⟩
  · exact Am (wk1 rfl (wk1 rfl (wk1 rfl (wk1 rfl (wk1 rfl wk0))))) (Ac sG Ag)
  ·
    rintro ⟨k, t, bl, m, cs⟩ ⟨hk, hac, hct⟩
    simp only at hk hac hct ⊢
    refine Sat.seq (Sat.region ?_)
    refine Tr.lss rfl rfl rfl rfl rfl ?_
    refine Tr.nil (Aa (Sat.seq ?_))
    first
      | refine Sat.condP rfl (fun hc0 => ?_) (fun hc0 => ?_)
      | refine Sat.condNP rfl (fun hc0 => ?_) (fun hc0 => ?_)
      | refine Sat.cond rfl (fun hc0 => ?_) (fun hc0 => ?_)
    ·
      have hk2 : k < s.n := by omega
      obtain ⟨b, o, r, d, hsp, hr, hd, his, hlen, hsee⟩ := hs.at dE hk2
      obtain rfl := his.eq
      have okr := his.ok
      have hmk : m ≤ s.n := by rw [hct]; exact Nat.le_trans (List.countP_le_length ..) (by rw [List.length_take]; omega)
      refine Sat.skip (Aa ?_)
      refine Sat.join (ι := Sl × List Blk × Nat × List Value) (fun j => ⟨[(1, u64 h), (5, j.1.v), (9, s.v), (10, i64 (s.n : Int)), (11, i64 (k : Int))], (j.2.1 ++ [])⟩) (fun j => Acc j.1 j.2.1 j.2.2.2 29 j.2.2.1 132 ∧ j.2.2.1 = (ds.take (k + 1)).countP (fun V => decide ((V.fHeight.toNat : Int) = (h.toNat : Int)))) ?_ ?_
      ·
        refine Sat.block (Sat.seq ?_)
        refine Sat.region ?_
        refine Tr.idxSlP 132 rfl rfl rfl hsp rfl U42 Bf k rfl oM ?_
        refine Tr.loadEN r.cells rfl rfl rfl U29 rfl Bf sP hlen hsee ?_
        refine Tr.alloc (cs := Vote.zero.cells) rfl Vote.zr rfl ?_
        intro n7 hn7 hf7
        refine Tr.sA rfl rfl rfl rfl (Vote.isCell (by first | exact oK  | exact hX | exact okr)) Bf (Vote.length (by first | exact oK  | exact hX | exact okr)) mM (Vote.length (by first | exact oK  | exact hX | exact okr)) uU ?_
        refine Tr.nil (Aa (Sat.seq (Sat.region ?_)))
        refine Tr.fld rfl rfl rfl U29 rfl Bp dE _ rfl ?_
        refine Tr.load1 rfl rfl rfl U22 rfl mM (by first | exact Vote.get_fHeight (by first | exact oK  | exact hX | exact okr) | exact vL) ?_
        refine Tr.m rfl rfl rfl ?_
        refine Tr.eqi rfl rfl rfl rfl rfl ?_
        refine Tr.nil (Aa ?_)
        first
          | refine Sat.condP rfl (fun hc1 => ?_) (fun hc1 => ?_)
          | refine Sat.condNP rfl (fun hc1 => ?_) (fun hc1 => ?_)
          | refine Sat.cond rfl (fun hc1 => ?_) (fun hc1 => ?_)
        ·
          refine Sat.region ?_
          refine Tr.m rfl rfl rfl ?_
          refine Tr.lA rfl rfl rfl U29 rfl Bf mM (Vote.length (by first | exact oK  | exact hX | exact okr)) ?_
          refine Tr.mkRow2 (z := agg Vote.zero.cells) [agg r.cells] r.cells rfl rfl U42 Bf Vote.zr rfl rfl (by intro v hv; rw [List.mem_singleton.1 hv]; simp [Value.cells, Vote.length okr]) dE (by simp [Value.cells]) ?_
          intro q21
          refine Tr.appendAcc (z := agg Vote.zero.cells) (by' := 160) (r.cells) rfl rfl rfl rfl rfl U42 U42 Bf Vote.zr (by unfold By; kernel_rfl) rfl hac sG (fun w h => SeesP.of (Ay h mM)) (fun e => by cases e) (Vote.isCell okr) oM oM (by rw [Vote.length okr]) ?_
          intro s22 bl22 hac22
          refine Tr.a rfl rfl rfl ?_
          refine Tr.nil (Bu (Aa ?_))
          first
            | (have hst := count_step (F := (fun V => decide ((V.fHeight.toNat : Int) = (h.toNat : Int)))) hd hct
               rw [if_pos (decide_eq_true hc1)] at hst
               exact ⟨(s22, bl22, m + 1, cs ++ r.cells), ⟨hac22, hst⟩, Am (wk1 rfl (wk1 rfl (wk1 rfl (wk1 rfl (wk1 rfl wk0))))) (Ac sG Ag)⟩)
            | (have hst := count_step (F := (fun V => decide ((V.fHeight.toNat : Int) = (h.toNat : Int)))) hd hct
               rw [if_neg (by rw [decide_eq_true_eq]; exact hc1)] at hst
               exact ⟨(t, bl, m, cs), ⟨hac, hst⟩, Am (wk1 rfl (wk1 rfl (wk1 rfl (wk1 rfl (wk1 rfl wk0))))) (Ac sG Ag)⟩)
        ·
          refine Sat.skip (Bu (Aa ?_))
          first
            | (have hst := count_step (F := (fun V => decide ((V.fHeight.toNat : Int) = (h.toNat : Int)))) hd hct
               rw [if_pos (decide_eq_true hc1)] at hst
               exact ⟨(s22, bl22, m + 1, cs ++ r.cells), ⟨hac22, hst⟩, Am (wk1 rfl (wk1 rfl (wk1 rfl (wk1 rfl (wk1 rfl wk0))))) (Ac sG Ag)⟩)
            | (have hst := count_step (F := (fun V => decide ((V.fHeight.toNat : Int) = (h.toNat : Int)))) hd hct
               rw [if_neg (by rw [decide_eq_true_eq]; exact hc1)] at hst
               exact ⟨(t, bl, m, cs), ⟨hac, hst⟩, Am (wk1 rfl (wk1 rfl (wk1 rfl (wk1 rfl (wk1 rfl wk0))))) (Ac sG Ag)⟩)
      ·
        intro j hj
        skip
        refine Sat.region ?_
        refine Tr.aI rfl rfl rfl rfl oM ?_
        refine Tr.m rfl rfl rfl ?_
        refine Tr.nil (Aa ?_)
        exact ⟨(k + 1, j.1, j.2.1, j.2.2.1, j.2.2.2), ⟨by simp only []; omega, hj.1, hj.2⟩, by simp only []; omega, Am (wk1 rfl (wk1 rfl (wk1 rfl (wk1 rfl (wk1 (by rw [Int.natCast_add]; rfl) wk0))))) (Ac sG Ag)⟩
    ·
      have hk2 : k = s.n := by omega
      refine Sat.exit (A9 (A9 (bl_h (Aa (Sat.seq (Sat.region ?_))))))
      refine Tr.m rfl rfl rfl ?_
      refine Tr.a rfl rfl rfl ?_
      refine Tr.nil (Aa (Sat.ret (Ak ?_)))
      refine Al (out := (bl ++ [])) (Ae rfl rfl) (Ac sG Ag) ?_
      refine ⟨t, rfl, ?_⟩
      rw [hac.num, hct, List.take_of_length_le oM]

theorem keep_size_nil  : Meets Tryz.prog 13 [.slice none 0 0] [] (fun _ => True) (fun v out => v = i64 0 ∧ out = []) := by
 intro W hW
 refine Aj Tryz.func13 rfl 18 Tryz.ntmps13 rfl ?_
 refine Sat.seq (Sat.region ?_)
 refine Tr.a rfl rfl rfl ?_
 refine Tr.nil (Aa (Sat.seq (Sat.region ?_)))
 refine Tr.a rfl rfl rfl ?_
 refine Tr.nil (Aa (Sat.seq (Sat.seq (Sat.region ?_))))
 refine Tr.m rfl rfl rfl ?_
 refine Tr.lenSl rfl rfl rfl Tryz.underlying48 ?_
 refine Tr.m rfl rfl rfl ?_
 refine Tr.nil (Aa (Sat.block ?_))
 refine Sat.rounds 1 (SRounds.more ?_)
 refine Sat.seq (Sat.region ?_)
 refine Tr.lss rfl rfl rfl rfl rfl ?_
 refine Tr.nil (Aa (Sat.seq ?_))
 refine Sat.cond_f rfl (decide_eq_false dE) ?_
 refine Sat.exit (A9 (A9 (bl_h (Aa (Sat.seq (Sat.region ?_))))))
 refine Tr.m rfl rfl rfl ?_
 refine Tr.a rfl rfl rfl ?_
 refine Tr.nil (Aa (Sat.ret (Ak ?_)))
 refine ⟨_, [], Ae rfl rfl, sP, sP, ?_, rfl⟩
 rfl

theorem vote_self (a : Vote) (ha : a.ok) : Meets Tryz.prog 60 [agg a.cells, agg a.cells] [] (fun _ => True) (fun v out => v = .bool true ∧ out = []) := by
 intro W hW
 refine Aj Tryz.func60 rfl 8 Tryz.ntmps60 rfl ?_
 refine Sat.seq (Sat.region ?_)
 refine Tr.boxA rfl rfl ?_
 intro n2 hn2 hf2
 refine Tr.boxA rfl rfl ?_
 intro n3 hn3 hf3
 refine Tr.a rfl rfl rfl ?_
 refine Tr.nil (Aa (Sat.seq (Sat.region ?_)))
 refine Tr.lA rfl rfl rfl U29 rfl Bf mM (Vote.length (by first | exact oK  | exact ha)) ?_
 refine Tr.lA rfl rfl rfl U29 rfl Bf mM (Vote.length (by first | exact oK  | exact ha)) ?_
 refine Tr.eql_rec rfl rfl rfl rfl Vote.eg (fun w => Vote.eq_runC ha ha w) (@decide_eq_true _ (Classical.propDecidable _) rfl) ?_
 refine Tr.a rfl rfl rfl ?_
 refine Tr.nil (Aa (Sat.ret (Ak ?_)))
 refine ⟨_, [], Ae rfl rfl, sP, sP, ?_, rfl⟩
 rfl

theorem lin_self (p q : Option Addr) (n m c1 c2 : Nat) (xs : List (List UInt8)) (hx : ∀ l ∈ xs, l.length = 32) (h1 : xs.length = n) (h2 : xs.length = m) (hn : n ≤ 1000000) : Meets Tryz.prog 112 [.slice p n c1, .slice q m c2] [] (fun W => SeesP W p (flatB xs) ∧ SeesP W q (flatB xs)) (fun v out => v = .bool true ∧ out = []) := by
 intro W hW
 refine Aj Tryz.func112 rfl 8 Tryz.ntmps112 rfl ?_
 refine Sat.seq (Sat.region ?_)
 refine Tr.a rfl rfl rfl ?_
 refine Tr.nil (Aa (Sat.seq (Sat.region ?_)))
 refine Tr.m rfl rfl rfl ?_
 refine Tr.m rfl rfl rfl ?_
 refine Tr.cV rfl rfl rfl rfl Body110 ((seq_any p q n m c1 c2 xs xs hx hx h1 h2 hn).imp (fun w h => h) (fun v out h => by rwa [decide_eq_true rfl] at h)) (fun w h => ⟨Az h rfl hW.1, Az h rfl hW.2⟩) ?_
 refine Tr.a rfl rfl rfl ?_
 refine Tr.nil (Aa (Sat.ret (Ak ?_)))
 refine ⟨_, [], Ae rfl rfl, sP, sP, ?_, rfl⟩
 rfl

theorem cut_self (A B : Cut) (a : DCut) (hn : a.dHeads.length ≤ 1000000) : Meets Tryz.prog 62 [agg A.cells, agg B.cells] [] (fun W => CutIs W A a ∧ CutIs W B a) (fun v out => v = .bool true ∧ out = []) := by
 intro W hW
 have hA := hW.1.ok
 have hB := hW.2.ok
 have e1 := hW.1.fHeight
 have e2 := hW.2.fHeight
 have e3 := hW.1.fPrev
 have e4 := hW.2.fPrev
 have e5 := hW.1.fHeads.len
 refine Aj Tryz.func62 rfl 24 Tryz.ntmps62 rfl ?_
 refine Sat.seq (Sat.region ?_)
 refine Tr.boxA rfl rfl ?_
 intro n2 hn2 hf2
 refine Tr.boxA rfl rfl ?_
 intro n3 hn3 hf3
 refine Tr.a rfl rfl rfl ?_
 refine Tr.nil (Aa (Sat.seq (Sat.region ?_)))
 refine Tr.fld rfl rfl rfl U39 rfl Bp dE _ rfl ?_
 refine Tr.load1 rfl rfl rfl U22 rfl mM (by first | exact Cut.get_fHeight (by first | (simp [hA.l_fPrev, hB.l_fPrev]; done) | exact oK  | exact hA | exact hB) | exact (by first | rfl | exact Ap (by first | omega | (simp [hA.l_fPrev, hB.l_fPrev]; done) | (simp [hA.l_fPrev, hB.l_fPrev]; omega)) | exact Ax (by first | omega | (simp [hA.l_fPrev, hB.l_fPrev]; done) | (simp [hA.l_fPrev, hB.l_fPrev]; omega)) | exact Bd (by first | omega | (simp [hA.l_fPrev, hB.l_fPrev]; done) | (simp [hA.l_fPrev, hB.l_fPrev]; omega)))) ?_
 refine Tr.fld rfl rfl rfl U39 rfl Bp dE _ rfl ?_
 refine Tr.load1 rfl rfl rfl U22 rfl mM (by first | exact Cut.get_fHeight (by first | (simp [hA.l_fPrev, hB.l_fPrev]; done) | exact oK  | exact hA | exact hB) | exact (by first | rfl | exact Ap (by first | omega | (simp [hA.l_fPrev, hB.l_fPrev]; done) | (simp [hA.l_fPrev, hB.l_fPrev]; omega)) | exact Ax (by first | omega | (simp [hA.l_fPrev, hB.l_fPrev]; done) | (simp [hA.l_fPrev, hB.l_fPrev]; omega)) | exact Bd (by first | omega | (simp [hA.l_fPrev, hB.l_fPrev]; done) | (simp [hA.l_fPrev, hB.l_fPrev]; omega)))) ?_
 refine Tr.eqi rfl rfl rfl rfl (decide_eq_true (by rw [e1, e2])) ?_
 refine Tr.m rfl rfl rfl ?_
 refine Tr.fld rfl rfl rfl U39 rfl A5 dE _ rfl ?_
 first
  | refine Tr.lN (Ab _) rfl rfl rfl U24 rfl A5 mM (Cut.row_fPrev (by first | (simp [hA.l_fPrev, hB.l_fPrev]; done) | exact oK  | exact hA | exact hB)) (Cut.rl_fPrev (by first | (simp [hA.l_fPrev, hB.l_fPrev]; done) | exact oK  | exact hA | exact hB)) ?_
 refine Tr.fld rfl rfl rfl U39 rfl A5 dE _ rfl ?_
 first
  | refine Tr.lN (Ab _) rfl rfl rfl U24 rfl A5 mM (Cut.row_fPrev (by first | (simp [hA.l_fPrev, hB.l_fPrev]; done) | exact oK  | exact hA | exact hB)) (Cut.rl_fPrev (by first | (simp [hA.l_fPrev, hB.l_fPrev]; done) | exact oK  | exact hA | exact hB)) ?_
 refine Tr.eql_bytes rfl rfl rfl rfl Tryz.eqGuardType24 U24 U5 Sz5 (by first | (simp [hA.l_fPrev, hB.l_fPrev]; done) | assumption | (rw [Ab, List.length_map]; assumption)) (by first | (simp [hA.l_fPrev, hB.l_fPrev]; done) | assumption | (rw [Ab, List.length_map]; assumption)) (decide_eq_true (by rw [e3, e4])) ?_
 refine Tr.pick rfl rfl rfl rfl rfl rfl ?_
 refine Tr.m rfl rfl rfl ?_
 refine Tr.fld rfl rfl rfl U39 rfl Sz37 dE _ rfl ?_
 refine Tr.load1 rfl rfl rfl U37 rfl mM (by first | exact Cut.get_fHeads (by first | (simp [hA.l_fPrev, hB.l_fPrev]; done) | exact oK  | exact hA | exact hB) | exact (by first | rfl | exact Ap (by first | omega | (simp [hA.l_fPrev, hB.l_fPrev]; done) | (simp [hA.l_fPrev, hB.l_fPrev]; omega)) | exact Ax (by first | omega | (simp [hA.l_fPrev, hB.l_fPrev]; done) | (simp [hA.l_fPrev, hB.l_fPrev]; omega)) | exact Bd (by first | omega | (simp [hA.l_fPrev, hB.l_fPrev]; done) | (simp [hA.l_fPrev, hB.l_fPrev]; omega)))) ?_
 refine Tr.fld rfl rfl rfl U39 rfl Sz37 dE _ rfl ?_
 refine Tr.load1 rfl rfl rfl U37 rfl mM (by first | exact Cut.get_fHeads (by first | (simp [hA.l_fPrev, hB.l_fPrev]; done) | exact oK  | exact hA | exact hB) | exact (by first | rfl | exact Ap (by first | omega | (simp [hA.l_fPrev, hB.l_fPrev]; done) | (simp [hA.l_fPrev, hB.l_fPrev]; omega)) | exact Ax (by first | omega | (simp [hA.l_fPrev, hB.l_fPrev]; done) | (simp [hA.l_fPrev, hB.l_fPrev]; omega)) | exact Bd (by first | omega | (simp [hA.l_fPrev, hB.l_fPrev]; done) | (simp [hA.l_fPrev, hB.l_fPrev]; omega)))) ?_
 refine Tr.cV rfl rfl rfl rfl Body112 (lin_self A.fHeads.p B.fHeads.p A.fHeads.n B.fHeads.n A.fHeads.c B.fHeads.c a.dHeads hW.1.fHeads.row hW.1.fHeads.len hW.2.fHeads.len oM) (fun w h => ⟨Az h rfl hW.1.fHeads.see, Az h rfl hW.2.fHeads.see⟩) ?_
 refine Tr.pick rfl rfl rfl rfl rfl rfl ?_
 refine Tr.a rfl rfl rfl ?_
 refine Tr.nil (Aa (Sat.ret (Ak ?_)))
 refine ⟨_, [], Ae rfl rfl, sP, sP, ?_, rfl⟩
 rfl

theorem eqf_vote (s u : Sl) (ds : List Vote) : Meets Tryz.prog 59 [s.v, u.v, .func (.func 60) #[] #[]] [] (fun W => VotesAt W s ds ∧ VotesAt W u ds) (fun v out => v = .bool true ∧ out = []) := by
 intro W hW
 obtain ⟨⟨rs, hs⟩, ⟨ru, hu⟩⟩ := hW
 have hnd := hs.nd
 have hnu := hu.nd
 have hmax := hs.max
 simp only [maxLen] at hmax
 refine Aj Tryz.func59 rfl 32 Tryz.ntmps59 rfl ?_
 refine Sat.seq (Sat.region ?_)
 refine Tr.a rfl rfl rfl ?_
 refine Tr.nil (Aa (Sat.seq (Sat.seq (Sat.region ?_))))
 refine Tr.m rfl rfl rfl ?_
 refine Tr.lenSl rfl rfl rfl U42 ?_
 refine Tr.m rfl rfl rfl ?_
 refine Tr.lenSl rfl rfl rfl U42 ?_
 refine Tr.nei rfl rfl rfl rfl (show (!decide _) = false from congrArg not (decide_eq_true oM)) ?_
 refine Tr.nil (Aa ?_)
 refine Sat.cond_f rfl (rfl) ?_
 refine Sat.skip (Aa (Sat.seq (Sat.seq (Sat.region ?_))))
 refine Tr.m rfl rfl rfl ?_
 refine Tr.lenSl rfl rfl rfl U42 ?_
 refine Tr.m rfl rfl rfl ?_
 refine Tr.nil (Aa (Sat.block ?_))
 refine Sat.loop (ι := Nat) (fun k => ⟨[(1, u.v), (2, .func (.func 60) #[] #[]), (15, s.v), (16, i64 (s.n : Int)), (17, i64 (k : Int))], []⟩) (fun k => k ≤ s.n) (fun k => s.n - k) (0) ?_ ?_ ?_
 · exact Nat.zero_le _
 · exact Ao (wk1 rfl (wk1 rfl (wk1 rfl (wk1 rfl (wk1 rfl wk0))))) wh0 nD
 ·
  rintro k hi
  refine Sat.seq (Sat.region ?_)
  refine Tr.lss rfl rfl rfl rfl rfl ?_
  refine Tr.nil (Aa (Sat.seq ?_))
  first
   | refine Sat.condP rfl (fun hc1 => ?_) (fun hc1 => ?_)
   | refine Sat.condNP rfl (fun hc1 => ?_) (fun hc1 => ?_)
   | refine Sat.cond rfl (fun hc1 => ?_) (fun hc1 => ?_)
  ·
   have hk2 : k < s.n := by omega
   obtain ⟨b, o, r, d, hsp, hr, hd, his, hlen, hsee⟩ := hs.at dE hk2
   obtain ⟨b2, o2, r2, d2, hspu, hru, hdu, hiu, hlenu, hseeu⟩ := hu.at dE (show k < u.n by omega)
   obtain rfl : d = d2 := by rw [hd] at hdu; exact Option.some.inj hdu
   have hrd := his.eq
   have hrd2 := hiu.eq
   obtain rfl : r = r2 := by rw [hrd, hrd2]
   refine Sat.skip (Aa (Sat.seq (Sat.block (Sat.seq (Sat.region ?_)))))
   refine Tr.m rfl rfl rfl ?_
   refine Tr.idxSlP 132 rfl rfl rfl hsp rfl U42 Bf k rfl oM ?_
   refine Tr.loadEN r.cells rfl rfl rfl U29 rfl Bf sP hlen hsee ?_
   refine Tr.alloc (cs := Vote.zero.cells) rfl Vote.zr rfl ?_
   intro n8 hn8 hf8
   refine Tr.a rfl rfl rfl ?_
   refine Tr.sA rfl rfl rfl rfl (Vote.isCell (by first | exact oK  | exact his.ok | exact hiu.ok)) Bf (Vote.length (by first | exact oK  | exact his.ok | exact hiu.ok)) mM (Vote.length (by first | exact oK  | exact his.ok | exact hiu.ok)) uU ?_
   refine Tr.nil (Aa (Sat.seq (Sat.region ?_)))
   refine Tr.m rfl rfl rfl ?_
   refine Tr.m rfl rfl rfl ?_
   refine Tr.idxSlP 132 rfl rfl rfl hspu rfl U42 Bf k rfl oM ?_
   refine Tr.loadEN r.cells rfl rfl rfl U29 rfl Bf sP hlenu hseeu ?_
   refine Tr.alloc (cs := Vote.zero.cells) rfl Vote.zr rfl ?_
   intro n9 hn9 hf9
   refine Tr.sA rfl rfl rfl rfl (Vote.isCell (by first | exact oK  | exact his.ok | exact hiu.ok)) Bf (Vote.length (by first | exact oK  | exact his.ok | exact hiu.ok)) mM (Vote.length (by first | exact oK  | exact his.ok | exact hiu.ok)) uU ?_
   refine Tr.nil (Aa (Sat.seq (Sat.region ?_)))
   refine Tr.m rfl rfl rfl ?_
   refine Tr.lA rfl rfl rfl U29 rfl Bf mM (Vote.length (by first | exact oK  | exact his.ok | exact hiu.ok)) ?_
   refine Tr.lA rfl rfl rfl U29 rfl Bf mM (Vote.length (by first | exact oK  | exact his.ok | exact hiu.ok)) ?_
   refine Tr.cV rfl rfl rfl rfl Body60 (vote_self r his.ok) tV ?_
   refine Tr.not rfl rfl rfl ?_
   refine Tr.nil (Aa ?_)
   refine Sat.cond_f rfl (rfl) ?_
   refine Sat.skip (Bu (Aa (Sat.region ?_)))
   refine Tr.aI rfl rfl rfl rfl oM ?_
   refine Tr.m rfl rfl rfl ?_
   refine Tr.nil (Aa ?_)
   exact ⟨k + 1, by omega, by omega, Ao (wk1 rfl (wk1 rfl (wk1 rfl (wk1 rfl (wk1 (by rw [Int.natCast_add]; rfl) wk0))))) wh0 nD⟩
  ·
   obtain rfl : k = s.n := by omega
   refine Sat.exit (A9 (A9 (bl_h (Aa (Sat.seq (Sat.region ?_))))))
   refine Tr.a rfl rfl rfl ?_
   refine Tr.nil (Aa (Sat.ret (Ak ?_)))
   refine ⟨_, [], Ae rfl rfl, sP, sP, ?_, rfl⟩
   rfl

theorem eqf_cut (s u : Sl) (ds : List DCut) (hsm : ∀ d ∈ ds, d.dHeads.length ≤ 1000000) : Meets Tryz.prog 61 [s.v, u.v, .func (.func 62) #[] #[]] [] (fun W => CutsAt W s ds ∧ CutsAt W u ds) (fun v out => v = .bool true ∧ out = []) := by
 intro W hW
 obtain ⟨⟨rs, hs⟩, ⟨ru, hu⟩⟩ := hW
 have hnd := hs.nd
 have hnu := hu.nd
 have hmax := hs.max
 simp only [maxLen] at hmax
 refine Aj Tryz.func61 rfl 32 Tryz.ntmps61 rfl ?_
 refine Sat.seq (Sat.region ?_)
 refine Tr.a rfl rfl rfl ?_
 refine Tr.nil (Aa (Sat.seq (Sat.seq (Sat.region ?_))))
 refine Tr.m rfl rfl rfl ?_
 refine Tr.lenSl rfl rfl rfl U43 ?_
 refine Tr.m rfl rfl rfl ?_
 refine Tr.lenSl rfl rfl rfl U43 ?_
 refine Tr.nei rfl rfl rfl rfl (show (!decide _) = false from congrArg not (decide_eq_true oM)) ?_
 refine Tr.nil (Aa ?_)
 refine Sat.cond_f rfl (rfl) ?_
 refine Sat.skip (Aa (Sat.seq (Sat.seq (Sat.region ?_))))
 refine Tr.m rfl rfl rfl ?_
 refine Tr.lenSl rfl rfl rfl U43 ?_
 refine Tr.m rfl rfl rfl ?_
 refine Tr.nil (Aa (Sat.block ?_))
 refine Sat.loop (ι := Nat) (fun k => ⟨[(1, u.v), (2, .func (.func 62) #[] #[]), (15, s.v), (16, i64 (s.n : Int)), (17, i64 (k : Int))], []⟩) (fun k => k ≤ s.n) (fun k => s.n - k) (0) ?_ ?_ ?_
 · exact Nat.zero_le _
 · exact Ao (wk1 rfl (wk1 rfl (wk1 rfl (wk1 rfl (wk1 rfl wk0))))) wh0 nD
 ·
  rintro k hi
  refine Sat.seq (Sat.region ?_)
  refine Tr.lss rfl rfl rfl rfl rfl ?_
  refine Tr.nil (Aa (Sat.seq ?_))
  first
   | refine Sat.condP rfl (fun hc1 => ?_) (fun hc1 => ?_)
   | refine Sat.condNP rfl (fun hc1 => ?_) (fun hc1 => ?_)
   | refine Sat.cond rfl (fun hc1 => ?_) (fun hc1 => ?_)
  ·
   have hk2 : k < s.n := by omega
   obtain ⟨b, o, r, d, hsp, hr, hd, his, hlen, hsee⟩ := hs.at dE hk2
   obtain ⟨b2, o2, r2, d2, hspu, hru, hdu, hiu, hlenu, hseeu⟩ := hu.at dE (show k < u.n by omega)
   obtain rfl : d = d2 := by rw [hd] at hdu; exact Option.some.inj hdu
   skip
   refine Sat.skip (Aa (Sat.seq (Sat.block (Sat.seq (Sat.region ?_)))))
   refine Tr.m rfl rfl rfl ?_
   refine Tr.idxSlP 34 rfl rfl rfl hsp rfl U43 Sz39 k rfl oM ?_
   refine Tr.loadEN r.cells rfl rfl rfl U39 rfl Sz39 sP hlen hsee ?_
   refine Tr.alloc (cs := Cut.zero.cells) rfl Cut.zr rfl ?_
   intro n8 hn8 hf8
   refine Tr.a rfl rfl rfl ?_
   refine Tr.sA rfl rfl rfl rfl (Cut.isCell (by first | exact oK  | exact his.ok | exact hiu.ok)) Sz39 (Cut.length (by first | exact oK  | exact his.ok | exact hiu.ok)) mM (Cut.length (by first | exact oK  | exact his.ok | exact hiu.ok)) uU ?_
   refine Tr.nil (Aa (Sat.seq (Sat.region ?_)))
   refine Tr.m rfl rfl rfl ?_
   refine Tr.m rfl rfl rfl ?_
   refine Tr.idxSlP 34 rfl rfl rfl hspu rfl U43 Sz39 k rfl oM ?_
   refine Tr.loadEN r2.cells rfl rfl rfl U39 rfl Sz39 sP hlenu hseeu ?_
   refine Tr.alloc (cs := Cut.zero.cells) rfl Cut.zr rfl ?_
   intro n9 hn9 hf9
   refine Tr.sA rfl rfl rfl rfl (Cut.isCell (by first | exact oK  | exact his.ok | exact hiu.ok)) Sz39 (Cut.length (by first | exact oK  | exact his.ok | exact hiu.ok)) mM (Cut.length (by first | exact oK  | exact his.ok | exact hiu.ok)) uU ?_
   refine Tr.nil (Aa (Sat.seq (Sat.region ?_)))
   refine Tr.m rfl rfl rfl ?_
   refine Tr.lA rfl rfl rfl U39 rfl Sz39 mM (Cut.length (by first | exact oK  | exact his.ok | exact hiu.ok)) ?_
   refine Tr.lA rfl rfl rfl U39 rfl Sz39 mM (Cut.length (by first | exact oK  | exact his.ok | exact hiu.ok)) ?_
   refine Tr.cV rfl rfl rfl rfl Body62 (cut_self r r2 d (hsm d (List.mem_of_getElem? hd))) (fun w h => ⟨his.ext h rfl, hiu.ext h rfl⟩) ?_
   refine Tr.not rfl rfl rfl ?_
   refine Tr.nil (Aa ?_)
   refine Sat.cond_f rfl (rfl) ?_
   refine Sat.skip (Bu (Aa (Sat.region ?_)))
   refine Tr.aI rfl rfl rfl rfl oM ?_
   refine Tr.m rfl rfl rfl ?_
   refine Tr.nil (Aa ?_)
   exact ⟨k + 1, by omega, by omega, Ao (wk1 rfl (wk1 rfl (wk1 rfl (wk1 rfl (wk1 (by rw [Int.natCast_add]; rfl) wk0))))) wh0 nD⟩
  ·
   obtain rfl : k = s.n := by omega
   refine Sat.exit (A9 (A9 (bl_h (Aa (Sat.seq (Sat.region ?_))))))
   refine Tr.a rfl rfl rfl ?_
   refine Tr.nil (Aa (Sat.ret (Ak ?_)))
   refine ⟨_, [], Ae rfl rfl, sP, sP, ?_, rfl⟩
   rfl

theorem eqf0_block (s u : Sl) (hs : s.n = 0) (hu : u.n = 0) : Meets Tryz.prog 55 [s.v, u.v, .func (.func 56) #[] #[]] [] (fun _ => True) (fun v out => v = .bool true ∧ out = []) := by
 intro W hW
 refine Aj Tryz.func55 rfl 32 Tryz.ntmps55 rfl ?_
 refine Sat.seq (Sat.region ?_)
 refine Tr.a rfl rfl rfl ?_
 refine Tr.nil (Aa (Sat.seq (Sat.seq (Sat.region ?_))))
 refine Tr.m rfl rfl rfl ?_
 refine Tr.lenSl rfl rfl rfl U40 ?_
 refine Tr.m rfl rfl rfl ?_
 refine Tr.lenSl rfl rfl rfl U40 ?_
 refine Tr.nei rfl rfl rfl rfl (show (!decide _) = false from congrArg not (decide_eq_true oM)) ?_
 refine Tr.nil (Aa ?_)
 refine Sat.cond_f rfl (rfl) ?_
 refine Sat.skip (Aa (Sat.seq (Sat.seq (Sat.region ?_))))
 refine Tr.m rfl rfl rfl ?_
 refine Tr.lenSl rfl rfl rfl U40 ?_
 refine Tr.m rfl rfl rfl ?_
 refine Tr.nil (Aa (Sat.block ?_))
 refine Sat.rounds 1 (SRounds.more ?_)
 refine Sat.seq (Sat.region ?_)
 refine Tr.lss rfl rfl rfl rfl rfl ?_
 refine Tr.nil (Aa (Sat.seq ?_))
 refine Sat.cond_f rfl (decide_eq_false oM) ?_
 refine Sat.exit (A9 (A9 (bl_h (Aa (Sat.seq (Sat.region ?_))))))
 refine Tr.a rfl rfl rfl ?_
 refine Tr.nil (Aa (Sat.ret (Ak ?_)))
 refine ⟨_, [], Ae rfl rfl, sP, sP, ?_, rfl⟩
 rfl

theorem eqf0_cert (s u : Sl) (hs : s.n = 0) (hu : u.n = 0) : Meets Tryz.prog 57 [s.v, u.v, .func (.func 58) #[] #[]] [] (fun _ => True) (fun v out => v = .bool true ∧ out = []) := by
 intro W hW
 refine Aj Tryz.func57 rfl 32 Tryz.ntmps57 rfl ?_
 refine Sat.seq (Sat.region ?_)
 refine Tr.a rfl rfl rfl ?_
 refine Tr.nil (Aa (Sat.seq (Sat.seq (Sat.region ?_))))
 refine Tr.m rfl rfl rfl ?_
 refine Tr.lenSl rfl rfl rfl U41 ?_
 refine Tr.m rfl rfl rfl ?_
 refine Tr.lenSl rfl rfl rfl U41 ?_
 refine Tr.nei rfl rfl rfl rfl (show (!decide _) = false from congrArg not (decide_eq_true oM)) ?_
 refine Tr.nil (Aa ?_)
 refine Sat.cond_f rfl (rfl) ?_
 refine Sat.skip (Aa (Sat.seq (Sat.seq (Sat.region ?_))))
 refine Tr.m rfl rfl rfl ?_
 refine Tr.lenSl rfl rfl rfl U41 ?_
 refine Tr.m rfl rfl rfl ?_
 refine Tr.nil (Aa (Sat.block ?_))
 refine Sat.rounds 1 (SRounds.more ?_)
 refine Sat.seq (Sat.region ?_)
 refine Tr.lss rfl rfl rfl rfl rfl ?_
 refine Tr.nil (Aa (Sat.seq ?_))
 refine Sat.cond_f rfl (decide_eq_false oM) ?_
 refine Sat.exit (A9 (A9 (bl_h (Aa (Sat.seq (Sat.region ?_))))))
 refine Tr.a rfl rfl rfl ?_
 refine Tr.nil (Aa (Sat.ret (Ak ?_)))
 refine ⟨_, [], Ae rfl rfl, sP, sP, ?_, rfl⟩
 rfl

theorem keep_self (X : Kept) (D : DKept) (hX : X.ok) (h1 : D.dBlocks = []) (h2 : D.dCerts = []) (hsm : ∀ d ∈ D.dCuts, d.dHeads.length ≤ 1000000) : Meets Tryz.prog 15 [agg X.cells, agg X.cells] [] (fun W => KeptIs W X D) (fun v out => v = .bool true ∧ out = []) := by
 intro W hW
 have hb0 : X.fBlocks.n = 0 := by obtain ⟨rs, hs⟩ := hW.fBlocks; rw [← hs.nd, h1]; rfl
 have hc0 : X.fCerts.n = 0 := by obtain ⟨rs, hs⟩ := hW.fCerts; rw [← hs.nd, h2]; rfl
 refine Aj Tryz.func15 rfl 31 Tryz.ntmps15 rfl ?_
 refine Sat.seq (Sat.region ?_)
 refine Tr.boxA rfl rfl ?_
 intro n2 hn2 hf2
 refine Tr.boxA rfl rfl ?_
 intro n3 hn3 hf3
 refine Tr.a rfl rfl rfl ?_
 refine Tr.nil (Aa (Sat.seq (Sat.region ?_)))
 refine Tr.fld rfl rfl rfl U45 rfl Sz40 dE _ rfl ?_
 refine Tr.load1 rfl rfl rfl U40 rfl mM (by first | exact Kept.get_fBlocks (by first | exact oK  | exact hX) | exact vL) ?_
 refine Tr.fld rfl rfl rfl U45 rfl Sz40 dE _ rfl ?_
 refine Tr.load1 rfl rfl rfl U40 rfl mM (by first | exact Kept.get_fBlocks (by first | exact oK  | exact hX) | exact vL) ?_
 refine Tr.cV rfl rfl rfl rfl Body55 (eqf0_block X.fBlocks X.fBlocks hb0 hb0) tV ?_
 refine Tr.m rfl rfl rfl ?_
 refine Tr.fld rfl rfl rfl U45 rfl Sz41 dE _ rfl ?_
 refine Tr.load1 rfl rfl rfl U41 rfl mM (by first | exact Kept.get_fCerts (by first | exact oK  | exact hX) | exact vL) ?_
 refine Tr.fld rfl rfl rfl U45 rfl Sz41 dE _ rfl ?_
 refine Tr.load1 rfl rfl rfl U41 rfl mM (by first | exact Kept.get_fCerts (by first | exact oK  | exact hX) | exact vL) ?_
 refine Tr.cV rfl rfl rfl rfl Body57 (eqf0_cert X.fCerts X.fCerts hc0 hc0) tV ?_
 refine Tr.pick rfl rfl rfl rfl rfl rfl ?_
 refine Tr.m rfl rfl rfl ?_
 refine Tr.fld rfl rfl rfl U45 rfl Sz42 dE _ rfl ?_
 refine Tr.load1 rfl rfl rfl U42 rfl mM (by first | exact Kept.get_fVotes (by first | exact oK  | exact hX) | exact vL) ?_
 refine Tr.fld rfl rfl rfl U45 rfl Sz42 dE _ rfl ?_
 refine Tr.load1 rfl rfl rfl U42 rfl mM (by first | exact Kept.get_fVotes (by first | exact oK  | exact hX) | exact vL) ?_
 refine Tr.cV rfl rfl rfl rfl Body59 (eqf_vote X.fVotes X.fVotes D.dVotes) (fun w h => ⟨Votes_ext h rfl hW.fVotes, Votes_ext h rfl hW.fVotes⟩) ?_
 refine Tr.pick rfl rfl rfl rfl rfl rfl ?_
 refine Tr.m rfl rfl rfl ?_
 refine Tr.fld rfl rfl rfl U45 rfl Sz43 dE _ rfl ?_
 refine Tr.load1 rfl rfl rfl U43 rfl mM (by first | exact Kept.get_fCuts (by first | exact oK  | exact hX) | exact vL) ?_
 refine Tr.fld rfl rfl rfl U45 rfl Sz43 dE _ rfl ?_
 refine Tr.load1 rfl rfl rfl U43 rfl mM (by first | exact Kept.get_fCuts (by first | exact oK  | exact hX) | exact vL) ?_
 refine Tr.cV rfl rfl rfl rfl Body61 (eqf_cut X.fCuts X.fCuts D.dCuts hsm) (fun w h => ⟨Cuts_ext h rfl hW.fCuts, Cuts_ext h rfl hW.fCuts⟩) ?_
 refine Tr.pick rfl rfl rfl rfl rfl rfl ?_
 refine Tr.a rfl rfl rfl ?_
 refine Tr.nil (Aa (Sat.ret (Ak ?_)))
 refine ⟨_, [], Ae rfl rfl, sP, sP, ?_, rfl⟩
 rfl

theorem keep_needed_v (X : Kept) (D : DKept) (hX : X.ok) (s : Sl) (hXs : X.fVotes = s) (ds : List Vote) (hds : D = ⟨[], [], ds, []⟩) (hc : D.check = 0) (hsn : s.n ≤ 1000) (hb0 : X.fBlocks.n = 0) (hc0 : X.fCerts.n = 0) (hu0 : X.fCuts.n = 0) : Meets Tryz.prog 9 [agg X.cells] [] (fun W => KeptIs W X D) (fun v out => ∃ Y : Kept, Y.ok ∧ v = .tuple #[agg Y.cells, i64 0] ∧ Y.fVotes.n = ds.countP (fun V => decide ((0 : Int) < (V.fHeight.toNat : Int)))) := by
  intro W hW
  obtain ⟨rs, hs⟩ := hW.fVotes
  rw [hXs, hds] at hs
  simp only at hs
  have hnd := hs.nd
  have cC := keep_check X D
  rw [hc] at cC
  obtain ⟨w0, hw0⟩ : ∃ w, A2 (X.fCerts.n : Int) = w := ⟨_, rfl⟩
  have hw1 : w0.toNat = 0 := by rw [← hw0, hc0]; rfl
  refine Aj Tryz.func9 rfl 98 Tryz.ntmps9 rfl ?_
  refine Sat.seq (Sat.region ?_)
  refine Tr.boxA rfl rfl ?_
  intro n1 hn1 hf1
  refine Tr.alloc (cs := Kept.zero.cells) rfl Kept.zr rfl ?_
  intro n2 hn2 hf2
  refine Tr.a rfl rfl rfl ?_
  refine Tr.nil (Aa (Sat.seq (Sat.seq (Sat.region ?_))))
  refine Tr.lA rfl rfl rfl U45 rfl Sz45 mM (Kept.length (by first | exact oK  | exact hX | exact okr | exact ⟨trivial⟩ | exact Kept.zero_ok)) ?_
  refine Tr.cV rfl rfl rfl rfl Body14 (cC) (fun w h => hW.ext h rfl) ?_
  refine Tr.a rfl rfl rfl ?_
  refine Tr.nil (Aa (Sat.seq (Sat.region ?_)))
  refine Tr.m rfl rfl rfl ?_
  refine Tr.nei rfl rfl rfl rfl rfl ?_
  refine Tr.nil (Aa ?_)
  refine Sat.cond_f rfl (rfl) ?_
  refine Sat.skip (Aa (Sat.seq (Sat.region ?_)))
  refine Tr.fld rfl rfl rfl U45 rfl Sz41 dE _ rfl ?_
  refine Tr.load1 rfl rfl rfl U41 rfl mM (by first | exact Kept.get_fCerts (by first | exact oK  | exact hX | exact okr | exact ⟨trivial⟩ | exact Kept.zero_ok) | exact vL) ?_
  refine Tr.lenSl rfl rfl rfl U41 ?_
  refine Tr.conv rfl rfl rfl U3 U22 (Bl _) ?_
  rw [hw0]
  refine Tr.a rfl rfl rfl ?_
  refine Tr.nil (Aa (Sat.seq (Sat.region ?_)))
  refine Tr.alloc (cs := Kept.zero.cells) rfl Kept.zr rfl ?_
  intro n6 hn6 hf6
  refine Tr.nil (Aa (Sat.seq (Sat.seq (Sat.region ?_))))
  refine Tr.fld rfl rfl rfl U45 rfl Sz40 dE _ rfl ?_
  refine Tr.load1 rfl rfl rfl U40 rfl mM (by first | exact Kept.get_fBlocks (by first | exact oK  | exact hX | exact okr | exact ⟨trivial⟩ | exact Kept.zero_ok) | exact vL) ?_
  refine Tr.lenSl rfl rfl rfl U40 ?_
  refine Tr.m rfl rfl rfl ?_
  refine Tr.nil (Aa (Sat.block ?_))
  refine Sat.rounds 1 (SRounds.more ?_)
  refine Sat.seq (Sat.region ?_)
  refine Tr.lss rfl rfl rfl rfl rfl ?_
  refine Tr.nil (Aa (Sat.seq ?_))
  refine Sat.cond_f rfl (decide_eq_false oM) ?_
  refine Sat.exit (A9 (A9 (bl_h (Aa (Sat.seq (Sat.seq (Sat.region ?_)))))))
  refine Tr.fld rfl rfl rfl U45 rfl Sz41 dE _ rfl ?_
  refine Tr.load1 rfl rfl rfl U41 rfl mM (by first | exact Kept.get_fCerts (by first | exact oK  | exact hX | exact okr | exact ⟨trivial⟩ | exact Kept.zero_ok) | exact vL) ?_
  refine Tr.lenSl rfl rfl rfl U41 ?_
  refine Tr.m rfl rfl rfl ?_
  refine Tr.nil (Aa (Sat.block ?_))
  refine Sat.rounds 1 (SRounds.more ?_)
  refine Sat.seq (Sat.region ?_)
  refine Tr.lss rfl rfl rfl rfl rfl ?_
  refine Tr.nil (Aa (Sat.seq ?_))
  refine Sat.cond_f rfl (decide_eq_false oM) ?_
  refine Sat.exit (A9 (A9 (bl_h (Aa (Sat.seq (Sat.seq (Sat.region ?_)))))))
  refine Tr.fld rfl rfl rfl U45 rfl Sz42 dE _ rfl ?_
  refine Tr.load1 rfl rfl rfl U42 rfl mM (by first | exact Kept.get_fVotes (by first | exact oK  | exact hX | exact okr | exact ⟨trivial⟩ | exact Kept.zero_ok) | exact vL) ?_
  rw [hXs]
  refine Tr.lenSl rfl rfl rfl U42 ?_
  refine Tr.m rfl rfl rfl ?_
  refine Tr.nil (Aa (Sat.block ?_))
  refine Sat.loop (ι := Nat × Sl × List Blk × Nat × List Value) (fun p => ⟨[(1, ptr n1 0), (2, ptr n2 0), (5, u64 w0), (6, ptr n6 0), (61, s.v), (62, i64 (s.n : Int)), (63, i64 (p.1 : Int))], (⟨n6, ({ Kept.zero with fVotes := p.2.1 } : Kept).cells, 45, 4⟩ :: (⟨n2, Kept.zero.cells, 45, 4⟩ :: (⟨n1, X.cells, 45, X.cells.length⟩ :: (p.2.2.1 ++ []))))⟩) (fun p => p.1 ≤ s.n ∧ Acc p.2.1 p.2.2.1 p.2.2.2.2 29 p.2.2.2.1 132 ∧ p.2.2.2.1 = (ds.take p.1).countP (fun V => decide ((0 : Int) < (V.fHeight.toNat : Int)))) (fun p => s.n - p.1) ((0, Sl.nil, [], 0, [])) ?_ ?_ ?_
  · exact ⟨Nat.zero_le _, Acc.none, rfl⟩
  · exact Am (wk1 rfl (wk1 rfl (wk1 rfl (wk1 rfl (wk1 rfl (wk1 rfl (wk1 rfl wk0))))))) (Ad rM (Ad rM (Ad rM (pm_none Ag))))
  ·
    rintro ⟨k, t, bl, m, cs⟩ ⟨hk, hac, hct⟩
    simp only at hk hac hct ⊢
    refine Sat.seq (Sat.region ?_)
    refine Tr.lss rfl rfl rfl rfl rfl ?_
    refine Tr.nil (Aa (Sat.seq ?_))
    first
      | refine Sat.condP rfl (fun hc3 => ?_) (fun hc3 => ?_)
      | refine Sat.condNP rfl (fun hc3 => ?_) (fun hc3 => ?_)
      | refine Sat.cond rfl (fun hc3 => ?_) (fun hc3 => ?_)
    ·
      have hk2 : k < s.n := by omega
      obtain ⟨b, o, r, d, hsp, hr, hd, his, hlen, hsee⟩ := hs.at dE hk2
      obtain rfl := his.eq
      have okr := his.ok
      have hmk : m ≤ s.n := by rw [hct]; exact Nat.le_trans (List.countP_le_length ..) (by rw [List.length_take]; omega)
      refine Sat.skip (Aa ?_)
      refine Sat.join (ι := Sl × List Blk × Nat × List Value) (fun j => ⟨[(1, ptr n1 0), (2, ptr n2 0), (5, u64 w0), (6, ptr n6 0), (61, s.v), (62, i64 (s.n : Int)), (63, i64 (k : Int))], (⟨n6, ({ Kept.zero with fVotes := j.1 } : Kept).cells, 45, 4⟩ :: (⟨n2, Kept.zero.cells, 45, 4⟩ :: (⟨n1, X.cells, 45, X.cells.length⟩ :: (j.2.1 ++ []))))⟩) (fun j => Acc j.1 j.2.1 j.2.2.2 29 j.2.2.1 132 ∧ j.2.2.1 = (ds.take (k + 1)).countP (fun V => decide ((0 : Int) < (V.fHeight.toNat : Int)))) ?_ ?_
      ·
        refine Sat.block (Sat.seq ?_)
        refine Sat.region ?_
        refine Tr.idxSlP 132 rfl rfl rfl hsp rfl U42 Bf k rfl oM ?_
        refine Tr.loadEN r.cells rfl rfl rfl U29 rfl Bf sP hlen hsee ?_
        refine Tr.alloc (cs := Vote.zero.cells) rfl Vote.zr rfl ?_
        intro n12 hn12 hf12
        refine Tr.sA rfl rfl rfl rfl (Vote.isCell (by first | exact oK  | exact hX | exact okr | exact ⟨trivial⟩ | exact Kept.zero_ok)) Bf (Vote.length (by first | exact oK  | exact hX | exact okr | exact ⟨trivial⟩ | exact Kept.zero_ok)) mM (Vote.length (by first | exact oK  | exact hX | exact okr | exact ⟨trivial⟩ | exact Kept.zero_ok)) uU ?_
        refine Tr.nil (Aa (Sat.seq (Sat.region ?_)))
        refine Tr.fld rfl rfl rfl U29 rfl Bp dE _ rfl ?_
        refine Tr.load1 rfl rfl rfl U22 rfl mM (by first | exact Vote.get_fHeight (by first | exact oK  | exact hX | exact okr | exact ⟨trivial⟩ | exact Kept.zero_ok) | exact vL) ?_
        refine Tr.m rfl rfl rfl ?_
        refine Tr.gtr rfl rfl rfl rfl rfl ?_
        refine Tr.nil (Aa ?_)
        first
          | refine Sat.condP rfl (fun hc4 => ?_) (fun hc4 => ?_)
          | refine Sat.condNP rfl (fun hc4 => ?_) (fun hc4 => ?_)
          | refine Sat.cond rfl (fun hc4 => ?_) (fun hc4 => ?_)
        ·
          refine Sat.region ?_
          refine Tr.fld rfl rfl rfl U45 rfl Sz42 dE _ rfl ?_
          refine Tr.load1 rfl rfl rfl U42 rfl mM (by first | exact Kept.get_fVotes (by first | exact oK  | exact hX | exact okr | exact ⟨trivial⟩ | exact Kept.zero_ok) | exact vL) ?_
          refine Tr.lA rfl rfl rfl U29 rfl Bf mM (Vote.length (by first | exact oK  | exact hX | exact okr | exact ⟨trivial⟩ | exact Kept.zero_ok)) ?_
          refine Tr.mkRow2 (z := agg Vote.zero.cells) [agg r.cells] r.cells rfl rfl U42 Bf Vote.zr rfl rfl (by intro v hv; rw [List.mem_singleton.1 hv]; simp [Value.cells, Vote.length okr]) dE (by simp [Value.cells]) ?_
          intro q74
          refine Tr.appendAcc (z := agg Vote.zero.cells) (by' := 160) (r.cells) rfl rfl rfl rfl rfl U42 U42 Bf Vote.zr (by unfold By; kernel_rfl) rfl hac sG (fun w h => SeesP.of (Ay h mM)) (fun e => by cases e) (Vote.isCell okr) oM oM (by rw [Vote.length okr]) ?_
          intro s75 bl75 hac75
          refine Tr.fld rfl rfl rfl U45 rfl Sz42 dE _ rfl ?_
          refine Tr.s1 rfl rfl rfl rfl rfl Sz42 mM (by rw [Kept.length (by first | exact oK  | exact hX | exact okr | exact ⟨trivial⟩ | exact Kept.zero_ok)]; decide) (by first | exact Kept.set_fVotes (by first | exact oK  | exact hX | exact okr | exact ⟨trivial⟩ | exact Kept.zero_ok) _ | exact Kept.setS_fVotes (by first | exact oK  | exact hX | exact okr | exact ⟨trivial⟩ | exact Kept.zero_ok) _ _ _) uU ?_
          refine Tr.nil (Bu (Aa ?_))
          first
            | (have hst := count_step (F := (fun V => decide ((0 : Int) < (V.fHeight.toNat : Int)))) hd hct
               rw [if_pos (decide_eq_true oM)] at hst
               exact ⟨(s75, bl75, m + 1, cs ++ r.cells), ⟨hac75, hst⟩, Am (wk1 rfl (wk1 rfl (wk1 rfl (wk1 rfl (wk1 rfl (wk1 rfl (wk1 rfl wk0))))))) (Ad rM (Ad rM (Ad rM (Ac sG Ag))))⟩)
            | (have hst := count_step (F := (fun V => decide ((0 : Int) < (V.fHeight.toNat : Int)))) hd hct
               rw [if_neg (by rw [decide_eq_true_eq]; omega)] at hst
               exact ⟨(t, bl, m, cs), ⟨hac, hst⟩, Am (wk1 rfl (wk1 rfl (wk1 rfl (wk1 rfl (wk1 rfl (wk1 rfl (wk1 rfl wk0))))))) (Ad rM (Ad rM (Ad rM (Ac sG Ag))))⟩)
        ·
          refine Sat.skip (Bu (Aa ?_))
          first
            | (have hst := count_step (F := (fun V => decide ((0 : Int) < (V.fHeight.toNat : Int)))) hd hct
               rw [if_pos (decide_eq_true oM)] at hst
               exact ⟨(s75, bl75, m + 1, cs ++ r.cells), ⟨hac75, hst⟩, Am (wk1 rfl (wk1 rfl (wk1 rfl (wk1 rfl (wk1 rfl (wk1 rfl (wk1 rfl wk0))))))) (Ad rM (Ad rM (Ad rM (Ac sG Ag))))⟩)
            | (have hst := count_step (F := (fun V => decide ((0 : Int) < (V.fHeight.toNat : Int)))) hd hct
               rw [if_neg (by rw [decide_eq_true_eq]; omega)] at hst
               exact ⟨(t, bl, m, cs), ⟨hac, hst⟩, Am (wk1 rfl (wk1 rfl (wk1 rfl (wk1 rfl (wk1 rfl (wk1 rfl (wk1 rfl wk0))))))) (Ad rM (Ad rM (Ad rM (Ac sG Ag))))⟩)
      ·
        intro j hj
        skip
        refine Sat.region ?_
        refine Tr.aI rfl rfl rfl rfl oM ?_
        refine Tr.m rfl rfl rfl ?_
        refine Tr.nil (Aa ?_)
        exact ⟨(k + 1, j.1, j.2.1, j.2.2.1, j.2.2.2), ⟨by simp only []; omega, hj.1, hj.2⟩, by simp only []; omega, Am (wk1 rfl (wk1 rfl (wk1 rfl (wk1 rfl (wk1 rfl (wk1 rfl (wk1 (by rw [Int.natCast_add]; rfl) wk0))))))) (Ad rM (Ad rM (Ad rM (Ac sG Ag))))⟩
    ·
      have hk2 : k = s.n := by omega
      refine Sat.exit (A9 (A9 (bl_h (Aa (Sat.seq (Sat.seq (Sat.region ?_)))))))
      refine Tr.fld rfl rfl rfl U45 rfl Sz43 dE _ rfl ?_
      refine Tr.load1 rfl rfl rfl U43 rfl mM (by first | exact Kept.get_fCuts (by first | exact oK  | exact hX | exact okr | exact ⟨trivial⟩ | exact Kept.zero_ok) | exact vL) ?_
      refine Tr.lenSl rfl rfl rfl U43 ?_
      refine Tr.m rfl rfl rfl ?_
      refine Tr.nil (Aa (Sat.block ?_))
      refine Sat.rounds 1 (SRounds.more ?_)
      refine Sat.seq (Sat.region ?_)
      refine Tr.lss rfl rfl rfl rfl rfl ?_
      refine Tr.nil (Aa (Sat.seq ?_))
      refine Sat.cond_f rfl (decide_eq_false oM) ?_
      refine Sat.exit (A9 (A9 (bl_h (Aa (Sat.seq (Sat.region ?_))))))
      refine Tr.lA rfl rfl rfl U45 rfl Sz45 mM (Kept.length (by first | exact oK  | exact hX | exact okr | exact ⟨trivial⟩ | exact Kept.zero_ok)) ?_
      refine Tr.sA rfl rfl rfl rfl (Kept.isCell (by first | exact oK  | exact hX | exact okr | exact ⟨trivial⟩ | exact Kept.zero_ok)) Sz45 (Kept.length (by first | exact oK  | exact hX | exact okr | exact ⟨trivial⟩ | exact Kept.zero_ok)) mM (Kept.length (by first | exact oK  | exact hX | exact okr | exact ⟨trivial⟩ | exact Kept.zero_ok)) uU ?_
      refine Tr.a rfl rfl rfl ?_
      refine Tr.nil (Aa (Sat.ret (Ak ?_)))
      refine Al (out := (bl ++ [])) (Aq rfl rfl rfl U45 rfl Sz45 mM (by first | (simp; done) | exact Kept.length (by first | exact oK  | exact hX | exact okr | exact ⟨trivial⟩ | exact Kept.zero_ok))) (Ac sG Ag) ?_
      refine ⟨_, ⟨trivial⟩, rfl, ?_⟩
      show t.n = _
      rw [hac.num, hct, List.take_of_length_le oM]

end Go.Proofs.YtkfhpmidcbmofaaGreat
end

section
namespace Go.Proofs.YtkfhpmidcbmofaaGreat
open Go Hw

theorem meets_know {P : Program} {f : FuncId} {args : List Value} {Pre : World → Prop} {R R' : Value → List Blk → Prop} (h : Meets P f args [] Pre R) (hr : ∀ v out w, R v out → Lies out w → R' v out) : Meets P f args [] Pre R' :=
  fun W hW => (h W hW).mono fun e W' ⟨v, out, h1, h2, h3⟩ => ⟨v, out, h1, hr v out W' h2 h3.cells, h3⟩
theorem flat_len {R : Type} {cells : R → List Value} {k : Nat} : ∀ (rs : List R), (∀ r ∈ rs, (cells r).length = k) → (rs.map cells).flatten.length = rs.length * k
  | [], _ => by simp
  | r :: l, h => by
    rw [List.map_cons, List.flatten_cons, List.length_append, flat_len l (fun x hx => h x (List.mem_cons_of_mem _ hx)), h r List.mem_cons_self, List.length_cons, Nat.add_mul, Nat.one_mul, Nat.add_comm]
theorem seq_many {R D : Type} {cells : R → List Value} {k : Nat} {Is : World → R → D → Prop} {w : World} (q : Nat) (E : TypeId) (rs : List R) (ds : List D) (n : Nat) (hl : Lies [⟨q, (rs.map cells).flatten, E, (rs.map cells).flatten.length⟩] w) (hr : rs.length = n) (hd : ds.length = n) (hn : n ≤ 1000000) (hlen : ∀ r ∈ rs, (cells r).length = k) (his : ∀ (i : Nat) (r : R) (d : D), rs[i]? = some r → ds[i]? = some d → Is w r d) : SeqIs cells k Is w ⟨some ⟨q, 0, none⟩, n, n⟩ rs ds := by
  have e : (rs.map cells).flatten.length = n * k := by rw [flat_len rs hlen, hr]
  rw [e] at hl
  exact acc_seq (Acc.some (Nat.le_refl _) e) hl hr hd hlen hn his
theorem votes_many {w : World} (q : Nat) (E : TypeId) (l : List Vote) (n : Nat) (hl : Lies [⟨q, (l.map Vote.cells).flatten, E, (l.map Vote.cells).flatten.length⟩] w) (hr : l.length = n) (hn : n ≤ 1000000) (hv : ∀ v ∈ l, VoteIs w v v) : VotesAt w ⟨some ⟨q, 0, none⟩, n, n⟩ l :=
  ⟨l, seq_many q E l l n hl hr hr hn (fun v h => Vote.length (hv v h).ok) fun i r d h1 h2 => by
    rw [h1] at h2
    cases h2
    exact hv r (List.mem_of_getElem? h1)⟩
def ka : Vote := ⟨1, 0, 2, List.replicate 32 0, 0, List.replicate 32 0, List.replicate 64 0⟩
def kb : Vote := ⟨2, 0, 2, List.replicate 32 0, 0, List.replicate 32 0, List.replicate 64 0⟩
theorem Bm : ka.ok := ⟨rfl, rfl, rfl⟩
theorem Br : kb.ok := ⟨rfl, rfl, rfl⟩
theorem ka_is (w : World) : VoteIs w ka ka := ⟨Bm, rfl, by decide⟩
theorem kb_is (w : World) : VoteIs w kb kb := ⟨Br, rfl, by decide⟩
theorem ka_chk : Bk ka = 0 := by kernel_rfl
theorem kb_chk : Bk kb = 0 := by kernel_rfl
theorem kx_chk : exCutD.check = 0 := by kernel_rfl
def kn1 : DB := { DB.zero with seq := 1 }
theorem kn1_chk : kn1.check = 2 := by kernel_rfl
def kB1 : Block := { Block.zero with fSeq := 1 }
theorem Bh : kB1.ok := ⟨rfl, rfl, rfl⟩
theorem kB1_is (W : World) : BlockIs W kB1 kn1 := ⟨Bh, rfl, rfl, rfl, (zero_is W).ls, (zero_is W).ds, rfl⟩
theorem ka_rec : recOf 3 (Ba ka) (Bk ka) = (⟨3, Ba ka⟩, 0) := by
  rw [recOf, if_pos ka_chk, if_pos zK]
theorem kx_by : cutR exCutD = exCutD.bytes := if_pos kx_chk
theorem kx_rec : recOf 4 (cutR exCutD) exCutD.check = (⟨4, exCutD.bytes⟩, 0) := by
  rw [kx_by, recOf, if_pos kx_chk, if_pos zK]
theorem kn1_rec : recOf 1 (blockBy kn1) kn1.check = (drecz, 2) := by
  rw [recOf, if_neg (by rw [kn1_chk]; decide), kn1_chk]
theorem kn1_by : blockBy kn1 = [] := if_neg (by rw [kn1_chk]; decide)
theorem ka_byl : (Ba ka).length ≤ 8192 := Nat.le_of_ble_eq_true zK
theorem kx_byl : exCutD.bytes.length ≤ 8192 := Nat.le_of_ble_eq_true zK
def knD : DKept := ⟨[], [], [ka], [exCutD]⟩
theorem kn_rd : keepRd [⟨3, Ba ka⟩, ⟨4, exCutD.bytes⟩] = (knD, 0) := by
  have h1 := voteRd_bytes Bm ka_chk
  have h2 := cutRd_bytes (D := exCutD) rfl (fun l h => by rw [List.mem_singleton.1 h]; rfl) kx_chk
  have s1 : keepStep dkz ⟨3, Ba ka⟩ = some ⟨[], [], [ka], []⟩ := by
    rw [keepStep, if_neg (by show ¬ (3 : UInt8) = 1; decide), if_neg (by show ¬ (3 : UInt8) = 2; decide), if_pos rfl, if_pos (by rw [h1])]
    simp only [h1]; rfl
  have s2 : keepStep ⟨[], [], [ka], []⟩ ⟨4, exCutD.bytes⟩ = some knD := by
    rw [keepStep, if_neg (by show ¬ (4 : UInt8) = 1; decide), if_neg (by show ¬ (4 : UInt8) = 2; decide), if_neg (by show ¬ (4 : UInt8) = 3; decide), if_pos rfl, if_pos (by rw [h2])]
    simp only [h2]; rfl
  refine keepRd_ok (D := knD) ?_ rfl
  rw [show ([⟨3, Ba ka⟩, ⟨4, exCutD.bytes⟩] : List DRecord) = [⟨3, Ba ka⟩] ++ [⟨4, exCutD.bytes⟩] from rfl, keepR_snoc, keepR_one, s1]
  exact s2
theorem dkz_chk : dkz.check = 0 := by
  rw [DKept.check, if_pos (by simp [DKept.good, dkz, inOrd])]
theorem kab_chk : (⟨[], [], [ka, kb], []⟩ : DKept).check = 0 := by
  rw [DKept.check, if_pos (by simp [DKept.good, inOrd, ka_chk, kb_chk])]
def KnR (v : Value) (out : List Blk) : Prop := ∃ (X : Kept) (b o : Nat), X.ok ∧ v = .tuple #[agg X.cells, i64 0] ∧ X.fVotes.n = 1 ∧ X.fCuts.n = 1 ∧ X.fVotes.p = some ⟨b, o, none⟩ ∧ ∀ W2, Lies out W2 → KeptIs W2 X knD ∧ Sees W2 b o ka.cells
theorem kn_know (v : Value) (out : List Blk) (w : World) (h : KeepRead [⟨3, Ba ka⟩, ⟨4, exCutD.bytes⟩] v out) (hl : Lies out w) : KnR v out := by
  obtain ⟨X, ok, hv, hx⟩ := h
  rw [kn_rd] at hv hx
  have hk := hx w hl
  obtain ⟨rs, hs⟩ := hk.fVotes
  obtain ⟨rc, hc⟩ := hk.fCuts
  have n1 : X.fVotes.n = 1 := hs.nd.symm
  have n2 : X.fCuts.n = 1 := hc.nd.symm
  obtain ⟨b, o, r, d, hp, hr, hd, hi, hln, hse⟩ := hs.at (i := 0) dE oM
  refine ⟨X, b, o, ok, hv, n1, n2, hp, fun W2 h2 => ⟨hx W2 h2, ?_⟩⟩
  obtain ⟨rs2, hs2⟩ := (hx W2 h2).fVotes
  obtain ⟨b', o', r', d', hp', hr', hd', hi', hln', hse'⟩ := hs2.at (i := 0) dE oM
  rw [hp] at hp'
  cases hp'
  cases hd'
  have e := hi'.eq
  rw [Nat.zero_mul, Nat.add_zero] at hse'
  rw [← e]
  exact hse'

theorem law_keepnames  : Meets Tryz.prog 3 [] [] (fun _ => True) (fun v out => v = .bool true ∧ out = []) := by
 intro W hW
 refine Aj Tryz.func3 rfl 130 Tryz.ntmps3 rfl ?_
 refine Sat.seq (Sat.region ?_)
 refine Tr.a rfl rfl rfl ?_
 refine Tr.nil (Aa (Sat.seq (Sat.region ?_)))
 refine Tr.build (cs := ka.cells) rfl rfl rfl (fun w => by kernel_rfl) ?_
 refine Tr.build (cs := kb.cells) rfl rfl rfl (fun w => by kernel_rfl) ?_
 refine Tr.alloc (cs := Vote.zero.cells) rfl Vote.zr rfl ?_
 intro n1 hn1 hf1
 refine Tr.alloc (cs := Vote.zero.cells) rfl Vote.zr rfl ?_
 intro n2 hn2 hf2
 refine Tr.sA rfl rfl rfl rfl (Vote.isCell (by first | exact oK  | exact Bm | exact Br | exact ok17 | exact ok24 | exact ok31 | exact okY39 | exact ok44 | exact Ar _ | exact Bh | exact ⟨trivial⟩ | exact Kept.zero_ok)) Bf (Vote.length (by first | exact oK  | exact Bm | exact Br | exact ok17 | exact ok24 | exact ok31 | exact okY39 | exact ok44 | exact Ar _ | exact Bh | exact ⟨trivial⟩ | exact Kept.zero_ok)) mM (Vote.length (by first | exact oK  | exact Bm | exact Br | exact ok17 | exact ok24 | exact ok31 | exact okY39 | exact ok44 | exact Ar _ | exact Bh | exact ⟨trivial⟩ | exact Kept.zero_ok)) uU ?_
 refine Tr.sA rfl rfl rfl rfl (Vote.isCell (by first | exact oK  | exact Bm | exact Br | exact ok17 | exact ok24 | exact ok31 | exact okY39 | exact ok44 | exact Ar _ | exact Bh | exact ⟨trivial⟩ | exact Kept.zero_ok)) Bf (Vote.length (by first | exact oK  | exact Bm | exact Br | exact ok17 | exact ok24 | exact ok31 | exact okY39 | exact ok44 | exact Ar _ | exact Bh | exact ⟨trivial⟩ | exact Kept.zero_ok)) mM (Vote.length (by first | exact oK  | exact Bm | exact Br | exact ok17 | exact ok24 | exact ok31 | exact okY39 | exact ok44 | exact Ar _ | exact Bh | exact ⟨trivial⟩ | exact Kept.zero_ok)) uU ?_
 refine Tr.nil (Aa (Sat.seq (Sat.region ?_)))
 refine Tr.lA rfl rfl rfl U29 rfl Bf mM (Vote.length (by first | exact oK  | exact Bm | exact Br | exact ok17 | exact ok24 | exact ok31 | exact okY39 | exact ok44 | exact Ar _ | exact Bh | exact ⟨trivial⟩ | exact Kept.zero_ok)) ?_
 refine Tr.call4 rfl rfl rfl rfl rfl Body6 (keep_vote ka ka (Nat.le_trans ka_byl dE)) (fun w _ => ka_is w) ?_
 rintro v17 out17 ⟨X17, ok17, rfl, k17, h17⟩
 rw [ka_rec] at k17 h17 ⊢
 refine Tr.m rfl rfl rfl ?_
 refine Tr.eX rfl rfl rfl rfl ?_
 refine Tr.eX rfl rfl rfl rfl ?_
 refine Tr.alloc (cs := Record.zero.cells) rfl Record.zr rfl ?_
 intro n3 hn3 hf3
 refine Tr.sA rfl rfl rfl rfl (Record.isCell (by first | exact oK  | exact Bm | exact Br | exact ok17 | exact ok24 | exact ok31 | exact okY39 | exact ok44 | exact Ar _ | exact Bh | exact ⟨trivial⟩ | exact Kept.zero_ok)) Sz32 (Record.length (by first | exact oK  | exact Bm | exact Br | exact ok17 | exact ok24 | exact ok31 | exact okY39 | exact ok44 | exact Ar _ | exact Bh | exact ⟨trivial⟩ | exact Kept.zero_ok)) mM (Record.length (by first | exact oK  | exact Bm | exact Br | exact ok17 | exact ok24 | exact ok31 | exact okY39 | exact ok44 | exact Ar _ | exact Bh | exact ⟨trivial⟩ | exact Kept.zero_ok)) uU ?_
 refine Tr.a rfl rfl rfl ?_
 refine Tr.nil (Aa (Sat.seq (Sat.region ?_)))
 refine Tr.build (cs := Ab oneB) rfl rfl rfl (fun w => by kernel_rfl) ?_
 refine Tr.mkRow2 (z := agg (Ab (List.replicate 32 0))) [agg (Ab oneB)] (flatB [oneB]) rfl rfl U37 A5 Zr24 rfl rfl (by intro v hv; rw [List.mem_singleton.1 hv]; rfl) dE (by rfl) ?_
 intro q22
 refine Tr.build (cs := (exCut q22).cells) rfl rfl rfl (fun w => by kernel_rfl) ?_
 refine Tr.call4 rfl rfl rfl rfl rfl Body7 (keep_cut (exCut q22) exCutD (by rw [kx_by]; exact Nat.le_trans kx_byl dE)) (fun w h => exCut_is (q := q22) (Lies.of h (by intro b hb; rw [List.mem_singleton.1 hb]; repeat (first | exact List.mem_cons_self | refine List.mem_cons_of_mem _ ?_ | refine mem_seg ?_))) rfl) ?_
 rintro v24 out24 ⟨X24, ok24, rfl, k24, h24⟩
 rw [kx_rec] at k24 h24 ⊢
 refine Tr.m rfl rfl rfl ?_
 refine Tr.eX rfl rfl rfl rfl ?_
 refine Tr.eX rfl rfl rfl rfl ?_
 refine Tr.alloc (cs := Record.zero.cells) rfl Record.zr rfl ?_
 intro n5 hn5 hf5
 refine Tr.sA rfl rfl rfl rfl (Record.isCell (by first | exact oK  | exact Bm | exact Br | exact ok17 | exact ok24 | exact ok31 | exact okY39 | exact ok44 | exact Ar _ | exact Bh | exact ⟨trivial⟩ | exact Kept.zero_ok)) Sz32 (Record.length (by first | exact oK  | exact Bm | exact Br | exact ok17 | exact ok24 | exact ok31 | exact okY39 | exact ok44 | exact Ar _ | exact Bh | exact ⟨trivial⟩ | exact Kept.zero_ok)) mM (Record.length (by first | exact oK  | exact Bm | exact Br | exact ok17 | exact ok24 | exact ok31 | exact okY39 | exact ok44 | exact Ar _ | exact Bh | exact ⟨trivial⟩ | exact Kept.zero_ok)) uU ?_
 refine Tr.a rfl rfl rfl ?_
 refine Tr.nil (Aa (Sat.seq (Sat.region ?_)))
 refine Tr.lA rfl rfl rfl U32 rfl Sz32 mM (Record.length (by first | exact oK  | exact Bm | exact Br | exact ok17 | exact ok24 | exact ok31 | exact okY39 | exact ok44 | exact Ar _ | exact Bh | exact ⟨trivial⟩ | exact Kept.zero_ok)) ?_
 refine Tr.lA rfl rfl rfl U32 rfl Sz32 mM (Record.length (by first | exact oK  | exact Bm | exact Br | exact ok17 | exact ok24 | exact ok31 | exact okY39 | exact ok44 | exact Ar _ | exact Bh | exact ⟨trivial⟩ | exact Kept.zero_ok)) ?_
 refine Tr.mkRow2 (z := agg Record.zero.cells) [agg X17.cells, agg X24.cells] (([X17, X24].map Record.cells).flatten) rfl rfl Tryz.underlying48 Sz32 Record.zr rfl rfl (by intro v hv; simp only [List.mem_cons, List.not_mem_nil, or_false] at hv; rcases hv with rfl | rfl <;> first | exact Record.length ok17 | exact Record.length ok24) dE (by simp [Value.cells]) ?_
 intro q30
 refine Tr.call4 rfl rfl rfl rfl rfl Body8 (meets_know (keep_read ⟨some ⟨q30, 0, none⟩, 2, 2⟩ [⟨3, Ba ka⟩, ⟨4, exCutD.bytes⟩] sP (fun d h => by simp only [List.mem_cons, List.not_mem_nil, or_false] at h; rcases h with rfl | rfl; exact Nat.le_trans ka_byl dE; exact Nat.le_trans kx_byl dE)) kn_know) (fun w h => ⟨_, seq_many q30 32 [X17, X24] _ 2 (Lies.of h (by intro b hb; rw [List.mem_singleton.1 hb]; repeat (first | exact List.mem_cons_self | refine List.mem_cons_of_mem _ ?_ | refine mem_seg ?_))) rfl rfl dE (fun r hr => by simp only [List.mem_cons, List.not_mem_nil, or_false] at hr; rcases hr with rfl | rfl; exact Record.length ok17; exact Record.length ok24) (fun i r d h1 h2 => by
  rcases i with _ | _ | i
  · cases h1; cases h2; exact h17 w (Lies.of h iN)
  · cases h1; cases h2; exact h24 w (Lies.of h iN)
  · cases h1)⟩) ?_
 rintro v31 out31 ⟨X31, b31, o31, ok31, rfl, n31, m31, p31, h31⟩
 refine Tr.m rfl rfl rfl ?_
 refine Tr.eX rfl rfl rfl rfl ?_
 refine Tr.eX rfl rfl rfl rfl ?_
 refine Tr.alloc (cs := Kept.zero.cells) rfl Kept.zr rfl ?_
 intro n7 hn7 hf7
 refine Tr.sA rfl rfl rfl rfl (Kept.isCell (by first | exact oK  | exact Bm | exact Br | exact ok17 | exact ok24 | exact ok31 | exact okY39 | exact ok44 | exact Ar _ | exact Bh | exact ⟨trivial⟩ | exact Kept.zero_ok)) Sz45 (Kept.length (by first | exact oK  | exact Bm | exact Br | exact ok17 | exact ok24 | exact ok31 | exact okY39 | exact ok44 | exact Ar _ | exact Bh | exact ⟨trivial⟩ | exact Kept.zero_ok)) mM (Kept.length (by first | exact oK  | exact Bm | exact Br | exact ok17 | exact ok24 | exact ok31 | exact okY39 | exact ok44 | exact Ar _ | exact Bh | exact ⟨trivial⟩ | exact Kept.zero_ok)) uU ?_
 refine Tr.a rfl rfl rfl ?_
 refine Tr.nil (Aa (Sat.seq (Sat.region ?_)))
 refine Tr.lA rfl rfl rfl U29 rfl Bf mM (Vote.length (by first | exact oK  | exact Bm | exact Br | exact ok17 | exact ok24 | exact ok31 | exact okY39 | exact ok44 | exact Ar _ | exact Bh | exact ⟨trivial⟩ | exact Kept.zero_ok)) ?_
 refine Tr.lA rfl rfl rfl U29 rfl Bf mM (Vote.length (by first | exact oK  | exact Bm | exact Br | exact ok17 | exact ok24 | exact ok31 | exact okY39 | exact ok44 | exact Ar _ | exact Bh | exact ⟨trivial⟩ | exact Kept.zero_ok)) ?_
 refine Tr.mkRow2 (z := agg Vote.zero.cells) [agg ka.cells, agg kb.cells] (([ka, kb].map Vote.cells).flatten) rfl rfl U42 Bf Vote.zr rfl rfl (by intro v hv; simp only [List.mem_cons, List.not_mem_nil, or_false] at hv; rcases hv with rfl | rfl <;> first | exact Vote.length Bm | exact Vote.length Br) dE (by simp [Value.cells]) ?_
 intro q37
 refine Tr.build (cs := ({ Kept.zero with fVotes := ⟨some ⟨q37, 0, none⟩, 2, 2⟩ } : Kept).cells) rfl rfl rfl (fun w => by kernel_rfl) ?_
 refine Tr.call4 rfl rfl rfl rfl rfl Body9 (keep_needed_v ({ Kept.zero with fVotes := ⟨some ⟨q37, 0, none⟩, 2, 2⟩ } : Kept) ⟨[], [], [ka, kb], []⟩ ⟨trivial⟩ ⟨some ⟨q37, 0, none⟩, 2, 2⟩ rfl [ka, kb] rfl kab_chk (show (2 : Nat) ≤ 1000 by decide) rfl rfl rfl) (fun w h => ⟨⟨trivial⟩, ⟨[], SeqIs.none⟩, ⟨[], SeqIs.none⟩, votes_many q37 29 [ka, kb] 2 (Lies.of h (by intro b hb; rw [List.mem_singleton.1 hb]; repeat (first | exact List.mem_cons_self | refine List.mem_cons_of_mem _ ?_ | refine mem_seg ?_))) rfl dE (fun v hv => by simp only [List.mem_cons, List.not_mem_nil, or_false] at hv; rcases hv with rfl | rfl <;> first | exact ka_is w | exact kb_is w), ⟨[], SeqIs.none⟩⟩) ?_
 rintro v39 out39 ⟨Y39, okY39, rfl, k39⟩
 replace k39 : Y39.fVotes.n = 2 := k39.trans dE
 refine Tr.m rfl rfl rfl ?_
 refine Tr.eX rfl rfl rfl rfl ?_
 refine Tr.eX rfl rfl rfl rfl ?_
 refine Tr.alloc (cs := Kept.zero.cells) rfl Kept.zr rfl ?_
 intro n9 hn9 hf9
 refine Tr.sA rfl rfl rfl rfl (Kept.isCell (by first | exact oK  | exact Bm | exact Br | exact ok17 | exact ok24 | exact ok31 | exact okY39 | exact ok44 | exact Ar _ | exact Bh | exact ⟨trivial⟩ | exact Kept.zero_ok)) Sz45 (Kept.length (by first | exact oK  | exact Bm | exact Br | exact ok17 | exact ok24 | exact ok31 | exact okY39 | exact ok44 | exact Ar _ | exact Bh | exact ⟨trivial⟩ | exact Kept.zero_ok)) mM (Kept.length (by first | exact oK  | exact Bm | exact Br | exact ok17 | exact ok24 | exact ok31 | exact okY39 | exact ok44 | exact Ar _ | exact Bh | exact ⟨trivial⟩ | exact Kept.zero_ok)) uU ?_
 refine Tr.a rfl rfl rfl ?_
 refine Tr.nil (Aa (Sat.seq (Sat.region ?_)))
 refine Tr.build (cs := kB1.cells) rfl rfl rfl (fun w => by kernel_rfl) ?_
 refine Tr.call4 rfl rfl rfl rfl rfl Body10 (keep_block kB1 kn1 (by rw [kn1_by]; decide)) (fun w _ => kB1_is w) ?_
 rintro v44 out44 ⟨X44, ok44, rfl, k44, h44⟩
 rw [kn1_rec] at k44 h44 ⊢
 refine Tr.m rfl rfl rfl ?_
 refine Tr.eX rfl rfl rfl rfl ?_
 refine Tr.eX rfl rfl rfl rfl ?_
 refine Tr.alloc (cs := Record.zero.cells) rfl Record.zr rfl ?_
 intro n11 hn11 hf11
 refine Tr.sA rfl rfl rfl rfl (Record.isCell (by first | exact oK  | exact Bm | exact Br | exact ok17 | exact ok24 | exact ok31 | exact okY39 | exact ok44 | exact Ar _ | exact Bh | exact ⟨trivial⟩ | exact Kept.zero_ok)) Sz32 (Record.length (by first | exact oK  | exact Bm | exact Br | exact ok17 | exact ok24 | exact ok31 | exact okY39 | exact ok44 | exact Ar _ | exact Bh | exact ⟨trivial⟩ | exact Kept.zero_ok)) mM (Record.length (by first | exact oK  | exact Bm | exact Br | exact ok17 | exact ok24 | exact ok31 | exact okY39 | exact ok44 | exact Ar _ | exact Bh | exact ⟨trivial⟩ | exact Kept.zero_ok)) uU ?_
 refine Tr.a rfl rfl rfl ?_
 refine Tr.nil (Aa (Sat.seq ?_))
 refine Sat.draw [(3, 0), (0, 1), (0, 2), (0, 3), (0, 4), (0, 5), (0, 6), (1, 7), (0, 8), (0, 9), (0, 10), (0, 11), (0, 12), (0, 13), (0, 14), (0, 15), (1, 16), (0, 17), (0, 18), (0, 19), (0, 20), (0, 21), (0, 22), (0, 23), (0, 24), (1, 25), (0, 26), (0, 27), (0, 28), (0, 29), (0, 30), (1, 31), (0, 32), (1, 33), (1, 34), (0, 35), (0, 36), (0, 37), (0, 38), (1, 39), (0, 40), (0, 41), (0, 42), (0, 43), (0, 44), (0, 45), (0, 46), (0, 47), (0, 48), (1, 49), (0, 50), (0, 51), (0, 52), (0, 53), (0, 54), (0, 55), (0, 56), (0, 57), (1, 58), (1, 59), (1, 60), (4, 61), (0, 62), (3, 63), (0, 64), (0, 65), (0, 66), (0, 67), (3, 68), (0, 69), (0, 70), (0, 71), (0, 72), (3, 73), (0, 74), (0, 75), (0, 76), (1, 77), (1, 78), (3, 79), (0, 80), (0, 81), (0, 82), (0, 83)] Bt zK ?_
 refine Tr.cV rfl rfl rfl rfl Body11 (law26_lives) tV ?_
 refine Tr.m rfl rfl rfl ?_
 refine Tr.m rfl rfl rfl ?_
 refine Tr.eqi rfl rfl rfl rfl (decide_eq_true (rfl)) ?_
 refine Tr.pick rfl rfl rfl rfl rfl rfl ?_
 refine Tr.m rfl rfl rfl ?_
 refine Tr.fld rfl rfl rfl U32 rfl Sz5 dE _ rfl ?_
 refine Tr.load1 rfl rfl rfl U5 rfl mM (by first | exact Record.get_fKind (by first | exact oK  | exact Bm | exact Br | exact ok17 | exact ok24 | exact ok31 | exact okY39 | exact ok44 | exact Ar _ | exact Bh | exact ⟨trivial⟩ | exact Kept.zero_ok) | exact vL) ?_
 refine Tr.eqi rfl rfl rfl rfl (decide_eq_true (by rw [k17]; rfl)) ?_
 refine Tr.pick rfl rfl rfl rfl rfl rfl ?_
 refine Tr.m rfl rfl rfl ?_
 refine Tr.m rfl rfl rfl ?_
 refine Tr.eqi rfl rfl rfl rfl (decide_eq_true (rfl)) ?_
 refine Tr.pick rfl rfl rfl rfl rfl rfl ?_
 refine Tr.m rfl rfl rfl ?_
 refine Tr.fld rfl rfl rfl U32 rfl Sz5 dE _ rfl ?_
 refine Tr.load1 rfl rfl rfl U5 rfl mM (by first | exact Record.get_fKind (by first | exact oK  | exact Bm | exact Br | exact ok17 | exact ok24 | exact ok31 | exact okY39 | exact ok44 | exact Ar _ | exact Bh | exact ⟨trivial⟩ | exact Kept.zero_ok) | exact vL) ?_
 refine Tr.eqi rfl rfl rfl rfl (decide_eq_true (by rw [k24]; rfl)) ?_
 refine Tr.pick rfl rfl rfl rfl rfl rfl ?_
 refine Tr.m rfl rfl rfl ?_
 refine Tr.m rfl rfl rfl ?_
 refine Tr.eqi rfl rfl rfl rfl (decide_eq_true (rfl)) ?_
 refine Tr.pick rfl rfl rfl rfl rfl rfl ?_
 refine Tr.m rfl rfl rfl ?_
 refine Tr.fld rfl rfl rfl U45 rfl Sz42 dE _ rfl ?_
 refine Tr.load1 rfl rfl rfl U42 rfl mM (by first | exact Kept.get_fVotes (by first | exact oK  | exact Bm | exact Br | exact ok17 | exact ok24 | exact ok31 | exact okY39 | exact ok44 | exact Ar _ | exact Bh | exact ⟨trivial⟩ | exact Kept.zero_ok) | exact vL) ?_
 refine Tr.lenSl rfl rfl rfl U42 ?_
 refine Tr.eqi rfl rfl rfl rfl (decide_eq_true (by rw [n31]; rfl)) ?_
 refine Tr.pick rfl rfl rfl rfl rfl rfl ?_
 refine Tr.m rfl rfl rfl ?_
 refine Tr.fld rfl rfl rfl U45 rfl Sz42 dE _ rfl ?_
 refine Tr.load1 rfl rfl rfl U42 rfl mM (by first | exact Kept.get_fVotes (by first | exact oK  | exact Bm | exact Br | exact ok17 | exact ok24 | exact ok31 | exact okY39 | exact ok44 | exact Ar _ | exact Bh | exact ⟨trivial⟩ | exact Kept.zero_ok) | exact vL) ?_
 refine Tr.idxSlP 132 rfl rfl rfl p31 rfl U42 Bf 0 rfl oM ?_
 refine Tr.loadAny rfl rfl rfl (v := agg ka.cells) (fun w h => by
  have := run_row (P := Tryz.prog) (w := w) (Vote.length Bm) ((h31 w (Lies.of h iN)).2)
  simp [loadVar, run_isAgg_arr U29 rfl, run_sz Bf, this]) ?_
 refine Tr.lA rfl rfl rfl U29 rfl Bf mM (Vote.length (by first | exact oK  | exact Bm | exact Br | exact ok17 | exact ok24 | exact ok31 | exact okY39 | exact ok44 | exact Ar _ | exact Bh | exact ⟨trivial⟩ | exact Kept.zero_ok)) ?_
 refine Tr.eql_rec rfl rfl rfl rfl Vote.eg (fun w => Vote.eq_runC Bm Bm w) (@decide_eq_true _ (Classical.propDecidable _) rfl) ?_
 refine Tr.pick rfl rfl rfl rfl rfl rfl ?_
 refine Tr.m rfl rfl rfl ?_
 refine Tr.fld rfl rfl rfl U45 rfl Sz43 dE _ rfl ?_
 refine Tr.load1 rfl rfl rfl U43 rfl mM (by first | exact Kept.get_fCuts (by first | exact oK  | exact Bm | exact Br | exact ok17 | exact ok24 | exact ok31 | exact okY39 | exact ok44 | exact Ar _ | exact Bh | exact ⟨trivial⟩ | exact Kept.zero_ok) | exact vL) ?_
 refine Tr.lenSl rfl rfl rfl U43 ?_
 refine Tr.eqi rfl rfl rfl rfl (decide_eq_true (by rw [m31]; rfl)) ?_
 refine Tr.pick rfl rfl rfl rfl rfl rfl ?_
 refine Tr.m rfl rfl rfl ?_
 refine Tr.m rfl rfl rfl ?_
 refine Tr.eqi rfl rfl rfl rfl (decide_eq_true (rfl)) ?_
 refine Tr.pick rfl rfl rfl rfl rfl rfl ?_
 refine Tr.m rfl rfl rfl ?_
 refine Tr.fld rfl rfl rfl U45 rfl Sz42 dE _ rfl ?_
 refine Tr.load1 rfl rfl rfl U42 rfl mM (by first | exact Kept.get_fVotes (by first | exact oK  | exact Bm | exact Br | exact ok17 | exact ok24 | exact ok31 | exact okY39 | exact ok44 | exact Ar _ | exact Bh | exact ⟨trivial⟩ | exact Kept.zero_ok) | exact vL) ?_
 refine Tr.lenSl rfl rfl rfl U42 ?_
 refine Tr.eqi rfl rfl rfl rfl (decide_eq_true (by rw [k39]; rfl)) ?_
 refine Tr.pick rfl rfl rfl rfl rfl rfl ?_
 refine Tr.m rfl rfl rfl ?_
 refine Tr.m rfl rfl rfl ?_
 refine Tr.eqi rfl rfl rfl rfl (decide_eq_true (rfl)) ?_
 refine Tr.pick rfl rfl rfl rfl rfl rfl ?_
 refine Tr.m rfl rfl rfl ?_
 refine Tr.lA rfl rfl rfl U29 rfl Bf mM (Vote.length (by first | exact oK  | exact Bm | exact Br | exact ok17 | exact ok24 | exact ok31 | exact okY39 | exact ok44 | exact Ar _ | exact Bh | exact ⟨trivial⟩ | exact Kept.zero_ok)) ?_
 refine Tr.lA rfl rfl rfl U29 rfl Bf mM (Vote.length (by first | exact oK  | exact Bm | exact Br | exact ok17 | exact ok24 | exact ok31 | exact okY39 | exact ok44 | exact Ar _ | exact Bh | exact ⟨trivial⟩ | exact Kept.zero_ok)) ?_
 refine Tr.lA rfl rfl rfl U29 rfl Bf mM (Vote.length (by first | exact oK  | exact Bm | exact Br | exact ok17 | exact ok24 | exact ok31 | exact okY39 | exact ok44 | exact Ar _ | exact Bh | exact ⟨trivial⟩ | exact Kept.zero_ok)) ?_
 refine Tr.mkRow (z := agg Vote.zero.cells) [agg ka.cells, agg kb.cells, agg ka.cells] (([ka, kb, ka].map Vote.cells).flatten) rfl rfl rfl U42 Bf Vote.zr rfl rfl (by intro v hv; simp only [List.mem_cons, List.not_mem_nil, or_false] at hv; rcases hv with rfl | rfl | rfl <;> first | exact Vote.length Bm | exact Vote.length Br) dE (by simp [Value.cells]) ?_
 intro q108
 refine Tr.build (cs := ({ Kept.zero with fVotes := ⟨some ⟨q108, 0, none⟩, 3, 3⟩ } : Kept).cells) rfl rfl rfl (fun w => by kernel_rfl) ?_
 refine Tr.call rfl rfl rfl rfl Body12 (keep_said ({ Kept.zero with fVotes := ⟨some ⟨q108, 0, none⟩, 3, 3⟩ } : Kept) ⟨trivial⟩ ⟨some ⟨q108, 0, none⟩, 3, 3⟩ rfl [ka, kb, ka] 1 (show (3 : Nat) ≤ 1000 by decide)) (LenR.loose _) (fun w h => votes_many q108 29 [ka, kb, ka] 3 (Lies.of h (by intro b hb; rw [List.mem_singleton.1 hb]; repeat (first | exact List.mem_cons_self | refine List.mem_cons_of_mem _ ?_ | refine mem_seg ?_))) rfl dE (fun v hv => by simp only [List.mem_cons, List.not_mem_nil, or_false] at hv; rcases hv with rfl | rfl | rfl <;> first | exact ka_is w | exact kb_is w)) ?_
 rintro v110 out110 ⟨s110, rfl, k110⟩
 replace k110 : s110.n = 2 := k110.trans dE
 refine Tr.lenSl rfl rfl rfl U42 ?_
 refine Tr.eqi rfl rfl rfl rfl (decide_eq_true (by rw [k110]; rfl)) ?_
 refine Tr.pick rfl rfl rfl rfl rfl rfl ?_
 refine Tr.m rfl rfl rfl ?_
 refine Tr.cV rfl rfl rfl rfl Body13 (keep_size_nil) tV ?_
 refine Tr.eqi rfl rfl rfl rfl (decide_eq_true (rfl)) ?_
 refine Tr.pick rfl rfl rfl rfl rfl rfl ?_
 refine Tr.m rfl rfl rfl ?_
 refine Tr.build (cs := Kept.zero.cells) rfl rfl rfl (fun w => by kernel_rfl) ?_
 refine Tr.cV rfl rfl rfl rfl Body14 (keep_check Kept.zero dkz) (fun w _ => keptz_is w) ?_
 refine Tr.eqi rfl rfl rfl rfl (decide_eq_true (by rw [dkz_chk])) ?_
 refine Tr.pick rfl rfl rfl rfl rfl rfl ?_
 refine Tr.m rfl rfl rfl ?_
 refine Tr.lA rfl rfl rfl U45 rfl Sz45 mM (Kept.length (by first | exact oK  | exact Bm | exact Br | exact ok17 | exact ok24 | exact ok31 | exact okY39 | exact ok44 | exact Ar _ | exact Bh | exact ⟨trivial⟩ | exact Kept.zero_ok)) ?_
 refine Tr.lA rfl rfl rfl U45 rfl Sz45 mM (Kept.length (by first | exact oK  | exact Bm | exact Br | exact ok17 | exact ok24 | exact ok31 | exact okY39 | exact ok44 | exact Ar _ | exact Bh | exact ⟨trivial⟩ | exact Kept.zero_ok)) ?_
 refine Tr.cV rfl rfl rfl rfl Body15 (keep_self X31 knD ok31 rfl rfl (fun d h => by rw [List.mem_singleton.1 h]; decide)) (fun w h => (h31 w (Lies.of h iN)).1) ?_
 refine Tr.pick rfl rfl rfl rfl rfl rfl ?_
 refine Tr.m rfl rfl rfl ?_
 refine Tr.pick rfl rfl rfl rfl rfl rfl ?_
 refine Tr.a rfl rfl rfl ?_
 refine Tr.nil (Aa (Sat.ret (Ak ?_)))
 refine ⟨_, [], Ae rfl rfl, sP, sP, ?_, rfl⟩
 rfl

end Go.Proofs.YtkfhpmidcbmofaaGreat
end

section
namespace Go.Proofs.YtkfhpmidcbmofaaGreat
open Go Go.ChangeShapes Go.WideShapes Go.ChangeAt Go.RowKit

theorem ownKNms : ownKnob Tryz.prog.godebug = none := by kernel_rfl
theorem walkKNm (w : World) : Calls Tryz.prog 3 #[] w fun e w' => e = .returned (.bool true) ∧ Below w.heap.size w w' :=
  (law_keepnames w trivial).mono fun e w' ⟨v, out, he, ⟨hv, ho⟩, hr⟩ => ⟨by rw [he, hv], Hw.Keeps.below hr.keeps⟩

theorem liftedKNm (os : Os) (started : os.Started) (H : Type) (enc : TypeId × Value → H) :
    ReturnsInHanded {} Tryz.checked os 3 .any (Rows.keepNamesSpec.pre6 enc Tryz.prog Tryz.f3 Rows.keepNamesRow.domain false) (Rows.keepNamesSpec.post enc Tryz.prog Tryz.f3 false true false false) := by
  refine returnsInHanded_of_change (C := Tryz.checked) ownKNms started (by kernel_rfl) Tryz.func3
    (ChangeSpec.witness6 (enc := enc) (C := Tryz.checked) false ⟨#[], #[], []⟩ 8 (by kernel_rfl) (by kernel_rfl) (by kernel_rfl) (by kernel_rfl)) ?_
  intro W base args ds gs before hval0 hW hcnd _
  have hW' := hW
  obtain ⟨p, q, hA0, hV, rfl, hfz, hnd⟩ := hW
  have hA : DataW.TrodAll enc Tryz.prog W 0 (fun _ => true) true Tryz.f3.params.toList args.toList ds p := hA0
  rw [Tryz.params3] at hA
  obtain ⟨hargs, rfl, rfl⟩ := trodAll_nil hA
  obtain rfl : args = #[] := by cases args; simp_all
  obtain ⟨rfl, rfl⟩ := trodVars_none hV
  clear hA0 hval0
  refine (walkKNm W).mono fun e W' ⟨he, bel⟩ => ?_
  subst he
  exact ⟨_, rfl, _, _, _, [], _, [], hW', trodAll_mk1 (shut_bool Tryz.underlying4 _), trodAll_mk0, rfl, bel.frame _, fun h => by cases h⟩

theorem keepNames_holds : Rows.KeepNamesSaid :=
  OpenClaim.holds_of_wide 3 Tryz.f3 rfl rfl rfl rfl rfl rfl rfl ⟨rfl, rfl, rfl, rfl, rfl⟩ rfl rfl rfl rfl rfl (by kernel_rfl) Tryz.func3 (by kernel_rfl)
    (of_decide_eq_true (by kernel_rfl)) (by unfold Func.isWrapper; first | (rw [if_pos (by decide +kernel)]; kernel_rfl) | (rw [if_neg (by decide +kernel)]; exact ⟨rfl, rfl⟩))
    (fun os started H enc _ => liftedKNm os started H enc)

end Go.Proofs.YtkfhpmidcbmofaaGreat
end
