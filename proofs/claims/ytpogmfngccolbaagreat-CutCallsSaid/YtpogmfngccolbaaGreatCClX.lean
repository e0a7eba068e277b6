/- headwaterlaw19.CutCalls returns true at every input, and all that it reads reads behind the call as before. Conditions: none beyond the given statement's own. -/
import Derived.WalkKit
import Derived.Orders
import Derived.Deep.LoopGhost
import Derived.IntWalk
import Derived.Laws.StructEq
import Derived.ArgAppend
import Derived.Deep.AppendSrc
import Derived.Lib.Bytealg
import Derived.Lib.BytesEntry
import Derived.Laws.IdiomStrings
import Derived.WideKeyArr2
import Derived.ProofKit
import Derived.OpenShut
import Derived.Deep.Slices
import Derived.Laws.Pointers
import Derived.Laws.Cover3
import Derived.LaidEqlPtr
import Derived.LoopN
import Derived.RangeFuncLeaves
import Derived.RangeFuncSeq
import Derived.OrdersIn
import Derived.Maps.Keyed
import Derived.Maps.RangeRun
import Derived.DeepKeys4
import Derived.Below
import Derived.Test.YtpogmfngccolbaaGreatRows
import Derived.KernelRfl
import Derived.Laws.Externs
import Derived.Defers
import Derived.Laws.MathBits
import Derived.Shelf.SlSortCmp.WholeK
import Derived.Shelf.SlGeneric
import Derived.Test.YtpogmfngccolbaaGreatProg
import Derived.Shelf.SlSortCmp.NoneTotal
import Derived.Deep.QuietTactic
import Derived.BigQuiet
import Derived.ScopeJumps
import Derived.DeepKeys3
import Derived.ChangeOld
import Derived.JoinedOf
import Derived.Test.YtpogmfngccolbaaGreatCClX6
set_option maxRecDepth 100000
set_option maxHeartbeats 8000000
set_option linter.unusedVariables false
set_option linter.unusedSimpArgs false
set_option linter.unusedSectionVars false
set_option linter.unnecessarySimpa false
section
namespace Go.Proofs.YtpogmfngccolbaaGreat
open Go Hw _root_.Go.Proofs.Tryz
variable{D:Type}{a b:DCut}{ds:List (List (List UInt8))}{e:Int}{k m n:Nat}{s:Sl}{xs:List UInt8}{f:D→D→Bool}
theorem cutRd_only(h:(cutRd xs).2=0):(cutRd xs).1.check=0∧(cutRd xs).1.bytes=xs∧(cutRd xs).1.dPrev.length=32∧∀l∈(cutRd xs).1.dHeads,l.length=32:=by
  by_cases hg:endR xs.length (cutP xs).2.1 (cutP xs).2.2=0∧(cutP xs).1.check=0
  case neg=>rw[show cutRd xs=(DCut.zero,4)from if_neg hg]at h;cases h
  rw [show cutRd xs=((cutP xs).1,0)from if_pos hg];refine⟨hg.2,?_⟩;obtain⟨he,hc⟩:=hg;have hs:=(cutP xs).1.small hc;have e0:(cutP xs).2.2=0∧¬(0:Int)<(xs.length:Int)-((cutP xs).2.1:Int):=by
    unfold endR at he;split at he
    · rename_i h1
      exact⟨h1,fun h2=>by rw[if_pos h2]at he;cases he⟩
    ·rename_i h1;exact absurd he h1
  obtain⟨e1,e2⟩:=e0;clear he hc;simp only[cutP]at e1 e2 hs ⊢;obtain⟨x1,p1,h1⟩:∃l r,numR xs 0 0=(l,r):=⟨_,_,rfl⟩;obtain⟨a1,d1⟩:=p1;rw[h1]at e1 e2 hs ⊢;simp only at e1 e2 hs ⊢;obtain⟨l2,p2,h2⟩:∃l r,digR xs a1 d1=(l,r):=⟨_,_,rfl⟩;obtain⟨a2,d2⟩:=p2;rw[h2]at e1 e2 hs ⊢;simp only at e1 e2 hs ⊢;obtain⟨x3,p3,h3⟩:∃l r,numR xs a2 d2=(l,r):=⟨_,_,rfl⟩;obtain⟨a3,d3⟩:=p3;rw[h3]at e1 e2 hs ⊢;simp only at e1 e2 hs ⊢;obtain⟨ls,p4,h4⟩:∃l r,A6 xs (min x3.toNat 33) a3 d3=(l,r):=⟨_,_,rfl⟩;obtain⟨a4,d4⟩:=p4;rw[h4]at e1 e2 hs ⊢;simp only at e1 e2 hs ⊢;subst e1;obtain⟨z3,i4,g4⟩:=digs_bwd _ _ _ h4;subst z3;obtain⟨z2,ea3,i3,g3⟩:=num_bwd h3;subst z2;obtain⟨z1,ea2,i2,g2⟩:=dig_bwd h2;subst z1;obtain⟨_,ea1,i1,g1⟩:=num_bwd h1;have d2:=(digR_at xs a1 0 oM).2;rw[h2]at d2;have d4:=(digsR_at (xs:=xs) (a:=a3) (N:=xs.length) (e:=0) rfl oM (min x3.toNat 33)).2.1;rw[h4]at d4;have hx3:x3=UInt64.ofNat ls.length:=by
    apply Lbg.1;rw[ofNat_nat oM];omega
  have hnil:xs.drop a4=[]:=List.drop_eq_nil_of_le oM;refine⟨?_,d2,d4⟩;simp only[DCut.bytes,DCut.body,Ldm];rw[←hx3];rw[hnil,Lat]at g4;rw[Lea]at g1;rw[g1,g2,g3,g4];simp only[La8]
theorem cutRd_two(xs:List UInt8):(cutRd xs).2=0∨cutRd xs=(DCut.zero,4):=by
  by_cases hg:endR xs.length (cutP xs).2.1 (cutP xs).2.2=0∧(cutP xs).1.check=0
  ·left;rw[show cutRd xs=((cutP xs).1,0)from if_pos hg]
  ·right;exact if_neg hg
theorem cut_reads{D:DCut}(h:cutRd xs=(D,e))(a:Option Addr)(n c:Nat)(hl:xs.length=n)(hp:a=none→n=0)(hn:n≤90000):Meets prog 67 [.slice a n c] [] (fun W=>SeesP W a (Aa xs)) (fun v out=>∃C:Cut,C.ok∧v= .tuple #[agg C.cells,i64 e]∧∀W2,Lies out W2→CutIs W2 C D):=by
  have h2:=cut_read a n c xs hl hp hn;refine h2.imp (fun w h=>h) fun v out h3=>?_;obtain⟨C,ok,hv,hC⟩:=h3;rw[h]at hv hC;exact⟨C,ok,hv,hC⟩
theorem kit_cut_same(A B:Cut)(a:DCut)(hn:a.dHeads.length≤1000000):Mv 35 [agg A.cells,agg B.cells] (fun W=>CutIs W A a∧CutIs W B a) (.bool true):=by
  intro W hW;have h:=kit_cut A B a a (by rw[←hW.1.fHeads.len];exact hn) W hW;rwa[show sameC a a=true by simp[sameC]]at h
theorem cuts_two{w:World}{q:Nat}{A B:Cut}(hs:Cd w q 0 (A.cells++B.cells))(h:CutIs w A a)(h2:CutIs w B b):CutsAt w ⟨some ⟨q,0,none⟩,2,2⟩ [a,b]:=by
  refine⟨[A,B],rfl,rfl,fun i r d hr hd=>?_,fun r hr=>?_,Lae 2,SeesP.of (by simpa using hs),(by show 2≤maxLen;decide),fun e=>by cases e⟩
  · rcases i with _|_|i
    ·cases hr;cases hd;exact h
    ·cases hr;cases hd;exact h2
    ·cases hr
  · rcases Lal.1 hr with e|e
    ·rw[e];exact Cut.length h.ok
    ·rw[La0.1 e];exact Cut.length h2.ok
theorem light_two(h:lightOf lightCf [a,b] 2=true):a.dHeads.length≤40∧b.dHeads.length≤40:=by
  rw[lightOf,Lai]at h;have h2:=Lbk.1 h.2;have h3:=of_decide_eq_true (h2 a sP);have h4:=of_decide_eq_true (h2 b sP);omega
def sameL{D:Type}(f:D→D→Bool)(xs ys:List D):Bool:=decide (xs.length=ys.length)&&(xs.zip ys).all fun p=>f p.1 p.2
theorem sameL_yes{xs ys:List D}(hl:xs.length=ys.length)(h:∀(j:Nat) (a b:D),j<xs.length→xs[j]? =some a→ys[j]? =some b→f a b=true):sameL f xs ys=true:=by
  have e:((xs.zip ys).all fun p=>f p.1 p.2)=true:=by
    rw[Lbk];rintro⟨a,b⟩ hm;obtain⟨j,hj⟩:=Lfc hm;obtain⟨h1,h2⟩:=List.getElem?_zip_eq_some.1 hj;exact h j a b (Laf.1 h1).1 h1 h2
  rw[sameL,e,decide_eq_true hl];rfl
theorem sameL_no{xs ys:List D}{a b:D}(ha:xs[k]? =some a)(hb:ys[k]? =some b)(h:f a b=false):sameL f xs ys=false:=by
  have e:((xs.zip ys).all fun p=>f p.1 p.2)=false:=by
    rw[Lgl];exact⟨(a,b),Lbl (List.getElem?_zip_eq_some.2 ⟨ha,hb⟩),by rw[h];simp⟩
  rw[sameL,e,Bool.and_false]
theorem sameL_len{xs ys:List D}(h:¬xs.length=ys.length):sameL f xs ys=false:=by rw[sameL,decide_eq_false h];rfl
theorem lin_eq(p q:Option Addr)(n m c1 c2:Nat)(xs ys:List (List UInt8))(hx:∀l∈xs,l.length=32)(hy:∀l∈ys,l.length=32)(h1:xs.length=n)(h2:ys.length=m)(hn:n≤1000000):Mv 51 [.slice p n c1, .slice q m c2] (fun W=>SeesP W p (A3 xs)∧SeesP W q (A3 ys)) (.bool (decide (xs=ys))):=by
 intro W hW;refine Ac func51 J 8 ntmps51 J (G9 ?_);refine .cV J J J J Body118 (seq_any p q n m c1 c2 xs ys hx hy h1 h2 hn) (fun w h=>⟨A2 h J hW.1,A2 h J hW.2⟩) (G3 ?_);refine G2 ?_;refine⟨_,[],Ae J J,sP,sP,?_,rfl⟩;rfl
theorem cut_same(A B:Cut)(a b:DCut)(hn:A.fHeads.n≤1000000):Mv 75 [agg A.cells,agg B.cells] (fun W=>CutIs W A a∧CutIs W B b) (.bool (sameC a b)):=by
 intro W hW;have hA:=hW.1.ok;have hB:=hW.2.ok;have e1:=hW.1.fHeight;have e2:=hW.2.fHeight;have e3:=hW.1.fPrev;have e4:=hW.2.fPrev;refine Ac func75 J 24 ntmps75 J (G3 ?_);intro n2 hn2 hf2;refine G1 ?_;intro n3 hn3 hf3;refine G9 ?_;refine two (fun r hr k=>Tr.eqi J J J J hr k) (fun hs1_40=>?_) (fun hs1_40=>?_)
 ·
  have hs1_4:=of_decide_eq_true hs1_40;refine G2 ?_;refine .lN (Aa _) J J J Y34.h J Sz34 Z1 (Cut.row_fPrev zA) (Cut.rl_fPrev zA) ?_;refine G1 ?_;refine .lN (Aa _) J J J Y34.h J Sz34 Z0 (Cut.row_fPrev zA) (Cut.rl_fPrev zA) ?_;refine two (fun r hr k=>Tr.eql_bytes J J J J eqGuardType34 Y34.h Y5.h Sz5 (by(simp[hA.l_fPrev];done)) (by(simp[hB.l_fPrev];done)) hr k) (fun hs1_100=>?_) (fun hs1_100=>?_)
  ·
   have hs1_10:=of_decide_eq_true hs1_100;refine G6 ?_;refine .cV J J J J Body51 (lin_eq _ _ _ _ _ _ a.dHeads b.dHeads hW.1.fHeads.row hW.2.fHeads.row hW.1.fHeads.len hW.2.fHeads.len hn) (fun w h=>⟨A2 h J hW.1.fHeads.see,A2 h J hW.2.fHeads.see⟩) (G4 ?_);refine G2 ?_;refine⟨_,[],Ae J J,sP,sP,?_,rfl⟩;unfold sameC;simp_all
  have hs1_10:=of_decide_eq_false hs1_100;refine G11 ?_;refine G2 ?_;refine⟨_,[],Ae J J,sP,sP,?_,rfl⟩;unfold sameC;simp_all
 have hs1_4:=of_decide_eq_false hs1_40;refine G17 ?_;refine G2 ?_;refine⟨_,[],Ae J J,sP,sP,?_,rfl⟩;unfold sameC;simp_all
theorem eqfg_cut(s u:Sl)(xs ys:List DCut)(hsm:∀d∈xs,d.dHeads.length≤1000000):Mv 163 [s.v,u.v, .func (.func 75) #[] #[]] (fun W=>CutsAt W s xs∧CutsAt W u ys) (.bool (sameL sameC xs ys)):=by
 intro W hW;obtain⟨⟨rs,hs⟩,⟨ru,hu⟩⟩:=hW;have hnd:=hs.nd;have hnu:=hu.nd;have hmax:=hs.max;have hmaxu:=hu.max;simp only[maxLen]at hmax hmaxu;refine Ac func163 J 32 ntmps163 J (G15 ?_);refine .condNP J (fun hc0=>?_) (fun hc0=>?_)
 ·
  refine G5 ?_;refine G3 ?_;refine⟨_,[],Ae J J,sP,sP,?_,rfl⟩;exact congrArg Value.bool (sameL_len (by rw[hnd,hnu];omega)).symm
 refine G11 ?_;refine .loop (ι:=Nat) (fun k=>⟨[(1,u.v),(2, .func (.func 75) #[] #[]),(15,s.v),(16,i64 (s.n:Int)),(17,i64 (k:Int))],[]⟩) (fun k=>k≤s.n∧s.n=u.n∧∀(j:Nat) (a b:DCut),j<k→xs[j]? =some a→ys[j]? =some b→sameC a b=true) (fun k=>s.n-k) (0) ?_ ?_ ?_
 ·exact⟨by omega,by omega,fun j a b hj=>by omega⟩
 ·exact Ad wN wh0 nD
 rintro k ⟨hk,hsu,hg⟩;refine G6 ?_;refine .condP J (fun hc1=>?_) (fun hc1=>?_)
 ·
  have hk2:k<s.n:=by omega
  obtain⟨b,o,r,d,hsp,hr,hd,his,hlen,hsee⟩:=hs.at dE hk2;obtain⟨b2,o2,r2,d2,hspu,hru,hdu,hiu,hlenu,hseeu⟩:=hu.at dE (show k<u.n by omega);refine G7 ?_;refine .idxSlP 34 J J J hsp J Y55.h Sz57 k J oM (.loadEN r.cells J J J Y57.h J Sz57 sP hlen hsee (.alloc (cs:=Cut.zero.cells) J Cut.zr J ?_));intro n8 hn8 hf8;refine G1 ?_;refine .sA J J J J (Cut.isCell (by exact his.ok)) Sz57 (Cut.length (by exact his.ok)) Z0 (Cut.length (by exact Cut.zero_ok)) zU ?_;refine G6 ?_;refine .idxSlP 34 J J J hspu J Y55.h Sz57 k J oM (.loadEN r2.cells J J J Y57.h J Sz57 sP hlenu hseeu (.alloc (cs:=Cut.zero.cells) J Cut.zr J ?_));intro n9 hn9 hf9;refine .sA J J J J (Cut.isCell (by exact hiu.ok)) Sz57 (Cut.length (by exact hiu.ok)) Z0 (Cut.length (by exact Cut.zero_ok)) zU ?_;refine G5 ?_;refine .lA J J J Y57.h J Sz57 Z1 (Cut.length (by exact his.ok)) ?_;refine .lA J J J Y57.h J Sz57 Z0 (Cut.length (by exact hiu.ok)) ?_;refine .cV J J J J Body75 (cut_same r r2 d d2 (by rw[←his.fHeads.len];exact hsm d (Lbl hd))) (fun w h=>⟨his.ext h J,hiu.ext h J⟩) ?_;refine G3 ?_;refine .cond J (fun hc2=>?_) (fun hc2=>?_)
  ·
   refine G5 ?_;refine G7 ?_;refine⟨_,[],Ae J J,sP,sP,?_,rfl⟩;exact congrArg Value.bool (sameL_no hd hdu (by simp_all;done)).symm
  refine G8 ?_;exact⟨k+1,⟨by omega,hsu,fun j a b hj ha hb=>by rcases Lcb.1 hj with h|rfl;exact hg j a b h ha hb;exact(by rw[hd]at ha;rw[hdu]at hb;cases ha;cases hb;simp_all)⟩,by omega,Ad (wk1 rfl (wk1 rfl (wk1 rfl (wk1 rfl (wk1 (by rw[Lbr];rfl) wk0))))) wh0 nD⟩
 obtain rfl:k=s.n:=by omega
 refine G10 ?_;refine G2 ?_;refine⟨_,[],Ae J J,sP,sP,?_,rfl⟩;exact congrArg Value.bool (sameL_yes (by rw[hnd,hnu];omega) (by rw[hnd];exact hg)).symm
theorem seq_takeC{R D:Type}{cells:R→List Value}{Is:World→R→D→Prop}{W:World}{rs:List R}{ds:List D}(h:SeqIs cells k Is W s rs ds)(j:Nat)(hj:j≤s.n):SeqIs cells k Is W ⟨s.p,j,s.c⟩ (rs.take j) (ds.take j):=by
  refine⟨by rw[Lag,h.nr];exact Lcu hj,by rw[Lag,h.nd];exact Lcu hj,fun i r d h1 h2=>?_,fun r hr=>h.len r (Lcz hr),Lbc hj h.cap,?_,Lbc hj h.max,h.nil⟩
  · rw[Lb9]at h1 h2
    split at h1
    · rename_i hi
      rw[if_pos hi]at h2;exact h.is i r d h1 h2
    ·cases h1
  · intro i v hv
    refine h.see i v ?_;have e:(rs.map cells).flatten=((rs.take j).map cells).flatten++((rs.drop j).map cells).flatten:=by rw[←Lc4,←Lad,Lcj]
    rw[e,Lau (Laf.1 hv).1];exact hv
theorem cut_begins(s u:Sl)(xs ys:List DCut)(hsm:∀d∈xs,d.dHeads.length≤1000000):Mv 117 [s.v,u.v, .func (.func 75) #[] #[]] (fun W=>CutsAt W s xs∧CutsAt W u ys) (.bool (sameL sameC (xs.take (min s.n u.n)) (ys.take (min s.n u.n)))):=by
 intro W hW;obtain⟨⟨rs,hs⟩,⟨ru,hu⟩⟩:=hW;have hcs:=hs.cap;have hcu:=hu.cap;refine Ac func117 J 21 ntmps117 J (G11 ?_);refine .min2 J J J J (congrArg i64 (show(if(u.n:Int)<(s.n:Int)then(u.n:Int)else(s.n:Int))=((min s.n u.n:Nat):Int)from(by split<;>omega))) ?_;refine G4 ?_;refine .draw (oP [0,1,2,3,4,5,6,307,8]) Ao zK (G2 ?_);refine .sliceHiA s (min s.n u.n) J J J J J oM Y55.h Sz57 (G2 ?_);refine .sliceHiA u (min s.n u.n) J J J J J oM Y55.h Sz57 (G1 ?_);refine .cV J J J J Body163 (eqfg_cut ⟨s.p,min s.n u.n,s.c⟩ ⟨u.p,min s.n u.n,u.c⟩ (xs.take (min s.n u.n)) (ys.take (min s.n u.n)) (fun d hd=>hsm d (Lcz hd))) (fun w h=>⟨Cuts_ext h J ⟨_,seq_takeC hs _ oM⟩,Cuts_ext h J ⟨_,seq_takeC hu _ oM⟩⟩) (G3 ?_);refine G2 ?_;refine⟨_,[],Ae J J,sP,sP,?_,rfl⟩;rfl
theorem cut_prefix(s u:Sl)(xs ys:List DCut)(hsm:∀d∈xs,d.dHeads.length≤1000000):Mv 48 [s.v,u.v] (fun W=>CutsAt W s xs∧CutsAt W u ys) (.bool (sameL sameC (xs.take (min s.n u.n)) (ys.take (min s.n u.n)))):=by
 intro W hW;refine Ac func48 J 8 ntmps48 J (G9 ?_);refine .cV J J J J Body117 (cut_begins s u xs ys hsm) (fun w h=>⟨Cuts_ext h J hW.1,Cuts_ext h J hW.2⟩) (G3 ?_);refine G2 ?_;refine⟨_,[],Ae J J,sP,sP,?_,rfl⟩;rfl
theorem take_grow{xs ys:List (List UInt8)}(h:xs.take k=ys.take k)(h1:k<xs.length)(h2:k<ys.length)(e:xs.getD k []=ys.getD k []):xs.take (k+1)=ys.take (k+1):=by
  rw[Lar h1,Lar h2,h];rw[La2,La2,La3 h1,La3 h2]at e;simp only[Lbn]at e;rw[e]
theorem sameC_yes(h1:(a.dHeight.toNat:Int)=(b.dHeight.toNat:Int))(h2:a.dPrev=b.dPrev)(h3:a.dHeads=b.dHeads):sameC a b=true:=by simp[sameC,h1,h2,h3]
theorem sameC_no1(h:¬(a.dHeight.toNat:Int)=(b.dHeight.toNat:Int)):sameC a b=false:=by simp only[sameC,decide_eq_false h,Bool.false_and]
theorem sameC_no2(h:¬a.dPrev=b.dPrev):sameC a b=false:=by simp only[sameC,decide_eq_false h,Bool.false_and,Bool.and_false]
theorem sameC_no3(h:¬a.dHeads=b.dHeads):sameC a b=false:=by simp only[sameC,decide_eq_false h,Bool.and_false]
theorem r19_Same(A B:Cut)(a b:DCut)(hn:A.fHeads.n≤1000000):Mv 139 [agg A.cells,agg B.cells] (fun W=>CutIs W A a∧CutIs W B b) (.bool (sameC a b)):=by
 intro W hW;have hA:=hW.1.ok;have hB:=hW.2.ok;have e1:=hW.1.fHeight;have e2:=hW.2.fHeight;have e3:=hW.1.fPrev;have e4:=hW.2.fPrev;have l1:=hW.1.fHeads.len;have l2:=hW.2.fHeads.len;refine Ac func139 J 45 ntmps139 J (G3 ?_);intro n2 hn2 hf2;refine G1 ?_;intro n3 hn3 hf3;refine G10 ?_;refine two (fun r hr k=>Tr.nei J J J J hr k) (fun hs1_40=>?_) (fun hs1_40=>?_)
 ·
  have hs1_4:=nd_t hs1_40;refine G18 ?_;refine .cond_t J J (G5 ?_);refine G3 ?_;refine⟨_,[],Ae J J,sP,sP,?_,rfl⟩;exact congrArg Value.bool (sameC_no1 (by rw[←e1,←e2];assumption)).symm
 have hs1_4:=nd_f hs1_40;refine G2 ?_;refine .lN (Aa _) J J J Y34.h J Sz34 Z1 (Cut.row_fPrev zA) (Cut.rl_fPrev zA) ?_;refine G1 ?_;refine .lN (Aa _) J J J Y34.h J Sz34 Z0 (Cut.row_fPrev zA) (Cut.rl_fPrev zA) ?_;refine two (fun r hr k=>Tr.neq_bytes J J J J eqGuardType34 Y34.h Y5.h Sz5 (by(simp[hA.l_fPrev];done)) (by(simp[hB.l_fPrev];done)) hr k) (fun hs1_100=>?_) (fun hs1_100=>?_)
 ·
  have hs1_10:=nd_t hs1_100;refine G12 ?_;refine .cond_t J J (G5 ?_);refine G3 ?_;refine⟨_,[],Ae J J,sP,sP,?_,rfl⟩;exact congrArg Value.bool (sameC_no2 (by rw[←e3,←e4];assumption)).symm
 have hs1_10:=nd_f hs1_100;refine G12 ?_;refine .condNP J (fun hc0=>?_) (fun hc0=>?_)
 ·
  refine G5 ?_;refine G3 ?_;refine⟨_,[],Ae J J,sP,sP,?_,rfl⟩;exact congrArg Value.bool (sameC_no3 (fun h=>by have:=congrArg List.length h;omega)).symm
 refine G9 ?_;refine .loop (ι:=Nat) (fun k=>⟨[(2,ptr n2 0),(3,ptr n3 0),(5,i64 (k:Int))],[⟨n3,B.cells,57,B.cells.length⟩,⟨n2,A.cells,57,A.cells.length⟩]⟩) (fun k=>k≤A.fHeads.n∧a.dHeads.take k=b.dHeads.take k) (fun k=>A.fHeads.n-k) (0) ?_ ?_ ?_
 ·exact⟨Laj _,rfl⟩
 ·exact Ad wN (wh1 Z0 (wh1 Z1 wh0)) nD
 rintro k ⟨hk,hg⟩;refine G10 ?_;refine .condP J (fun hc1=>?_) (fun hc1=>?_)
 ·
  have hk2:k<A.fHeads.n:=by omega
  obtain⟨bb,o,hbp,hbs⟩:=hW.1.fHeads.see.at (by rw[Ax hW.1.fHeads.row];omega);obtain⟨bb2,o2,hbp2,hbs2⟩:=hW.2.fHeads.see.at (by rw[Ax hW.2.fHeads.row];omega);have hr0:(a.dHeads.getD k []).length=32:=Bf hW.1.fHeads.row oM;have hr1:(b.dHeads.getD k []).length=32:=Bf hW.2.fHeads.row oM;refine G5 ?_;refine .draw (oP [0,101,2,3,104,5,106,7,8,109,10]) Ao zK (G3 ?_);refine .idxSlP 32 J J J hbp J Y30.h Sz34 k J oM (.loadEN (Aa (a.dHeads.getD (k) [])) J J J Y34.h J Sz34 sP (by rw[Aa,La1];exact Bf hW.1.fHeads.row (by rw[hW.1.fHeads.len];omega)) (Bu hW.1.fHeads.row hbs (by rw[hW.1.fHeads.len];omega)) ?_);refine G3 ?_;refine .idxSlP 32 J J J hbp2 J Y30.h Sz34 k J oM (.loadEN (Aa (b.dHeads.getD (k) [])) J J J Y34.h J Sz34 sP (by rw[Aa,La1];exact Bf hW.2.fHeads.row (by rw[hW.2.fHeads.len];omega)) (Bu hW.2.fHeads.row hbs2 (by rw[hW.2.fHeads.len];omega)) ?_);refine .neq_bytes J J J J eqGuardType34 Y34.h Y5.h Sz5 zA zA J ?_;refine G2 ?_;refine .condNP J (fun hc2=>?_) (fun hc2=>?_)
  ·
   refine G5 ?_;refine G7 ?_;refine⟨_,[],Ae J J,sP,sP,?_,rfl⟩;exact congrArg Value.bool (sameC_no3 (fun h=>hc2 (by rw[h]))).symm
  refine G9 ?_;exact⟨k+1,⟨by omega,take_grow hg oM oM zA⟩,by omega,Ad (wk1 rfl (wk1 rfl (wk1 (by rw[Lbr];rfl) wk0))) (wh1 Z0 (wh1 Z1 wh0)) nD⟩
 obtain rfl:k=A.fHeads.n:=by omega
 refine G10 ?_;refine G2 ?_;refine⟨_,[],Ae J J,sP,sP,?_,rfl⟩;exact congrArg Value.bool (sameC_yes (by rw[←e1,←e2];assumption) (by rw[←e3,←e4];assumption) (by rw[La5 oM,La5 oM]at hg;exact hg)).symm
theorem pfx_no{xs ys:List DCut}(hx:xs.length=n)(hy:ys.length=m)(h1:k<n)(h2:k<m)(ha:xs[k]? =some a)(hb:ys[k]? =some b)(h:sameC a b=false):sameL sameC (xs.take (min n m)) (ys.take (min n m))=false:=
  sameL_no (k:=k) (by rw[Lb9,if_pos oM];exact ha) (by rw[Lb9,if_pos oM];exact hb) h
theorem pfx_yes{xs ys:List DCut}(hx:xs.length=n)(hy:ys.length=m)(hg:∀(j:Nat) (a b:DCut),j<k→xs[j]? =some a→ys[j]? =some b→sameC a b=true)(hk:min n m≤k):sameL sameC (xs.take (min n m)) (ys.take (min n m))=true:=by
  refine sameL_yes (by rw[Lag,Lag];omega) fun j a b hj ha hb=>?_;rw[Lag]at hj;rw[Lb9,if_pos oM]at ha hb;exact hg j a b oM ha hb
theorem r19_prefix(s u:Sl)(xs ys:List DCut)(hsm:∀d∈xs,d.dHeads.length≤1000000):Mv 76 [s.v,u.v] (fun W=>CutsAt W s xs∧CutsAt W u ys) (.bool (sameL sameC (xs.take (min s.n u.n)) (ys.take (min s.n u.n)))):=by
 intro W hW;obtain⟨⟨rs,hs⟩,⟨ru,hu⟩⟩:=hW;have hnd:=hs.nd;have hnu:=hu.nd;have hmax:=hs.max;have hmaxu:=hu.max;simp only[maxLen]at hmax hmaxu;refine Ac func76 J 28 ntmps76 J (G12 ?_);refine .loop (ι:=Nat) (fun k=>⟨[(0,s.v),(1,u.v),(5,i64 (k:Int))],[]⟩) (fun k=>k≤s.n∧k≤u.n∧∀(j:Nat) (a b:DCut),j<k→xs[j]? =some a→ys[j]? =some b→sameC a b=true) (fun k=>s.n-k) (0) ?_ ?_ ?_
 ·exact⟨by omega,by omega,fun j a b hj=>by omega⟩
 ·exact Ad wN wh0 nD
 rintro k ⟨hk,hku,hg⟩;refine G6 ?_;refine two (fun r hr k=>Tr.lss J J J J hr k) (fun hs2_30=>?_) (fun hs2_30=>?_)
 ·
  have hs2_3:=of_decide_eq_true hs2_30;refine G8 ?_;refine .condP J (fun hc0=>?_) (fun hc0=>?_)
  ·
   have hk2:k<s.n:=by omega
   have hk3:k<u.n:=by omega
   obtain⟨b,o,r,d,hsp,hr,hd,his,hlen,hsee⟩:=hs.at dE hk2;obtain⟨b2,o2,r2,d2,hspu,hru,hdu,hiu,hlenu,hseeu⟩:=hu.at dE hk3;refine G5 ?_;refine .draw (oP [0,1,2,103,4,5,6,107,308,9]) Ao zK (G2 ?_);refine .idxSlP 34 J J J hsp J Y55.h Sz57 k J oM (.loadEN r.cells J J J Y57.h J Sz57 sP hlen hsee (G2 ?_));refine .idxSlP 34 J J J hspu J Y55.h Sz57 k J oM (.loadEN r2.cells J J J Y57.h J Sz57 sP hlenu hseeu (.cV J J J J Body139 (r19_Same r r2 d d2 (by rw[←his.fHeads.len];exact hsm d (Lbl hd))) (fun w h=>⟨his.ext h J,hiu.ext h J⟩) ?_));refine G3 ?_;refine .cond J (fun hc1=>?_) (fun hc1=>?_)
   ·
    refine G5 ?_;refine G7 ?_;refine⟨_,[],Ae J J,sP,sP,?_,rfl⟩;exact congrArg Value.bool (pfx_no hnd hnu hk2 hk3 hd hdu (by simpa using hc1)).symm
   refine G9 ?_;exact⟨k+1,⟨by omega,by omega,fun j a b hj ha hb=>by rcases Lcb.1 hj with h|rfl;exact hg j a b h ha hb;exact(by rw[hd]at ha;rw[hdu]at hb;cases ha;cases hb;simp_all)⟩,by omega,Ad (wk1 rfl (wk1 rfl (wk1 (by rw[Lbr];rfl) wk0))) wh0 nD⟩
  refine G10 ?_;refine G2 ?_;refine⟨_,[],Ae J J,sP,sP,?_,rfl⟩;exact congrArg Value.bool (pfx_yes hnd hnu hg oM).symm
 have hs2_3:=of_decide_eq_false hs2_30;refine G8 ?_;refine .cond_f J J (G10 ?_);refine G2 ?_;refine⟨_,[],Ae J J,sP,sP,?_,rfl⟩;exact congrArg Value.bool (pfx_yes hnd hnu hg oM).symm
def slc(r:Sl):List Value:=[r.v]
def HdsIs(W:World)(r:Sl)(d:List (List UInt8)):Prop:=RowsAt W r 32 d
theorem slc_cell(r:Sl):∀v∈slc r,isCell v=true:=fun v hv=>by
  rw[La0.1 hv];obtain⟨p,n,c⟩:=r;cases p<;>rfl
theorem take_snocH{ds:List DCut}{d:DCut}(h:ds[k]? =some d):(ds.map (·.dHeads)).take (k+1)=(ds.map (·.dHeads)).take k++[d.dHeads]:=take_snoc (by rw[Lan,h];rfl)
theorem cut_heads(s:Sl)(ds:List DCut)(hn:s.n≤1000)(hsm:∀d∈ds,d.dHeads.length≤500):Meets prog 72 [s.v] [] (fun W=>CutsAt W s ds) (fun v out=>∃sl bl bl2 rs,v=sl.v∧out=bl++bl2∧OwnSeq slc 1 HdsIs 30 sl bl bl2 rs (ds.map (·.dHeads)) s.n):=by
 intro W hW;obtain⟨rs,hs⟩:=hW;have hnd:=hs.nd;refine Ac func72 J 20 ntmps72 J (.sr (.a J J J (.nsr (.a J J J (.na (.seq (.sr (.m J J J (.lenSl J J J Y55.h (.m J J J (.na (.block (.loop (ι:=Nat×Sl×List Blk×List Blk×List Sl) (fun p=>⟨[(3,p.2.1.v),(6,s.v),(7,i64 (s.n:Int)),(8,i64 (p.1:Int))],(p.2.2.1++(p.2.2.2.1++[]))⟩) (fun p=>p.1≤s.n∧OwnSeq slc 1 HdsIs 30 p.2.1 p.2.2.1 p.2.2.2.1 p.2.2.2.2 ((ds.map (·.dHeads)).take p.1) p.1) (fun p=>s.n-p.1) ((0,Sl.nil,[],[],[])) ?_ ?_ ?_)))))))))))))
 ·exact⟨Laj _,OwnSeq.none⟩
 ·exact An wN (Af (by repeat(exact sg_end)) (Af (by repeat(exact sg_end)) Ai))
 rintro p ⟨hk,hos⟩;refine .sr (.lss J J J J J (.na (.seq (.condP J (fun hc0=>?_) (fun hc0=>?_)))))
 ·
  have hk2:p.1<s.n:=by omega
  obtain⟨b,o,r,d,hsp,hr,hd,his,hlen,hsee⟩:=hs.at dE hk2;have hdl:r.fHeads.n≤500:=by rw[←his.fHeads.len];exact hsm d (Lbl hd)
  refine .skip (Ct (.seq (.block (.sr (.idxSlP 34 J J J hsp J Y55.h Sz57 p.1 J oM (.loadEN r.cells J J J Y57.h J Sz57 sP hlen hsee (.alloc (cs:=Cut.zero.cells) J Cut.zr J ?_)))))));intro n5 hn5 hf5;refine .sA J J J J (Cut.isCell (by exact his.ok)) Sz57 (Cut.length (by exact his.ok)) Z0 (Cut.length (by exact Cut.zero_ok)) zU ?_;refine .na (.region (.m J J J (.fld J J J Y57.h J Sz30 dE _ J (.load1 J J J Y30.h J Z0 (by exact Cut.get_fHeads (by exact his.ok)) ?_))));refine .call4 J J J J J Body81 (cl_digs r.fHeads d.dHeads oM) (fun w h=>rows_ext h J his.fHeads) ?_;rintro v15 out15 ⟨s15,rfl,hac15⟩;have hoi:∀W2,Lies out15 W2→HdsIs W2 s15 d.dHeads:=fun W2 hl=>acc_rows hac15 hl his.fHeads.row his.fHeads.len oM;refine .mkRow2 (z:= .slice none 0 0) [s15.v] (slc s15) J J Y78 Sz30 Zr30 J J (by intro v hv;rw[La0.1 hv];simp[Value.cells,Sl.v]) dE (by simp[Value.cells,slc,Sl.v]) ?_;intro q16;refine .appendAcc (z:= .slice none 0 0) (by':=24) (slc s15) J J J J J Y78 Y78 Sz30 Zr30 (by unfold By;kernel_rfl) J hos.acc sG (fun w h=>SeesP.of (Ap h Z0)) (fun e=>by cases e) (slc_cell s15) oM oM (by rfl) ?_;intro s17 bl17 hac17;refine .a J J J (.nil (bl_n (Ct (.region (.aI J J J J oM (.m J J J (.na ?_)))))));exact⟨(p.1+1,s17,bl17,out15++p.2.2.2.1,p.2.2.2.2++[s15]),⟨by simp only[];omega,by simp only[take_snocH hd];exact hos.snoc hac17 rfl hoi⟩,by simp only[];omega,An (wk1 rfl (wk1 rfl (wk1 rfl (wk1 (by rw[Lbr];rfl) wk0)))) (Af sG (pm_two (Af sG (Af sG Ai))))⟩
 have hpe:p.1=s.n:=by omega
 refine .exit (at_x (at_x (bl_h (Ct (.sr (.m J J J (.a J J J (.na ?_))))))));refine .ret (en_r (Aw (out:=(p.2.2.1++(p.2.2.2.1++[]))) (Ae J J) (Af sG (Af sG Ai)) ?_));refine⟨p.2.1,p.2.2.1,p.2.2.2.1,p.2.2.2.2,rfl,by simp,?_⟩;rw[hpe,La5 (by rw[La1];omega)]at hos;exact hos
theorem r19_heads(s:Sl)(ds:List DCut)(hn:s.n≤1000)(hsm:∀d∈ds,d.dHeads.length≤500):Meets prog 73 [s.v] [] (fun W=>CutsAt W s ds) (fun v out=>∃sl bl bl2 rs,v=sl.v∧out=bl++bl2∧OwnSeq slc 1 HdsIs 30 sl bl bl2 rs (ds.map (·.dHeads)) s.n):=by
 intro W hW;obtain⟨rs,hs⟩:=hW;have hnd:=hs.nd;refine Ac func73 J 22 ntmps73 J (.sr (.a J J J (.nsr (.a J J J (.na (.seq (.sr (.a J J J (.na (.block (.loop (ι:=Nat×Sl×List Blk×List Blk×List Sl) (fun p=>⟨[(0,s.v),(3,p.2.1.v),(4,i64 (p.1:Int))],(p.2.2.1++(p.2.2.2.1++[]))⟩) (fun p=>p.1≤s.n∧OwnSeq slc 1 HdsIs 30 p.2.1 p.2.2.1 p.2.2.2.1 p.2.2.2.2 ((ds.map (·.dHeads)).take p.1) p.1) (fun p=>s.n-p.1) ((0,Sl.nil,[],[],[])) ?_ ?_ ?_)))))))))))
 ·exact⟨Laj _,OwnSeq.none⟩
 ·exact An wN (Af (by repeat(exact sg_end)) (Af (by repeat(exact sg_end)) Ai))
 rintro p ⟨hk,hos⟩;refine .seq (.sr (.m J J J (.m J J J (.lenSl J J J Y55.h (.lss J J J J J (.na (.condP J (fun hc0=>?_) (fun hc0=>?_))))))))
 ·
  have hk2:p.1<s.n:=by omega
  obtain⟨b,o,r,d,hsp,hr,hd,his,hlen,hsee⟩:=hs.at dE hk2;have hdl:r.fHeads.n≤500:=by rw[←his.fHeads.len];exact hsm d (Lbl hd)
  refine .skip (Ct (.seq (.block (.region (.m J J J (.mkRow2 (z:=agg (Aa (List.replicate 32 0))) [] [] rfl J Y30.h Sz34 Ck J J (by intro v hv;cases hv) dE J ?_))))));intro q12;refine .m J J J (.m J J J (.idxSlP 34 J J J hsp J Y55.h Sz57 p.1 J oM (.fld J J J Y57.h J Sz30 dE _ J (.loadE J J J Y30.h J sP (hsee 33 _ (Cut.get_fHeads his.ok)) (.appendSl (z:=agg (Aa (List.replicate 32 0))) (by':=32) (A3 d.dHeads) J J J J J Y30.h Y30.h Sz34 Ck (by unfold By;kernel_rfl) J (fun w h=>A2 h J his.fHeads.see) (fun e=>by have:=his.fHeads.nil e;have:=his.fHeads.cap;omega) (flatB_cell d.dHeads) rM J J oM oM oM (by rw[Ax his.fHeads.row,his.fHeads.len]) ?_)))));intro q18 c18 hq18;rw[Las r.fHeads.n];have hoi:∀W2,Lies [⟨q18,A3 d.dHeads,34,c18*32⟩] W2→HdsIs W2 (⟨some ⟨q18,0,none⟩,r.fHeads.n,c18⟩:Sl) d.dHeads:=fun W2 hl=>acc_rows (Acc.some (E:=34) (show r.fHeads.n≤c18 by omega) (by rw[Ax his.fHeads.row,his.fHeads.len])) hl his.fHeads.row his.fHeads.len oM;refine .mkRow2 (z:= .slice none 0 0) [(⟨some ⟨q18,0,none⟩,r.fHeads.n,c18⟩:Sl).v] (slc (⟨some ⟨q18,0,none⟩,r.fHeads.n,c18⟩:Sl)) J J Y78 Sz30 Zr30 J J (by intro v hv;rw[La0.1 hv];simp[Value.cells,Sl.v]) dE (by simp[Value.cells,slc,Sl.v]) ?_;intro q19;refine .appendAcc (z:= .slice none 0 0) (by':=24) (slc (⟨some ⟨q18,0,none⟩,r.fHeads.n,c18⟩:Sl)) J J J J J Y78 Y78 Sz30 Zr30 (by unfold By;kernel_rfl) J hos.acc sG (fun w h=>SeesP.of (Ap h Z0)) (fun e=>by cases e) (slc_cell (⟨some ⟨q18,0,none⟩,r.fHeads.n,c18⟩:Sl)) oM oM (by rfl) ?_;intro s20 bl20 hac20;refine .a J J J (.nil (bl_n (Ct (.region (.m J J J (.aI J J J J oM (.a J J J (.na ?_))))))));exact⟨(p.1+1,s20,bl20,[⟨q18,A3 d.dHeads,34,c18*32⟩]++p.2.2.2.1,p.2.2.2.2++[(⟨some ⟨q18,0,none⟩,r.fHeads.n,c18⟩:Sl)]),⟨by simp only[];omega,by simp only[take_snocH hd];exact hos.snoc hac20 rfl hoi⟩,by simp only[];omega,An (wk1 rfl (wk1 rfl (wk1 (by rw[Lbr];rfl) wk0))) (Af sG (pm_in1 (Ab rM (Af sG Ai))))⟩
 have hpe:p.1=s.n:=by omega
 refine .exit (at_x (at_x (bl_h (Ct (.sr (.m J J J (.a J J J (.na ?_))))))));refine .ret (en_r (Aw (out:=(p.2.2.1++(p.2.2.2.1++[]))) (Ae J J) (Af sG (Af sG Ai)) ?_));refine⟨p.2.1,p.2.2.1,p.2.2.2.1,p.2.2.2.2,rfl,by simp,?_⟩;rw[hpe,La5 (by rw[La1];omega)]at hos;exact hos
theorem meets_knowC{P:Program}{f:FuncId}{args:List Value}{Pre:World→Prop}{R R':Value→List Blk→Prop}(h:Meets P f args [] Pre R)(hr:∀v out w,R v out→Lies out w→R' v out):Meets P f args [] Pre R':=
  fun W hW=>(h W hW).mono fun e W' ⟨v,out,h1,h2,h3⟩=>⟨v,out,h1,hr v out W' h2 h3.cells,h3⟩
def OwnH(s:Sl)(bl bl2:List Blk)(rs:List Sl)(ds:List (List (List UInt8)))(n:Nat):Prop:=OwnSeq slc 1 HdsIs 30 s bl bl2 rs ds n∧∀(i:Nat) (r:Sl) (d:List (List UInt8)),rs[i]? =some r→ds[i]? =some d→d.length=r.n
theorem heads_know(v:Value)(out:List Blk)(w:World)(h:∃sl bl bl2 rs,v=sl.v∧out=bl++bl2∧OwnSeq slc 1 HdsIs 30 sl bl bl2 rs ds n)(hl:Lies out w):∃sl bl bl2 rs,v=sl.v∧out=bl++bl2∧OwnH sl bl bl2 rs ds n:=by
  obtain⟨sl,bl,bl2,rs,h1,rfl,h3⟩:=h;exact⟨sl,bl,bl2,rs,h1,rfl,h3,fun i r d hr hd=>(h3.is w (fun b hb=>hl b (Lbz _ hb)) i r d hr hd).len⟩
theorem slc_flat:∀rs:List Sl,(rs.map slc).flatten=rs.map Sl.v
  | []=>rfl
  |r::rs=>by rw[Lao,Lcg,slc_flat rs];rfl
theorem heads_at{bl bl2:List Blk}{rs:List Sl}(h:OwnH s bl bl2 rs ds n)(hk:k<n):∃q o r d,s.p=some ⟨q,o,none⟩∧ds[k]? =some d∧d.length=r.n∧(∀w,Lies bl w→w.cell? ⟨q,o+k*1,none⟩=some r.v)∧∀w,Lies bl2 w→RowsAt w r 32 d:=by
  obtain⟨h,hn⟩:=h;obtain⟨q,c,hs,_,hb⟩:=acc_pos h.acc oM;have h1:k<rs.length:=by rw[h.nr];exact hk
  have h2:k<ds.length:=by rw[h.nd];exact hk
  refine⟨q,0,rs[k],ds[k],by rw[hs],La3 h2,hn k _ _ (La3 h1) (La3 h2),fun w hl=>?_,fun w hl=>h.is w hl k _ _ (La3 h1) (La3 h2)⟩;have h3:=(hl _ (by rw[hb];exact La0.2 rfl)).cell (o:=0+k*1) (v:=rs[k].v) (by
    show(rs.map slc).flatten[0+k*1]? =_;rw[slc_flat,Lan,Las,Lb4,La3 h1];rfl)
  exact h3
theorem digs_same(p q:Option Addr)(n m c1 c2:Nat)(xs:List (List UInt8))(hx:∀l∈xs,l.length=32)(h1:xs.length=n)(h2:xs.length=m)(hn:n≤1000000):Mv 23 [.slice p n c1, .slice q m c2] (fun W=>SeesP W p (A3 xs)∧SeesP W q (A3 xs)) (.bool true):=by
  have h:=digests_any2 p q n m c1 c2 xs xs hx hx h1 h2 hn;rwa[show decide (xs=xs)=true from decide_eq_true rfl]at h
theorem cutRd_small(xs:List UInt8):(cutRd xs).1.dHeads.length≤32:=by
  rcases cutRd_two xs with h|h
  ·exact DCut.small (cutRd_only h).1
  ·rw[h];exact Laj _
theorem r19_reads{D:DCut}(h:cutRd xs=(D,e))(pa:Option Addr)(n c:Nat)(hl:xs.length=n)(hp:pa=none→n=0)(hn:n≤90000):Meets prog 71 [.slice pa n c] [] (fun W=>SeesP W pa (Aa xs)) (fun v out=>∃C:Cut,C.ok∧v= .tuple #[agg C.cells,i64 e]∧∀W2,Lies out W2→CutIs W2 C D):=by
  have h2:=r19_Read pa n c xs hl hp hn;refine h2.imp (fun w h=>h) fun v out h3=>?_;obtain⟨C,ok,hv,hC⟩:=h3;rw[h]at hv hC;exact⟨C,ok,hv,hC⟩
theorem light_list{ds:List DCut}{m:Int}(h:lightOf lightCf ds m=true):(ds.length:Int)≤m∧∀d∈ds,d.dHeads.length≤40:=by
  rw[lightOf,Lai]at h;refine⟨by have:=h.1;simp at this;omega,fun d hd=>?_⟩;have:=of_decide_eq_true (Lbk.1 h.2 d hd);omega
theorem same_self(a:DCut):sameC a a=true:=by simp[sameC]
theorem cut_same_self(A:Cut)(a:DCut)(hn:a.dHeads.length≤1000000):Mv 75 [agg A.cells,agg A.cells] (fun W=>CutIs W A a) (.bool true):=by
  intro W hW;have h:=cut_same A A a a (by rw[←hW.fHeads.len];exact hn) W ⟨hW,hW⟩;rwa[same_self]at h
theorem law_cutcalls(A B:Cut)(a b:DCut)(s u:Sl)(xs ys:List DCut)(sb:Sl)(raw:List UInt8):Mv 14 [agg A.cells,agg B.cells,s.v,u.v,sb.v] (fun W=>CutIs W A a∧CutIs W B b∧CutsAt W s xs∧CutsAt W u ys∧BytesAt W sb raw) (.bool true):=by
 intro W hW;obtain⟨hA3,hB3,hX,hY,hR⟩:=hW;have hA:=hA3.ok;have hB:=hB3.ok;have hrl:=hR.len;have hrn:sb.p=none→sb.n=0:=fun e=>by have:=hR.nil e;have:=hR.cap;omega
 obtain⟨rx,hx⟩:=hX;have hxn:=hx.nd;have hX:CutsAt W s xs:=⟨rx,hx⟩;have hsmD:=cutRd_small raw;obtain⟨⟨D1,e1⟩,hre⟩:∃r,cutRd raw=r:=⟨_,rfl⟩;rw[hre]at hsmD;simp only at hsmD;refine Ac func14 J 148 ntmps14 J (.sr (.boxA J J ?_));intro n5 hn5 hf5;refine .boxA J J ?_;intro n6 hn6 hf6;refine .a J J J (.na (.seq (.sr (.cV J J J J Body28 (law19_lives) tV (.not J J J (.na (.cond_f J (rfl) (.skip (Ct (.seq (.sr (.lA J J J Y57.h J Sz57 Z1 (Cut.length zA) ?_))))))))))));refine .lA J J J Y57.h J Sz57 Z0 (Cut.length zA) ?_;refine .mkRow (z:=agg Cut.zero.cells) [agg A.cells,agg B.cells] (A.cells++B.cells) J J J Y55.h Sz57 Cut.zr J J (by intro v hv;rcases Lal.1 hv with e|e;(rw[e];exact Cut.length hA);(rw[La0.1 e];exact Cut.length hB)) dE (by simp[Value.cells]) ?_;intro q26;refine .callB J J J J Body29 (lightd_cuts ⟨some ⟨q26,0,none⟩,2,2⟩ [a,b] 2) (fun w h=>cuts_two (Ap h Z0) (hA3.ext h J) (hB3.ext h J)) (fun hs3_30=>?_) (fun hs3_30=>?_)
 ·
  have hs3_3:=hs3_30;refine .not J J J (.m J J J (.m J J J (.callB J J J J Body29 (lightd_cuts s xs 16) (fun w h=>Cuts_ext h J hX) (fun hs3_70=>?_) (fun hs3_70=>?_))))
  ·
   have hs3_7:=hs3_70;refine .not J J J (.pick J J J J J J (.m J J J (.m J J J (.callB J J J J Body29 (lightd_cuts u ys 16) (fun w h=>Cuts_ext h J hY) (fun hs3_120=>?_) (fun hs3_120=>?_)))))
   ·
    have hs3_12:=hs3_120;refine .not J J J (.pick J J J J J J (.m J J J (.m J J J (.lenSl J J J Y46.h (.gtr J J J J J (.pick J J J J J J (.na (.cond J (fun hc1=>?_) (fun hc1=>?_)))))))))
    ·
     skip;refine .sr (.a J J J (.na ?_));refine .ret (at_r (en_r ?_));refine⟨_,[],Ae J J,sP,sP,?_,rfl⟩;rfl
    have hn20:(sb.n:Int)≤2000:=by(simp at hc1;omega)
    obtain⟨ha40,hb40⟩:=light_two (a:=a) (b:=b) zA;obtain⟨hx16,hlx⟩:=light_list (ds:=xs) (m:=16) zA;refine .skip (Ct (.sr (.lA J J J Y57.h J Sz57 Z2 (Cut.length zA) ?_)));refine .call4 J J J J J Body55 (cut_bytes A a) (fun w h=>hA3.ext h J) ?_;rintro v46 out46 ⟨s46,rfl,hac46⟩;refine .m J J J (.eX J J J J (.eX J J J J (.a J J J (.a J J J (.nsr (.lA J J J Y57.h J Sz57 mR (Cut.length zA) ?_))))));refine .call4 J J J J J Body70 (r19_Bytes A a) (fun w h=>hA3.ext h J) ?_;rintro v51 out51 ⟨s51,rfl,hac51⟩;refine .m J J J (.eX J J J J (.eX J J J J (.a J J J (.a J J J (.nsr (.m J J J (.call4 J J J J J Body68 (kit_own sb raw oM) (fun w h=>bytes_ext h J hR) ?_)))))));rintro v56 out56 ⟨q56,c56,rfl,hc56,rfl⟩;refine .call4 J J J J J Body67 (cut_reads hre (some ⟨q56,0,none⟩) sb.n c56 hrl (fun e=>by cases e) oM) (fun w h=>SeesP.of (Ap h Z0)) ?_;rintro v57 out57 ⟨C57,ok57,rfl,h57⟩;refine .m J J J (.eX J J J J (.eX J J J J (.alloc (cs:=Cut.zero.cells) J Cut.zr J ?_)));intro n15 hn15 hf15;refine .sA J J J J (Cut.isCell zA) Sz57 (Cut.length zA) Z0 (Cut.length (by exact Cut.zero_ok)) zU ?_;refine .a J J J (.nsr (.m J J J (.call4 J J J J J Body71 (r19_reads hre sb.p sb.n sb.c hrl hrn oM) (fun w h=>A2 h J hR.see) ?_)));rintro v62 out62 ⟨C62,ok62,rfl,h62⟩;refine .m J J J (.eX J J J J (.eX J J J J (.alloc (cs:=Cut.zero.cells) J Cut.zr J ?_)));intro n17 hn17 hf17;refine .sA J J J J (Cut.isCell zA) Sz57 (Cut.length zA) Z0 (Cut.length (by exact Cut.zero_ok)) zU ?_;refine .a J J J (.nsr (.m J J J (.call4 J J J J J Body33 (kit_own_cuts s xs oM (fun d hd=>by have:=hlx d hd;omega)) (fun w h=>Cuts_ext h J hX) ?_)));rintro v66 out66 ⟨s66,b66,c66,rs66,rfl,rfl,q66⟩;have n66:=q66.acc.num;simp only[La8];refine .call4 J J J J J Body72 (meets_knowC (cut_heads s66 xs oM (fun d hd=>by have:=hlx d hd;omega)) heads_know) (fun w h=>⟨_,q66.seq (Lies.of h (by repeat(exact A4))) (Lies.of h (by repeat(first|exact A4|refine in_seg ?_))) oM⟩) ?_;rintro v67 out67 ⟨s67,b67,c67,rs67,rfl,rfl,q67⟩;have n67:=q67.1.acc.num;simp only[La8];refine .m J J J (.call4 J J J J J Body73 (meets_knowC (r19_heads s xs oM (fun d hd=>by have:=hlx d hd;omega)) heads_know) (fun w h=>Cuts_ext h J hX) ?_);rintro v69 out69 ⟨s69,b69,c69,rs69,rfl,rfl,q69⟩;have n69:=q69.1.acc.num;simp only[La8]
    refine .a J J J (.a J J J (.na (.seq (.sr (.m J J J (.lenSl J J J Y78 (.m J J J (.lenSl J J J Y78 (.nei J J J J (show(!decide _)=false from congrArg not (decide_eq_true oM)) (.na (.cond_f J (rfl) (.skip (Ct (.seq (.sr (.a J J J (.na (.block (.loop (ι:=Nat) (fun k=>⟨[(2,s.v),(3,u.v),(5,ptr n5 0),(6,ptr n6 0),(11,s46.v),(12,i64 a.check),(13,s51.v),(14,i64 a.check),(15,ptr n15 0),(16,i64 e1),(17,ptr n17 0),(18,i64 e1),(19,s67.v),(20,s69.v),(21,i64 (k:Int))],(b69++(c69++(b67++(c67++(⟨n17,C62.cells,57,34⟩::(out62++(⟨n15,C57.cells,57,34⟩::(out57++(out51++(out46++(⟨n6,B.cells,57,B.cells.length⟩::(⟨n5,A.cells,57,A.cells.length⟩::[]))))))))))))⟩) (fun k=>k≤s.n) (fun k=>s.n-k) (0) ?_ ?_ ?_)))))))))))))))))))
    ·exact Laj _
    ·exact An wN (Af sG (Af sG (Af sG (Af sG (Ab (by repeat(first|exact Az|apply Ce)) (Af (by repeat(first|exact sg_here|apply sg_seg)) (Ab (by repeat(first|exact Az|apply Ce)) (Af (by repeat(first|exact sg_here|apply sg_seg)) (Af sG (Af sG (Ab rM (Ab rM Ai))))))))))))
    rintro k hk;refine .seq (.sr (.m J J J (.m J J J (.lenSl J J J Y78 (.lss J J J J J (.na (.condP J (fun hc3=>?_) (fun hc3=>?_))))))))
    ·
     have hk2:k<s.n:=by omega
     obtain⟨y67,o67,r67,d,hp67,hd67,hl67,hc67,hs67⟩:=heads_at q67 (k:=k) oM;obtain⟨y69,o69,r69,d2,hp69,hd69,hl69,hc69,hs69⟩:=heads_at q69 (k:=k) oM;obtain rfl:d=d2:=by rw[hd67]at hd69;cases hd69;rfl
     obtain⟨_,_,_,d3,_,_,hd3,his3,_,_⟩:=hx.at dE hk2;obtain rfl:d3.dHeads=d:=by rw[Lan,hd3]at hd67;cases hd67;rfl
     have hrow:=his3.fHeads.row;have hl40:=hlx d3 (Lbl hd3);refine .skip (Ct (.seq (.block (.seq (.draw (oP [0,1,2,103,4,5,6,107,308,9]) Ao zK (.m J J J (.m J J J (.idxSlP 1 J J J hp67 J Y78 Sz30 k J oM (.loadS1 J J J Y30.h J (fun w h=>hc67 w (Lies.of h (by repeat(first|exact A4|refine in_seg ?_)))) ?_)))))))));refine .m J J J (.m J J J (.idxSlP 1 J J J hp69 J Y78 Sz30 k J oM (.loadS1 J J J Y30.h J (fun w h=>hc69 w (Lies.of h (by repeat(exact A4)))) ?_)));refine .cV J J J J Body23 (digs_same r67.p r69.p r67.n r69.n r67.c r69.c d3.dHeads hrow oM oM oM) (fun w h=>⟨(hs67 w (Lies.of h (by repeat(first|exact A4|refine in_seg ?_)))).see,(hs69 w (Lies.of h (by repeat(first|exact A4|refine in_seg ?_)))).see⟩) ?_;refine .not J J J (.na (.cond_f J (rfl) (.skip (bl_n (Ct (.region (.m J J J (.aI J J J J oM (.a J J J (.na ?_))))))))));exact⟨k+1,by omega,by omega,An (wk1 rfl (wk1 rfl (wk1 rfl (wk1 rfl (wk1 rfl (wk1 rfl (wk1 rfl (wk1 rfl (wk1 rfl (wk1 rfl (wk1 rfl (wk1 rfl (wk1 rfl (wk1 rfl (wk1 (by rw[Lbr];rfl) wk0))))))))))))))) (Af sG (Af sG (Af sG (Af sG (Ab rM (Af sG (Ab rM (Af sG (Af sG (Af sG (Ab rM (Ab rM Ai))))))))))))⟩
    refine .exit (at_x (at_x (bl_h (Ct (.seq (.draw (oP [0,101,2,103,4,5,6,7,8,9,10,111,112,313,14,15,16,17,18,19,20,121,123,322,324,25,26,27,128,130,329,331,32,33,34,135,136,138,139,337,340,41,42,43,144,145,346,47,48,49,50,52,53,351,354,55,56,57]) Ao zK (.m J J J (.toStr J J J Y46.h Y5.h underlying9 (fun w h=>hac46.see (Lies.of h (by repeat(first|exact A4|refine Bl ?_|refine in_seg ?_)))) (by rw[hac46.num]) ?_))))))));refine .m J J J (.toStr J J J Y46.h Y5.h underlying9 (fun w h=>hac51.see (Lies.of h (by repeat(first|exact A4|refine Bl ?_|refine in_seg ?_)))) (by rw[hac51.num]) ?_);refine .eql_str J J J J (decide_eq_true (rfl)) (.m J J J (.m J J J (.m J J J (.eqi J J J J (decide_eq_true (rfl)) (.pick J J J J J J (.m J J J (.lA J J J Y57.h J Sz57 mR (Cut.length zA) ?_)))))));refine .lA J J J Y57.h J Sz57 mR (Cut.length zA) ?_;refine .cV J J J J Body35 (kit_cut_same C57 C62 D1 oM) (fun w h=>⟨h57 w (Lies.of h (by repeat(first|exact A4|refine Bl ?_|refine in_seg ?_))),h62 w (Lies.of h (by repeat(first|exact A4|refine Bl ?_|refine in_seg ?_)))⟩) ?_;refine .pick J J J J J J (.m J J J (.m J J J (.m J J J (.eqi J J J J (decide_eq_true (rfl)) (.pick J J J J J J (.m J J J (.lA J J J Y57.h J Sz57 mR (Cut.length zA) ?_)))))));refine .lA J J J Y57.h J Sz57 mR (Cut.length zA) ?_;refine .cV J J J J Body57 (cut_check A a) (fun w h=>hA3.ext h J) (.cV J J J J Body74 (r19_Check A a) (fun w h=>hA3.ext h J) (.eqi J J J J (decide_eq_true (rfl)) (.pick J J J J J J (.m J J J (.lA J J J Y57.h J Sz57 mR (Cut.length zA) ?_)))));refine .lA J J J Y57.h J Sz57 mR (Cut.length zA) ?_;refine .cV J J J J Body56 (cut_name A a) (fun w h=>hA3.ext h J) (.cV J J J J Body69 (r19_Name A a) (fun w h=>hA3.ext h J) (.eql_bytes J J J J eqGuardType34 Y34.h Y5.h Sz5 (by(simp[cnameD_length];done)) (by(simp[cnameD_length];done)) (decide_eq_true (rfl)) ?_));refine .pick J J J J J J (.m J J J (.lA J J J Y57.h J Sz57 mR (Cut.length zA) ?_));refine .lA J J J Y57.h J Sz57 mR (Cut.length zA) ?_;refine .lA J J J Y57.h J Sz57 mR (Cut.length zA) ?_;refine .lA J J J Y57.h J Sz57 mR (Cut.length zA) ?_;refine .cV J J J J Body75 (cut_same A B a b (by rw[←hA3.fHeads.len];omega)) (fun w h=>⟨hA3.ext h J,hB3.ext h J⟩) ?_;refine .cV J J J J Body35 (kit_cut A B a b (by rw[←hA3.fHeads.len];omega)) (fun w h=>⟨hA3.ext h J,hB3.ext h J⟩) ?_;refine .eqb J J J J Y4 (decide_eq_true (rfl)) (.pick J J J J J J (.m J J J (.lA J J J Y57.h J Sz57 mR (Cut.length zA) ?_)));refine .lA J J J Y57.h J Sz57 mR (Cut.length zA) ?_;refine .cV J J J J Body75 (cut_same_self A a oM) (fun w h=>hA3.ext h J) (.pick J J J J J J (.m J J J (.m J J J (.m J J J (.m J J J (.m J J J (.cV J J J J Body48 (cut_prefix s u xs ys (fun d hd=>by have:=hlx d hd;omega)) (fun w h=>⟨Cuts_ext h J hX,Cuts_ext h J hY⟩) ?_)))))));refine .cV J J J J Body76 (r19_prefix s u xs ys (fun d hd=>by have:=hlx d hd;omega)) (fun w h=>⟨Cuts_ext h J hX,Cuts_ext h J hY⟩) ?_
    refine .eqb J J J J Y4 (decide_eq_true (rfl)) (.pick J J J J J J (.a J J J (.na ?_)));refine .ret (en_r ?_);refine⟨_,[],Ae J J,sP,sP,?_,rfl⟩;rfl
   have hs3_12:=hs3_120;refine .not J J J (.pick J J J J J J (.m J J J (.skp J J (.skp J J (.skp J J (.pick J J J J J J (.na (.cond_t J J (.sr (.a J J J (.na ?_)))))))))));refine .ret (at_r (en_r ?_));refine⟨_,[],Ae J J,sP,sP,?_,rfl⟩;rfl
  have hs3_7:=hs3_70;refine .not J J J (.pick J J J J J J (.m J J J (.skp J J (.skp J J (.skp J J (.pick J J J J J J (.m J J J (.skp J J (.skp J J (.skp J J (.pick J J J J J J (.na (.cond_t J J (.sr (.a J J J (.na ?_))))))))))))))));refine .ret (at_r (en_r ?_));refine⟨_,[],Ae J J,sP,sP,?_,rfl⟩;rfl
 have hs3_3:=hs3_30;refine .not J J J (.m J J J (.skp J J (.skp J J (.skp J J (.pick J J J J J J (.m J J J (.skp J J (.skp J J (.skp J J (.pick J J J J J J (.m J J J (.skp J J (.skp J J (.skp J J (.pick J J J J J J (.na (.cond_t J J (.sr (.a J J J (.na ?_))))))))))))))))))));refine .ret (at_r (en_r ?_));refine⟨_,[],Ae J J,sP,sP,?_,rfl⟩;rfl
end Go.Proofs.YtpogmfngccolbaaGreat
namespace Go.Proofs.YtpogmfngccolbaaGreat
open Go Go.ChangeShapes Go.WideShapes Go.ChangeAt Go.RowKit
variable{H:Type}{W:World}{b0 base:Nat}{held:Bool}{k:TypeId}{ps:List MemPlace}{r:Reach}{sp:Nat→Bool}{v:Value}{d:DataW H}{enc:TypeId×Value→H}
theorem ownCCal:ownKnob Tryz.prog.godebug=none:=by kernel_rfl
theorem laidOutCCal:laidOutB Tryz.prog=true:=by kernel_rfl
theorem openSlCCal{P:Program}{k e:TypeId}(hu:P.underlying k=some (.slice e))(he:P.underlying e=some (.int .u8))(hc:P.cellsOf e=1)
    (hval:Value.okWide P W r b0 k v) (hd:DataW.Trod enc P W base sp held k v d ps):∃s l,v=Hw.Sl.v s∧Hw.BytesAt W s l:=by
  simp only[Value.okWide,hu,Cell.okWide]at hval;obtain⟨a1,len,cap,rfl⟩:∃a1 len cap,v= .slice a1 len cap:=by
    unfold Cell.ok at hval;rw[hu]at hval;split at hval<;>first|exact hval.elim|exact⟨_,_,_,rfl⟩|simp_all
  obtain⟨fuel,hf⟩:=hd;obtain⟨s,l,h1,h2⟩:=Hw.open_bytesS hu he hc hf;refine⟨s,l,?_,h2⟩;simp[Value.cells]at h1;exact h1
theorem openSqCCalCut(hu:Tryz.prog.underlying k=some (.slice 57))(hc:Tryz.prog.cellsOf 57=34)
    (hval:Value.okWide Tryz.prog W r b0 k v) (hd:DataW.Trod enc Tryz.prog W base sp held k v d ps):∃s l,v=Hw.Sl.v s∧CutsAt W s l:=by
  simp only[Value.okWide,hu,Cell.okWide]at hval;obtain⟨a1,len,cap,rfl⟩:∃a1 len cap,v= .slice a1 len cap:=by
    unfold Cell.ok at hval;rw[hu]at hval;split at hval<;>first|exact hval.elim|exact⟨_,_,_,rfl⟩|simp_all
  obtain⟨fuel,hf⟩:=hd;obtain⟨s,l,h1,h2⟩:=Cut.openS hu hc hf;refine⟨s,l,?_,h2⟩;simp[Value.cells]at h1;exact h1
theorem walkCCal(w:World)(x0:Cut)(D0:DCut)(is0:CutIs w x0 D0)(x1:Cut)(D1:DCut)(is1:CutIs w x1 D1)(s2:Hw.Sl)(l2:List DCut)(hs2:CutsAt w s2 l2)(s3:Hw.Sl)(l3:List DCut)(hs3:CutsAt w s3 l3)(s4:Hw.Sl)(l4:List UInt8)(hs4:Hw.BytesAt w s4 l4):Calls Tryz.prog 14 #[Hw.agg x0.cells,Hw.agg x1.cells,Hw.Sl.v s2,Hw.Sl.v s3,Hw.Sl.v s4] w fun e w'=>e= .returned (.bool true)∧Below w.heap.size w w':=
  by
  have fin:∀ {us:Array Value},Calls Tryz.prog 14 us w (fun e W'=>∃v out,e= .returned v∧(v= .bool true∧out=[])∧Hw.Ret [] out w W')→Calls Tryz.prog 14 us w (fun e w'=>e= .returned (.bool true)∧Below w.heap.size w w'):=
    fun h=>h.mono fun e w' ⟨v,out,he,⟨hv,ho⟩,hr⟩=>⟨by rw[he,hv],Hw.Keeps.below hr.keeps⟩
  exact fin (law_cutcalls x0 x1 D0 D1 s2 s3 l2 l3 s4 l4 w ⟨is0,is1,hs2,hs3,hs4⟩)
theorem liftedCCal(os:Os)(started:os.Started)(H:Type)(enc:TypeId×Value→H):
    ReturnsInHanded {} Tryz.checked os 14 .any (Rows.cutCallsSpec.pre6 enc Tryz.prog Tryz.f14 Rows.cutCallsRow.domain false) (Rows.cutCallsSpec.post enc Tryz.prog Tryz.f14 false true false false):=by
  refine returnsInHanded_of_change (C:=Tryz.checked) ownCCal started (by kernel_rfl) Tryz.func14
    (ChangeSpec.witness6 (enc:=enc) (C:=Tryz.checked) false ⟨#[], #[.agg (#[.int .u64 0]++Array.replicate 32 (.int .u8 0)++ #[.slice none 0 0]), .agg (#[.int .u64 0]++Array.replicate 32 (.int .u8 0)++ #[.slice none 0 0]), .slice none 0 0, .slice none 0 0, .slice none 0 0],[]⟩ 8 (by kernel_rfl) (by kernel_rfl) (by kernel_rfl) (by kernel_rfl)) ?_
  intro W base args ds gs before hval0 hW hcnd _;have hval:∀(j:Nat) t v,Tryz.f14.params[j]? =some t→args[j]? =some v→Value.okWide Tryz.prog W .any base t v:=hval0;have hW':=hW;obtain⟨p,q,hA0,hV,rfl,hfz,hnd⟩:=hW;have hA:DataW.TrodAll enc Tryz.prog W 0 (fun _=>true) true Tryz.f14.params.toList args.toList ds p:=hA0;rw[Tryz.params14]at hA hval;obtain⟨v0,vs0,d0,ds0,p0,q0,hargs,rfl,rfl,h0,r0⟩:=trodAll_cons hA;obtain⟨v1,vs1,d1,ds1,p1,q1,rfl,rfl,rfl,h1,r1⟩:=trodAll_cons r0;obtain⟨v2,vs2,d2,ds2,p2,q2,rfl,rfl,rfl,h2,r2⟩:=trodAll_cons r1;obtain⟨v3,vs3,d3,ds3,p3,q3,rfl,rfl,rfl,h3,r3⟩:=trodAll_cons r2;obtain⟨v4,vs4,d4,ds4,p4,q4,rfl,rfl,rfl,h4,r4⟩:=trodAll_cons r3;obtain⟨rfl,rfl,rfl⟩:=trodAll_nil r4;obtain rfl:args= #[v0,v1,v2,v3,v4]:=by cases args;simp_all
  obtain⟨rfl,rfl⟩:=trodVars_none hV;have k0:=h0;have lt0:∀x∈p0,x.block<W.heap.size:=by obtain⟨m,hm⟩:=k0;exact DataW.trod_lt m _ _ _ hm
  have k1:=h1;have lt1:∀x∈p1,x.block<W.heap.size:=by obtain⟨m,hm⟩:=k1;exact DataW.trod_lt m _ _ _ hm
  have k2:=h2;have lt2:∀x∈p2,x.block<W.heap.size:=by obtain⟨m,hm⟩:=k2;exact DataW.trod_lt m _ _ _ hm
  have k3:=h3;have lt3:∀x∈p3,x.block<W.heap.size:=by obtain⟨m,hm⟩:=k3;exact DataW.trod_lt m _ _ _ hm
  have k4:=h4;have lt4:∀x∈p4,x.block<W.heap.size:=by obtain⟨m,hm⟩:=k4;exact DataW.trod_lt m _ _ _ hm
  obtain⟨x0,D0,rfl,is0⟩:=Cut.openW (hval 0 57 v0 rfl rfl) h0;obtain⟨x1,D1,rfl,is1⟩:=Cut.openW (hval 1 57 v1 rfl rfl) h1;obtain⟨s2,l2,rfl,hs2⟩:=openSqCCalCut Tryz.underlying55 (by kernel_rfl) (hval 2 55 v2 rfl rfl) h2;obtain⟨s3,l3,rfl,hs3⟩:=openSqCCalCut Tryz.underlying55 (by kernel_rfl) (hval 3 55 v3 rfl rfl) h3;obtain⟨s4,l4,rfl,hs4⟩:=openSlCCal Tryz.underlying46 Tryz.underlying5 (by kernel_rfl) (hval 4 46 v4 rfl rfl) h4;clear hA0 hval0;refine(walkCCal W x0 D0 is0 x1 D1 is1 s2 l2 hs2 s3 l3 hs3 s4 l4 hs4).mono fun e W' ⟨he,bel⟩=>?_;subst he;exact⟨_,rfl,_,_,_,[],_,[],hW',trodAll_mk1 (shut_bool Tryz.underlying4 _),(trodAll_cons_mk (Below.trod laidOutCCal (by kernel_rfl) (of_decide_eq_true (by kernel_rfl)) k0 bel lt0) (trodAll_cons_mk (Below.trod laidOutCCal (by kernel_rfl) (of_decide_eq_true (by kernel_rfl)) k1 bel lt1) (trodAll_cons_mk (Below.trod laidOutCCal (by kernel_rfl) (of_decide_eq_true (by kernel_rfl)) k2 bel lt2) (trodAll_cons_mk (Below.trod laidOutCCal (by kernel_rfl) (of_decide_eq_true (by kernel_rfl)) k3 bel lt3) (trodAll_cons_mk (Below.trod laidOutCCal (by kernel_rfl) (of_decide_eq_true (by kernel_rfl)) k4 bel lt4) trodAll_mk0))))),rfl,bel.frame _,fun h=>by cases h⟩
theorem cutCalls_holds:Rows.CutCallsSaid:=
  OpenClaim.holds_of_wide 14 Tryz.f14 rfl rfl rfl rfl rfl rfl rfl ⟨rfl,rfl,rfl,rfl,rfl⟩ rfl rfl rfl rfl rfl (by kernel_rfl) Tryz.func14 closedCCal
    (of_decide_eq_true (by kernel_rfl)) (by unfold Func.isWrapper;first|(rw[if_pos (by decide+kernel)];kernel_rfl)|(rw[if_neg (by decide+kernel)];exact⟨rfl,rfl⟩))
    (fun os started H enc _=>liftedCCal os started H enc)
end Go.Proofs.YtpogmfngccolbaaGreat
end
