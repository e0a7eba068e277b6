/- headwaterlaw17.LinearSorts returns true at every input, and all that it reads reads behind the call as before. Conditions: none beyond the given statement's own. -/
import Derived.WalkKit
import Derived.Orders
import Derived.Deep.LoopGhost
import Derived.IntWalk
import Derived.Laws.StructEq
import Derived.ArgAppend
import Derived.Deep.AppendSrc
import Derived.Lib.Bytealg
import Derived.Lib.BytesEntry
import Derived.Laws.IdiomStrings
import Derived.WideKeyArr2
import Derived.ProofKit
import Derived.OpenShut
import Derived.Deep.Slices
import Derived.Laws.Pointers
import Derived.Laws.Cover3
import Derived.LaidEqlPtr
import Derived.LoopN
import Derived.RangeFuncLeaves
import Derived.RangeFuncSeq
import Derived.OrdersIn
import Derived.Maps.Keyed
import Derived.Maps.RangeRun
import Derived.DeepKeys4
import Derived.Below
import Derived.Test.YtpogmfngccolbaaGreatRows
import Derived.KernelRfl
import Derived.Laws.Externs
import Derived.Defers
import Derived.Laws.MathBits
import Derived.Shelf.SlSortCmp.WholeK
import Derived.Shelf.SlGeneric
import Derived.Test.YtpogmfngccolbaaGreatProg
import Derived.Shelf.SlSortCmp.NoneTotal
import Derived.Deep.QuietTactic
import Derived.BigQuiet
import Derived.ScopeJumps
import Derived.DeepKeys3
import Derived.ChangeOld
import Derived.JoinedOf
import Derived.Test.YtpogmfngccolbaaGreatLSrX6
set_option maxRecDepth 100000
set_option maxHeartbeats 8000000
set_option linter.unusedVariables false
set_option linter.unusedSimpArgs false
set_option linter.unusedSectionVars false
set_option linter.unnecessarySimpa false
section
namespace Go.Proofs.YtpogmfngccolbaaGreat
open Go Hw _root_.Go.Proofs.Tryz
abbrev RE:=RKn×DB
def rkc(l:List RE):List Value:=(l.map fun e=>e.1.cells).flatten
def rp(l:List RE):List (List UInt8×DB):=l.map fun e=>(e.1.fName,e.2)
def rkN(n:List UInt8)(e:RE):Bool:=decide (e.1.fName=n)
variable{W w:World}{b i k o p:Nat}{e:RE}{l:List RE}{n:List UInt8}{α:Type}
theorem rkc_len(h:∀e∈l,e.1.ok):(rkc l).length=l.length*163:=by
  induction l with
  |nil=>rfl
  | cons a l ih=>
    have h1:rkc (a::l)=a.1.cells++rkc l:=rfl;rw[h1,La2,RKn.length (h a La8),ih fun e he=>h e (Lae _ he),Lb5];omega
theorem rkc_app(a b:List RE):rkc (a++b)=rkc a++rkc b:=by simp[rkc]
theorem rkc_one(e:RE):rkc [e]=e.1.cells:=by simp[rkc]
theorem rkc_cell(h:∀e∈l,e.1.ok):∀u∈rkc l,isCell u=true:=fun u hu=>by
  obtain⟨c,hc,h1⟩:=List.mem_flatten.1 hu;obtain⟨e,he,rfl⟩:=La6.1 hc;exact RKn.isCell (h e he) u h1
theorem rk_at(h:C5 w b o (rkc l))(hok:∀e∈l,e.1.ok)(he:l[k]? =some e):C5 w b (o+k*163) e.1.cells:=fun j v hj=>by
  have hlt:=(Lab.1 hj).1;have h1:=flat_get (m:=163) (fun c hc=>by obtain⟨a,ha,rfl⟩:=La6.1 hc;exact RKn.length (hok a ha)) (show(l.map fun e=>e.1.cells)[k]? =some e.1.cells by rw[Lal,he];rfl) hlt;have h2:=h (k*163+j) v (by unfold rkc;rw[h1];exact hj);rwa[←Lcr]at h2
theorem rk_name(h:C5 w b o (rkc l))(hok:∀e∈l,e.1.ok)(he:l[k]? =some e):C5 w b (o+k*163) (Aa e.1.fName):=fun j v hj=>by
  have h1:=rk_at h hok he j v (by have h2:=RKn.see_fName (hok e (Lay he)) j v hj;rwa[Laz]at h2);exact h1
theorem rk_blk(h:C5 w b o (rkc l))(hok:∀e∈l,e.1.ok)(he:l[k]? =some e):C5 w b (o+k*163+32) e.1.fBlock.cells:=fun j v hj=>by
  have h1:=rk_at h hok he (32+j) v (RKn.see_fBlock (hok e (Lay he)) j v hj);rwa[←Lcr]at h1
theorem rk_wr(h:C5 w b o (rkc l))(hok:∀e∈l,e.1.ok)(he:l[k]? =some e):C5 w b (o+k*163+32) (Aa e.1.fBlock.fWriter):=fun j v hj=>by
  have h1:=rk_blk h hok he j v (by have h2:=Block.see_fWriter (hok e (Lay he)).o_fBlock j v hj;rwa[Laz]at h2);exact h1
theorem rk_seq(h:C5 w b o (rkc l))(hok:∀e∈l,e.1.ok)(he:l[k]? =some e):w.cell? ⟨b,o+k*163+32+32,none⟩=some (u64 e.1.fBlock.fSeq):=
  rk_blk h hok he 32 _ (Block.get_fSeq (hok e (Lay he)).o_fBlock)
theorem rp_any(l:List RE)(n:List UInt8):l.any (rkN n)=(An (rp l) n).isSome:=by
  unfold An rp;rw[Lfd,List.find?_map,Lfd,Lfb,Lct,List.find?_isSome];exact Iff.rfl
theorem rd_found(l:List RE)(n:List UInt8):(fstBad (rkN n) l= -1∧An (rp l) n=none)∨∃(k:Nat) (e:RE),fstBad (rkN n) l=(k:Int)∧l[k]? =some e∧e.1.fName=n∧An (rp l) n=some e.2:=by
  cases ha:l.any (rkN n)with
  | false=>
    refine .inl ⟨if_neg (by rw[ha];decide),?_⟩;have h1:=rp_any l n;rw[ha]at h1;exact Option.isNone_iff_eq_none.1 (by rw[←Option.not_isSome,←h1];rfl)
  | true=>
    have hlt:l.findIdx (rkN n)<l.length:=List.findIdx_lt_length_of_exists (Lct.1 ha);have hp:rkN n l[l.findIdx (rkN n)]=true:=List.findIdx_getElem;refine .inr ⟨l.findIdx (rkN n),l[l.findIdx (rkN n)],if_pos ha,La3 hlt,of_decide_eq_true hp,?_⟩;unfold An rp;rw[List.find?_map,show List.find? ((fun p:List UInt8×DB=>decide (p.1=n))∘fun e:RE=>(e.1.fName,e.2)) l=some l[l.findIdx (rkN n)]from Ld7.2 ⟨hp,_,hlt,rfl,fun j hj=>by
      have h2:rkN n l[j]=false:=List.not_of_lt_findIdx hj;rw[show((fun p:List UInt8×DB=>decide (p.1=n))∘fun e:RE=>(e.1.fName,e.2)) l[j]=rkN n l[j]from rfl,h2];rfl⟩]
    rfl
theorem rd_hit(h:0≤fstBad (rkN n) l):∃(k:Nat) (e:RE),fstBad (rkN n) l=(k:Int)∧l[k]? =some e∧e.1.fName=n∧An (rp l) n=some e.2:=by
  rcases rd_found l n with ⟨h1,_⟩|h1
  ·omega
  ·exact h1
theorem rd_no(h:¬0≤fstBad (rkN n) l):An (rp l) n=none:=by
  rcases rd_found l n with ⟨_,h1⟩|⟨k,e,h1,_⟩
  ·exact h1
  ·omega
structure RD where
  sL:Sl
  bL:List Blk
  L:List RE
  sO:Sl
  bO:List Blk
  O:List RE
  cb:List Blk
def RD.blks(x:RD)(p:Nat):List Blk:=⟨p,[x.sL.v,x.sO.v],109,2⟩::(x.bL++(x.bO++x.cb))
structure RD.ok(x:RD):Prop where
  accL:Hw.Acc x.sL x.bL (rkc x.L) 111 x.L.length 163
  accO:Hw.Acc x.sO x.bO (rkc x.O) 111 x.O.length 163
  entL:∀e∈x.L,e.1.ok∧Held x.cb e.1.fBlock e.2∧e.2.ls.length≤16
  entO:∀e∈x.O,e.1.ok∧Held x.cb e.1.fBlock e.2∧e.2.ls.length≤16
  big:x.L.length+x.O.length≤20000
  few:x.O.length≤64
def RD.P(x:RD):List (List UInt8×DB):=rp x.L
def RD.Q(x:RD):List (List UInt8×DB):=rp x.O
theorem rd_L{x:RD}(h:Lies (x.blks p) W):W.cell? ⟨p,0,none⟩=some x.sL.v:=(h _ La8).cell (o:=0) rfl
theorem rd_seeL{x:RD}(hx:x.ok)(h:Lies (x.blks p) W):SeesP W x.sL.p (rkc x.L):=hx.accL.see fun b hb=>h b (Lae _ (Lag _ hb))
theorem rd_cb{x:RD}(h:Lies (x.blks p) W):Lies x.cb W:=fun b hb=>h b (Lae _ (Lat _ (Lat _ hb)))
theorem RD.ok.okL{x:RD}(h:x.ok):∀e∈x.L,e.1.ok:=fun e he=>(h.entL e he).1
theorem RD.ok.okO{x:RD}(h:x.ok):∀e∈x.O,e.1.ok:=fun e he=>(h.entO e he).1
theorem rd_open{s:Sl}(h:SeesP W s.p (rkc l))(hok:∀e∈l,e.1.ok)(hk:k<l.length):∃b o,s.p=some ⟨b,o,none⟩∧C5 W b o (rkc l):=h.at (by rw[rkc_len hok];omega)
theorem u64_dec(a b:UInt64):decide ((a.toNat:Int)=(b.toNat:Int))=decide (a=b):=by
  by_cases h:a=b
  ·rw[h];simp
  ·rw[decide_eq_false h,decide_eq_false (fun e=>h (Lbl.1 oM))]
theorem r15_parA(B:Block)(D:DB)(hn:D.ls.length≤500000):Meets prog 27 [agg B.cells] [] (fun W=>BlockIs W B D) (RowA (Bk D)):=fun W hW=>by
  have e1:=hW.ls.len;have hsq:=hW.seq;have hL:=parL_row hW.dok;by_cases hs:(B.fSeq.toNat:Int)=0
  · have hp:Bk D=D.ls:=if_pos (by rw[←hsq];exact Lbl.1 (by show B.fSeq.toNat=0;omega))
    rw[hp]at hL ⊢;by_cases h0:B.fLinks.n=0
    · have hl0:D.ls=[]:=Laf oM
      exact(r15_parents_nil B hW.ok D.ls oM hs h0 W hW.ls).mono fun e W' ⟨v,out,h1,⟨h2,h3⟩,h4⟩=>⟨v,out,h1,⟨Sl.nil,h2,by rw[hl0,h3];exact Acc.none⟩,h4⟩
    ·exact(r15_parents_0 B hW.ok D.ls oM hs oM W hW.ls).mono fun e W' ⟨v,out,h1,h2,h4⟩=>⟨v,out,h1,fresh_rowA hL e1 h2,h4⟩
  · have hp:Bk D=D.prev::D.ls:=if_neg (fun e=>hs (by rw[hsq,e];rfl))
    rw[hp]at hL ⊢;rw[←hW.prev]at hL ⊢;exact(r15_parents_s B hW.ok D.ls oM hs W hW.ls).mono fun e W' ⟨v,out,h1,h2,h4⟩=>⟨v,out,h1,fresh_rowA hL (by rw[Lb5];omega) h2,h4⟩
theorem rd_new  :Meets prog 40 [] [] (fun _=>True) (fun v out=>∃p,v=ptr p 0∧out=(⟨Sl.nil,[],[],Sl.nil,[],[],[]⟩:RD).blks p):=by
 intro W hW;refine Ad func40 J 3 ntmps40 J (G7 ?_);refine .build (cs:=[.slice none 0 0, .slice none 0 0]) J J J (fun w=>by kernel_rfl) ?_;refine G1 ?_;intro n2 hn2 hf2;refine G3 ?_;refine G2 ?_;refine Aw (out:=(⟨n2,[.slice none 0 0, .slice none 0 0],109,2⟩::[])) (Ag J J) (Ab rM Ae) ?_;exact⟨n2,rfl,rfl⟩
theorem rd_find(s:Sl)(l:List RE)(hl:l.length=s.n)(hok:∀e∈l,e.1.ok)(hb:s.n≤100000)(n:List UInt8)(h32:n.length=32):Mv 84 [s.v,agg (Aa n)] (fun W=>SeesP W s.p (rkc l)) (i64 (fstBad (rkN n) l)):=by
 intro W hW;have h32k:True:=trivial;refine Ad func84 J 20 ntmps84 J (.sr (.boxA J J ?_));intro n3 hn3 hf3;refine .a J J J (.na (.seq (.sr (.a J J J (.na (.block (.loop (ι:=Nat) (fun k=>⟨[(0,s.v),(3,ptr n3 0),(5,i64 (k:Int))],[⟨n3,Aa n,34,(Aa n).length⟩]⟩) (fun k=>k≤s.n∧∀j,j<k→(l.map (rkN n))[j]? =some false) (fun k=>s.n-k) (0) ?_ ?_ ?_)))))))
 ·exact⟨by omega,fun j hj=>by omega⟩
 ·exact Af wN (wh1 Z0 wh0) nD
 rintro k ⟨hk,hg⟩;refine .seq (.sr (.m J J J (.m J J J (.lenSl J J J C2 (.lss J J J J J (.na (.condP J (fun hc0=>?_) (fun hc0=>?_))))))))
 ·
  have hk2:k<l.length:=by omega
  obtain⟨b,o,hbp,hbs⟩:=rd_open hW hok hk2;obtain⟨e,hd⟩:∃e,l[k]? =some e:=⟨_,La3 hk2⟩;have h32k:e.1.fName.length=32:=(hok e (Lay hd)).l_fName;refine .skip (Bl (.seq (.block (.seq (.draw (oP [0,1,2,3,104,105,6]) Aq zK (.m J J J (.m J J J (.idxSlP 163 J J J hbp J C2 Sz111 k (by rfl) oM ?_))))))));refine .fld J J J underlying111 J Sz34 dE _ J (.loadEN (Aa e.1.fName) J J J Y34.h J Sz34 sP (by rw[Aa,La0];exact h32k) (rk_name hbs hok hd) ?_);refine .lA J J J Y34.h J Sz34 Z0 (by(simp[h32];done)) ?_;refine .eql_bytes J J J J eqGuardType34 Y34.h Y5.h Sz5 (by(simp[h32k];done)) (by(simp[h32];done)) J ?_;refine .na (.condP J (fun hc1=>?_) (fun hc1=>?_))
  ·
   refine .sr (.m J J J (.a J J J (.na ?_)));refine .ret (bl_r (at_r (at_r (bl_r (at_r (C8 ?_))))));refine⟨_,[],Ag J J,sP,sP,?_,rfl⟩;exact congrArg i64 (fstBad_at hg (by rw[Lal,hd];simpa[rkN]using hc1)).symm
  refine .skip (bl_n (Bl (.region (.m J J J (.aI J J J J oM (.a J J J (.na ?_)))))));exact⟨k+1,⟨by omega,fun j hj=>by rcases Lc4.1 hj with h|rfl;exact hg j h;rw[Lal,hd];simpa[rkN]using hc1⟩,by omega,Af wN (wh1 Z0 wh0) nD⟩
 obtain rfl:k=s.n:=by omega
 refine .exit (at_x (at_x (bl_h (Bl (.sr (.a J J J (.na ?_)))))));refine .ret (C8 ?_);refine⟨_,[],Ag J J,sP,sP,?_,rfl⟩;exact congrArg i64 (fstBad_none (by intro j hj;exact hg j (by rw[hl]at hj;exact hj))).symm
theorem rd_has(x:RD)(hx:x.ok)(p:Nat)(n:List UInt8)(h32:n.length=32):Mv 104 [ptr p 0,agg (Aa n)] (fun W=>Lies (x.blks p) W) (.bool (An x.P n).isSome):=by
 intro W hW;have hbig:=hx.big;have hnL:=hx.accL.num;have hnO:=hx.accO.num;have hcL:=rd_L hW;have hsL:=rd_seeL hx hW;refine Ad func104 J 12 ntmps104 J (.sr (.boxA J J ?_));intro n3 hn3 hf3;refine .a J J J (.na (.seq (.draw (oP [0,1,2,103,104,305,6,7]) Aq zK (.m J J J (.nC J J J (.fld J J J Y109 J Sz107 dE _ J (.loadE J J J C2 J sP (hcL) (.lA J J J Y34.h J Sz34 Z0 (by(simp[h32];done)) ?_))))))));refine .cV J J J J Body84 (rd_find x.sL x.L hnL.symm hx.okL oM n h32) (fun w h=>A7 h J hsL) (.geq J J J J J (.a J J J (.na ?_)));refine .ret (C8 ?_);refine⟨_,[],Ag J J,sP,sP,?_,rfl⟩;exact congrArg Value.bool ((fstBad_ge _ _).trans (rp_any _ _))
theorem rd_wrong(x:RD)(hx:x.ok)(p:Nat)(B:Block)(D:DB)(hB:SameB B D):Mv 106 [ptr p 0,agg B.cells] (fun W=>Lies (x.blks p) W) (.bool (wrongB x.P D)):=by
  intro W hW;have hbig:=hx.big;have hnL:=hx.accL.num;have hnO:=hx.accO.num;have hcL:=rd_L hW;have hsL:=rd_seeL hx hW;refine Ad func106 J 49 ntmps106 J (.sr (.boxA J J ?_));intro n3 hn3 hf3;refine .a J J J (.na (.seq (.draw (oP [0,1,2,103,4,105,306,7]) Aq zK (.m J J J (.nC J J J (.fld J J J Y109 J Sz107 dE _ J (.loadE J J J C2 J sP (hcL) (.fld J J J Y50.h J Sz34 dE _ J (.lN (Aa _) J J J Y34.h J Sz34 Z0 (Block.row_fPrev (by exact hB.ok)) (Block.rl_fPrev (by exact hB.ok)) ?_)))))))));refine .cV J J J J Body84 (rd_find x.sL x.L hnL.symm hx.okL oM B.fPrev hB.ok.l_fPrev) (fun w h=>A7 h J hsL) (.a J J J (.na (.seq (.draw (oP [0,101,2,3,4,5,6,7,8,9,10,111,12,13,14,15,116,17,118,19,20,21,22,23,124,25,26,27,28,129,30,131,32,33,34,35,36]) Aq zK (.fld J J J Y50.h J Sz45 dE _ J (.load1 J J J Y45.h J Z0 (by exact Block.get_fSeq (by exact hB.ok)) ?_))))));refine two (fun r hr k=>Tr.gtr J J J J hr k) (fun hs2_20=>?_) (fun hs2_20=>?_)
  ·
    have hs2_2:=of_decide_eq_true hs2_20;refine .m J J J (.m J J J (two (fun r hr k=>Tr.geq J J J J hr k) (fun hs2_50=>?_) (fun hs2_50=>?_)))
    ·
      have hs2_5:=of_decide_eq_true hs2_50;obtain⟨k,e,hf,hk,hn,hm⟩:=rd_hit hs2_5;rw[hB.prev]at hm;have hek:=hx.entL e (Lay hk);have hel:=hek.1.o_fBlock.l_fWriter;have hkl:=(Lab.1 hk).1;obtain⟨b,o,hbp,hbs⟩:=rd_open hsL hx.okL hkl;refine .pick J J J J J J (.m J J J (.m J J J (.nC J J J (.fld J J J Y109 J Sz107 dE _ J (.loadE J J J C2 J sP (hcL) (.m J J J (.idxSlP 163 J J J hbp J C2 Sz111 k oM oM (.fld J J J underlying111 J Sz50 dE _ J (.fld J J J Y50.h J Sz44 dE _ J (.loadEN (Aa e.1.fBlock.fWriter) J J J Y44.h J Sz44 sP (by rw[Aa,La0];exact hel) (rk_wr hbs hx.okL hk) ?_))))))))));refine .fld J J J Y50.h J Sz44 dE _ J (.lN (Aa _) J J J Y44.h J Sz44 Z0 (Block.row_fWriter (by exact hB.ok)) (Block.rl_fWriter (by exact hB.ok)) ?_);refine two (fun r hr k=>Tr.neq_bytes J J J J eqGuardType44 Y44.h Y5.h Sz5 zA (by(simp[hB.ok.l_fWriter];done)) hr k) (fun hs2_190=>?_) (fun hs2_190=>?_)
      ·
        have hs2_19:=nd_t hs2_190;refine .m J J J (.skp J J (.skp J J (.skp J J (.skp J J (.skp J J (.skp J J (.skp J J (.skp J J (.skp J J (.skp J J (.skp J J (.skp J J (.skp J J (.pick J J J J J J (.pick J J J J J J (.a J J J (.na ?_)))))))))))))))));refine .ret (C8 ?_);refine⟨_,[],Ag J J,sP,sP,?_,rfl⟩;rw[show x.P=rp x.L from rfl];first
          |(simp[wrong_none hm];done)
          |(simp[wrong_seq (show D.seq=0 by rw[←hB.seq];exact u64_eq (b:=0) (by have h9:((0:UInt64).toNat:Int)=0:=rfl;omega))];done)
          | (have hsq:D.seq≠0:=fun h=>by rw[hB.seq,h]at hs2_2;simp at hs2_2
             rw[wrong_some hsq hm,←hek.2.1.1.w,←hek.2.1.1.seq,←hB.w,←hB.seq];simp[hs2_19])
      have hs2_19:=nd_f hs2_190;refine .m J J J (.m J J J (.nC J J J (.fld J J J Y109 J Sz107 dE _ J (.loadE J J J C2 J sP (hcL) (.m J J J (.idxSlP 163 J J J hbp J C2 Sz111 k oM oM (.fld J J J underlying111 J Sz50 dE _ J (.fld J J J Y50.h J Sz45 dE _ J (.loadE J J J Y45.h J sP (rk_seq hbs hx.okL hk) (.fld J J J Y50.h J Sz45 dE _ J (.load1 J J J Y45.h J Z0 (by exact Block.get_fSeq (by exact hB.ok)) ?_)))))))))));refine .sub_u64 J J J (show Ai _ _=some (u64 1)from rfl) (.nei J J J J J (.pick J J J J J J (.pick J J J J J J (.a J J J (.na ?_)))));refine .ret (C8 ?_);refine⟨_,[],Ag J J,sP,sP,?_,rfl⟩;rw[show x.P=rp x.L from rfl];first
        |(simp[wrong_none hm];done)
        |(simp[wrong_seq (show D.seq=0 by rw[←hB.seq];exact u64_eq (b:=0) (by have h9:((0:UInt64).toNat:Int)=0:=rfl;omega))];done)
        | (have hsq:D.seq≠0:=fun h=>by rw[hB.seq,h]at hs2_2;simp at hs2_2
           rw[wrong_some hsq hm,←hek.2.1.1.w,←hek.2.1.1.seq,←hB.w,←hB.seq];simp[hs2_19,u64_dec])
    have hs2_5:=of_decide_eq_false hs2_50;have hm:=rd_no hs2_5;rw[hB.prev]at hm;refine .pick J J J J J J (.m J J J (.skp J J (.skp J J (.skp J J (.skp J J (.skp J J (.skp J J (.skp J J (.skp J J (.skp J J (.skp J J (.skp J J (.skp J J (.skp J J (.skp J J (.skp J J (.skp J J (.skp J J (.skp J J (.skp J J (.skp J J (.skp J J (.skp J J (.skp J J (.skp J J (.skp J J (.skp J J (.skp J J (.pick J J J J J J (.a J J J (.na ?_)))))))))))))))))))))))))))))));refine .ret (C8 ?_);refine⟨_,[],Ag J J,sP,sP,?_,rfl⟩;rw[show x.P=rp x.L from rfl];first
      |(simp[wrong_none hm];done)
      |(simp[wrong_seq (show D.seq=0 by rw[←hB.seq];exact u64_eq (b:=0) (by have h9:((0:UInt64).toNat:Int)=0:=rfl;omega))];done)
      | (have hsq:D.seq≠0:=fun h=>by rw[hB.seq,h]at hs2_2;simp at hs2_2
         rw[wrong_some hsq hm,←hek.2.1.1.w,←hek.2.1.1.seq,←hB.w,←hB.seq];simp[hs2_19,u64_dec])
  have hs2_2:=of_decide_eq_false hs2_20;refine .m J J J (.skp J J (.skp J J (.pick J J J J J J (.m J J J (.skp J J (.skp J J (.skp J J (.skp J J (.skp J J (.skp J J (.skp J J (.skp J J (.skp J J (.skp J J (.skp J J (.skp J J (.skp J J (.skp J J (.skp J J (.skp J J (.skp J J (.skp J J (.skp J J (.skp J J (.skp J J (.skp J J (.skp J J (.skp J J (.skp J J (.skp J J (.skp J J (.pick J J J J J J (.a J J J (.na ?_))))))))))))))))))))))))))))))))));refine .ret (C8 ?_);refine⟨_,[],Ag J J,sP,sP,?_,rfl⟩;rw[show x.P=rp x.L from rfl];first
    |(simp[wrong_none hm];done)
    |(simp[wrong_seq (show D.seq=0 by rw[←hB.seq];exact u64_eq (b:=0) (by have h9:((0:UInt64).toNat:Int)=0:=rfl;omega))];done)
    | (have hsq:D.seq≠0:=fun h=>by rw[hB.seq,h]at hs2_2;simp at hs2_2
       rw[wrong_some hsq hm,←hek.2.1.1.w,←hek.2.1.1.seq,←hB.w,←hB.seq];simp[hs2_19,u64_dec])
theorem rd_ready(x:RD)(hx:x.ok)(p:Nat)(B:Block)(D:DB)(hB:SameB B D)(hs:D.ls.length≤16):Mv 107 [ptr p 0,agg B.cells] (fun W=>Lies (x.blks p) W∧BlockIs W B D) (.bool (readyB x.P D)):=by
 intro W hW;have hbig:=hx.big;have hnL:=hx.accL.num;have hnO:=hx.accO.num;have hcL:=rd_L hW.1;have hsL:=rd_seeL hx hW.1;have h32k:True:=trivial;have hprow:=parL_row hW.2.dok;have hpl:=parL_len D;refine Ad func107 J 22 ntmps107 J (G3 ?_);intro n3 hn3 hf3;refine G5 ?_;refine .lA J J J Y50.h J Sz50 Z0 (Block.length (by exact hB.ok)) ?_;refine .call4 J J J J J Body27 (r15_parA B D oM) (fun w h=>hW.2.ext h J) ?_;rintro v8 out8 ⟨s8,rfl,hac8⟩;have hn8:=hac8.num;refine G10 ?_;refine .loop (ι:=Nat) (fun k=>⟨[(0,ptr p 0),(5,s8.v),(6,i64 (k:Int))],(out8++[])⟩) (fun k=>k≤s8.n∧∀j,j<k→(An x.P ((Bk D).getD j [])).isSome=true) (fun k=>s8.n-k) (0) ?_ ?_ ?_
 ·exact⟨Lar _,fun j hj=>absurd hj (Ldv _)⟩
 ·exact Ah wN (Ac sG Ae)
 rintro k ⟨hk,hg⟩;refine G9 ?_;refine .condP J (fun hc0=>?_) (fun hc0=>?_)
 ·
  have hk2:k<(Bk D).length:=by omega
  have h32k:((Bk D).getD k []).length=32:=hprow _ (getD_mem2 hk2);refine G9 ?_;obtain⟨b8,o8,hp8,see8⟩:=par_open hac8 oM hprow;refine .idxSlP 32 J J J hp8 J Y30.h Sz34 k J oM (.loadSN (n:=32) (Aa ((Bk D).getD k [])) J J J Y34.h J Sz34 (by rw[Aa,La0];exact h32k) (fun w h=>see8 w (Lies.of h (by repeat(exact Ax))) k oM) ?_);refine .cV J J J J Body104 (rd_has x hx p ((Bk D).getD k []) h32k) (fun w h=>B9 hW.1 h) (G3 ?_);refine .cond J (fun hc1=>?_) (fun hc1=>?_)
  ·
   refine G5 ?_;refine G7 ?_;refine Aw (out:=[]) (Ag J J) Ae ?_;refine⟨congrArg Value.bool (Eq.symm ?_),rfl⟩;unfold readyB;exact Lgq.2 ⟨_,getD_mem2 (show k<(Bk D).length by omega),by simpa using hc1⟩
  refine G9 ?_;exact⟨k+1,⟨by omega,fun j hj=>by rcases Lc4.1 hj with h|rfl;exact hg j h;simpa using hc1⟩,by omega,Ah wN (Ac sG Ae)⟩
 obtain rfl:k=s8.n:=by omega
 refine G10 ?_;refine G2 ?_;refine Aw (out:=[]) (Ag J J) Ae ?_;refine⟨congrArg Value.bool (Eq.symm ?_),rfl⟩;unfold readyB;refine Lbn.2 fun n hn=>?_;obtain⟨j,hj,rfl⟩:=Lc7 hn;have h9:=hg j oM;rwa[La4,La3 hj]at h9
structure RRel(X:PD)(P Q:List (List UInt8×DB)):Prop where
  p:P=X.P
  q:Q.Perm X.orp
  s:SortB (Q.map (·.1))
theorem drop_get{l:List α}{a:α}(h:l[i]? =some a):l.drop i=a::l.drop (i+1):=by
  obtain⟨h1,h2⟩:=Lab.1 h;rw[←h2];exact Lbj h1
theorem perm_erase{l:List α}(h:i<l.length):(l[i]::l.eraseIdx i).Perm l:=by
  have e:l=l.take i++l[i]::l.drop (i+1):=by rw[←Lbj h,Lbp]
  rw[Ld3];refine Lcw.symm.trans ?_;exact List.Perm.of_eq e.symm
theorem mdel_perm{κ ν:Type}[DecidableEq κ]{fs:List (κ×ν)}{k:κ}{v:ν}(hn:(fs.map (·.1)).Nodup)(h:(k,v)∈fs):fs.Perm ((k,v)::mdel fs k):=by
  have hi:∃j,midx fs k=some j:=by
    cases hi:midx fs k with
    |some j=>exact⟨j,rfl⟩
    | none=>
      exfalso;unfold midx at hi;have h9:=Ldc.1 hi _ h;simp at h9
  obtain⟨j,hj⟩:=hi;have h2:mdel fs k=fs.eraseIdx j:=by unfold mdel;rw[hj]
  unfold midx at hj;rw[Lbq]at hj;obtain⟨hl,he,_⟩:=hj;have h3:fs[j]=(k,v):=nodup_inj (f:=fun p:κ×ν=>p.1) hn _ (Lcn hl) _ h (of_decide_eq_true he);rw[h2,←h3];exact(perm_erase hl).symm
section
variable{X:PD}{P Q:List (List UInt8×DB)}{i:Nat}{n:List UInt8}{D:DB}
variable{l:List RE}
theorem RRel.keys(h:RRel X P Q):Q.map (·.1)=isort (X.orp.map (·.1)):=isort_eq (h.q.map _) h.s
theorem RRel.at(h:RRel X P Q)(hI:X.Inv)(hi:Q[i]? =some (n,D)):(Q.map (·.1)).getD i []=n∧An X.orp n=some D:=by
  refine⟨by rw[La4,Lal,hi];rfl,?_⟩;obtain⟨j,hj,e⟩:=Lc7 (h.q.mem_iff.1 (Lay hi));have h1:=mget_some hI.od (j:=j) (p:=(n,D)) (by rw[La3 hj,e]);exact h1
theorem RRel.waits(h:RRel X P Q)(hI:X.Inv)(hw:∀j,j<i→∀q,Q[j]? =some q→Bq X.P q.2=0)(hl:i≤Q.length):∀j,j<i→Bq X.P ((An X.orp ((Q.map (·.1)).getD j [])).getD DB.zero)=0:=fun j hj=>by
  have h1:Q[j]? =some (Q[j]'oM):=La3 oM;obtain⟨h2,h3⟩:=h.at hI (n:=(Q[j]'oM).1) (D:=(Q[j]'oM).2) h1;rw[h2,h3];exact hw j hj _ h1
theorem RRel.first(h:RRel X P Q)(hI:X.Inv)(hw:∀j,j<i→∀q,Q[j]? =some q→Bq X.P q.2=0)(hi:Q[i]? =some (n,D))(hj:Bq X.P D≠0):X.first=some n:=by
  have hlt:=(Lab.1 hi).1;obtain⟨h2,h3⟩:=h.at hI hi;have h4:=first_at h.keys (k:=i) (by rw[La0];exact hlt) (h.waits hI hw oM) (by rw[h2,h3];exact hj);rw[h4,h2]
theorem RRel.done(h:RRel X P Q)(hI:X.Inv)(hw:∀j,j<i→∀q,Q[j]? =some q→Bq X.P q.2=0)(hl:i=Q.length):X.first=none:=
  first_none h.keys (by rw[La0,←hl];exact h.waits hI hw oM)
theorem RRel.drop(h:RRel X P Q)(hI:X.Inv)(hi:Q[i]? =some (n,D)):RRel (X.drop1 n) P (Q.eraseIdx i) where
  p:=h.p
  q :=by
    have hlt:=(Lab.1 hi).1;have h1:=perm_erase hlt;rw[(Lab.1 hi).2]at h1;have h2:=mdel_perm hI.od (h.q.mem_iff.1 (Lay hi));exact((h1.trans h.q).trans h2).cons_inv
  s :=by
    have h1:((Q.eraseIdx i).map (·.1)).Sublist (Q.map (·.1)):=(Ldj Q i).map _;exact h.s.sublist h1
theorem RRel.adm(h:RRel X P Q)(hn:n∉X.P.map (·.1)):RRel (X.adm n D) (P++[(n,D)]) Q where
  p:=by rw[h.p];exact(mput_app (key_none hn) D).symm
  q:=h.q
  s:=h.s
theorem RRel.wait(h:RRel X P Q)(hn:An X.orp n=none)(h1:∀j,j<i→∀q,Q[j]? =some q→Cz q.1 n<0)(h2:∀q,Q[i]? =some q→¬Cz q.1 n<0):RRel { X with orp:=Bf X.orp n D } P (Q.take i++(n,D)::Q.drop i) where
  p:=h.p
  q :=by
    show(Q.take i++(n,D)::Q.drop i).Perm (Bf X.orp n D);rw[mput_app hn];refine Lcw.trans ?_;rw[Lbp];exact(List.Perm.cons _ h.q).trans (Lco (l₁:=[(n,D)]))
  s :=by
    have h3:SortB ((Q.take i).map (·.1)++(Q.drop i).map (·.1)):=by rw[←Lad,Lbp];exact h.s
    unfold SortB at h3 ⊢;rw[Lg9]at h3;obtain⟨h4,h5,h6⟩:=h3;have h7:∀q∈Q.take i,Cz q.1 n≤0:=fun q hq=>by
      obtain⟨j,hj,rfl⟩:=Lc7 hq;rw[Lac]at hj;have h9:=h1 j oM (Q[j]'oM) (La3 oM);rw[List.getElem_take];omega
    have h8:∀q∈Q.drop i,Cz n q.1≤0:=fun q hq=>by
      cases hd:Q[i]? with
      |none=>rw[Lam (List.getElem?_eq_none_iff.1 hd)]at hq;cases hq
      | some e=>
        have he:=h2 e hd;have hn9:=cmpB_neg e.1 n;rw[drop_get hd]at hq h5;rcases Lai.1 hq with rfl|hq
        ·omega
        · rw[Lap,Ld6]at h5
          have h9:=h5.1 q.1 (La6.2 ⟨q,hq,rfl⟩);have:=cmpB_trans n e.1 q.1;omega
    rw[Lad,Lap,Lg9,Ld6];refine⟨h4,⟨fun b hb=>?_,h5⟩,fun a ha b hb=>?_⟩
    · obtain⟨q,hq,rfl⟩:=La6.1 hb
      exact h8 q hq
    · rcases Lai.1 hb with rfl|hb
      · obtain⟨q,hq,rfl⟩:=La6.1 ha
        exact h7 q hq
      ·exact h6 a ha b hb
theorem RRel.has(h:RRel X P Q)(n:List UInt8):An Q n=none→An X.orp n=none:=fun h1=>by
  refine key_none fun hm=>?_;rw[←(h.q.map _).mem_iff]at hm;obtain⟨v,hv⟩:=Cw hm;rw[h1]at hv;cases hv
theorem RRel.hasQ(h:RRel X P Q)(n:List UInt8):An X.orp n=none→An Q n=none:=fun h1=>by
  refine key_none fun hm=>?_;rw[(h.q.map _).mem_iff]at hm;obtain⟨v,hv⟩:=Cw hm;rw[h1]at hv;cases hv
theorem RRel.someQ(h:RRel X P Q)(n:List UInt8)(h1:(An Q n).isSome=true):(An X.orp n).isSome=true:=by
  cases hm:An X.orp n with
  |none=>rw[h.hasQ n hm]at h1;cases h1
  |some v=>rfl
theorem add_same(h:((An X.orp (A4 D)).isSome||(An X.P (A4 D)).isSome)=true):(X.add D).1=X:=by
  by_cases hg:dgood D=0
  ·rw[add_there hg h]
  ·rw[add_bad hg]
theorem rp_at{e:RE}(h:l[i]? =some e):(rp l)[i]? =some (e.1.fName,e.2):=by unfold rp;rw[Lal,h];rfl
theorem rp_of{q:List UInt8×DB}(h:(rp l)[i]? =some q):∃e,l[i]? =some e∧q=(e.1.fName,e.2):=by
  unfold rp at h;rw[Lal]at h;obtain⟨e,h1,h2⟩:=Lee.1 h;exact⟨e,h1,h2.symm⟩
theorem rp_app(a b:List RE):rp (a++b)=rp a++rp b:=Lad
theorem rp_take(l:List RE)(i:Nat):rp (l.take i)=(rp l).take i:=Lbc
theorem rp_drop(l:List RE)(i:Nat):rp (l.drop i)=(rp l).drop i:=Leg
theorem rp_erase(l:List RE)(i:Nat):rp (l.take i++l.drop (i+1))=(rp l).eraseIdx i:=by rw[Ld3,rp_app,rp_take,rp_drop]
end
variable{B:Block}{D:DB}{N i:Nat}{T:PD}{bl o:List Blk}{e:RE}{l:List RE}{s:Sl}{w:World}{x:RD}
theorem not_keyN{κ ν:Type}[DecidableEq κ]{ms:List (κ×ν)}{n:κ}(h:An ms n=none):n∉ms.map (·.1):=fun hm=>by
  obtain⟨v,hv⟩:=Cw hm;rw[h]at hv;cases hv
structure RG where
  x:RD
  X:PD
  i:Nat
  s:Sl
  bl:List Blk
  l:List (List UInt8)
structure RG.ok(g:RG)(N:Nat)(T:PD):Prop where
  ok:g.x.ok
  inv:g.X.Inv
  rel:RRel g.X g.x.P g.x.Q
  le:g.i≤g.x.O.length
  wt:∀j,j<g.i→∀q,g.x.Q[j]? =some q→Bq g.X.P q.2=0
  acc:Hw.Acc g.s g.bl (As g.l) 34 g.l.length 32
  ll:g.l.length+g.x.O.length≤65
  sz:g.x.L.length+g.x.O.length≤N
  tgt:(PD.settle g.X.orp.length g.X).1=T
theorem RG.ok.more{g:RG}(h:g.ok N T)(he:g.x.O[g.i]? =some e)(hj:Bq g.X.P e.2=0):(⟨g.x,g.X,g.i+1,g.s,g.bl,g.l⟩:RG).ok N T:={ h with
  le:=(Lab.1 he).1
  wt :=fun j hj2 q hq=>by
    rcases Lc4.1 hj2 with h1|rfl
    ·exact h.wt j h1 q hq
    · obtain⟨e2,h2,rfl⟩:=rp_of hq
      rw[he]at h2;cases h2;exact hj }
def RD.less(x:RD)(i:Nat)(s:Sl)(bl:List Blk):RD:={ x with sO:=s,bO:=bl,O:=x.O.take i++x.O.drop (i+1) }
theorem RD.ok.less(h:x.ok)(hi:i<x.O.length)(hac:Hw.Acc s bl (rkc (x.O.take i++x.O.drop (i+1))) 111 (x.O.take i++x.O.drop (i+1)).length 163):(x.less i s bl).ok:={ h with
  accO:=hac
  entO:=fun e he=>h.entO e (by
    rcases La9.1 he with h1|h1
    ·exact Lbu h1
    ·exact Lcs h1)
  big:=by
    have:=h.big;show x.L.length+(x.O.take i++x.O.drop (i+1)).length≤20000;rw[La2,Lac,Lau];omega
  few:=by
    have:=h.few;show(x.O.take i++x.O.drop (i+1)).length≤64;rw[La2,Lac,Lau];omega }
def RD.more(x:RD)(e:RE)(s:Sl)(bl o:List Blk):RD:={ x with sL:=s,bL:=bl,L:=x.L++[e],cb:=o }
theorem RD.ok.more(h:x.ok)(hac:Hw.Acc s bl (rkc x.L++e.1.cells) 111 (x.L.length+1) 163)(hsub:∀b∈x.cb,b∈o)(he:e.1.ok∧Held o e.1.fBlock e.2∧e.2.ls.length≤16)(hr:x.L.length+x.O.length<20000):(x.more e s bl o).ok where
  accL:=by
    show Hw.Acc s bl (rkc (x.L++[e])) 111 (x.L++[e]).length 163;rw[rkc_app,rkc_one,La2];exact hac
  accO:=h.accO
  entL:=fun q hq=>by
    rcases La9.1 hq with h1|h1
    · have h2:=h.entL q h1
      exact⟨h2.1,h2.2.1.more hsub,h2.2.2⟩
    ·rw[La1.1 h1];exact he
  entO:=fun q hq=>by
    have h2:=h.entO q hq;exact⟨h2.1,h2.2.1.more hsub,h2.2.2⟩
  big:=by
    show(x.L++[e]).length+x.O.length≤20000;rw[La2,Laq];omega
  few:=h.few
def RD.wait(x:RD)(i:Nat)(e:RE)(s:Sl)(bl o:List Blk):RD:={ x with sO:=s,bO:=bl,O:=x.O.take i++e::x.O.drop i,cb:=x.cb++o }
theorem RD.ok.wait(h:x.ok)(hi:i≤x.O.length)(hac:Hw.Acc s bl (rkc (x.O.take i)++e.1.cells++rkc (x.O.drop i)) 111 (i+1+(x.O.length-i)) 163)(he:e.1.ok∧Held (x.cb++o) e.1.fBlock e.2∧e.2.ls.length≤16)(hr:x.L.length+x.O.length<20000)(h6:x.O.length<64):(x.wait i e s bl o).ok:=by
  have hlen:(x.O.take i++e::x.O.drop i).length=x.O.length+1:=by rw[La2,Lb5,Lac,Lau];omega
  exact {
    accL:=h.accL
    accO:=by
      show Hw.Acc s bl (rkc (x.O.take i++e::x.O.drop i)) 111 (x.O.take i++e::x.O.drop i).length 163;rw[hlen,show x.O.take i++e::x.O.drop i=x.O.take i++[e]++x.O.drop i by simp,rkc_app,rkc_app,rkc_one,show x.O.length+1=i+1+(x.O.length-i) by omega];exact hac
    entL:=fun q hq=>by
      have h2:=h.entL q hq;exact⟨h2.1,h2.2.1.more fun b hb=>Lag _ hb,h2.2.2⟩
    entO :=fun q hq=>by
      have h3:q=e∨q∈x.O:=by
        rcases La9.1 hq with h1|h1
        ·exact .inr (Lbu h1)
        · rcases Lai.1 h1 with h1|h1
          ·exact .inl h1
          ·exact .inr (Lcs h1)
      rcases h3 with rfl|h3
      ·exact he
      · have h2:=h.entO q h3
        exact⟨h2.1,h2.2.1.more fun b hb=>Lag _ hb,h2.2.2⟩
    big:=by
      show x.L.length+(x.O.take i++e::x.O.drop i).length≤20000;omega
    few:=by
      show(x.O.take i++e::x.O.drop i).length≤64;omega }
theorem RG.ok.drop{g:RG}(h:g.ok N T)(he:g.x.O[g.i]? =some e)(hj:wrongB g.X.P e.2=true)(hac:Hw.Acc s bl (rkc (g.x.O.take g.i++g.x.O.drop (g.i+1))) 111 (g.x.O.take g.i++g.x.O.drop (g.i+1)).length 163):(⟨g.x.less g.i s bl,g.X.drop1 e.1.fName,0,g.s,g.bl,g.l⟩:RG).ok N T:=by
  have hlt:=(Lab.1 he).1;have hq:g.x.Q[g.i]? =some (e.1.fName,e.2):=rp_at he;have hjw:=judge_wrong hj;have hf:=h.rel.first h.inv h.wt hq (by rw[hjw];decide);have hD:=(h.rel.at h.inv hq).2;have hlen:(g.x.O.take g.i++g.x.O.drop (g.i+1)).length+1=g.x.O.length:=by rw[La2,Lac,Lau];omega
  have hll:=h.ll;have hsz:=h.sz;exact{
    ok:=h.ok.less hlt hac
    inv:=h.inv.drop _
    rel:=by
      show RRel (g.X.drop1 e.1.fName) g.x.P (rp (g.x.O.take g.i++g.x.O.drop (g.i+1)));rw[rp_erase];exact h.rel.drop h.inv hq
    le:=Lar _
    wt:=fun j hj=>absurd hj (Ldv _)
    acc:=h.acc
    ll:=by show g.l.length+(g.x.O.take g.i++g.x.O.drop (g.i+1)).length≤65;omega
    sz:=by show g.x.L.length+(g.x.O.take g.i++g.x.O.drop (g.i+1)).length≤N;omega
    tgt:=by
      have h1:=mdel_one hD;have h2:=h.tgt;rw[←h1,settle_wrong hf hD (by rw[hjw];decide)]at h2;exact h2 }
theorem RG.ok.fit{g:RG}(h:g.ok N T)(he:g.x.O[g.i]? =some e)(hj:wrongB g.X.P e.2=false)(hr:readyB g.X.P e.2=true){s s2 s3:Sl}{bl bl2 bl3:List Blk}(hac:Hw.Acc s bl (rkc (g.x.O.take g.i++g.x.O.drop (g.i+1))) 111 (g.x.O.take g.i++g.x.O.drop (g.i+1)).length 163)
    (hac2:Hw.Acc s2 bl2 (rkc g.x.L++e.1.cells) 111 (g.x.L.length+1) 163) (hac3:Hw.Acc s3 bl3 (As g.l++Aa e.1.fName) 34 (g.l.length+1) 32):(⟨(g.x.less g.i s bl).more e s2 bl2 g.x.cb,(g.X.drop1 e.1.fName).adm e.1.fName e.2,0,s3,bl3,g.l++[e.1.fName]⟩:RG).ok N T:=by
  have hlt:=(Lab.1 he).1;have hq:g.x.Q[g.i]? =some (e.1.fName,e.2):=rp_at he;have hjf:Bq g.X.P e.2=1:=by unfold Bq;rw[hj,hr];rfl
  have hf:=h.rel.first h.inv h.wt hq (by rw[hjf];decide);have hD:=(h.rel.at h.inv hq).2;have hoc:=h.inv.oc _ (Bg hD);have hlen:(g.x.O.take g.i++g.x.O.drop (g.i+1)).length+1=g.x.O.length:=by rw[La2,Lac,Lau];omega
  have hll:=h.ll;have hsz:=h.sz;have hbig:=h.ok.big;have hen:=h.ok.entO e (Lay he);have hls:=h.ok.less hlt hac;exact{
    ok:=hls.more hac2 (fun b hb=>hb) hen (by show g.x.L.length+(g.x.O.take g.i++g.x.O.drop (g.i+1)).length<20000;omega)
    inv:=(h.inv.drop _).adm hoc.2 (fun h2=>((mdel_keys h.inv.od _ _).1 h2).2 rfl) hoc.1 hr
    rel:=by
      show RRel _ (rp (g.x.L++[e])) (rp (g.x.O.take g.i++g.x.O.drop (g.i+1)));rw[rp_erase,rp_app];exact(h.rel.drop h.inv hq).adm hoc.2
    le:=Lar _
    wt:=fun j hj=>absurd hj (Ldv _)
    acc:=by
      show Hw.Acc s3 bl3 (As (g.l++[e.1.fName])) 34 (g.l++[e.1.fName]).length 32;rw[Bv,La2,show As [e.1.fName]=Aa e.1.fName by simp[As]];exact hac3
    ll:=by show(g.l++[e.1.fName]).length+(g.x.O.take g.i++g.x.O.drop (g.i+1)).length≤65;rw[La2,Laq];omega
    sz:=by show(g.x.L++[e]).length+(g.x.O.take g.i++g.x.O.drop (g.i+1)).length≤N;rw[La2,Laq];omega
    tgt:=by
      have h1:=mdel_one hD;have h2:=h.tgt;rw[←h1,settle_fit hf hD hjf]at h2;exact h2 }
theorem RG.start(hx:x.ok){X:PD}(hI:X.Inv)(hR:RRel X x.P x.Q){q:Nat}(hroom:x.L.length+x.O.length<20000)(hac:Hw.Acc s bl (rkc x.L++(⟨A4 D,B⟩:RKn).cells) 111 (x.L.length+1) 163)(he:(⟨A4 D,B⟩:RKn).ok∧Held (x.cb++o) B D∧D.ls.length≤16)
    (hg:dgood D=0) (hP:An X.P (A4 D)=none) (hQ:An X.orp (A4 D)=none) (hj:Bq X.P D=1):(⟨x.more (⟨A4 D,B⟩,D) s bl (x.cb++o),X.adm (A4 D) D,0,⟨some ⟨q,0,none⟩,1,1⟩,[⟨q,Aa (A4 D),34,32⟩],[A4 D]⟩:RG).ok (x.L.length+x.O.length+1) (X.add D).1 where
  ok:=hx.more hac (fun b hb=>Lag _ hb) he hroom
  inv:=hI.adm (not_keyN hP) (not_keyN hQ) (good_check hg) (judge_ready hj)
  rel:=by
    show RRel _ (rp (x.L++[((⟨A4 D,B⟩:RKn),D)])) (rp x.O);rw[rp_app];exact hR.adm (not_keyN hP)
  le:=Lar _
  wt:=fun j hj=>absurd hj (Ldv _)
  acc:=by
    show Hw.Acc _ _ (As [A4 D]) 34 1 32;rw[show As [A4 D]=Aa (A4 D) by simp[As]];exact Acc.some (Laj 1) (show(Aa (A4 D)).length=1*32 by rw[Aa,La0,nameD_length])
  ll:=by have:=hx.few;show 1+x.O.length≤65;omega
  sz:=by show(x.L++[_]).length+x.O.length≤_;rw[La2,Laq];omega
  tgt:=by
    have hth:((An X.orp (A4 D)).isSome||(An X.P (A4 D)).isSome)=false:=by rw[hP,hQ];rfl
    rw[add_fits hg hth hj]
theorem RG.ok.fin{g:RG}(h:g.ok N T)(hi:g.i=g.x.O.length):RRel T g.x.P g.x.Q:=by
  have h1:=h.tgt;rw[settle_done (h.rel.done h.inv h.wt (by rw[hi];exact(La0 _).symm))]at h1;rw[←h1];exact h.rel
def RAddR(x:RD)(p:Nat)(T:PD)(v:Value)(out:List Blk):Prop:=∃(x':RD) (e:Int) (s:Sl) (bl:List Blk),v= .tuple #[s.v,i64 e]∧out=x'.blks p++bl∧x'.ok∧RRel T x'.P x'.Q∧x'.L.length+x'.O.length≤x.L.length+x.O.length+1
theorem rd_of{C:Cx}{p:Nat}{hp:List Blk}(h:HRep C hp w)(h1:⟨p,[x.sL.v,x.sO.v],109,2⟩∈hp)(h2:Lies x.bL w)(h3:Lies x.bO w)(h4:Lies x.cb w):Lies (x.blks p) w:=fun b hb=>by
  rcases Lai.1 hb with rfl|hb
  ·exact h.cells _ h1
  · rcases La9.1 hb with hb|hb
    ·exact h2 b hb
    · rcases La9.1 hb with hb|hb
      ·exact h3 b hb
      ·exact h4 b hb
theorem rk_open(h:Hw.Acc s bl (rkc l) 111 l.length 163)(h0:0<l.length):∃b o,s.p=some ⟨b,o,none⟩∧∀w,Lies bl w→C5 w b o (rkc l):=by
  rcases h with ⟨_,_,_,e⟩|⟨q,c,rfl,h1,h2,rfl⟩
  ·omega
  ·exact⟨q,0,rfl,fun w hw=>sees_kok (hw _ La8) fun j v hj=>by rw[Laz];exact hj⟩
theorem rk_take{p:Option Addr}(h:SeesP w p (rkc l)):SeesP w p (rkc (l.take i)):=by
  have e:rkc l=rkc (l.take i)++rkc (l.drop i):=by rw[←rkc_app,Lbp]
  rw[e]at h;exact seesP_left h
theorem rkc_drop(hok:∀e∈l,e.1.ok)(i:Nat):rkc (l.drop i)=(rkc l).drop (i*163):=by
  have e:rkc l=rkc (l.take i)++rkc (l.drop i):=by rw[←rkc_app,Lbp]
  have h1:=rkc_len (l:=l.take i) fun q hq=>hok q (Lbu hq);rw[Lac]at h1;rcases Nat.le_total i l.length with h2|h2
  · rw[Lbw h2]at h1
    rw[e,←h1,List.drop_left]
  ·rw[Lam h2,Lam (by rw[rkc_len hok];omega)];rfl
theorem same_of{W:World}(h:BlockIs W B D):SameB B D:=⟨h.ok,h.w,h.seq,h.prev,h.sg,h.ls.len.symm,h.ds.len.symm⟩
section
variable{C:Cx}{ops:Array Oper}{rest:List (Nat×Oper)}{sl:List (Nat×Value)}{hp:List Blk}{Q:St→Prop}{c d:Nat}{ty:TypeId}{pos:String}{af:Array Edge}{g:Option (Nat×Bool)}
theorem Tr.sliceLoA{x lo:Operand}{s:Sl}{bl:List Blk}{cells:List Value}{n:Nat}{T E:TypeId}{kl:IntKind}{l:Int}{sz:Nat}(j:Nat)(hg:Al ops sl g=true)(hk:okD c d C.N=true)(hx:Ai sl x=some s.v)(hl:Ai sl lo=some (.int kl l))(hj:l=j)(hac:Hw.Acc s bl cells E n sz)(hjn:j≤n)
    (hu:C.P.underlying T=some (.slice E)) (hs:Sz C.P E sz)
    (k:∀s':Sl,s'.n=n-j→(s'.p=none→s'.n=0)→(∀w,Lies bl w→SeesP w s'.p (cells.drop (j*sz)))→s'.n≤s'.c→(s'.p=none→s'.c=0)→Tr C ops rest ⟨(d,s'.v)::sl,hp⟩ Q):Tr C ops ((c,⟨some d, .slice T x (some lo) none none,ty,pos,af,g⟩)::rest) ⟨sl,hp⟩ Q:=by
  rcases hac with ⟨rfl,rfl,rfl,rfl⟩|⟨q,cp,rfl,h1,h2,rfl⟩
  · obtain rfl:j=0:=by omega
    subst hj;exact Tr.sliceLoNil hg hk hx hl hu hs (k Sl.nil rfl (fun _=>rfl) (fun w _=>by rw[List.drop_nil];exact SeesP.nil) (Laj _) (fun _=>rfl))
  · refine Tr.sliceLoN j hg hk hx hl hj hjn h1 hu hs (k ⟨some ⟨q,if cp=j then 0 else 0+j*sz,none⟩,n-j,cp-j⟩ rfl (fun e=>by cases e) (fun w hw=>?_) (by show n-j≤cp-j;omega) (fun e=>by cases e))
    have h3:C5 w q 0 cells:=sees_kok (hw _ La8) fun i v hi=>by rw[Laz];exact hi
    by_cases hcp:cp=j
    · obtain rfl:n=j:=by omega
      rw[Lam oM];exact SeesP.nil
    · show SeesP w (some ⟨q,if cp=j then 0 else 0+j*sz,none⟩) _
      rw[if_neg hcp];refine SeesP.of fun i v hi=>?_;rw[Lb7]at hi;have h4:=h3 _ _ hi;rwa[show 0+(j*sz+i)=0+j*sz+i by omega]at h4
end
variable{B:Block}{C:Cx}{D:DB}{L hp:List Blk}{S T:List UInt8→Prop}{j k m q:Nat}{l:Nat→Bool}{ms:List (List UInt8×Int)}{n:List UInt8}{s0 s5:Sl}{w:World}{x:Nat×Nat×Value}
theorem rd_add(x:RD)(hx:x.ok)(X:PD)(hI:X.Inv)(hR:RRel X x.P x.Q)(p:Nat)(B:Block)(D:DB)(hroom:x.L.length+x.O.length<20000)(hs1:D.ls.length≤500000)(hs2:D.ds.length≤500000):Meets prog 43 [ptr p 0,agg B.cells] ((x.blks p).map (·.n)) (fun W=>Lent (x.blks p) W∧∀w2,Keeps ((x.blks p).map (·.n)) W w2→BlockIs w2 B D) (RAddR x p (X.add D).1):=by
 intro W hW;have hbk:=hW.2;have hbi0:=hbk W (Keeps.refl _ _);have hB:=same_of hbi0;have hdok:=hbi0.dok;have hn32:=nameD_length D;have hbig:=hx.big;have hfew:=hx.few;have hnL:=hx.accL.num;have hnO:=hx.accO.num;have hcO:=hx.accO.cap;generalize hlt:(x.blks p).map (·.n)=lt at hbk;refine calls_of (hp0:=(⟨p,[x.sL.v,x.sO.v],109,2⟩::(x.bL++(x.bO++x.cb)))) func43 J 178 ntmps43 J (hlt▸hW.1.rep) (.sr (.boxA J J ?_));intro n3 hn3 hf3;refine .a J J J (.a J J J (.na (.seq (.draw (oP [100,102,301,303,4,205,406]) Aq zK (.lA J J J Y50.h J Sz50 Z0 (Block.length (by exact hB.ok)) ?_)))));refine .lA J J J Y50.h J Sz50 Z0 (Block.length (by exact hB.ok)) ?_;refine .cV J J J J Body54 (r15_Name B D hB.ok) (fun w h=>hbk w h.keeps) (.call J J J J Body85 (r15_Copy B D hB.ok hs1 hs2) (BlkV.loose D hdok) (fun w h=>hbk w h.keeps) ?_);rintro v16 out16 ⟨B2,hB2,rfl,hbi⟩;have hK6:(⟨A4 D,B2⟩:RKn).ok:=⟨hn32,hB2.ok⟩;refine .build (cs:=(⟨A4 D,B2⟩:RKn).cells) J J J (fun w=>run_build2 (a:=agg (Aa (A4 D))) (b:=agg B2.cells) (ca:=Aa (A4 D)) (cb:=B2.cells) RKn.zr underlying111 J J Sz34 Sz50 (RKn.length RKn.zero_ok) J J (by rw[Aa,La0];exact hn32) (Block.length hB2.ok) w) ?_;refine .alloc (cs:=RKn.zero.cells) J RKn.zr J ?_;intro n6 hn6 hf6;refine .sA J J J J (RKn.isCell (by exact hK6)) Sz111 (RKn.length (by exact hK6)) Z0 (RKn.length (by exact RKn.zero_ok)) zU ?_;refine .na (.join (ι:=Unit) (fun u=>⟨[(0,ptr p 0),(3,ptr n3 0),(6,ptr n6 0)],(⟨n6,(⟨A4 D,B2⟩:RKn).cells,111,163⟩::(⟨n3,B.cells,50,B.cells.length⟩::(⟨p,[x.sL.v,x.sO.v],109,2⟩::(x.bL++(x.bO++(x.cb++(out16++[])))))))⟩) (fun u=>D.check=0→An x.P (A4 D)=none∧An x.Q (A4 D)=none) ?_ ?_)
 ·
  refine .seq (.draw (oP [100,301,2,3,4,5,106,307,8,9,10,11,112,13,114,315,16,17,18]) Aq zK (.lA J J J Y50.h J Sz50 mR (Block.length (by exact hB.ok)) ?_));refine .cV J J J J Body103 (r15_Check B D) (fun w h=>hbk w h.keeps) (two (fun r hr k=>Tr.eqi J J J J hr k) (fun hs2_20=>?_) (fun hs2_20=>?_))
  ·
   have hs2_2:=of_decide_eq_true hs2_20;refine .m J J J (.m J J J (.fld J J J underlying111 J Sz34 dE _ J (.lN (Aa _) J J J Y34.h J Sz34 Z0 (RKn.row_fName (by exact hK6)) (RKn.rl_fName (by exact hK6)) ?_)));refine .callB J J J J Body104 (rd_has x hx p (A4 D) hn32) (fun w h=>rd_of (x:=x) h mR (Lies.of h (by repeat(first|exact Ax|refine Az ?_|refine Bm ?_))) (Lies.of h (by repeat(first|exact Ax|refine Az ?_|refine Bm ?_))) (Lies.of h (by repeat(first|exact in_all|refine Az ?_|refine Bm ?_)))) (fun hs2_70=>?_) (fun hs2_70=>?_)
   ·
    have hs2_7:=hs2_70;refine .m J J J (.skp J J (.skp J J (.skp J J (.skp J J (.skp J J (.skp J J (.skp J J (.skp J J (.pick J J J J J J (.pick J J J J J J (.na (.cond_t J J (.sr (.a J J J (.a J J J (.na ?_))))))))))))))));refine .ret (at_r (C8 (Aw (out:=(⟨p,[x.sL.v,x.sO.v],109,2⟩::(x.bL++(x.bO++(x.cb++[]))))) (Bu J J J) (Ab rM (Ac sG (Ac sG (Ac (by repeat(first|exact sg_end|apply sg_there|apply Cm)) Ae)))) ?_)));exact⟨x,_,Sl.nil,[],rfl,(by simp[RD.blks]),hx,by rw[add_same (by rw[←hR.p,show(An x.P (A4 D)).isSome=true from hs2_7];simp)];exact hR,by omega⟩
   have hs2_7:=hs2_70;refine .m J J J (.m J J J (.nC J J J (.fld J J J Y109 J Sz107 dE _ J (.load1 J J J C2 J mR (by rfl) ?_))));refine .fld J J J underlying111 J Sz34 dE _ J (.lN (Aa _) J J J Y34.h J Sz34 Z0 (RKn.row_fName (by exact hK6)) (RKn.rl_fName (by exact hK6)) ?_);refine .cV J J J J Body84 (rd_find x.sO x.O hnO.symm hx.okO oM (A4 D) hn32) (fun w h=>hx.accO.see (Lies.of h (by repeat(first|exact Ax|refine Az ?_|refine Bm ?_)))) ?_;refine .geq J J J J J (.pick J J J J J J (.pick J J J J J J (.na (.condP J (fun hc0=>?_) (fun hc0=>?_)))))
   ·
    refine .sr (.a J J J (.a J J J (.na ?_)));refine .ret (at_r (C8 (Aw (out:=(⟨p,[x.sL.v,x.sO.v],109,2⟩::(x.bL++(x.bO++(x.cb++[]))))) (Bu J J J) (Ab rM (Ac sG (Ac sG (Ac (by repeat(first|exact sg_end|apply sg_there|apply Cm)) Ae)))) ?_)));exact⟨x,_,Sl.nil,[],rfl,(by simp[RD.blks]),hx,by rw[add_same (by rw[hR.someQ _ (show(An x.Q (A4 D)).isSome=true by obtain⟨k9,e9,_,_,_,h9⟩:=rd_hit hc0;show(An (rp x.O) _).isSome=true;rw[h9];rfl)];rfl)];exact hR,by omega⟩
   refine .skip (Bl ?_);exact⟨(),fun _=>⟨by simpa using hs2_7,rd_no hc0⟩,Ah wN (Ab rM (Ab (by repeat(first|exact A5|apply Bt)) (Ab (by repeat(first|exact A5|apply Bt)) (Ac (by repeat(first|exact Cc|apply Cm)) (Ac (by repeat(first|exact Cc|apply Cm)) (Ac (by repeat(first|exact sg_end|apply Cm)) (Ac sG Ae)))))))⟩
  have hs2_2:=of_decide_eq_false hs2_20;refine .m J J J (.skp J J (.skp J J (.skp J J (.skp J J (.skp J J (.skp J J (.skp J J (.skp J J (.skp J J (.skp J J (.skp J J (.skp J J (.skp J J (.skp J J (.pick J J J J J J (.na (.cond_f J J (.skip (Bl ?_)))))))))))))))))));exact⟨(),fun h9=>absurd h9 oM,Ah wN (Ab rM (Ab (by repeat(first|exact A5|apply Bt)) (Ab (by repeat(first|exact A5|apply Bt)) (Ac (by repeat(first|exact Cc|apply Cm)) (Ac (by repeat(first|exact Cc|apply Cm)) (Ac (by repeat(first|exact sg_end|apply Cm)) (Ac sG Ae)))))))⟩
 intro u hj;skip;refine .sr (.lA J J J Y50.h J Sz50 Z1 (Block.length (by exact hB.ok)) ?_);refine .cV J J J J Body105 (r15_Good B D hB.ok) (fun w h=>hbk w h.keeps) (.a J J J (.na (.seq (.sr (.m J J J (.nei J J J J J (.na (.condNP J (fun hc1=>?_) (fun hc1=>?_)))))))))
 ·
  refine .sr (.m J J J (.a J J J (.a J J J (.na ?_))));refine .ret (at_r (C8 (Aw (out:=(⟨p,[x.sL.v,x.sO.v],109,2⟩::(x.bL++(x.bO++(x.cb++[]))))) (Bu J J J) (Ab rM (Ac sG (Ac sG (Ac sG Ae)))) ?_)));exact⟨x,_,Sl.nil,[],rfl,(by simp[RD.blks]),hx,by rw[add_bad oM];exact hR,by omega⟩
 have hgd:dgood D=0:=by omega
 have hck:=good_check hgd;have h16:D.ls.length≤16:=(ck_small hck).1;obtain⟨hP0,hQ0⟩:=hj hck;have hP1:An X.P (A4 D)=none:=by rw[←hR.p];exact hP0
 have hQ1:=hR.has _ hQ0;have hth:((An X.orp (A4 D)).isSome||(An X.P (A4 D)).isSome)=false:=by rw[hP1,hQ1];rfl
 have hol:x.O.length=X.orp.length:=by have h9:=hR.q.length_eq;rw[←h9];exact(La0 _).symm
 have hPX:=hR.p;refine .skip (Bl (.seq (.sr (.m J J J (.lA J J J Y50.h J Sz50 Z1 (Block.length (by exact hB.ok)) ?_)))));refine .cV J J J J Body106 (rd_wrong x hx p B D hB) (fun w h=>rd_of (x:=x) h Z2 (Lies.of h (by repeat(first|exact Ax|refine Az ?_))) (Lies.of h (by repeat(first|exact Ax|refine Az ?_|refine Bm ?_))) (Lies.of h (by repeat(first|exact Ax|refine Az ?_|refine Bm ?_)))) ?_;refine .na (.cond J (fun hc2=>?_) (fun hc2=>?_))
 ·
  refine .sr (.a J J J (.a J J J (.na ?_)));refine .ret (at_r (C8 (Aw (out:=(⟨p,[x.sL.v,x.sO.v],109,2⟩::(x.bL++(x.bO++(x.cb++[]))))) (Bu J J J) (Ab rM (Ac sG (Ac sG (Ac sG Ae)))) ?_)));exact⟨x,_,Sl.nil,[],rfl,(by simp[RD.blks]),hx,by rw[add_wrong hgd hth (judge_wrong (by rw[←hPX];exact hc2))];exact hR,by omega⟩
 refine .skip (Bl (.seq (.sr (.m J J J (.lA J J J Y50.h J Sz50 Z1 (Block.length (by exact hB.ok)) ?_)))));refine .cV J J J J Body107 (rd_ready x hx p B D hB h16) (fun w h=>⟨rd_of (x:=x) h Z2 (Lies.of h (by repeat(first|exact Ax|refine Az ?_))) (Lies.of h (by repeat(first|exact Ax|refine Az ?_|refine Bm ?_))) (Lies.of h (by repeat(first|exact Ax|refine Az ?_|refine Bm ?_))),hbk w h.keeps⟩) ?_;refine .not J J J (.na (.cond J (fun hc3=>?_) (fun hc3=>?_)))
 ·
  have hj0:Bq X.P D=0:=by rw[hPX]at hc2 hc3;unfold Bq;rw[show wrongB X.P D=false by simpa using hc2,show readyB X.P D=false by simpa using hc3];rfl
  refine .seq (.sr (.m J J J (.nC J J J (.fld J J J Y109 J Sz107 dE _ J (.load1 J J J C2 J Z2 (by rfl) ?_)))));refine .lenSl J J J C2 (.eqi J J J J J (.na (.condP J (fun hc4=>?_) (fun hc4=>?_))))
  ·
   refine .sr (.a J J J (.a J J J (.na ?_)));refine .ret (at_r (at_r (C8 (Aw (out:=(⟨p,[x.sL.v,x.sO.v],109,2⟩::(x.bL++(x.bO++(x.cb++[]))))) (Bu J J J) (Ab rM (Ac sG (Ac sG (Ac sG Ae)))) ?_))));exact⟨x,_,Sl.nil,[],rfl,(by simp[RD.blks]),hx,by rw[add_full hgd hth hj0 oM];exact hR,by omega⟩
  refine .skip (Bl (.sr (.a J J J (.na (.join (ι:=Nat) (fun k=>⟨[(0,ptr p 0),(6,ptr n6 0),(8,i64 (k:Int))],(⟨n6,(⟨A4 D,B2⟩:RKn).cells,111,163⟩::(⟨p,[x.sL.v,x.sO.v],109,2⟩::(x.bL++(x.bO++(x.cb++(out16++[]))))))⟩) (fun k=>k≤x.O.length∧(∀j,j<k→∀q,x.Q[j]? =some q→Cz q.1 (A4 D)<0)∧∀q,x.Q[k]? =some q→¬Cz q.1 (A4 D)<0) ?_ ?_)))))
  ·
   refine .block (.loop (ι:=Nat) (fun k=>⟨[(0,ptr p 0),(6,ptr n6 0),(8,i64 (k:Int))],(⟨n6,(⟨A4 D,B2⟩:RKn).cells,111,163⟩::(⟨p,[x.sL.v,x.sO.v],109,2⟩::(x.bL++(x.bO++(x.cb++(out16++[]))))))⟩) (fun k=>k≤x.O.length∧∀j,j<k→∀q,x.Q[j]? =some q→Cz q.1 (A4 D)<0) (fun k=>x.O.length-k) (0) ?_ ?_ ?_)
   ·exact⟨Lar _,fun j hj=>absurd hj (Ldv _)⟩
   ·exact Ah wN (Ab rM (Ab rM (Ac sG (Ac sG (Ac sG (Ac sG Ae))))))
   rintro k ⟨hk,hg⟩;refine .seq (.seq (.draw (oP [0,1,2,3,104,5,6,7,8,9,10,111,12,13,14,115,16,117,318,19,20]) Aq zK (.m J J J (.m J J J (.nC J J J (.fld J J J Y109 J Sz107 dE _ J (.load1 J J J C2 J Z1 (by rfl) ?_)))))));refine .lenSl J J J C2 (two (fun r hr k=>Tr.lss J J J J hr k) (fun hs13_60=>?_) (fun hs13_60=>?_))
   ·
    have hs13_6:=of_decide_eq_true hs13_60;have hk2:k<x.O.length:=by omega
    obtain⟨e,hd⟩:∃e,x.O[k]? =some e:=⟨_,La3 hk2⟩;have hek:=(hx.entO e (Lay hd)).1;obtain⟨b,o,hbp,hbs⟩:=rk_open hx.accO oM;refine .m J J J (.m J J J (.nC J J J (.fld J J J Y109 J Sz107 dE _ J (.load1 J J J C2 J Z1 (by rfl) ?_))));refine .m J J J (.idxSlP 163 J J J hbp J C2 Sz111 k (by rfl) oM ?_);refine .fld J J J underlying111 J Sz34 dE _ J (.loadSN (n:=32) (Aa e.1.fName) J J J Y34.h J Sz34 (by rw[Aa,La0];exact hek.l_fName) (fun w h=>rk_name (hbs w (Lies.of h (by repeat(first|exact Ax|refine Az ?_|refine Bm ?_)))) hx.okO hd) ?_);refine .fld J J J underlying111 J Sz34 dE _ J (.lN (Aa _) J J J Y34.h J Sz34 Z0 (RKn.row_fName (by exact hK6)) (RKn.rl_fName (by exact hK6)) ?_);refine .cV J J J J Body25 (r15_cmp e.1.fName (A4 D) hek.l_fName hn32) tV (.lss J J J J J (.pick J J J J J J (.na (.condP J (fun hc5=>?_) (fun hc5=>?_)))))
    ·
     refine .skip (Bl (.block (.region (.m J J J (.aI J J J J oM (.a J J J (.nil (bl_n (Bl ?_)))))))));exact⟨k+1,⟨by omega,fun j hj q hq=>by rcases Lc4.1 hj with h|rfl;exact hg j h q hq;obtain⟨e9,h9,rfl⟩:=rp_of hq;rw[hd]at h9;cases h9;exact hc5⟩,by omega,Ah wN (Ab rM (Ab rM (Ac sG (Ac sG (Ac sG (Ac sG Ae))))))⟩
    refine .exit (at_x (at_x (bl_h (Bl ?_))));exact⟨k,⟨by omega,hg,fun q hq=>by obtain⟨e9,h9,rfl⟩:=rp_of hq;rw[hd]at h9;cases h9;exact hc5⟩,Ah wN (Ab rM (Ab rM (Ac sG (Ac sG (Ac sG (Ac sG Ae))))))⟩
   have hs13_6:=of_decide_eq_false hs13_60;skip;refine .m J J J (.skp J J (.skp J J (.skp J J (.skp J J (.skp J J (.skp J J (.skp J J (.skp J J (.skp J J (.skp J J (.skp J J (.skp J J (.pick J J J J J J (.na (.cond_f J J (.exit (at_x (at_x (bl_h (Bl ?_))))))))))))))))))));exact⟨k,⟨by omega,hg,fun q hq=>by have h9:=(Lab.1 hq).1;have h8:x.Q.length=x.O.length:=La0 _;omega⟩,Ah wN (Ab rM (Ab rM (Ac sG (Ac sG (Ac sG (Ac sG Ae))))))⟩
  intro k hj;obtain⟨hk,hg,hat⟩:=hj;refine .seq ?_
  try simp only[List.append_eq,Lan,Lah,Laa]
  refine .drawK (sp_k (sp_k (sp_x (sp_x (sp_x (sp_x sp_n)))))) J (oP [0,2,3,4,5,6,7,9,12,13,14,15,16,17,201,308,210,411,418,19,20]) [(4,21)] Aq zK zK (.m J J J (.m J J J (.nC J J J (.fld J J J Y109 J Sz107 dE _ J (.kload1 J J J C2 J Z1 (by rfl) ?_)))));refine .m J J J (.sliceHiA x.sO k J J J J J oM C2 Sz111 (.kloadAll J J J underlying111 J Sz111 Z0 (RKn.length (by exact hK6)) ?_));refine .m J J J (.nC J J J (.fld J J J Y109 J Sz107 dE _ J (.kload1 J J J C2 J Z1 (by rfl) ?_)));refine .m J J J (Tr.sliceLoA k J J J J J hx.accO hk C2 Sz111 ?_);intro s95 hn95 hnil95 hsee95 _ _;refine .mkRow2 (z:=(agg RKn.zero.cells)) [] ([]) J J C2 Sz111 RKn.zr J J (by intro v hv;cases hv) dE J ?_;intro q79;refine .appendF (b:=q79) (m:=k) (z:=(agg RKn.zero.cells)) (by':=216) (rkc (x.O.take k)) J J J J C2 C2 Sz111 RKn.zr (by unfold By;kernel_rfl) J (fun w h=>rk_take (hx.accO.see (Lies.of h (by repeat(first|exact Ax|refine Az ?_|refine Bm ?_))))) (fun e=>by have:=hx.accO.nil e;omega) (rkc_cell (fun q hq=>hx.okO q (Lbu hq))) oM oM (by rw[rkc_len (fun q hq=>hx.okO q (Lbu hq)),Lac,Lbw hk]) ?_;intro s86 bl86 hac86;refine .mkRow2 (z:=(agg RKn.zero.cells)) [agg (⟨A4 D,B2⟩:RKn).cells] ((⟨A4 D,B2⟩:RKn).cells) J J C2 Sz111 RKn.zr J J (by intro v hv;rw[La1.1 hv];exact RKn.length (by exact hK6)) dE (by simp[Value.cells,agg]) ?_;intro q88;refine .appendF2 [_] (n:=k) (z:=(agg RKn.zero.cells)) (by':=216) ((⟨A4 D,B2⟩:RKn).cells) J J J J J C2 C2 Sz111 RKn.zr (by unfold By;kernel_rfl) J hac86 dE J (fun w h=>SeesP.of (Ap h Z0)) (fun e=>by cases e) (RKn.isCell hK6) oM oM (by rw[RKn.length hK6]) ?_;intro s89 bl89 hac89;refine .appendAcc (n:=(k+1)) (z:=(agg RKn.zero.cells)) (by':=216) (rkc (x.O.drop k)) J J J J J C2 C2 Sz111 RKn.zr (by unfold By;kernel_rfl) J hac89 sG (fun w h=>by rw[rkc_drop hx.okO];exact hsee95 w (Lies.of h (by repeat(first|exact Ax|refine Az ?_|refine Bm ?_)))) hnil95 (rkc_cell (fun q hq=>hx.okO q (Lcs hq))) oM oM (by rw[rkc_len (fun q hq=>hx.okO q (Lcs hq)),Lau,hn95]) ?_;intro s96 bl96 hac96;refine .nC J J J (.fld J J J Y109 J Sz107 dE _ J (.nil (.s1 J J J J J Sz107 Z1 sP (by rfl) zV ?_)));refine .nsr (.a J J J (.a J J J (.na ?_)));refine .ret (at_r (C8 (Aw (out:=(⟨p,[x.sL.v,s96.v],109,2⟩::(x.bL++(bl96++(x.cb++(out16++[])))))) (Bu J J J) (Ab rM (Ac sG (Ac sG (Ac sG (Ac sG Ae))))) ?_)))
  exact⟨x.wait k (⟨A4 D,B2⟩,D) s96 bl96 out16,0,Sl.nil,[],rfl,(by simp[RD.blks,RD.wait]),hx.wait hk (by rw[hn95]at hac96;exact hac96) ⟨hK6,⟨hB2,fun w hw=>hbi w (hw.sub fun b hb=>Lat _ hb)⟩,h16⟩ hroom oM,by rw[add_keep hgd hth hj0 oM];show RRel _ x.P (rp (x.O.take k++(⟨A4 D,B2⟩,D)::x.O.drop k));rw[rp_app,show rp (((⟨A4 D,B2⟩:RKn),D)::x.O.drop k)=(A4 D,D)::rp (x.O.drop k)from rfl,rp_take,rp_drop];exact hR.wait hQ1 hg hat,by show x.L.length+(x.O.take k++_::x.O.drop k).length≤_;rw[La2,Lb5,Lac,Lau];omega⟩
 have hj1:Bq X.P D=1:=by rw[hPX]at hc2 hc3;unfold Bq;rw[show wrongB X.P D=false by simpa using hc2,show readyB X.P D=true by simpa using hc3];rfl
 refine .skip (Bl (.seq ?_))
 try simp only[List.append_eq,Lan,Lah,Laa]
 refine .drawK (sp_k (sp_v (sp_k (sp_x (sp_x (sp_x (sp_x sp_n))))))) J (oP [0,1,2,3,4,5,206,407,8,9]) [(4,10)] Aq zK zK (.m J J J (.m J J J (.nC J J J (.fld J J J Y109 J Sz107 dE _ J (.kload1 J J J C2 J Z1 (by rfl) ?_)))));refine .kloadAll J J J underlying111 J Sz111 Z0 (RKn.length (by exact hK6)) ?_;refine .mkRow2 (z:=(agg RKn.zero.cells)) [agg (⟨A4 D,B2⟩:RKn).cells] ((⟨A4 D,B2⟩:RKn).cells) J J C2 Sz111 RKn.zr J J (by intro v hv;rw[La1.1 hv];exact RKn.length (by exact hK6)) dE (by simp[Value.cells,agg]) ?_;intro q105;refine .appendAcc (n:=x.L.length) (z:=(agg RKn.zero.cells)) (by':=216) ((⟨A4 D,B2⟩:RKn).cells) J J J J J C2 C2 Sz111 RKn.zr (by unfold By;kernel_rfl) J hx.accL sG (fun w h=>SeesP.of (Ap h Z0)) (fun e=>by cases e) (RKn.isCell hK6) oM oM (by rw[RKn.length hK6]) ?_;intro s106 bl106 hac106;refine .nC J J J (.fld J J J Y109 J Sz107 dE _ J (.nil (.s1 J J J J J Sz107 Z1 sP (by rfl) zV ?_)));refine .nsr (.fld J J J underlying111 J Sz34 dE _ J (.lN (Aa _) J J J Y34.h J Sz34 Z0 (RKn.row_fName (by exact hK6)) (RKn.rl_fName (by exact hK6)) ?_));refine .mkRow2 (z:=agg (Aa (List.replicate 32 0))) [agg (Aa (A4 D))] (Aa (A4 D)) J J Y30.h Sz34 Ce J J (by intro v hv;rw[La1.1 hv];simp[Value.cells,Aa,hn32]) dE (by simp[Value.cells,agg]) ?_;intro q111;refine .a J J J (.na (.seq (.sr (.a J J J (.na (.block (.loop (ι:=RG) (fun g=>⟨[(0,ptr p 0),(9,g.s.v),(10,i64 (g.i:Int))],(⟨p,[g.x.sL.v,g.x.sO.v],109,2⟩::(g.x.bL++(g.x.bO++(g.x.cb++(g.bl++[])))))⟩) (fun g=>g.ok (x.L.length+x.O.length+1) (X.add D).1) (fun g=>g.x.O.length*100000-g.i) (⟨x.more (⟨A4 D,B2⟩,D) s106 bl106 (x.cb++out16),X.adm (A4 D) D,0,⟨some ⟨q111,0,none⟩,1,1⟩,[⟨q111,Aa (A4 D),34,32⟩],[A4 D]⟩) ?_ ?_ ?_)))))))
 ·exact RG.start hx hI hR hroom hac106 ⟨hK6,⟨hB2,fun w hw=>hbi w (hw.sub fun b hb=>Lat _ hb)⟩,h16⟩ hgd hP1 hQ1 hj1
 ·exact Ah wN (Ab rM (Ac sG (Ac sG (pm_two (Ac sG (Ac sG (pm_in0 (pm_consE rM rfl (by rw[Aa,La0,hn32]) Ae))))))))
 rintro g hG;have hgl:=hG.ll;have hgi:=hG.le;have hgb:=hG.ok.big;have hgf:=hG.ok.few;have hgn:=hG.ok.accO.num;have hgL:=hG.ok.accL.num;refine .seq (.sr (.m J J J (.m J J J (.nC J J J (.fld J J J Y109 J Sz107 dE _ J (.load1 J J J C2 J Z0 (by rfl) ?_))))));refine .lenSl J J J C2 (.lss J J J J J (.na (.condP J (fun hc6=>?_) (fun hc6=>?_))))
 ·
  have hi2:g.i<g.x.O.length:=by omega
  obtain⟨e,hd⟩:∃e,g.x.O[g.i]? =some e:=⟨_,La3 hi2⟩;have hen:=hG.ok.entO e (Lay hd);have hek:=hen.1;have hel:=hek.l_fName;obtain⟨b,o,hbp,hbs⟩:=rk_open hG.ok.accO oM;refine .skip (Bl (.seq (.block (.sr (.m J J J (.nC J J J (.fld J J J Y109 J Sz107 dE _ J (.load1 J J J C2 J Z0 (by rfl) ?_))))))));refine .m J J J (.idxSlP 163 J J J hbp J C2 Sz111 g.i (by rfl) oM ?_);refine .loadSN (n:=163) e.1.cells J J J underlying111 J Sz111 (RKn.length hek) (fun w h=>rk_at (hbs w (Lies.of h (by repeat(first|exact Ax|refine Az ?_|refine Bm ?_)))) hG.ok.okO hd) ?_;refine .alloc (cs:=RKn.zero.cells) J RKn.zr J ?_;intro n11 hn11 hf11;refine .sA J J J J (RKn.isCell (by exact hek)) Sz111 (RKn.length (by exact hek)) Z0 (RKn.length (by exact RKn.zero_ok)) zU ?_;refine .nsr (.m J J J (.fld J J J underlying111 J Sz50 dE _ J (.lN (Block.cells _) J J J Y50.h J Sz50 Z0 (RKn.row_fBlock (by exact hek)) (RKn.rl_fBlock (by exact hek)) ?_)));refine .callB J J J J Body106 (rd_wrong g.x hG.ok p e.1.fBlock e.2 hen.2.1.1) (fun w h=>rd_of (x:=g.x) h Z1 (Lies.of h (by repeat(first|exact Ax|refine Az ?_))) (Lies.of h (by repeat(first|exact Ax|refine Az ?_|refine Bm ?_))) (Lies.of h (by repeat(first|exact Ax|refine Az ?_|refine Bm ?_)))) (fun hs23_30=>?_) (fun hs23_30=>?_)
  ·
   have hs23_3:=hs23_30;refine .a J J J (.na (.seq (.sr (.m J J J (.not J J J (.m J J J (.skp J J (.skp J J (.skp J J (.skp J J (.skp J J (.pick J J J J J J (.na (.cond_f J J (.skip (Bl (.seq ?_)))))))))))))))))
   try simp only[List.append_eq,Lan,Lah,Laa]
   refine .drawK (sp_v (sp_k (sp_x (sp_x (sp_x (sp_x sp_n)))))) J (oP [0,2,3,4,5,6,7,9,10,11,12,13,14,15,201,408,416,17,18]) [(4,19)] Aq zK zK (.m J J J (.m J J J (.nC J J J (.fld J J J Y109 J Sz107 dE _ J (.kload1 J J J C2 J Z0 (by rfl) ?_)))));refine .m J J J (.sliceHiA g.x.sO g.i J J J J J (by have:=hG.ok.accO.cap;have:=hG.ok.accO.num;omega) C2 Sz111 ?_);refine .m J J J (.nC J J J (.fld J J J Y109 J Sz107 dE _ J (.kload1 J J J C2 J Z0 (by rfl) ?_)));refine .m J J J (.aI J J J J oM (Tr.sliceLoA (g.i+1) J J J J oM hG.ok.accO oM C2 Sz111 ?_));intro s156 hn156 hnil156 hsee156 _ _;refine .mkRow2 (z:=(agg RKn.zero.cells)) [] ([]) J J C2 Sz111 RKn.zr J J (by intro v hv;cases hv) dE J ?_;intro q142;refine .appendAcc (n:=0) (m:=g.i) (z:=(agg RKn.zero.cells)) (by':=216) (rkc (g.x.O.take g.i)) J J J J J C2 C2 Sz111 RKn.zr (by unfold By;kernel_rfl) J (Acc.some (cells:=[]) (E:=111) (Laj 0) J) (Ab rM Ae) (fun w h=>rk_take (hG.ok.accO.see (Lies.of h (by repeat(first|exact Ax|refine Az ?_|refine Bm ?_))))) (fun e=>by have:=hG.ok.accO.nil e;have:=hG.ok.accO.num;omega) (rkc_cell (fun q hq=>hG.ok.okO q (Lbu hq))) oM oM (by rw[rkc_len (fun q hq=>hG.ok.okO q (Lbu hq)),Lac,Lbw oM]) ?_;intro s149 bl149 hac149;refine .appendAcc (n:=(0+g.i)) (z:=(agg RKn.zero.cells)) (by':=216) (rkc (g.x.O.drop (g.i+1))) J J J J J C2 C2 Sz111 RKn.zr (by unfold By;kernel_rfl) J hac149 sG (fun w h=>by rw[rkc_drop hG.ok.okO];exact hsee156 w (Lies.of h (by repeat(first|exact Ax|refine Az ?_|refine Bm ?_)))) hnil156 (rkc_cell (fun q hq=>hG.ok.okO q (Lcs hq))) oM oM (by rw[rkc_len (fun q hq=>hG.ok.okO q (Lcs hq)),Lau,hn156]) ?_;intro s157 bl157 hac157;refine .nC J J J (.fld J J J Y109 J Sz107 dE _ J (.nil (.s1 J J J J J Sz107 Z0 sP (by rfl) zU ?_)));refine .na (.seq (.sr (.m J J J (.not J J J (.na (.cond_f J J (.skip (Bl (.region (.a J J J (.nil (bl_n (Bl (.region (.m J J J (.aI J J J J oM (.a J J J (.na ?_))))))))))))))))));exact⟨⟨g.x.less g.i s157 bl157,g.X.drop1 e.1.fName,0,g.s,g.bl,g.l⟩,hG.drop hd (by rw[←hG.rel.p];exact hs23_3) (by simpa only[rkc_app,La2,Lac,Lau,Lah,Laz,hn156,Lbw (Lf8 hi2)]using hac157),(by show(g.x.O.take g.i++g.x.O.drop (g.i+1)).length*100000-0<g.x.O.length*100000-g.i;rw[La2,Lac,Lau];omega),Ah wN (Ab rM (Ac sG (Ac sG (Ac sG (Ac sG Ae)))))⟩
  have hs23_3:=hs23_30;refine .a J J J (.na (.seq (.sr (.m J J J (.not J J J (.m J J J (.m J J J (.fld J J J underlying111 J Sz50 dE _ J (.lN (Block.cells _) J J J Y50.h J Sz50 Z0 (RKn.row_fBlock (by exact hek)) (RKn.rl_fBlock (by exact hek)) ?_)))))))));refine .cV J J J J Body107 (rd_ready g.x hG.ok p e.1.fBlock e.2 hen.2.1.1 hen.2.2) (fun w h=>⟨rd_of (x:=g.x) h Z1 (Lies.of h (by repeat(first|exact Ax|refine Az ?_))) (Lies.of h (by repeat(first|exact Ax|refine Az ?_|refine Bm ?_))) (Lies.of h (by repeat(first|exact Ax|refine Az ?_|refine Bm ?_))),hen.2.1.2 w (Lies.of h (by repeat(first|exact Ax|refine Az ?_|refine Bm ?_)))⟩) ?_;refine .not J J J (.pick J J J J J J (.na (.cond J (fun hc7=>?_) (fun hc7=>?_))))
  ·
   refine .exit (at_x (bl_h (Bl (.region (.m J J J (.aI J J J J oM (.a J J J (.na ?_))))))));exact⟨⟨g.x,g.X,g.i+1,g.s,g.bl,g.l⟩,hG.more hd (by rw[hG.rel.p]at hs23_3 hc7;unfold Bq;rw[show wrongB g.X.P e.2=false from hs23_3,show readyB g.X.P e.2=false by simpa using hc7];rfl),by simp only;omega,Ah wN (Ab rM (Ac sG (Ac sG (Ac sG (Ac sG Ae)))))⟩
  refine .skip (Bl (.seq ?_))
  try simp only[List.append_eq,Lan,Lah,Laa]
  refine .drawK (sp_v (sp_k (sp_x (sp_x (sp_x (sp_x sp_n)))))) J (oP [0,2,3,4,5,6,7,9,10,11,12,13,14,15,201,408,416,17,18]) [(4,19)] Aq zK zK (.m J J J (.m J J J (.nC J J J (.fld J J J Y109 J Sz107 dE _ J (.kload1 J J J C2 J Z0 (by rfl) ?_)))));refine .m J J J (.sliceHiA g.x.sO g.i J J J J J (by have:=hG.ok.accO.cap;have:=hG.ok.accO.num;omega) C2 Sz111 ?_);refine .m J J J (.nC J J J (.fld J J J Y109 J Sz107 dE _ J (.kload1 J J J C2 J Z0 (by rfl) ?_)));refine .m J J J (.aI J J J J oM (Tr.sliceLoA (g.i+1) J J J J oM hG.ok.accO oM C2 Sz111 ?_));intro s156 hn156 hnil156 hsee156 _ _;refine .mkRow2 (z:=(agg RKn.zero.cells)) [] ([]) J J C2 Sz111 RKn.zr J J (by intro v hv;cases hv) dE J ?_;intro q142;refine .appendAcc (n:=0) (m:=g.i) (z:=(agg RKn.zero.cells)) (by':=216) (rkc (g.x.O.take g.i)) J J J J J C2 C2 Sz111 RKn.zr (by unfold By;kernel_rfl) J (Acc.some (cells:=[]) (E:=111) (Laj 0) J) (Ab rM Ae) (fun w h=>rk_take (hG.ok.accO.see (Lies.of h (by repeat(first|exact Ax|refine Az ?_|refine Bm ?_))))) (fun e=>by have:=hG.ok.accO.nil e;have:=hG.ok.accO.num;omega) (rkc_cell (fun q hq=>hG.ok.okO q (Lbu hq))) oM oM (by rw[rkc_len (fun q hq=>hG.ok.okO q (Lbu hq)),Lac,Lbw oM]) ?_;intro s149 bl149 hac149;refine .appendAcc (n:=(0+g.i)) (z:=(agg RKn.zero.cells)) (by':=216) (rkc (g.x.O.drop (g.i+1))) J J J J J C2 C2 Sz111 RKn.zr (by unfold By;kernel_rfl) J hac149 sG (fun w h=>by rw[rkc_drop hG.ok.okO];exact hsee156 w (Lies.of h (by repeat(first|exact Ax|refine Az ?_|refine Bm ?_)))) hnil156 (rkc_cell (fun q hq=>hG.ok.okO q (Lcs hq))) oM oM (by rw[rkc_len (fun q hq=>hG.ok.okO q (Lcs hq)),Lau,hn156]) ?_;intro s157 bl157 hac157;refine .nC J J J (.fld J J J Y109 J Sz107 dE _ J (.nil (.s1 J J J J J Sz107 Z0 sP (by rfl) zU ?_)));refine .na (.seq (.sr (.m J J J (.not J J J (.na (.cond_t J J (.seq ?_)))))))
  try simp only[List.append_eq,Lan,Lah,Laa]
  refine .drawK (sp_k (sp_x (sp_k (sp_x (sp_x (sp_x (sp_x sp_n))))))) J (oP [0,1,2,3,4,5,206,407,8,9]) [(4,10)] Aq zK zK (.m J J J (.m J J J (.nC J J J (.fld J J J Y109 J Sz107 dE _ J (.kload1 J J J C2 J Z0 (by rfl) ?_)))));refine .kloadAll J J J underlying111 J Sz111 Z1 (RKn.length (by exact hek)) ?_;refine .mkRow2 (z:=(agg RKn.zero.cells)) [agg e.1.cells] (e.1.cells) J J C2 Sz111 RKn.zr J J (by intro v hv;rw[La1.1 hv];exact RKn.length (by exact hek)) dE (by simp[Value.cells,agg]) ?_;intro q168;refine .appendAcc (n:=g.x.L.length) (z:=(agg RKn.zero.cells)) (by':=216) (e.1.cells) J J J J J C2 C2 Sz111 RKn.zr (by unfold By;kernel_rfl) J hG.ok.accL sG (fun w h=>SeesP.of (Ap h Z0)) (fun e=>by cases e) (RKn.isCell hek) oM oM (by rw[RKn.length hek]) ?_;intro s169 bl169 hac169;refine .nC J J J (.fld J J J Y109 J Sz107 dE _ J (.nil (.s1 J J J J J Sz107 Z0 sP (by rfl) zU ?_)));refine .na (.region (.m J J J (.fld J J J underlying111 J Sz34 dE _ J (.lN (Aa _) J J J Y34.h J Sz34 Z1 (RKn.row_fName (by exact hek)) (RKn.rl_fName (by exact hek)) ?_))));refine .mkRow2 (z:=agg (Aa (List.replicate 32 0))) [agg (Aa e.1.fName)] (Aa e.1.fName) J J Y30.h Sz34 Ce J J (by intro v hv;rw[La1.1 hv];simp[Value.cells,Aa,hel]) dE (by simp[Value.cells,agg]) ?_;intro q175;refine .appendAcc (n:=g.l.length) (z:=agg (Aa (List.replicate 32 0))) (by':=32) (Aa e.1.fName) J J J J J Y30.h Y30.h Sz34 Ce (by unfold By;kernel_rfl) J hG.acc sG (fun w h=>SeesP.of (Ap h Z0)) (fun e=>by cases e) (Ay _) oM oM (by rw[Aa,La0,hel]) ?_;intro s176 bl176 hac176;refine .a J J J (.na (.region (.a J J J (.nil (bl_n (Bl (.region (.m J J J (.aI J J J J oM (.a J J J (.na ?_)))))))))));exact⟨⟨(g.x.less g.i s157 bl157).more e s169 bl169 g.x.cb,(g.X.drop1 e.1.fName).adm e.1.fName e.2,0,s176,bl176,g.l++[e.1.fName]⟩,hG.fit hd (by rw[←hG.rel.p];exact hs23_3) (by rw[←hG.rel.p];simpa using hc7) (by simpa only[rkc_app,La2,Lac,Lau,Lah,Laz,hn156,Lbw (Lf8 hi2)]using hac157) hac169 hac176,(by show(g.x.O.take g.i++g.x.O.drop (g.i+1)).length*100000-0<g.x.O.length*100000-g.i;rw[La2,Lac,Lau];omega),Ah wN (Ab rM (Ac sG (Ac sG (Ac sG (Ac sG Ae)))))⟩
 have hi2:g.i=g.x.O.length:=by omega
 refine .exit (at_x (at_x (bl_h (Bl (.sr (.m J J J (.a J J J (.a J J J (.na ?_)))))))));refine .ret (C8 (Aw (out:=(⟨p,[g.x.sL.v,g.x.sO.v],109,2⟩::(g.x.bL++(g.x.bO++(g.x.cb++(g.bl++[])))))) (Bu J J J) (Ab rM (Ac sG (Ac sG (Ac sG (Ac sG Ae))))) ?_));exact⟨g.x,0,g.s,g.bl,rfl,(by simp[RD.blks]),hG.ok,hG.fin hi2,hG.sz⟩
theorem seesP_far{w w2:World}(h:HRep C hp w)(hl:C.lent=[])(hL:∀b∈L,b∈hp)(hk:Keeps (L.map (·.n)) w w2){p:Option Addr}{cs:List Value}(hs:SeesP C.W0 p cs):SeesP w2 p cs:=fun j v hj=>by
  obtain⟨b,o,hp1,hc⟩:=hs j v hj;refine⟨b,o,hp1,?_⟩;have hlt:=cell_lt' hc;have h1:w.cell? ⟨b,o+j,none⟩=some v:=h.keeps.cell (by rw[hl];simp) hc;refine hk.cell (fun hm=>?_) h1;obtain⟨x,hx,e⟩:=La6.1 hm;rcases h.own x (hL x hx)with h2|h2
  · have e2:x.n=b:=e
    omega
  ·rw[hl]at h2;cases h2
theorem block_far(h:HRep C hp w)(hL:∀b∈L,b∈hp)(hb:BlockIs C.W0 B D)(hl:C.lent=[]:=by rfl):∀w2,Keeps (L.map (·.n)) w w2→BlockIs w2 B D:=fun w2 hk=>
  ⟨hb.ok,hb.w,hb.seq,hb.prev,⟨hb.ls.len,hb.ls.row,hb.ls.cap,seesP_far h hl hL hk hb.ls.see,hb.ls.max,hb.ls.nil⟩,⟨hb.ds.len,hb.ds.cap,seesP_far h hl hL hk hb.ds.see,hb.ds.max,hb.ds.nil⟩,hb.sg⟩
theorem rd_lent{hp keep:List Blk}{x:RD}{p:Nat}(h:HRep C hp w)(hp1:hp.Perm (x.blks p++keep))(hb:BlockIs C.W0 B D)(hl:C.lent=[]:=by rfl):Lent (x.blks p) w∧∀w2,Keeps ((x.blks p).map (·.n)) w w2→BlockIs w2 B D:=
  ⟨Lent.of h hp1,block_far h (fun b hb=>hp1.mem_iff.2 (Lag _ hb)) hb hl⟩
theorem RRel.new:RRel PD.new [] []:=⟨rfl,Lce _,List.Pairwise.nil⟩
theorem rd_new0:(⟨Sl.nil,[],[],Sl.nil,[],[],[]⟩:RD).ok:=⟨Acc.none,Acc.none,fun e he=>(by cases he),fun e he=>(by cases he),Lar _,Lar _⟩
def rkNames(x:RD):List (List UInt8):=x.L.map fun e=>e.1.fName
theorem rkNames_P(x:RD):rkNames x=x.P.map (·.1):=by unfold rkNames RD.P rp;rw[Lgh];rfl
theorem rkNames_at{x:RD}{e:RE}(h:x.L[k]? =some e):(rkNames x).take (k+1)=(rkNames x).take k++[e.1.fName]:=by
  obtain⟨h1,h2⟩:=Lab.1 h;unfold rkNames;rw[←Lbc,←Lbc,Las h1,Lad,h2];rfl
theorem rkNames_32{x:RD}(hx:x.ok):∀l∈rkNames x,l.length=32:=fun l hl=>by
  obtain⟨e,he,rfl⟩:=La6.1 hl;exact(hx.okL e he).l_fName
theorem rd_names(x:RD)(hx:x.ok)(p:Nat):Meets prog 19 [ptr p 0] [] (fun W=>Lies (x.blks p) W) (RowA (rkNames x)):=by
 intro W hW;have hbig:=hx.big;have hnL:=hx.accL.num;have hnO:=hx.accO.num;have hcL:=rd_L hW;have hsL:=rd_seeL hx hW;have h32:=rkNames_32 hx;have hnl:(rkNames x).length=x.L.length:=La0 _;refine Ad func19 J 26 ntmps19 J (.sr (.a J J J (.nsr (.a J J J (.na (.seq (.sr (.a J J J (.na (.block (.loop (ι:=Nat×Sl×List Blk) (fun r=>⟨[(0,ptr p 0),(3,r.2.1.v),(4,i64 (r.1:Int))],(r.2.2++[])⟩) (fun r=>r.1≤x.L.length∧Hw.Acc r.2.1 r.2.2 (As ((rkNames x).take r.1)) 34 r.1 32) (fun r=>x.L.length-r.1) ((0,Sl.nil,[])) ?_ ?_ ?_)))))))))))
 ·exact⟨Lar _,Acc.none⟩
 ·exact Ah wN (Ac (by repeat(exact sg_end)) Ae)
 rintro⟨k,s,bl⟩ ⟨hk,hac⟩;simp only at hk hac ⊢;have hnk:=hac.num;refine .seq (.sr (.m J J J (.m J J J (.nC J J J (.fld J J J Y109 J Sz107 dE _ J (.loadE J J J C2 J sP (hcL) (.lenSl J J J C2 (.lss J J J J J (.na (.condP J (fun hc0=>?_) (fun hc0=>?_)))))))))))
 ·
  have hk2:k<x.L.length:=by omega
  obtain⟨e,hd⟩:∃e,x.L[k]? =some e:=⟨_,La3 hk2⟩;have hel:=(hx.okL e (Lay hd)).l_fName;obtain⟨b,o,hbp,hbs⟩:=rd_open hsL hx.okL hk2;refine .skip (Bl (.seq (.block (.region (.m J J J (.m J J J (.nC J J J (.fld J J J Y109 J Sz107 dE _ J (.loadE J J J C2 J sP (hcL) (.m J J J (.idxSlP 163 J J J hbp J C2 Sz111 k (by rfl) oM ?_)))))))))));refine .fld J J J underlying111 J Sz34 dE _ J (.loadEN (Aa e.1.fName) J J J Y34.h J Sz34 sP (by rw[Aa,La0];exact hel) (rk_name hbs hx.okL hd) ?_);refine .mkRow2 (z:=agg (Aa (List.replicate 32 0))) [agg (Aa e.1.fName)] (Aa e.1.fName) J J Y30.h Sz34 Ce J J (by intro v hv;rw[La1.1 hv];simp[Value.cells,Aa,hel]) dE (by simp[Value.cells,agg]) ?_;intro q23;refine .appendAcc (n:=k) (z:=agg (Aa (List.replicate 32 0))) (by':=32) (Aa e.1.fName) J J J J J Y30.h Y30.h Sz34 Ce (by unfold By;kernel_rfl) J hac sG (fun w h=>SeesP.of (Ap h Z0)) (fun e=>by cases e) (Ay _) oM oM (by rw[Aa,La0,hel]) ?_;intro s24 bl24 hac24;refine .a J J J (.nil (bl_n (Bl (.region (.m J J J (.aI J J J J oM (.a J J J (.na ?_))))))));exact⟨(k+1,s24,bl24),⟨by simp only;omega,by simp only;rw[rkNames_at hd,Bv,show As [e.1.fName]=Aa e.1.fName by simp[As]];exact hac24⟩,by simp only;omega,Ah wN (Ac sG Ae)⟩
 have hke:k=x.L.length:=by omega
 refine .exit (at_x (at_x (bl_h (Bl (.sr (.m J J J (.a J J J (.na ?_))))))));refine .ret (C8 (Aw (out:=(bl++[])) (Ag J J) (Ac sG Ae) ?_));rw[La5 oM]at hac;exact⟨s,rfl,by rw[hnl,←hke];simpa using hac⟩
theorem rd_get(x:RD)(hx:x.ok)(p:Nat)(X:PD)(hP:x.P=X.P)(hck:∀q∈X.P,q.2.check=0)(n:List UInt8)(h32:n.length=32):Meets prog 26 [ptr p 0,agg (Aa n)] [] (fun W=>Lies (x.blks p) W) (GetR X n):=by
 intro W hW;have hbig:=hx.big;have hnL:=hx.accL.num;have hnO:=hx.accO.num;have hcL:=rd_L hW;have hsL:=rd_seeL hx hW;refine Ad func26 J 25 ntmps26 J (.sr (.boxA J J ?_));intro n3 hn3 hf3;refine .alloc (cs:=Block.zero.cells) J Block.zr J ?_;intro n4 hn4 hf4;refine .a J J J (.na (.seq (.draw (oP [0,1,2,103,104,305,6]) Aq zK (.m J J J (.nC J J J (.fld J J J Y109 J Sz107 dE _ J (.loadE J J J C2 J sP (hcL) (.lA J J J Y34.h J Sz34 Z1 (by(simp[h32];done)) ?_))))))));refine .cV J J J J Body84 (rd_find x.sL x.L hnL.symm hx.okL oM n h32) (fun w h=>A7 h J hsL) (.a J J J (.na (.seq (.sr (.m J J J (.lss J J J J J (.na (.condP J (fun hc0=>?_) (fun hc0=>?_)))))))))
 ·
  have hm:An X.P n=none:=by rw[←hP];exact rd_no oM
  refine .sr (.build (cs:=Block.zero.cells) J J J (fun w=>by kernel_rfl) ?_);refine .sA J J J J (Block.isCell (by exact Block.zero_ok)) Sz50 (Block.length (by exact Block.zero_ok)) Z0 (Block.length (by exact Block.zero_ok)) zU ?_;refine .a J J J (.na ?_);refine .ret (at_r (C8 (Aw (out:=[]) (Be J J J Y50.h J Sz50 Z0 (by exact Block.length (by exact Block.zero_ok))) Ae ?_)));exact .inl ⟨hm,rfl,rfl⟩
 obtain⟨k,e,hf,hk,hn,hm0⟩:=rd_hit (show 0≤fstBad (rkN n) x.L by omega);have hm:An X.P n=some e.2:=by rw[←hP];exact hm0
 have hen:=hx.entL e (Lay hk);have hek:=hen.1;have hkl:=(Lab.1 hk).1;obtain⟨b,o,hbp,hbs⟩:=rd_open hsL hx.okL hkl;have hsm:=ck_small (hck _ (Bg hm));simp only at hsm;obtain⟨hsm1,hsm2⟩:=hsm;refine .skip (Bl (.sr (.m J J J (.nC J J J (.fld J J J Y109 J Sz107 dE _ J (.loadE J J J C2 J sP (hcL) (.m J J J (.idxSlP 163 J J J hbp J C2 Sz111 k oM oM (.fld J J J underlying111 J Sz50 dE _ J (.loadEN e.1.fBlock.cells J J J Y50.h J Sz50 sP (Block.length hek.o_fBlock) (rk_blk hbs hx.okL hk) (.call4 J J J J J Body85 (r15_Copy e.1.fBlock e.2 hek.o_fBlock oM oM) (fun w h=>hen.2.1.2 w (rd_cb (B9 hW h))) ?_)))))))))));rintro v24 out24 ⟨B2,hB2,rfl,hb2⟩;refine .sA J J J J (Block.isCell (by exact hB2.ok)) Sz50 (Block.length (by exact hB2.ok)) mR (Block.length (by exact Block.zero_ok)) (by(repeat(first|exact upd0|apply Upd.seg))) ?_;refine .a J J J (.na ?_);refine .ret (C8 (Aw (out:=(out24++[])) (Be J J J Y50.h J Sz50 mR (by exact Block.length (by exact hB2.ok))) (Ac sG Ae) ?_));exact .inr ⟨e.2,B2,hm,hB2,rfl,fun W2 hl=>hb2 W2 (by simpa using hl)⟩
theorem law17_known(s:Sl)(ds:List DB)(hn:s.n≤1000)(hsm:∀d∈ds,d.ls.length≤500000∧d.ds.length≤500000):Meets prog 18 [s.v] [] (fun W=>BlocksAt W s ds) (fun v out=>∃(p:Nat) (x:RD),v=ptr p 0∧out=x.blks p∧x.ok∧RRel (fillP PD.new ds) x.P x.Q∧x.L.length+x.O.length≤ds.length):=by
 intro W hW;obtain⟨rs,hs⟩:=hW;have hnd:=hs.nd;refine Ad func18 J 19 ntmps18 J (G7 ?_);refine .call4 J J J J J Body40 (rd_new) tV ?_;rintro v5 out5 ⟨p,rfl,rfl⟩;refine G10 ?_;refine .loop (ι:=Nat×RD) (fun r=>⟨[(0,s.v),(3,ptr p 0),(4,i64 (r.1:Int))],(r.2.blks p++[])⟩) (fun r=>r.1≤s.n∧r.2.ok∧RRel (fillP PD.new (ds.take r.1)) r.2.P r.2.Q∧r.2.L.length+r.2.O.length≤r.1) (fun r=>s.n-r.1) ((0,⟨Sl.nil,[],[],Sl.nil,[],[],[]⟩)) ?_ ?_ ?_
 ·exact⟨Lar _,rd_new0,RRel.new,Laj _⟩
 ·exact Ah wN (Ac sG Ae)
 rintro⟨k,x⟩ ⟨hk,hx,hrel,hnx⟩;simp only at hk hx hrel hnx ⊢;refine G9 ?_;refine .condP J (fun hc0=>?_) (fun hc0=>?_)
 ·
  have hk2:k<s.n:=by omega
  obtain⟨b,o,r,d,hsp,hr,hd,his,hlen,hsee⟩:=hs.at dE hk2;refine G8 ?_;refine .idxSlP 131 J J J hsp J Y22.h Sz50 k J oM (.loadEN r.cells J J J Y50.h J Sz50 sP hlen hsee (.callL (L:=(x.blks p)) J J J J J Body43 (rd_add x hx (fillP PD.new (ds.take k)) (PD.Inv.fill _ PD.Inv.new) hrel p r d oM (hsm d (Lay hd)).1 (hsm d (Lay hd)).2) sG (lent_ok J) (fun w h=>rd_lent h sG his) ?_));rintro v17 out17 ⟨x1,e17,s17,bl17,rfl,rfl,hx1,hrel1,hnx1⟩;simp only[Laa];refine G9 ?_;exact⟨(k+1,x1),⟨by simp only;omega,hx1,by simp only;rw[take_snoc hd,fillP_snoc];exact hrel1,by simp only;omega⟩,by simp only;omega,Ah wN (Ac sG Ae)⟩
 have hke:k=s.n:=by omega
 refine G11 ?_;refine G2 ?_;refine Aw (out:=(x.blks p++[])) (Ag J J) (Ac sG Ae) ?_;refine⟨p,x,rfl,by simp,hx,?_,by omega⟩;rw[hke,La5 oM]at hrel;exact hrel
structure KI(ms:List (List UInt8×Int))(S:List UInt8→Prop):Prop where
  one:∀p∈ms,p.1.length=32∧p.2=1
  nd:(ms.map (·.1)).Nodup
  mem:∀n,n∈ms.map (·.1)↔S n
theorem KI.none:KI [] (fun _=>False):=⟨fun p h=>(by cases h),Lck,fun n=>⟨fun h=>(by cases h),fun h=>h.elim⟩⟩
theorem KI.put(h:KI ms S)(h32:n.length=32)(hT:∀k,T k↔S k∨k=n):KI (Bf ms n 1) T where
  one:=fun p hp=>by
    rcases mput_mem hp with hp|rfl
    ·exact h.one p hp
    ·exact⟨h32,rfl⟩
  nd:=mput_nodup h.nd n 1
  mem:=fun k=>by rw[keys_put,h.mem,hT]
theorem KI.iff(h:KI ms S)(hT:∀k,T k↔S k):KI ms T:={ h with mem:=fun k=>(h.mem k).trans (hT k).symm }
theorem KI.no(h:KI ms S)(hg:An ms n=Option.none):¬S n:=fun hs=>by
  obtain⟨v,hv⟩:=Cw ((h.mem n).2 hs);rw[hg]at hv;cases hv
theorem KI.yes(h:KI ms S){v:Int}(hg:An ms n=some v):v=1∧S n:=⟨(h.one _ (Bg hg)).2,(h.mem n).1 (La6.2 ⟨_,Bg hg,rfl⟩)⟩
theorem row_open{s:Sl}{bl:List Blk}{L:List (List UInt8)}(h:Hw.Acc s bl (As L) 34 L.length 32)(h32:∀l∈L,l.length=32)(h0:0<L.length):∃q c,s=⟨some ⟨q,0,none⟩,L.length,c⟩∧∀k,k<L.length→∀w,Lies bl w→C5 w q (0+k*32) (Aa (L.getD k [])):=by
  rcases h with ⟨_,_,_,e⟩|⟨q,c,e,h1,h2,h3⟩
  ·omega
  · refine⟨q,c,e,fun k hk w hw=>Cn h32 ?_ hk⟩
    have:=(Acc.some (q:=q) (E:=34) h1 h2).see (w:=w) (by rw[←h3];exact hw);intro j v hj;obtain⟨b,o,e2,e3⟩:=this j v hj;cases e2;exact e3
theorem inj_of_nodup{α:Type}(f:α→Nat):∀ {l:List α},(l.map f).Nodup→∀x∈l,∀y∈l,f x=f y→x=y
  | [],_,_,h,_,_,_=>by cases h
  | z::l,hn,x,hx,y,hy,e=>by
    obtain⟨h1,h2⟩:=Lb2.1 hn;rcases Lai.1 hx with rfl|hx2<;>rcases Lai.1 hy with rfl|hy2
    ·rfl
    ·exact absurd (La6.2 ⟨y,hy2,e.symm⟩) h1
    ·exact absurd (La6.2 ⟨x,hx2,e⟩) h1
    ·exact inj_of_nodup f h2 x hx2 y hy2 e
theorem weak_tr{sl:List (Nat×Value)}{hp hq:List Blk}{s':St}(p:hp.Perm hq)(h:Weak ⟨sl,hq⟩ s'):Weak ⟨sl,hp⟩ s':=⟨h.sl,fun b hb=>p.symm.subset (h.hp b hb),fun hn=>h.nodup ((p.map _).nodup_iff.1 hn)⟩
theorem C7{j i:Nat}(h:j≠i):also j l i=l i:=by simp[also,h]
theorem also_eq:also j l j=true:=by simp[also]
theorem not_yet{bi:Nat→List Nat}(hs:∀i,l i=true→∀k∈bi i,l k=true)(hk:l k=false)(i:Nat)(hi:(bi i).contains k=true):l i=false:=by
  cases h:l i with
  |false=>rfl
  | true=>
    have:=hs i h k (by simpa using hi);rw[hk]at this;cases this
theorem is_done{bs:List Nat}(hb:∀k∈bs,l k=true)(k:Nat)(hk:bs.contains k=true):l k=true:=hb k (by simpa using hk)
def IntsAt(W:World)(s:Sl)(l:List Int):Prop:=SeqIs (fun r:Int=>[i64 r]) 1 (fun _ r d=>d=r∧(Lit.int .i64 r).wf=true) W s l l
def T14(m q:Nat)(n:List UInt8)(s0 s5:Sl):List (Nat×Nat×Value):=[(0,72, .map (some m)),(1,73,agg (Aa n)),(2,74,s0.v),(3,75,agg (Aa n)),(4,76, .slice (some ⟨q,0,none⟩) 1 1),(5,77,s5.v)]
theorem T14_one{x y:Nat×Nat×Value}(hx:x∈T14 m q n s0 s5)(hy:y∈T14 m q n s0 s5):(x.1=y.1→x=y)∧(x.2.1=y.2.1→x=y):=
  ⟨inj_of_nodup (·.1) (by simp only[T14,Lap,Ldy];decide) x hx y hy,inj_of_nodup (·.2.1) (by simp only[T14,Lap,Ldy];decide) x hx y hy⟩
theorem T14_lt(hx:x∈T14 m q n s0 s5):x.1<6∧72≤x.2.1:=by
  simp only[T14,Lai,Lbi,or_false]at hx;rcases hx with rfl|rfl|rfl|rfl|rfl|rfl<;>simp
structure A14(B:List (Nat×Value))(K:List Blk)(m:Nat)(f:List (List UInt8×Int))(n:List UInt8)(s0:Sl)(bl0:List Blk)(L:List (List UInt8))(q:Nat)(s5:Sl)(bl5:List Blk)(l:Nat→Bool)(s:St):Prop where
  fs:∀e∈T14 m q n s0 s5,l e.1=true→Hw.look s.sl e.2.1=some e.2.2
  bs:∀e∈B,Hw.look s.sl e.1=some e.2
  t10:Hw.look s.sl 10=some (bif l 6 then s5.v else s0.v)
  ac:l 5=true→Hw.Acc s5 bl5 (As L++Aa n) 34 (L.length+1) 32
  hp:s.hp.Perm (A3 m (Am 32 evI) (bif l 7 then Bf f n 1 else f)::((bif l 5 then bl5 else bl0)++((bif l 4 then[⟨q,Aa n,34,32⟩]else[])++K)))
def J14(B:List (Nat×Value))(K:List Blk)(m:Nat)(f:List (List UInt8×Int))(n:List UInt8)(s0:Sl)(bl0:List Blk)(L:List (List UInt8))(l:Nat→Bool)(s:St):Prop:=∃q s5 bl5,A14 B K m f n s0 bl0 L q s5 bl5 l s
section
variable{B:List (Nat×Value)}{K:List Blk}{m:Nat}{f:List (List UInt8×Int)}{n:List UInt8}{s0:Sl}{bl0:List Blk}{L:List (List UInt8)}{q:Nat}{s5:Sl}{bl5:List Blk}{l:Nat→Bool}{sl:List (Nat×Value)}{hp:List Blk}
theorem A14.start(hB:∀e∈B,Hw.look sl e.1=some e.2)(h10:Hw.look sl 10=some s0.v)(hp1:hp.Perm (A3 m (Am 32 evI) f::(bl0++K))):J14 B K m f n s0 bl0 L (fun _=>false) ⟨sl,hp⟩:=
  ⟨0,Sl.nil,[],(fun _ _ h=>by cases h),hB,h10,(fun h=>by cases h),hp1⟩
variable(h:A14 B K m f n s0 bl0 L q s5 bl5 l ⟨sl,hp⟩)
include h
variable{R:List Blk}{x:Blk}
theorem A14.put{j d:Nat}{v:Value}(hT:(j,d,v)∈T14 m q n s0 s5)(hj:j<4)(hB:∀e∈B,d≠e.1):J14 B K m f n s0 bl0 L (also j l) ⟨(d,v)::sl,hp⟩:=by
  have hd10:=(T14_lt hT).2;simp only at hd10;refine⟨q,s5,bl5,fun e he hl=>?_,fun e he=>by rw[Bn _ _ (hB e he)];exact h.bs e he,?_,fun hl=>h.ac (by rwa[C7 oM]at hl),?_⟩
  · by_cases hd:d=e.2.1
    · have:=(T14_one hT he).2 hd
      rw[←this];exact look_cons_eq _ _ _
    · rw[Bn _ _ hd]
      refine h.fs e he ?_;by_cases hje:j=e.1
      ·exact absurd (congrArg (·.2.1) ((T14_one hT he).1 hje)) hd
      ·rwa[C7 hje]at hl
  ·rw[Bn _ _ oM,C7 oM];exact h.t10
  ·rw[C7 (show j≠7 by omega),C7 (show j≠5 by omega),C7 (show j≠4 by omega)];exact h.hp
theorem A14.mk4(h4:l 4=false)(h5:l 5=false)(hB:∀e∈B,76≠e.1)(q2:Nat)(hx:x=⟨q2,Aa n,34,32⟩):J14 B K m f n s0 bl0 L (also 4 l) ⟨(76, .slice (some ⟨q2,0,none⟩) 1 1)::sl,x::hp⟩:=by
  refine⟨q2,s5,bl5,fun e he hl=>?_,fun e he=>by rw[Bn _ _ (hB e he)];exact h.bs e he,?_,fun hl=>h.ac (by rwa[C7 oM]at hl),?_⟩
  · have hf:=h.fs
    simp only[T14,Lai,Lbi,or_false]at he hf;rcases he with rfl|rfl|rfl|rfl|rfl|rfl<;>first|exact look_cons_eq _ _ _|(rw[C7 sP,h5]at hl;cases hl)|exact(Bn _ _ sP).trans (hf _ sP hl)
  ·rw[Bn _ _ oM,C7 oM];exact h.t10
  · have hq:=h.hp
    rw[h4,h5]at hq;rw[C7 (show 4≠7 by omega),C7 (show 4≠5 by omega),also_eq,h5,hx];refine(hq.cons _).trans ((List.Perm.swap _ _ _).trans (List.Perm.cons _ ?_));exact Lcw.symm
theorem A14.at5(h4:l 4=true)(h5:l 5=false):∃R,hp.Perm (bl0++R)∧R.Perm (A3 m (Am 32 evI) (bif l 7 then Bf f n 1 else f)::(⟨q,Aa n,34,32⟩::K)):=by
  have hq:=h.hp;rw[h4,h5]at hq;refine⟨_,hq.trans ?_,Lce _⟩;exact Lcw.symm
theorem A14.app(h4:l 4=true)(h5:l 5=false)(h6:l 6=false)(hB:∀e∈B,77≠e.1){s':Sl}{bl' R:List Blk}(hac:Hw.Acc s' bl' (As L++Aa n) 34 (L.length+1) 32)(hR:R.Perm (A3 m (Am 32 evI) (bif l 7 then Bf f n 1 else f)::(⟨q,Aa n,34,32⟩::K))):J14 B K m f n s0 bl0 L (also 5 l) ⟨(77,s'.v)::sl,bl'++R⟩:=by
  refine⟨q,s',bl',fun e he hl=>?_,fun e he=>by rw[Bn _ _ (hB e he)];exact h.bs e he,?_,fun _=>hac,?_⟩
  · have hf:=h.fs
    simp only[T14,Lai,Lbi,or_false]at he hf;rcases he with rfl|rfl|rfl|rfl|rfl|rfl<;>first|exact look_cons_eq _ _ _|exact(Bn _ _ sP).trans (hf _ sP (by rwa[C7 sP]at hl))
  · rw[Bn _ _ oM,C7 oM,h6]
    have:=h.t10;rw[h6]at this;exact this
  · rw[C7 (show 5≠7 by omega),also_eq,C7 (show 5≠4 by omega),h4]
    exact(Lcv _ hR).trans Lcw
theorem A14.asg(h5:l 5=true)(hB:∀e∈B,10≠e.1):J14 B K m f n s0 bl0 L (also 6 l) ⟨(10,s5.v)::sl,hp⟩:=by
  refine⟨q,s5,bl5,fun e he hl=>?_,fun e he=>by rw[Bn _ _ (hB e he)];exact h.bs e he,?_,fun _=>h.ac h5,?_⟩
  · have h1:=T14_lt he
    rw[Bn _ _ oM];exact h.fs e he (by rwa[C7 oM]at hl)
  ·rw[also_eq];exact look_cons_eq _ _ _
  ·rw[C7 (show 6≠7 by omega),C7 (show 6≠5 by omega),C7 (show 6≠4 by omega)];exact h.hp
theorem A14.ins(h7:l 7=false)(hR:R.Perm ((bif l 5 then bl5 else bl0)++((bif l 4 then[⟨q,Aa n,34,32⟩]else[])++K))):J14 B K m f n s0 bl0 L (also 7 l) ⟨sl,A3 m (Am 32 evI) (Bf f n 1)::R⟩:=by
  refine⟨q,s5,bl5,fun e he hl=>?_,h.bs,?_,fun hl=>h.ac (by rwa[C7 oM]at hl),?_⟩
  · have h1:=T14_lt he
    exact h.fs e he (by rwa[C7 oM]at hl)
  ·rw[C7 oM];exact h.t10
  ·rw[also_eq,C7 (show 7≠5 by omega),C7 (show 7≠4 by omega)];exact hR.cons _
theorem A14.at7(h7:l 7=false):hp.Perm (A3 m (Am 32 evI) f::((bif l 5 then bl5 else bl0)++((bif l 4 then[⟨q,Aa n,34,32⟩]else[])++K))):=by
  have hq:=h.hp;rw[h7]at hq;exact hq
theorem A14.fin(h4:l 4=true)(h5:l 5=true)(h7:l 7=true):hp.Perm (A3 m (Am 32 evI) (Bf f n 1)::(bl5++(⟨q,Aa n,34,32⟩::K))):=by
  have hq:=h.hp;rw[h4,h5,h7]at hq;exact hq
theorem A14.inK(hx:x∈K):x∈hp:=h.hp.symm.subset (Lae _ (Lat _ (Lat _ hx)))
theorem A14.inQ(h4:l 4=true):(⟨q,Aa n,34,32⟩:Blk)∈hp:=h.hp.symm.subset (Lae _ (Lat _ (Lag _ (by rw[h4];exact La8))))
end
variable{L:List (List UInt8)}{X:PD}{n:List UInt8}
theorem any14{C:Cx}{id:Nat}{ops:List Oper}{sl:List (Nat×Value)}{hp:List Blk}{Q:Exit→St→Prop}(perm:List (Nat×Nat))(hm:C.P.follows .mixedOrders=true)(ht:topoOk ops.toArray [] perm=true)(ha:(List.range ops.toArray.size).all (fun i=>(perm.map (·.2)).contains i)=true)
    (hlen:Nat.ble perm.length ops.length=true) (B:List (Nat×Value)) (m:Nat) (f:List (List UInt8×Int)) (n:List UInt8) (s0:Sl) (bl0 K:List Blk) (L:List (List UInt8)) (h0:wkl sl B) (h10:Hw.look sl 10=some s0.v) (hp1:hp.Perm (A3 m (Am 32 evI) f::(bl0++K)))
    (hstep:∀l s j o,ops.toArray[j]? =some o→l j=false→(∀i,l i=true→∀k∈bindsIn ops.toArray i,l k=true)→(∀k∈bindsIn ops.toArray j,l k=true)→J14 B K m f n s0 bl0 L l s→Tr C ops.toArray [(4,o)] s (J14 B K m f n s0 bl0 L (also j l)))
    (hend:∀l s,(∀j,j<ops.toArray.size→l j=true)→J14 B K m f n s0 bl0 L l s→Q .normal s):Sat C (.region id ops.toArray true) ⟨sl,hp⟩ Q:=
  Sat.any perm hm ht ha hlen (J14 B K m f n s0 bl0 L) (A14.start (wkl_mem h0) h10 hp1) hstep (fun l s _=>hend l s)
def mstep(X:PD)(a:Int)(n:List UInt8):Int:=if X.dp n>a then X.dp n else a
theorem mstep_take{k:Nat}(hk:k<L.length)(a:Int):(L.take (k+1)).foldl (mstep X) a=if X.dp (L.getD k [])>(L.take k).foldl (mstep X) a then X.dp (L.getD k [])else(L.take k).foldl (mstep X) a:=by
  have e:L.getD k []=L[k]:=by rw[La4,La3 hk];rfl
  rw[Las hk,Ldi,e];rfl
theorem step_mstep{X:PD}:∀(L:List (List UInt8)) (a:Int),L.foldl (stepP X.dep) (a+1)=L.foldl (mstep X) a+1
  | [],a=>rfl
  | n::L,a=>by
    rw[Ldb,Ldb,←step_mstep L];congr 1;unfold stepP mstep PD.dp;split<;>split<;>omega
theorem mstep_le{x:DD}(hx:x.ok):∀(L:List (List UInt8)) (a:Int), -1≤a→a≤20000→ -1≤L.foldl (mstep x.pl) a∧L.foldl (mstep x.pl) a≤20000
  | [],a,h0,h1=>⟨h0,h1⟩
  | n::L,a,h0,h1=>by
    have h2:=dp_big hx n;have h3:=hx.big;refine mstep_le hx L _ ?_ ?_<;>unfold mstep<;>split<;>omega
theorem sort_same{a b:List (List UInt8)}(h:a.Perm b):isortD X a=isortD X b:=isortD_eq ((isortD_perm X a).trans h) (isortD_sort X a)
theorem sorted_at{A:List (List UInt8)}(hs:SortD X A)(hn:A.Nodup){j:Nat}(h0:0<j)(hj:j<A.length):X.dp (A.getD (j-1) [])<X.dp (A.getD j [])∨X.dp (A.getD (j-1) [])=X.dp (A.getD j [])∧Cz (A.getD (j-1) []) (A.getD j [])<0:=by
  have e:∀i (hi:i<A.length),A.getD i []=A[i]:=fun i hi=>by rw[La4,La3 hi];rfl
  rw[e (j-1) oM,e j hj];have h1:LeD X A[j-1] A[j]:=Ldt.1 hs (j-1) j oM hj oM;have h2:A[j-1]≠A[j]:=Ldt.1 hn (j-1) j oM hj oM;have h3:=(cmpB_zero A[j-1] A[j]);unfold LeD at h1;rcases h1 with h1|⟨h1,h4⟩
  ·exact .inl h1
  · refine .inr ⟨h1,?_⟩
    have h5:¬Cz A[j-1] A[j]=0:=fun e=>h2 (h3.1 e);omega
theorem depth_at(h:X.has n=true):X.depthR n= .tuple #[i64 (X.dp n),i64 0]:=by unfold PD.depthR;rw[if_pos h]
theorem light_ats{ds:List DB}{m:Int}(h:lightOf lightBf ds m=true):(ds.length:Int)≤m∧∀d∈ds,d.ls.length≤500000∧d.ds.length≤500000:=by
  unfold lightOf at h;simp only[Lao,Ldk,decide_eq_false_iff_not,Lbn]at h;refine⟨by omega,fun d hd=>?_⟩;have:=h.2 d hd;unfold lightBf at this;simp only[Lao,decide_eq_true_eq]at this;omega
theorem kit_namesA(s:Sl)(ls:List (List UInt8))(hn:s.n≤500000):Meets prog 22 [s.v] [] (fun W=>RowsAt W s 32 ls) (fun v out=>∃s2:Sl,v=s2.v∧Hw.Acc s2 out (As ls) 34 ls.length 32):=fun W hW=>by
  refine(kit_names s ls hn W hW).mono fun e W' ⟨v,out,h1,⟨q,c,hv,hc,ho⟩,h3⟩=>⟨v,out,h1,⟨⟨some ⟨q,0,none⟩,s.n,c⟩,hv,?_⟩,h3⟩;rw[ho,←hW.len];exact Acc.some (by rw[hW.len];exact hc) (A2 hW.row)
theorem kit_pickE(g m:Int)(n k:Nat)(hm:m=(n:Int))(hk:k=pickN g n)(hn:0<n)(hn2:n≤1000000):Mv 20 [i64 g,i64 m] (fun _=>True) (i64 (k:Int)):=by
  subst hm;subst hk;exact kit_pickN g n hn hn2
theorem flatB_dropK(h:∀l∈L,l.length=32)(k:Nat):(As L).drop (k*32)=As (L.drop k):=by
  have e:As L=As (L.take k)++As (L.drop k):=by rw[←Bv,Lbp]
  have h1:=A2 (ls:=L.take k) fun l hl=>h l (Lbu hl);rw[Lac]at h1;rcases Nat.le_total k L.length with h2|h2
  · rw[Lbw h2]at h1
    rw[e,←h1,List.drop_left]
  ·rw[Lam h2,Lam (by rw[A2 h];omega)];rfl
structure SG where
  k:Nat
  L:List (List UInt8)
  s:Sl
  bl:List Blk
  im:List (List UInt8×Int)
structure SG.ok(g:SG)(X:PD):Prop where
  acc:Hw.Acc g.s g.bl (As g.L) 34 g.L.length 32
  nd:g.L.Nodup
  inn:∀n∈g.L,n∈X.names
  ki:KI g.im (fun n=>n∈g.L)
  le:g.L.length≤g.k
theorem SG.ok.more{g:SG}(h:g.ok X)(h32:n.length=32)(hn:n∈X.names)(hno:n∉g.L){s:Sl}{bl:List Blk}(hac:Hw.Acc s bl (As g.L++Aa n) 34 (g.L.length+1) 32):(⟨g.k+1,g.L++[n],s,bl,Bf g.im n 1⟩:SG).ok X where
  acc:=by
    show Hw.Acc s bl (As (g.L++[n])) 34 (g.L++[n]).length 32;rw[Bv,La2,show As [n]=Aa n by simp[As]];exact hac
  nd:=by
    show(g.L++[n]).Nodup;rw[Lax];exact⟨h.nd,Lb2.2 ⟨fun h9=>(by cases h9),Lck⟩,fun a ha b hb e=>hno (by rw[La1.1 hb]at e;rw[←e];exact ha)⟩
  inn:=fun m hm=>by
    rcases La9.1 hm with h1|h1
    ·exact h.inn m h1
    ·rw[La1.1 h1];exact hn
  ki:=h.ki.put h32 fun k=>by show k∈g.L++[n]↔_;rw[La9,La1]
  le:=by have:=h.le;show(g.L++[n]).length≤g.k+1;rw[La2,Laq];omega
theorem SG.ok.skip{g:SG}(h:g.ok X):(⟨g.k+1,g.L,g.s,g.bl,g.im⟩:SG).ok X:={ h with le:=Lgl h.le }
theorem law_linearsorts(s:Sl)(ds:List DB)(si:Sl)(lst:List Int)(turn:Int):Mv 3 [s.v,si.v,i64 turn] (fun W=>BlocksAt W s ds∧IntsAt W si lst) (.bool true):=by
  intro W hW;have h32kk:True:=trivial;have h32aa:True:=trivial;have h32pp:True:=trivial;have hli:=hW.2;have hln:=hli.nd;refine Ad func3 J 211 ntmps3 J (G8 ?_);refine .cV J J J J Body15 (law17_lives) tV (G3 ?_);refine .cond_f J J (G6 ?_);refine .callB J J J J Body16 (lightd_blocks s ds 16) (fun w h=>Blocks_ext h J hW.1) (fun hs3_10=>?_) (fun hs3_10=>?_)
  ·
    have hs3_1:=hs3_10;refine G8 ?_;refine .condP J (fun hc1=>?_) (fun hc1=>?_)
    ·
      refine G5 ?_;refine G3 ?_;refine Aw (out:=[]) (Ag J J) Ae ?_;exact⟨rfl,rfl⟩
    have hsm0:lightOf lightBf ds 16=true:=by simpa using hs3_1
    obtain⟨hd16,hsm⟩:=light_ats hsm0;obtain⟨rs0,hs0⟩:=id hW.1;have hsn0:=hs0.nd;refine G5 ?_;refine .call4 J J J J J Body17 (law17_filled s ds oM hsm) (fun w h=>Blocks_ext h J hW.1) ?_;rintro v41 out41 ⟨p,x,rfl,hxb,hx,hplx,hnx⟩;have hLx:∀w,Lies out41 w→Lies (x.blks p) w:=fun w h=>hxb▸h;clear hxb;have hI:x.pl.Inv:=by rw[hplx];exact PD.Inv.fill ds PD.Inv.new
    have hO:x.pl.Ord:=by rw[hplx];exact PD.Ord.fill ds PD.Inv.new PD.Ord.new
    have hck:∀q∈x.pl.P,q.2.check=0:=hI.ck;have h16:∀q∈x.P,q.2.ls.length≤16:=fun q hq=>(ck_small (hck q hq)).1;have hnm:x.pl.names.length=x.names.length:=rfl;refine G1 ?_;refine .call4 J J J J J Body18 (law17_known s ds oM hsm) (fun w h=>Blocks_ext h J hW.1) ?_;rintro v43 out43 ⟨pr,r,rfl,hrb,hr,hrel,hrn⟩;have hLr:∀w,Lies out43 w→Lies (r.blks pr) w:=fun w h=>hrb▸h;clear hrb;rw[←hplx]at hrel;have hrP:r.P=x.pl.P:=hrel.p;have hNM:rkNames r=x.pl.names:=by rw[rkNames_P,hrP,hI.nn]
    refine G7 ?_;refine .call4 J J J J J Body19 (rd_names r hr pr) (fun w h=>(hLr w (Lies.of h (by repeat(exact Ax))))) ?_;rintro v45 out9 ⟨s9,rfl,hac9⟩;rw[hNM]at hac9;have hn9:=hac9.num;refine G10 ?_;refine .mkMap (Am 32 evI) J J ?_;intro m11;refine G3 ?_;refine .join (ι:=SG) (fun g=>⟨[(2,i64 turn),(7,ptr p 0),(8,ptr pr 0),(9,s9.v),(11, .map (some m11)),(1,si.v),(10,g.s.v),(12,i64 (g.k:Int))],(A3 m11 (Am 32 evI) g.im::(g.bl++(out9++(out41++(out43++[])))))⟩) (fun g=>g.ok x.pl∧g.k≤16) ?_ ?_
    ·
      refine G6 ?_;refine .loop (ι:=SG) (fun g=>⟨[(2,i64 turn),(7,ptr p 0),(8,ptr pr 0),(9,s9.v),(11, .map (some m11)),(1,si.v),(10,g.s.v),(12,i64 (g.k:Int))],(A3 m11 (Am 32 evI) g.im::(g.bl++(out9++(out41++(out43++[])))))⟩) (fun g=>g.ok x.pl∧g.k≤si.n) (fun g=>si.n-g.k) (⟨0,[],Sl.nil,[],[]⟩) ?_ ?_ ?_
      ·exact⟨⟨Acc.none,Lck,fun n h=>(by cases h),KI.none.iff (fun k=>by simp),Laj _⟩,Lar _⟩
      ·exact Ah wN (Ab rM (Ac sG (Ac sG (Ac (by repeat(first|exact Cc|apply Cm)) (Ac sG Ae)))))
      rintro g ⟨hG,hgk⟩;have hgl:=hG.le;have hgn:=hG.acc.num;have hac10:=hG.acc;refine G6 ?_;refine two (fun r hr k=>Tr.lss J J J J hr k) (fun hs10_30=>?_) (fun hs10_30=>?_)
      ·
        have hs10_3:=of_decide_eq_true hs10_30;refine G7 ?_;refine .condP J (fun hc2=>?_) (fun hc2=>?_)
        ·
          have hk2:g.k<si.n:=by omega
          obtain⟨b,o,v9b,v9,hsp,hrv,hdv,⟨rfl,hwf⟩,hlen9,hsee⟩:=hli.at dE hk2;have hcell:=hsee 0 _ rfl;have hn80:0<x.pl.names.length:=by omega
          obtain⟨q9,c9,hs9,see9⟩:=row_open hac9 hx.n32 hn80;have hp9:s9.p=some ⟨q9,0,none⟩:=by rw[hs9]
          skip;have hpi:=pickN_lt v9 (n:=s9.n) oM;obtain⟨kk,hkk⟩:∃kk,kk=x.pl.names.getD (pickN v9 s9.n) []:=⟨_,rfl⟩;have hmkk:kk∈x.pl.names:=by rw[hkk];exact getD_mem2 oM
          have h32kk:kk.length=32:=hx.n32 _ hmkk;refine G2 ?_;refine .join (ι:=SG) (fun g2=>⟨[(2,i64 turn),(7,ptr p 0),(8,ptr pr 0),(9,s9.v),(11, .map (some m11)),(1,si.v),(10,g2.s.v),(12,i64 (g.k:Int))],(A3 m11 (Am 32 evI) g2.im::(g2.bl++(out9++(out41++(out43++[])))))⟩) (fun g2=>(⟨g.k+1,g2.L,g2.s,g2.bl,g2.im⟩:SG).ok x.pl) ?_ ?_
          ·
            refine G6 ?_;refine .idxSlP 1 J J J hsp J Y23.h Sz3 g.k J oM (.loadE J J J Y3.h J sP ((by simpa using hcell)) ?_);refine G2 ?_;refine .cV J J J J Body20 (kit_pickE v9 _ s9.n (pickN v9 s9.n) J J oM oM) tV (.idxSlP 32 J J J hp9 J Y30.h Sz34 (pickN v9 s9.n) J oM (.loadSN (n:=32) (Aa kk) J J J Y34.h J Sz34 (by rw[Aa,La0];exact h32kk) (fun w h=>by rw[hkk];exact see9 (pickN v9 s9.n) oM w (Lies.of h (by repeat(first|exact Ax|refine Az ?_|refine Bm ?_)))) ?_));refine .alloc (cs:=(Aa (List.replicate 32 0))) J Ce J ?_;intro n13 hn13 hf13;refine .sA J J J J zE Sz34 (by(simp[h32kk];done)) Z0 sP zU ?_;refine G5 ?_;refine .lA J J J Y34.h J Sz34 Z0 (by(simp[h32kk];done)) ?_;refine .lookG evI MI J J J J h32kk Z1 (fun hg=>?_) (fun v hg=>?_)
            ·
              have hno:=hG.ki.no hg;refine .eqi J J J J (decide_eq_true (dE)) (G2 ?_);refine .cond_t J J ?_;have hp14:List.Perm _ (A3 m11 (Am 32 evI) g.im::(g.bl++(⟨n13,Aa kk,34,32⟩::(out9++(out41++(out43++[])))))):=(List.Perm.swap _ _ _).trans (List.Perm.cons _ Lcw.symm);refine any14 (oP [0,1,2,3,4,5,6,7]) Aq zK zK J ([(1,si.v),(2,i64 turn),(7,ptr p 0),(8,ptr pr 0),(9,s9.v),(11, .map (some m11)),(12,i64 (g.k:Int)),(13,ptr n13 0)]) m11 g.im kk g.s g.bl (⟨n13,Aa kk,34,32⟩::(out9++(out41++(out43++[])))) g.L wN J hp14 ?_ ?_
              · rintro l ⟨sl,hp⟩ j o hj hl hs hb ⟨q,s5,bl5,h⟩
                have h8:j<8:=(Lcl.1 hj).1;obtain rfl|rfl|rfl|rfl|rfl|rfl|rfl|rfl:j=0∨j=1∨j=2∨j=3∨j=4∨j=5∨j=6∨j=7:=by omega
                all_goals(have e:=Lec hj;subst e)
                ·
                  refine .m J J (show Hw.look sl 11=some (.map (some m11))from h.bs (11, .map (some m11)) sP) (.nil ?_);exact h.put (by simp[T14]) dE (by intro e he;simp at he;rcases he with rfl|rfl|rfl|rfl|rfl|rfl|rfl|rfl<;>simp)
                ·
                  refine .lA J J (show Hw.look sl 13=some (ptr n13 0)from h.bs (13,ptr n13 0) sP) Y34.h J Sz34 (h.inK La8) (by rw[Aa,La0];exact h32kk) (.nil ?_);exact h.put (by simp[T14]) dE (by intro e he;simp at he;rcases he with rfl|rfl|rfl|rfl|rfl|rfl|rfl|rfl<;>simp)
                ·
                  have l6:=not_yet hs (not_yet hs hl 5 zK) 6 zK;have h10:=h.t10;rw[l6]at h10;refine .m J J (show Hw.look sl 10=some g.s.v from h10) (.nil ?_);exact h.put (by simp[T14]) dE (by intro e he;simp at he;rcases he with rfl|rfl|rfl|rfl|rfl|rfl|rfl|rfl<;>simp)
                ·
                  refine .lA J J (show Hw.look sl 13=some (ptr n13 0)from h.bs (13,ptr n13 0) sP) Y34.h J Sz34 (h.inK La8) (by rw[Aa,La0];exact h32kk) (.nil ?_);exact h.put (by simp[T14]) dE (by intro e he;simp at he;rcases he with rfl|rfl|rfl|rfl|rfl|rfl|rfl|rfl<;>simp)
                ·
                  have l5:=not_yet hs hl 5 zK;refine .mkRow2 (z:=agg (Aa (List.replicate 32 0))) [agg (Aa kk)] (Aa kk) J (by have h75:=(show Hw.look sl 75=some (agg (Aa kk))from h.fs (3,75,agg (Aa kk)) (by simp[T14]) (is_done hb 3 zK));simp only[evp,Ai,h75];rfl) Y30.h Sz34 Ce J J (by intro v hv;rw[La1.1 hv];simp[Value.cells,Aa,h32kk]) dE (by simp[Value.cells,agg]) ?_;intro q76;exact .nil (h.mk4 hl l5 (by intro e he;simp at he;rcases he with rfl|rfl|rfl|rfl|rfl|rfl|rfl|rfl<;>simp) q76 (by rw[blk,Aa,La0,h32kk];rfl))
                ·
                  have l4:=is_done hb 4 zK;have l6:=not_yet hs hl 6 zK;obtain⟨R,hR1,hR2⟩:=h.at5 l4 hl;refine .appendAcc (n:=g.L.length) (z:=agg (Aa (List.replicate 32 0))) (by':=32) (Aa kk) J J J (show Hw.look sl 74=some (g.s.v)from h.fs (2,74,g.s.v) (by simp[T14]) (is_done hb 2 zK)) (show Hw.look sl 76=some (.slice (some ⟨q,0,none⟩) 1 1)from h.fs (4,76, .slice (some ⟨q,0,none⟩) 1 1) (by simp[T14]) (is_done hb 4 zK)) Y30.h Y30.h Sz34 Ce (by unfold By;kernel_rfl) J hac10 hR1 (fun w h9=>SeesP.of (Ap h9 (h.inQ l4))) (fun e=>by cases e) (Ay _) oM oM (by rw[Aa,La0,h32kk]) ?_;intro s77 bl77 hac77;exact .nil (h.app l4 hl l6 (by intro e he;simp at he;rcases he with rfl|rfl|rfl|rfl|rfl|rfl|rfl|rfl<;>simp) hac77 hR2)
                ·
                  have l5:=is_done hb 5 zK;refine .a J J (show Hw.look sl 77=some (s5.v)from h.fs (5,77,s5.v) (by simp[T14]) (is_done hb 5 zK)) (.nil ?_);exact h.asg l5 (by intro e he;simp at he;rcases he with rfl|rfl|rfl|rfl|rfl|rfl|rfl|rfl<;>simp)
                refine .mapPut (v:=(1:Int)) MI J J (show Hw.look sl 72=some (.map (some m11))from h.fs (0,72, .map (some m11)) (by simp[T14]) (is_done hb 0 zK)) (show Hw.look sl 73=some (agg (Aa kk))from h.fs (1,73,agg (Aa kk)) (by simp[T14]) (is_done hb 1 zK)) J h32kk (h.at7 hl) (.nil ?_);exact h.ins hl (Lce _)
              · rintro l ⟨sl,hp⟩ hall ⟨q,s77,bl77,h⟩
                refine G2 ?_;exact⟨⟨g.k,g.L++[kk],s77,bl77,Bf g.im kk 1⟩,hG.more h32kk hmkk hno (h.ac (hall 5 dE)),weak_tr (h.fin (hall 4 dE) (hall 5 dE) (hall 7 dE)) (Ah (wk1 (by exact h.bs (2,i64 turn) sP) (wk1 (by exact h.bs (7,ptr p 0) sP) (wk1 (by exact h.bs (8,ptr pr 0) sP) (wk1 (by exact h.bs (9,s9.v) sP) (wk1 (by exact h.bs (11, .map (some m11)) sP) (wk1 (by exact h.bs (1,si.v) sP) (wk1 (by(have h10:=h.t10;rw[hall 6 dE]at h10;exact h10)) (wk1 (by exact h.bs (12,i64 (g.k:Int)) sP) wk0)))))))) (Ab rM (Ac sG (Ac sG (Ac sG (Ac sG Ae))))))⟩
            obtain⟨rfl,_⟩:=hG.ki.yes hg;refine .eqi J J J J (decide_eq_false (dE)) (G2 ?_);refine .cond_f J J (G3 ?_);exact⟨g,hG.skip,Ah (wk1 (by rfl) (wk1 (by rfl) (wk1 (by rfl) (wk1 (by rfl) (wk1 (by rfl) (wk1 (by rfl) (wk1 (by rfl) (wk1 (by rfl) wk0)))))))) (Ab rM (Ac sG (Ac sG (Ac sG (Ac sG Ae)))))⟩
          intro g2 hj;skip;refine G6 ?_;exact⟨⟨g.k+1,g2.L,g2.s,g2.bl,g2.im⟩,⟨hj,by simp only;omega⟩,by simp only;omega,Ah wN (Ab rM (Ac sG (Ac sG (Ac sG (Ac sG Ae)))))⟩
        refine G5 ?_;exact⟨g,⟨hG,by omega⟩,Ah wN (Ab rM (Ac sG (Ac sG (Ac sG (Ac sG Ae)))))⟩
      have hs10_3:=of_decide_eq_false hs10_30;refine G7 ?_;refine .cond_f J J (G5 ?_);exact⟨g,⟨hG,by omega⟩,Ah wN (Ab rM (Ac sG (Ac sG (Ac sG (Ac sG Ae)))))⟩
    intro g hj;obtain⟨hG,hgk⟩:=hj;have hgl:=hG.le;have hgn:=hG.acc.num;have hgc:=hG.acc.cap;have hL32:∀l∈g.L,l.length=32:=fun l hl=>hx.n32 l (hG.inn l hl);have hLhas:∀n∈g.L,x.pl.has n=true:=fun n hn=>by obtain⟨D,hD⟩:=(names_mem hI n).1 (hG.inn n hn);unfold PD.has;rw[hD];rfl
    obtain⟨kt,hkt⟩:∃kt,kt=pickN turn (g.L.length+1):=⟨_,rfl⟩;have hktl:=pickN_lt turn (n:=g.L.length+1) oM;rw[←hkt]at hktl;have hCp:(g.L.drop kt++g.L.take kt).Perm g.L:=Lco.trans (List.Perm.of_eq (Lbp _ _));have hC32:∀l∈(g.L.drop kt++g.L.take kt),l.length=32:=fun l hl=>hL32 l (hCp.mem_iff.1 hl);have hClen:(g.L.drop kt++g.L.take kt).length=(g.L.drop kt).length+kt:=by rw[La2,Lac];omega
    refine G6 ?_;refine .cV J J J J Body20 (kit_pickE turn _ (g.L.length+1) kt oM hkt oM oM) tV (G7 ?_);refine .call4 J J J J J Body22 (kit_namesA g.s g.L oM) (fun w h=>acc_rows hG.acc (Lies.of h (by repeat(first|exact Ax|refine Az ?_))) hL32 J oM) ?_;rintro v86 out86 ⟨s86,rfl,hac86⟩;refine .call4 J J J J J Body21 (lin_sort x hx hI hO p s86 g.L oM) (fun w h=>⟨(hLx w (Lies.of h (by repeat(first|exact Ax|refine Az ?_|refine Bm ?_)))),acc_rows hac86 (Lies.of h (by repeat(exact Ax))) hL32 J oM⟩) ?_;rintro v87 blA (⟨⟨n9,hn9,h09⟩,_⟩|⟨_,⟨hd9,_⟩|⟨_,sA,rfl,hacA0⟩⟩)
    ·exfalso;rw[hLhas n9 hn9]at h09;cases h09
    ·exact absurd hG.nd hd9
    have hAl:(isortD x.pl g.L).length=g.L.length:=(isortD_perm x.pl g.L).length_eq;have hA32:∀l∈isortD x.pl g.L,l.length=32:=fun l hl=>hL32 l ((isortD_perm x.pl g.L).mem_iff.1 hl);have hacA:Hw.Acc sA blA (As (isortD x.pl g.L)) 34 (isortD x.pl g.L).length 32:=by rw[hAl];exact hacA0
    have hnA:=hacA.num;refine G8 ?_;refine .draw (oP [0,1,2,3,5,6,7,404,408,409,10,11,12,13,14]) Aq zK (G3 ?_);refine Tr.sliceLoA kt J J J J J hG.acc oM Y30.h Sz34 ?_;intro s94 hn94 hnil94 hsee94 hcap94 hnil94b;refine G2 ?_;refine .sliceHiA g.s kt J J J J J oM Y30.h Sz34 (.call4 J J J J J Body22 (kit_namesA s94 (g.L.drop kt) oM) (fun w h=>⟨by rw[Lau,hn94],fun l hl=>hL32 l (Lcs hl),hcap94,by show SeesP w s94.p (As (g.L.drop kt));rw[←flatB_dropK hL32];exact hsee94 w (Lies.of h (by repeat(first|exact Ax|refine Az ?_|refine Bm ?_))),by unfold maxLen;omega,hnil94b⟩) ?_);rintro v95 out95 ⟨s95,rfl,hac95⟩;refine .appendAcc (n:=(g.L.drop kt).length) (m:=kt) (z:=agg (Aa (List.replicate 32 0))) (by':=32) (As (g.L.take kt)) J J J J J Y30.h Y30.h Sz34 Ce (by unfold By;kernel_rfl) J hac95 sG (fun w h=>rows_take (hG.acc.see (Lies.of h (by repeat(first|exact Ax|refine Az ?_|refine Bm ?_)))) hL32) (fun e=>by have:=hG.acc.nil e;omega) (flatB_cell _) (by rw[Lau];omega) (by rw[Lau];omega) (by rw[A2 (fun q hq=>hL32 q (Lbu hq)),Lac,Lbw oM]) ?_;intro s99 bl99 hac99;refine .call4 J J J J J Body21 (lin_sort x hx hI hO p s99 (g.L.drop kt++g.L.take kt) (by rw[La2,Lau,Lac];omega)) (fun w h=>⟨(hLx w (Lies.of h (by repeat(first|exact Ax|refine Az ?_|refine Bm ?_)))),acc_rows (n:=(g.L.drop kt).length+kt) (by rw[Bv];exact hac99) (Lies.of h (by repeat(exact Ax))) hC32 hClen (by rw[Lau];omega)⟩) ?_;rintro v100 out100 (⟨⟨n9,hn9,h09⟩,_⟩|⟨_,⟨hd9,_⟩|⟨_,s100,rfl,hac100⟩⟩)
    ·exfalso;rw[hLhas n9 (hCp.mem_iff.1 hn9)]at h09;cases h09
    ·exact absurd (hCp.nodup_iff.2 hG.nd) hd9
    rw[sort_same hCp,hCp.length_eq]at hac100;have hn100:=hac100.num;refine G11 ?_;refine .nei J J J J (show(!decide _)=false from congrArg not (decide_eq_true (dE))) (G2 ?_);refine .nei J J J J (show(!decide _)=false from congrArg not (decide_eq_true (dE))) (G4 ?_);refine .cV J J J J Body23 (digs_same sA.p s100.p sA.n s100.n sA.c s100.c (isortD x.pl g.L) hA32 oM oM oM) (fun w h=>⟨hacA.see (Lies.of h (by repeat(first|exact Ax|refine Bm ?_))),hac100.see (Lies.of h (by repeat(exact Ax)))⟩) ?_;refine G7 ?_;refine .nei J J J J (show(!decide _)=false from congrArg not (decide_eq_true oM)) (G3 ?_);refine .cond_f J J (G14 ?_);refine .loop (ι:=Nat×Int) (fun r=>⟨[(7,ptr p 0),(8,ptr pr 0),(11, .map (some m11)),(10,g.s.v),(15,sA.v),(19,i64 r.2),(20,i64 (r.1:Int))],(A3 m11 (Am 32 evI) g.im::(blA++(out41++(out43++[]))))⟩) (fun r=>r.1≤(isortD x.pl g.L).length∧(r.1=0→r.2=0)∧(0<r.1→r.2=x.pl.dp ((isortD x.pl g.L).getD (r.1-1) []))) (fun r=>(isortD x.pl g.L).length-r.1) ((0,0)) ?_ ?_ ?_
    ·exact⟨Lar _,fun _=>rfl,fun h=>absurd h (Nat.lt_irrefl 0)⟩
    ·exact Ah wN (Ab (by repeat(first|exact A5|apply Bt)) (Ac (by repeat(first|exact Cc|apply Cm)) (Ac (by repeat(first|exact Cc|apply Cm)) (Ac (by repeat(first|exact Cc|apply Cm)) Ae))))
    rintro⟨k,ld⟩ ⟨hk,hlast⟩;simp only at hk hlast ⊢;refine G9 ?_;refine .condP J (fun hc5=>?_) (fun hc5=>?_)
    ·
      obtain⟨qA,cA,hsA,seeA⟩:=row_open hacA hA32 oM;have hpA:sA.p=some ⟨qA,0,none⟩:=by rw[hsA]
      have hnA:=hacA.num;have hjkk:k<(isortD x.pl g.L).length:=by omega
      obtain⟨kk,hkk⟩:∃kk,kk=(isortD x.pl g.L).getD k []:=⟨_,rfl⟩;have hmkk:kk∈(isortD x.pl g.L):=by rw[hkk];exact getD_mem2 hjkk
      have h32kk:kk.length=32:=hA32 _ hmkk;have hkL:kk∈g.L:=(isortD_perm x.pl g.L).mem_iff.1 hmkk;have hkhas:=hLhas kk hkL;obtain⟨Dk,hPk⟩:∃D,An x.pl.P kk=some D:=Ldf.1 hkhas;obtain⟨aa,haa⟩:∃aa,aa=(isortD x.pl g.L).getD (k-1) []:=⟨_,rfl⟩;have h32aa:aa.length=32:=by rw[haa];exact hA32 _ (getD_mem2 oM)
      have hsorted:0<k→x.pl.dp aa<x.pl.dp kk∨x.pl.dp aa=x.pl.dp kk∧Cz aa kk<0:=fun h0=>by rw[haa,hkk];exact sorted_at (isortD_sort _ _) ((isortD_perm x.pl g.L).nodup_iff.2 hG.nd) h0 hjkk
      refine G9 ?_;refine .idxSlP 32 J J J hpA J Y30.h Sz34 k J oM (.loadSN (n:=32) (Aa kk) J J J Y34.h J Sz34 (by rw[Aa,La0];exact h32kk) (fun w h=>by rw[hkk];exact seeA k hjkk w (Lies.of h (by repeat(first|exact Ax|refine Az ?_)))) ?_);refine .cV J J J J Body24 (lin_depth_at x hx hI hO p kk h32kk (depth_at hkhas)) (fun w h=>(hLx w (Lies.of h (by repeat(first|exact Ax|refine Az ?_|refine Bm ?_))))) ?_;refine G8 ?_;refine .join (ι:=Unit) (fun u=>⟨[(7,ptr p 0),(8,ptr pr 0),(11, .map (some m11)),(10,g.s.v),(15,sA.v),(19,i64 ld),(20,i64 (k:Int)),(21,i64 (x.pl.dp kk)),(174, .bool false)],(A3 m11 (Am 32 evI) g.im::(blA++(out41++(out43++[]))))⟩) (fun u=>True) ?_ ?_
      ·
        refine .draw (oP [0,1,2,3,4,5,6,107,108,9,10,11,12,13,14,15,16,17,18,19,20,21,22,23,24,25,26,127,28,29,30,131,332,33,34,35,36,37]) Aq zK (G1 ?_);refine .nei J J J J (show(!decide _)=false from congrArg not (decide_eq_true (dE))) (G4 ?_);refine .idxSlP 32 J J J hpA J Y30.h Sz34 k J oM (.loadSN (n:=32) (Aa kk) J J J Y34.h J Sz34 (by rw[Aa,La0];exact h32kk) (fun w h=>by rw[hkk];exact seeA k hjkk w (Lies.of h (by repeat(first|exact Ax|refine Az ?_)))) ?_);refine .lookG evI MI J J J J h32kk Z0 (fun hg=>?_) (fun v hg=>?_)
        ·
          exfalso;exact hG.ki.no hg hkL
        obtain⟨rfl,_⟩:=hG.ki.yes hg;refine .eqi J J J J (decide_eq_false (dE)) (G3 ?_);refine two (fun r hr k=>Tr.gtr J J J J hr k) (fun hs25_130=>?_) (fun hs25_130=>?_)
        ·
          have hs25_13:=of_decide_eq_true hs25_130;refine G3 ?_;refine two (fun r hr k=>Tr.lss J J J J hr k) (fun hs25_170=>?_) (fun hs25_170=>?_)
          ·
            have hs25_17:=of_decide_eq_true hs25_170;exfalso;have h9:=hsorted oM;have h8:=hlast.2 oM;rw[←haa]at h8;omega
          have hs25_17:=of_decide_eq_false hs25_170;skip;refine G3 ?_;refine two (fun r hr k=>Tr.eqi J J J J hr k) (fun hs25_210=>?_) (fun hs25_210=>?_)
          ·
            have hs25_21:=of_decide_eq_true hs25_210;refine G4 ?_;refine .idxSlP 32 J J J hpA J Y30.h Sz34 (k-1) oM oM (.loadSN (n:=32) (Aa aa) J J J Y34.h J Sz34 (by rw[Aa,La0];exact h32aa) (fun w h=>by rw[haa];exact seeA (k-1) oM w (Lies.of h (by repeat(first|exact Ax|refine Az ?_)))) ?_);refine G2 ?_;refine .idxSlP 32 J J J hpA J Y30.h Sz34 k J oM (.loadSN (n:=32) (Aa kk) J J J Y34.h J Sz34 (by rw[Aa,La0];exact h32kk) (fun w h=>by rw[hkk];exact seeA k hjkk w (Lies.of h (by repeat(first|exact Ax|refine Az ?_)))) ?_);refine .cV J J J J Body25 (r15_cmp aa kk h32aa h32kk) tV (.geq J J J J (decide_eq_false (by have h9:=hsorted oM;have h8:=hlast.2 oM;rw[←haa]at h8;omega)) ?_);refine G6 ?_;exact⟨(),trivial,Ah wN (Ab rM (Ac sG (Ac sG (Ac sG Ae))))⟩
          have hs25_21:=of_decide_eq_false hs25_210;refine G18 ?_;exact⟨(),trivial,Ah wN (Ab rM (Ac sG (Ac sG (Ac sG Ae))))⟩
        have hs25_13:=of_decide_eq_false hs25_130;refine G26 ?_;exact⟨(),trivial,Ah wN (Ab rM (Ac sG (Ac sG (Ac sG Ae))))⟩
      intro u hj;skip;refine .cond_f J J (G13 ?_);refine .idxSlP 32 J J J hpA J Y30.h Sz34 k J oM (.loadSN (n:=32) (Aa kk) J J J Y34.h J Sz34 (by rw[Aa,La0];exact h32kk) (fun w h=>by rw[hkk];exact seeA k hjkk w (Lies.of h (by repeat(first|exact Ax|refine Az ?_)))) ?_);refine .call4 J J J J J Body26 (rd_get r hr pr x.pl hrP hck kk h32kk) (fun w h=>(hLr w (Lies.of h (by repeat(first|exact Ax|refine Az ?_|refine Bm ?_))))) ?_;rintro v182 out182 (⟨h0,_⟩|⟨D,B,hD,hB,rfl,hbi⟩)
      ·exfalso;rw[h0]at hPk;cases hPk
      have hD16:D.ls.length≤16:=h16 _ (Bg hD);refine G3 ?_;refine .alloc (cs:=Block.zero.cells) J Block.zr J ?_;intro n23 hn23 hf23;refine .sA J J J J (Block.isCell (by exact hB.ok)) Sz50 (Block.length (by exact hB.ok)) Z0 (Block.length (by exact Block.zero_ok)) zU ?_;refine G4 ?_;refine .know (fun w h=>(hbi w (Lies.of h (by repeat(first|exact Ax|refine Az ?_)))).dok) (fun hdok=>?_);have hprow:=parL_row hdok;refine .region (.lA J J J Y50.h J Sz50 Z0 (Block.length (by exact hB.ok)) ?_);refine .call4 J J J J J Body27 (r15_parA B D oM) (fun w h=>hbi w (Lies.of h (by repeat(first|exact Ax|refine Az ?_)))) ?_;rintro v186 out186 ⟨sP,rfl,hacP⟩;have hnP:=hacP.num;have hpl:=parL_len D;refine G15 ?_;refine .loop (ι:=Nat×Int) (fun y=>⟨[(7,ptr p 0),(8,ptr pr 0),(11, .map (some m11)),(10,g.s.v),(15,sA.v),(19,i64 (x.pl.dp kk)),(20,i64 (k:Int)),(21,i64 (x.pl.dp kk)),(25,sP.v),(26,i64 y.2),(27,i64 (y.1:Int))],(A3 m11 (Am 32 evI) g.im::(blA++(out41++(out43++(out186++[])))))⟩) (fun y=>y.1≤(Bk D).length∧y.2=((Bk D).take y.1).foldl (mstep x.pl) (-1)) (fun y=>(Bk D).length-y.1) ((0, -1)) ?_ ?_ ?_
      ·exact⟨Lar _,rfl⟩
      ·exact Ah wN (Ab rM (Ac sG (Ac sG (Ac sG (Ac sG Ae)))))
      rintro⟨j,mx⟩ ⟨hj3,hmx⟩;simp only at hj3 hmx ⊢;refine G9 ?_;refine .condP J (fun hc7=>?_) (fun hc7=>?_)
      ·
        have hjpp:j<(Bk D).length:=by omega
        obtain⟨pp,hpp⟩:∃kk,kk=(Bk D).getD j []:=⟨_,rfl⟩;have hmpp:pp∈(Bk D):=by rw[hpp];exact getD_mem2 hjpp
        have h32pp:pp.length=32:=hprow _ hmpp;obtain⟨bP,oP,hpP,seeP⟩:=par_open hacP oM hprow;have hphas:x.pl.has pp=true:=by obtain⟨⟨E,hE⟩,_⟩:=hI.par kk D hD pp hmpp;unfold PD.has;rw[hE];rfl
        have hdpb:=dp_big hx pp;have hdp0:=dp_le hI pp;have hmb:=mstep_le hx ((Bk D).take j) (-1) dE dE;rw[←hmx]at hmb;refine G9 ?_;refine .idxSlP 32 J J J hpP J Y30.h Sz34 j J oM (.loadSN (n:=32) (Aa pp) J J J Y34.h J Sz34 (by rw[Aa,La0];exact h32pp) (fun w h=>by rw[hpp];exact seeP w (Lies.of h (by repeat(first|exact Ax|refine Az ?_|refine Bm ?_))) j hjpp) ?_);refine .cV J J J J Body24 (lin_depth_at x hx hI hO p pp h32pp (depth_at hphas)) (fun w h=>(hLx w (Lies.of h (by repeat(first|exact Ax|refine Az ?_|refine Bm ?_))))) ?_;refine G11 ?_;refine .nei J J J J (show(!decide _)=false from congrArg not (decide_eq_true (dE))) (G2 ?_);refine .cond_f J J (G5 ?_);refine .max2 J J J J (rfl) (G10 ?_);refine⟨(j+1,_),⟨by simp only;omega,?_⟩,by simp only;omega,Ah wN (Ab rM (Ac sG (Ac sG (Ac sG (Ac sG Ae)))))⟩;simp only;rw[mstep_take hjpp,←hmx,←hpp];rfl
      have hje:j=(Bk D).length:=by omega
      have hmb:=mstep_le hx ((Bk D).take j) (-1) dE dE;rw[←hmx]at hmb;refine G10 ?_;refine .nei J J J J (show(!decide _)=false from congrArg not (decide_eq_true (by have h9:=hO.dep kk D hD;have h8:=step_mstep (X:=x.pl) (Bk D) (-1);rw[La5 oM]at hmx;unfold PD.dp;rw[hmx];simp only[Int.reduceNeg,Int.reduceAdd]at h8;omega))) ?_;refine G2 ?_;refine .cond_f J J (G9 ?_);exact⟨(k+1,x.pl.dp kk),⟨by simp only;omega,fun h=>by simp at h,fun _=>by simp only[Lfv];rw[hkk]⟩,by simp only;omega,Ah wN (Ab rM (Ac sG (Ac sG (Ac sG Ae))))⟩
    refine G10 ?_;refine G2 ?_;refine Aw (out:=[]) (Ag J J) Ae ?_;exact⟨rfl,rfl⟩
  have hs3_1:=hs3_10;refine G8 ?_;refine .cond_t J J (G5 ?_);refine G3 ?_;refine Aw (out:=[]) (Ag J J) Ae ?_;exact⟨rfl,rfl⟩
end Go.Proofs.YtpogmfngccolbaaGreat
namespace Go.Proofs.YtpogmfngccolbaaGreat
open Hw (La3 Le3)
open Go Go.ChangeShapes Go.WideShapes Go.ChangeAt Go.RowKit
variable{H:Type}{W:World}{b0 base:Nat}{held:Bool}{k:TypeId}{ps:List MemPlace}{r:Reach}{sp:Nat→Bool}{v:Value}{d:DataW H}{enc:TypeId×Value→H}
theorem ownLSrt:ownKnob Tryz.prog.godebug=none:=by kernel_rfl
theorem laidOutLSrt:laidOutB Tryz.prog=true:=by kernel_rfl
theorem ints_ofLSrt{s:Hw.Sl}{rs ds:List Int}(h:Hw.SeqIs (fun r:Int=>[Hw.i64 r]) 1 (fun(_:World) (r d:Int)=>d=r∧(Lit.int .i64 r).wf=true) W s rs ds):IntsAt W s rs:=by
  have e:ds=rs:=Le3 (by rw[h.nd,h.nr]) fun i h1 h2=>(h.is i _ _ (La3 h2) (La3 h1)).1;subst e;exact h
theorem openInLSrt{P:Program}{k e:TypeId}(hu:P.underlying k=some (.slice e))(he:P.underlying e=some (.int .i64))(hc:P.cellsOf e=1)
    (hval:Value.okWide P W r b0 k v) (hd:DataW.Trod enc P W base sp held k v d ps):∃s l,v=Hw.Sl.v s∧IntsAt W s l:=by
  simp only[Value.okWide,hu,Cell.okWide]at hval;obtain⟨a1,len,cap,rfl⟩:∃a1 len cap,v= .slice a1 len cap:=by
    unfold Cell.ok at hval;rw[hu]at hval;split at hval<;>first|exact hval.elim|exact⟨_,_,_,rfl⟩|simp_all
  obtain⟨fuel,hf⟩:=hd;obtain⟨s,rs,ds,h1,h2⟩:=Hw.open_seqS (cells:=fun r:Int=>[Hw.i64 r]) (Is:=fun(_:World) (r d:Int)=>d=r∧(Lit.int .i64 r).wf=true) hu hc (by decide) (fun ht=>by
    obtain⟨a,ea,_,wa⟩:=DataW.trod_int he ht;exact⟨a,a,ea,⟨rfl,wa⟩,rfl⟩) hf
  refine⟨s,rs,?_,ints_ofLSrt h2⟩;simp[Value.cells]at h1;exact h1
theorem openSqLSrtBlock(hu:Tryz.prog.underlying k=some (.slice 50))(hc:Tryz.prog.cellsOf 50=131)
    (hval:Value.okWide Tryz.prog W r b0 k v) (hd:DataW.Trod enc Tryz.prog W base sp held k v d ps):∃s l,v=Hw.Sl.v s∧BlocksAt W s l:=by
  simp only[Value.okWide,hu,Cell.okWide]at hval;obtain⟨a1,len,cap,rfl⟩:∃a1 len cap,v= .slice a1 len cap:=by
    unfold Cell.ok at hval;rw[hu]at hval;split at hval<;>first|exact hval.elim|exact⟨_,_,_,rfl⟩|simp_all
  obtain⟨fuel,hf⟩:=hd;obtain⟨s,l,h1,h2⟩:=Block.openS hu hc hf;refine⟨s,l,?_,h2⟩;simp[Value.cells]at h1;exact h1
theorem walkLSrt(w:World)(s0:Hw.Sl)(l0:List DB)(hs0:BlocksAt w s0 l0)(s1:Hw.Sl)(l1:List Int)(hs1:IntsAt w s1 l1)(a2:Int)(w2:(Lit.int .i64 a2).wf=true):Calls Tryz.prog 3 #[Hw.Sl.v s0,Hw.Sl.v s1,Hw.i64 a2] w fun e w'=>e= .returned (.bool true)∧Below w.heap.size w w':=
  by
  have fin:∀ {us:Array Value},Calls Tryz.prog 3 us w (fun e W'=>∃v out,e= .returned v∧(v= .bool true∧out=[])∧Hw.Ret [] out w W')→Calls Tryz.prog 3 us w (fun e w'=>e= .returned (.bool true)∧Below w.heap.size w w'):=
    fun h=>h.mono fun e w' ⟨v,out,he,⟨hv,ho⟩,hr⟩=>⟨by rw[he,hv],Hw.Keeps.below hr.keeps⟩
  exact fin (law_linearsorts s0 l0 s1 l1 a2 w ⟨hs0,hs1⟩)
theorem liftedLSrt(os:Os)(started:os.Started)(H:Type)(enc:TypeId×Value→H):
    ReturnsInHanded {} Tryz.checked os 3 .any (Rows.linearSortsSpec.pre6 enc Tryz.prog Tryz.f3 Rows.linearSortsRow.domain false) (Rows.linearSortsSpec.post enc Tryz.prog Tryz.f3 false true false false):=by
  refine returnsInHanded_of_change (C:=Tryz.checked) ownLSrt started (by kernel_rfl) Tryz.func3
    (ChangeSpec.witness6 (enc:=enc) (C:=Tryz.checked) false ⟨#[], #[.slice none 0 0, .slice none 0 0, .int .i64 0],[]⟩ 8 (by kernel_rfl) (by kernel_rfl) (by kernel_rfl) (by kernel_rfl)) ?_
  intro W base args ds gs before hval0 hW hcnd _;have hval:∀(j:Nat) t v,Tryz.f3.params[j]? =some t→args[j]? =some v→Value.okWide Tryz.prog W .any base t v:=hval0;have hW':=hW;obtain⟨p,q,hA0,hV,rfl,hfz,hnd⟩:=hW;have hA:DataW.TrodAll enc Tryz.prog W 0 (fun _=>true) true Tryz.f3.params.toList args.toList ds p:=hA0;rw[Tryz.params3]at hA hval;obtain⟨v0,vs0,d0,ds0,p0,q0,hargs,rfl,rfl,h0,r0⟩:=trodAll_cons hA;obtain⟨v1,vs1,d1,ds1,p1,q1,rfl,rfl,rfl,h1,r1⟩:=trodAll_cons r0;obtain⟨v2,vs2,d2,ds2,p2,q2,rfl,rfl,rfl,h2,r2⟩:=trodAll_cons r1;obtain⟨rfl,rfl,rfl⟩:=trodAll_nil r2;obtain rfl:args= #[v0,v1,v2]:=by cases args;simp_all
  obtain⟨rfl,rfl⟩:=trodVars_none hV;have k0:=h0;have lt0:∀x∈p0,x.block<W.heap.size:=by obtain⟨m,hm⟩:=k0;exact DataW.trod_lt m _ _ _ hm
  have k1:=h1;have lt1:∀x∈p1,x.block<W.heap.size:=by obtain⟨m,hm⟩:=k1;exact DataW.trod_lt m _ _ _ hm
  have k2:=h2;have lt2:∀x∈p2,x.block<W.heap.size:=by obtain⟨m,hm⟩:=k2;exact DataW.trod_lt m _ _ _ hm
  obtain⟨s0,l0,rfl,hs0⟩:=openSqLSrtBlock Tryz.underlying22 (by kernel_rfl) (hval 0 22 v0 rfl rfl) h0;obtain⟨s1,l1,rfl,hs1⟩:=openInLSrt Tryz.underlying23 Tryz.underlying3 (by kernel_rfl) (hval 1 23 v1 rfl rfl) h1;obtain⟨a2,rfl,rfl,rfl,w2⟩:=open_int Tryz.underlying3 (hval 2 3 v2 rfl rfl) h2;clear hA0 hval0;refine(walkLSrt W s0 l0 hs0 s1 l1 hs1 a2 w2).mono fun e W' ⟨he,bel⟩=>?_;subst he;exact⟨_,rfl,_,_,_,[],_,[],hW',trodAll_mk1 (shut_bool Tryz.underlying4 _),(trodAll_cons_mk (Below.trod laidOutLSrt (by kernel_rfl) (of_decide_eq_true (by kernel_rfl)) k0 bel lt0) (trodAll_cons_mk (Below.trod laidOutLSrt (by kernel_rfl) (of_decide_eq_true (by kernel_rfl)) k1 bel lt1) (trodAll_cons_mk (Below.trod laidOutLSrt (by kernel_rfl) (of_decide_eq_true (by kernel_rfl)) k2 bel lt2) trodAll_mk0))),rfl,bel.frame _,fun h=>by cases h⟩
theorem linearSorts_holds:Rows.LinearSortsSaid:=
  OpenClaim.holds_of_wide 3 Tryz.f3 rfl rfl rfl rfl rfl rfl rfl ⟨rfl,rfl,rfl,rfl,rfl⟩ rfl rfl rfl rfl rfl (by kernel_rfl) Tryz.func3 closedLSrt
    (of_decide_eq_true (by kernel_rfl)) (by unfold Func.isWrapper;first|(rw[if_pos (by decide+kernel)];kernel_rfl)|(rw[if_neg (by decide+kernel)];exact⟨rfl,rfl⟩))
    (fun os started H enc _=>liftedLSrt os started H enc)
end Go.Proofs.YtpogmfngccolbaaGreat
end
