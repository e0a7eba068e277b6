/- headwaterlaw17.LinearCalls returns true at every input, and all that it reads reads behind the call as before. Conditions: none beyond the given statement's own. -/
import Derived.Test.YtbdfihcjddbhaaaGreatLCaX6
set_option maxRecDepth 100000
set_option maxHeartbeats 8000000
set_option linter.unusedVariables false
set_option linter.unusedSimpArgs false
set_option linter.unusedSectionVars false
set_option linter.unnecessarySimpa false
section
namespace Go.Proofs.YtbdfihcjddbhaaaGreat
open Go Hw _root_.Go.Proofs.Tryz
variable{C:Cx}{L ks:List (List UInt8)}{X:PD}{bl hp:List Blk}{cs:List (List (List UInt8))}{fs:List (List UInt8×Unit)}{k:Nat}{ps:List RV}{r:RV}{s:Sl}{w:World}
theorem own_rows{q n c m:Nat}{T:TypeId}(h:HRep C hp w)(hb:(⟨q,Aq L,T,m⟩:Blk)∈hp)(hr:∀l∈L,l.length=32)(hl:L.length=n)(hc:n<=c)(hm:n<=1000000):RowsAt w ⟨some ⟨q,0,none⟩,n,c⟩ 32 L:=
  ⟨hl,hr,hc,SeesP.of (Ar h hb),Lbd hm dE,λe=>by cases e⟩
theorem upd_set:∀ {L:List (List UInt8)} {i:Nat} {v:List UInt8},(∀l∈L,l.length=32)->v.length=32->i<L.length->upd (Aq L) (0+i*32) (Aa v)=Aq (L.set i v):=λ{L i v} h hv hi=>by
  have e1:L=L.take i++L[i]::L.drop (i+1):=by rw[<-Lbo hi,Lbt]
  have e2:L.set i v=L.take i++v::L.drop (i+1):=by rw[Ldr,if_pos hi]
  have l1:(Aq (L.take i)).length=i*32:=flat_take_len h oM;have l2:(Aa L[i]).length=32:=by rw[Aa,La0];exact h _ (Lcq hi)
  have l3:(Aa v).length=32:=by rw[Aa,La0];exact hv
  have f:∀(a:List (List UInt8)) (b:List UInt8) (d:List (List UInt8)),Aq (a++b::d)=Aq a++(Aa b++Aq d):=λa b d=>by simp[Aq]
  have e3:Aq L=Aq (L.take i)++(Aa L[i]++Aq (L.drop (i+1))):=by rw[<-f,<-e1]
  rw[e2,f,e3,Lb0,<-l1,upd];rw[List.take_left,l3,<-Lf7,List.drop_left,<-l2,List.drop_left,Lab]
theorem filter_step{f:List UInt8->Bool}{j:Nat}(hj:j<ks.length):(ks.take (j+1)).filter f=(ks.take j).filter f++(if f (ks.getD j [])=true then[ks.getD j []]else[]):=by
  rw[Bt hj,Len];congr 1;rw[Ldh,List.filter_nil]
theorem index_has(s:Sl)(ls:List (List UInt8))(m:Nat)(fs:List (List UInt8×Unit)):Mv 113 [s.v, .func (.func 75) #[.map (some m)] #[]] (λW=>RowsAt W s 32 ls/\BlkOk W (A3 m (Ak 32 evU) fs)) (i64 (fstBad (λn=>(An fs n).isSome) ls)):=by
 intro W hW;have ad:=hW.1.len;have aa:=hW.1.row;have ae:=hW.1.max;simp only[maxLen]at ae;have aj:=hW.1.cap;refine Ae func113 J 19 ntmps113 J (G14 ?_);refine .loop (ι:=Nat) (λk=>⟨[(0,s.v),(1, .func (.func 75) #[.map (some m)] #[]),(7,i64 (s.n:Int)),(8,i64 (k:Int))],[]⟩) (λk=>k<=s.n/\∀j,j<k->(ls.map (λn=>(An fs n).isSome))[j]? =some false) (λk=>s.n-k) (0) ?_ ?_ ?_
 .exact⟨by omega,λj hj=>by omega⟩
 .exact Ah wN wh0 nD
 rintro k ⟨hk,hg⟩;refine G6 ?_;refine .condP J (λai=>?_) (λai=>?_)
 ·
  have ak:k<s.n:=by omega
  obtain⟨b,o,ag,ah⟩:=hW.1.see.at (by rw[As aa];omega);have ab:(ls.getD k []).length=32:=Bn aa oM;have hd:ls[k]? =some (ls.getD k []):=by rw[La3,La4 (show k<ls.length by omega)];rfl
  refine G15 ?_;refine .idxSlP 32 J J J ag J Y32.h Sz31 k oM oM (.loadEN (Aa (ls.getD k [])) J J J Y31.h J Sz31 sP (by rw[Aa,La0];exact ab) (Bk aa ah oM) ?_);refine .callCV J J J J J Body75 (lin_has m fs (ls.getD k []) ab) (λw h2=>mblk_keep hW.2 h2) (G2 ?_);refine .cond J (λac=>?_) (λac=>?_)
  ·
   refine G6 ?_;refine G7 ?_;refine⟨_,[],Ag J J,sP,sP,?_,rfl⟩;exact congrArg i64 (fstBad_at hg (by rw[Lad,hd];simpa using ac)).symm
  refine G8 ?_;exact⟨k+1,⟨by omega,λj hj=>by rcases Lb4.1 hj with h|rfl;exact hg j h;rw[Lad,hd];simpa using ac⟩,by omega,Ah wN wh0 nD⟩
 obtain rfl:k=s.n:=by omega
 refine G10 ?_;refine G2 ?_;refine⟨_,[],Ag J J,sP,sP,?_,rfl⟩;exact congrArg i64 (fstBad_none (by intro j hj;exact hg j (by rw[ad]at hj;exact hj))).symm
theorem set_take{i:Nat}{v:List UInt8}(h:i<L.length):(L.set i v).take (i+1)=L.take i++[v]:=by
  rw[Ldr,if_pos h,Lbe,Lac,Lc6 oM,show i+1-i=1 by omega,La5 (by rw[Lac];omega)];rfl
theorem filter_all(h:fstBad (λn=>(An fs n).isSome) ks= -1):(ks.filter λn=>(An fs n).isNone)=ks:=by
  rw[Lcc];intro n hn;unfold fstBad at h;split at h
  .omega
  . rename_i h1
    cases hm:An fs n with
    |none=>rfl
    |some u=>exact absurd (Lc2.2 ⟨n,hn,by rw[hm];rfl⟩) h1
theorem bad_at(h:¬fstBad (λn=>(An fs n).isSome) ks= -1):∃i,i<ks.length/\fstBad (λn=>(An fs n).isSome) ks=(i:Int)/\(ks.take i).filter (λn=>(An fs n).isNone)=ks.take i/\¬(An fs (ks.getD i [])).isNone=true:=by
  have ha:ks.any (λn=>(An fs n).isSome)=true:=by
    cases h9:ks.any (λn=>(An fs n).isSome)with
    |true=>rfl
    |false=>exact absurd (if_neg (by rw[h9];decide)) h
  have hi:=idx_lt ha;refine⟨_,hi,if_pos ha,?_,?_⟩
  . rw[Lcc]
    intro n hn;obtain⟨j,hj,e⟩:=Lb8 hn;rw[Lac]at hj;rw[Lgg]at e;have h1:=List.not_of_lt_findIdx (show j<ks.findIdx (λn=>(An fs n).isSome) by omega);rw[e]at h1;cases hm:An fs n with
    |none=>rfl
    |some u=>rw[hm]at h1;simp at h1
  . have h2:=List.findIdx_getElem (p:=λn=>(An fs n).isSome) (xs:=ks) (w:=hi)
    rw[La3,La4 hi,Lbw];intro h3;rw[Leq]at h3;rw[h3]at h2;cases h2
theorem del_has(q n c m:Nat)(ks:List (List UInt8))(ag:∀l∈ks,l.length=32)(hn:ks.length=n)(ao:n<=c)(am:n<=1000000)(fs:List (List UInt8×Unit)):Meets prog 74 [.slice (some ⟨q,0,none⟩) n c, .func (.func 75) #[.map (some m)] #[]] [q] (λW=>Lent [⟨q,Aq ks,31,c*32⟩] W/\BlkOk W (A3 m (Ak 32 evU) fs)/\m≠q) (λv out=>v= .slice (some ⟨q,0,none⟩) (ks.filter (λn=>(An fs n).isNone)).length c/\out=[⟨q,Aq (ks.filter (λn=>(An fs n).isNone)),31,c*32⟩]):=by
  intro W hW;have aa:True:=trivial;obtain⟨_,ae,an⟩:=id hW;refine calls_of (hp0:=[⟨q,Aq ks,31,c*32⟩]) func74 J 42 ntmps74 J hW.1.rep (G9 ?_);refine .cV J J J J Body113 (index_has ⟨some ⟨q,0,none⟩,n,c⟩ ks m fs) (λw h=>⟨own_rows h Z0 ag hn ao am,ae.of_heap (h.keeps.block m ae.lt (by simpa using an))⟩) ?_;refine G10 ?_;refine .condP J (λai=>?_) (λai=>?_)
  ·
    refine G6 ?_;refine G3 ?_;refine Ao (out:=(⟨q,Aq ks,31,c*32⟩::[])) (Ag J J) (Ab rM Ad) ?_;rw[filter_all ai,hn];exact⟨rfl,rfl⟩
  obtain⟨i0,az,av,au,ar⟩:=bad_at ai;rw[av];refine G11 ?_;refine .loop (ι:=Nat×Nat×List (List UInt8)) (λr=>⟨[(0, .slice (some ⟨q,0,none⟩) n c),(1, .func (.func 75) #[.map (some m)] #[]),(5,i64 (r.1:Int)),(6,i64 (r.2.1:Int))],[⟨q,Aq r.2.2,31,c*32⟩]⟩) (λr=>r.1<r.2.1/\r.2.1<=n/\r.2.2.length=n/\(∀l∈r.2.2,l.length=32)/\r.2.2.take r.1=(ks.take r.2.1).filter (λn=>(An fs n).isNone)/\r.2.2.drop r.2.1=ks.drop r.2.1) (λr=>n-r.2.1) ((i0,i0+1,ks)) ?_ ?_ ?_
  .exact⟨Nat.lt_succ_self _,by simp only;omega,hn,ag,by simp only;rw[filter_step oM,au,if_neg ar,Law],rfl⟩
  .exact Af wN (Ab rM Ad)
  rintro⟨i,j,L⟩ ⟨aw,hjn,ah,ab,ac,ad⟩;simp only at aw hjn ah ab ac ad ⊢;refine G9 ?_;refine .condP J (λaq=>?_) (λaq=>?_)
  ·
    have a1:j<n:=by omega
    have aa:(ks.getD j []).length=32:=Bn ag oM;have ap:L.getD j []=ks.getD j []:=by rw[La3,La3,<-Lc7 j,<-Lba,<-Lba,ad]
    refine G8 ?_;refine .idxSlP 32 J J J J J Y32.h Sz31 j J oM (.loadSN (n:=32) (Aa (ks.getD j [])) J J J Y31.h J Sz31 (by rw[Aa,La0];exact aa) (λw h=>by rw[<-ap];exact Bk ab (Ar h Z0) oM) ?_);refine .alloc (cs:=(Aa (List.replicate 32 0))) J Bz J ?_;intro n7 a2 ay;refine .sA J J J J zE Sz31 (by(rw[Aa,La0];assumption)) Z0 sP zU ?_;refine G5 ?_;refine .lA J J J Y31.h J Sz31 Z0 (by(rw[Aa,La0];assumption)) ?_;refine .callCV J J J J J Body75 (lin_has m fs (ks.getD j []) aa) (λw h=>ae.of_heap (h.keeps.block m ae.lt (by simpa using an))) ?_;refine G3 ?_;refine .cond J (λhc2=>?_) (λhc2=>?_)
    ·
      have ak:(An fs (ks.getD j [])).isNone=true:=by cases h9:An fs (ks.getD j [])<;>simp_all
      refine G4 ?_;refine .lA J J J Y31.h J Sz31 Z0 (by(rw[Aa,La0];assumption)) ?_;refine .idxSlP 32 J J J J J Y32.h Sz31 i J oM (.storeN (Aa (ks.getD j [])) (cs':=Aq (L.set i (ks.getD j []))) J J J J J (Ay _) Sz31 (by rw[Aa,La0];exact aa) Z1 (by rw[As ab,Aa,La0,aa];omega) (upd_set ab aa oM) zV ?_);refine G15 ?_;refine⟨(i+1,j+1,L.set i (ks.getD j [])),⟨by simp only;omega,by simp only;omega,by simp only[Lbc];exact ah,λl hl=>?_,?_,?_⟩,by simp only;omega,Af wN (Ab rM Ad)⟩
      . rcases Ldy hl with h9|rfl
        .exact ab l h9
        .exact aa
      . simp only
        rw[filter_step oM,<-ac,if_pos ak,set_take oM]
      . simp only
        rw[List.drop_set_of_lt oM,<-Lf7,ad,Lf7]
    have aj:¬(An fs (ks.getD j [])).isNone=true:=by cases h9:An fs (ks.getD j [])<;>simp_all
    refine G9 ?_;refine⟨(i,j+1,L),⟨by simp only;omega,by simp only;omega,ah,ab,?_,?_⟩,by simp only;omega,Af wN (Ab rM Ad)⟩
    . simp only
      rw[filter_step oM,if_neg aj,Law];exact ac
    . simp only
      rw[<-Lf7,ad,Lf7]
  have ax:j=n:=by omega
  refine G6 ?_;rw[take_drop_flat L i];refine .trunc (q:=q) rM ?_;refine G3 ?_;refine .sliceLoN i J J J J J oM ao Y32.h Sz31 ?_;rw[if_neg (show ¬c=i by omega)];refine .clearB (size:=32) (z:=agg (Aa (List.replicate 32 0))) J J J Y32.h Bz J dE rM (by rw[flat_take_len ab oM];omega) oM ?_;refine G6 ?_;refine .sliceHiA ⟨some ⟨q,0,none⟩,n,c⟩ i J J J J J (by show i<=c;omega) Y32.h Sz31 ?_;dsimp only[Sl.v];refine G3 ?_;refine G2 ?_;refine Ao (out:=(⟨q,Aq (L.take i),31,c*32⟩::[])) (Ag J J) (Ab rM Ad) ?_;rw[La5 (show ks.length<=j by omega)]at ac;rw[<-ac];exact⟨by rw[Lac,Lc6 oM],rfl⟩
def leD(X:PD)(a b:List UInt8):Bool:=decide (X.dp a<X.dp b)||(decide (X.dp a=X.dp b)&&decide (Cn a b<=0))
theorem leD_iff{a b:List UInt8}:leD X a b=true↔LeD X a b:=by unfold leD LeD;simp
def C9(X:PD)(l:List (List UInt8)):List (List UInt8):=l.mergeSort (leD X)
theorem Ca(X:PD)(l:List (List UInt8)):(C9 X l).Perm l:=List.mergeSort_perm l _
theorem isortD_sort(X:PD)(l:List (List UInt8)):SortD X (C9 X l):=by
  have h:=List.pairwise_mergeSort (le:=leD X) (λa b c h1 h2=>by
    rw[leD_iff]at*;have:=cmpB_trans a b c;unfold LeD at*;omega) (λa b=>by
    rw[Lc8,leD_iff,leD_iff];have:=cmpB_neg a b;unfold LeD;omega) l
  exact h.imp λh=>leD_iff.1 h
theorem isortD_eq{a l:List (List UInt8)}(hp:a.Perm l)(hs:SortD X a):a=C9 X l:=sortD_unique (hp.trans (Ca X l).symm) hs (isortD_sort X l)
noncomputable def partsD(X:PD):List (List UInt8)->List (List (List UInt8))->List (List (List UInt8))
  |_,[]=>[]
  |bf,c::cs=>C9 X (X.names.filter λn=>rB X (-1) c n&& !rB X (-1) bf n)::partsD X c cs
noncomputable def restL(X:PD)(cs:List (List (List UInt8))):List (List UInt8):=X.names.filter λn=> !rB X (-1) (cs.getLastD []) n
noncomputable def ordL(X:PD)(cs:List (List (List UInt8))):List (List UInt8):=(partsD X [] cs).flatten++C9 X (restL X cs)
theorem parts_sorted{X:PD}(hI:X.Inv):∀ {bf:List (List UInt8)} {cs ls:List (List (List UInt8))},PartsOk X bf cs ls->ls.map (C9 X)=partsD X bf cs
  |_,_,_, .nil=>rfl
  | bf,c::cs,l::ls, .cons h1 h2 h3=>by
    rw[Lar,partsD,parts_sorted hI h3];congr 1;refine isortD_eq ((Ca X l).trans ((Lfo h1 ((hI.nn▸hI.nd:X.names.Nodup).filter _)).2 λn=>?_)) (isortD_sort X l);rw[h2 n,Lb7,Lap,rB_iff,Lcw,<-Lfw,rB_iff,names_mem hI];exact⟨λh=>⟨reach_P h.1,h⟩,λh=>h.2⟩
theorem parts_len{X:PD}(hI:X.Inv):∀ {bf:List (List UInt8)} {cs ls:List (List (List UInt8))},PartsOk X bf cs ls->∀l∈ls,l.length<=X.names.length
  |_,_,_, .nil,l,hl=>by cases hl
  | _,_,_, .cons h1 h2 h3,l,hl=>by
    rcases Lam.1 hl with rfl|hl
    .exact nd_len h1 λn hn=>(names_mem hI n).2 (reach_P ((h2 n).1 hn).1)
    .exact parts_len hI h3 l hl
def OrdR(X:PD)(cs:List (List (List UInt8)))(v:Value)(out:List Blk):Prop:=
  (∃e,e≠0/\benE X [] cs=e/\v= .tuple #[.slice none 0 0,i64 0,i64 e]/\out=[])
  \/benE X [] cs=0/\∃s:Sl,v= .tuple #[s.v,i64 ((Cl X (cs.getLastD [])).length:Int),i64 0]/\Hw.Acc s out (Aq (ordL X cs)) 31 (ordL X cs).length 32
theorem psv_at(h:Hw.Acc s bl (psv ps) 32 ps.length 1)(hr:ps[k]? =some r):∃q o,s.p=some ⟨q,o,none⟩/\∀w,Lies bl w->w.cell? ⟨q,o+k*1,none⟩=some r.s.v:=by
  have hk:=(Laa.1 hr).1;rcases h with ⟨_,_,_,e⟩|⟨q,c,rfl,h1,h2,rfl⟩
  .omega
  . refine⟨q,0,rfl,λw hw=>?_⟩
    have h3:=(hw _ La9).cell (o:=0+k*1) (v:=r.s.v) (by
      show(psv ps)[0+k*1]? =_;rw[Lb0,Lbb,psv,Lad,hr];rfl)
    exact h3
theorem perm_seg{hp A B C R:List Blk}(h:hp.Perm (A++R))(h2:A.Perm (B++C)):hp.Perm (B++(C++R)):=by
  rw[<-Lab];exact h.trans (Lcm R h2)
theorem pbl_drop(hr:ps[k]? =some r):pbl (ps.drop k)=r.bl++pbl (ps.drop (k+1)):=by
  rw[drop_at hr];rfl
theorem lent_pre{hp bl keep L:List Blk}(h:HRep C hp w)(hp1:hp.Perm (bl++keep))(hL:∀b∈L,b∈keep):Lent bl w/\Lies L w/\∀b∈L,∀b2∈bl,b.n≠b2.n:=by
  have h1:=h.perm hp1;refine⟨Lent.of h hp1,λb hb=>h1.cells b (Lat _ (hL b hb)),λb hb b2 aa e=>?_⟩;have h2:=h1.nodup;rw[Lae,Lay]at h2;exact h2.2.2 _ (La6.2 ⟨b2,aa,rfl⟩) _ (La6.2 ⟨b,hL b hb,rfl⟩) e.symm
theorem beneath_keys(hI:X.Inv)(hn:(fs.map (·.1)).Nodup)(h:∀n,n∈fs.map (·.1)↔X.Reach (-1) L n):fs.length=(Cl X L).length:=by
  rw[<-clos_len hI hn h,La0]
theorem rest_filter(h:∀n,n∈fs.map (·.1)↔X.Reach (-1) (cs.getLastD []) n):(X.names.filter λn=>(An fs n).isNone)=restL X cs:=by
  unfold restL;refine Lgz λn _=>?_;cases hm:An fs n with
  | none=>
    have:¬rB X (-1) (cs.getLastD []) n=true:=λh2=>not_key hm ((h n).2 (rB_iff.1 h2));rw[Lfw]at this;rw[this];rfl
  | some u=>
    rw[rB_iff.2 ((h n).1 (La6.2 ⟨(n,u),Bi hm,rfl⟩))];rfl
theorem del_nil(m:Nat)(fs:List (List UInt8×Unit)):Mv 74 [.slice none 0 0, .func (.func 75) #[.map (some m)] #[]] (λW=>BlkOk W (A3 m (Ak 32 evU) fs)) (.slice none 0 0):=by
 intro W hW;refine Ae func74 J 42 ntmps74 J (G9 ?_);refine .cV J J J J Body113 (index_has Sl.nil [] m fs) (λw h=>⟨nil_rows w,mblk_keep hW h⟩) (G7 ?_);refine .eqi J J J J (decide_eq_true (rfl)) (G2 ?_);refine .cond_t J J (G6 ?_);refine G3 ?_;refine⟨_,[],Ag J J,sP,sP,?_,rfl⟩;rfl
theorem del_acc(s:Sl)(bl:List Blk)(ks:List (List UInt8))(aa:∀l∈ks,l.length=32)(ab:ks.length<=1000000)(ad:Hw.Acc s bl (Aq ks) 31 ks.length 32)(m:Nat)(fs:List (List UInt8×Unit)):Meets prog 74 [s.v, .func (.func 75) #[.map (some m)] #[]] (bl.map (·.n)) (λW=>Lent bl W/\Lies [A3 m (Ak 32 evU) fs] W/\∀b∈ [A3 m (Ak 32 evU) fs],∀b2∈bl,b.n≠b2.n)
    (λv out=>∃s2:Sl,v=s2.v/\Hw.Acc s2 out (Aq (ks.filter λn=>(An fs n).isNone)) 31 (ks.filter λn=>(An fs n).isNone).length 32):=λW ⟨h1,h2,h3⟩=>by
  have hm:=h2 _ La9;rcases ad with ⟨rfl,rfl,hz,hn⟩|⟨q,c,rfl,ac,ae,rfl⟩
  . obtain rfl:=Lai hn
    exact(del_nil m fs W hm).mono λe W' ⟨v,out,he,⟨hv,ho⟩,hr⟩=>⟨v,out,he,⟨Sl.nil,hv,by rw[ho];exact Acc.none⟩,hr⟩
  . refine(del_has q ks.length c m ks aa rfl ac ab fs W ⟨h1,hm,h3 _ La9 _ La9⟩).mono λe W' ⟨v,out,he,⟨hv,ho⟩,hr⟩=>⟨v,out,he,⟨⟨some ⟨q,0,none⟩,_,c⟩,hv,?_⟩,hr⟩
    rw[ho];exact Acc.some (Lbd (Lcz _ _) ac) (As λl hl=>aa l (Lb7.1 hl).1)
structure OrdG where
  k:Nat
  l:List (List UInt8)
  s:Sl
  bl:List Blk
  br:List Blk
structure OrdG.ok(g:OrdG)(X:PD)(ps:List RV):Prop where
  lst:g.l=((ps.take g.k).map λr=>C9 X r.ks).flatten
  acc:Hw.Acc g.s g.bl (Aq g.l) 31 g.l.length 32
  bls:g.br.Perm (pbl (ps.drop g.k))
  len:g.l.length<=g.k*20000
theorem OrdG.next{g:OrdG}(h:g.ok X ps)(hr:ps[g.k]? =some r)(hb:r.ks.length<=20000){aa:List (List UInt8)}(hp:aa.Perm r.ks)(hs:SortD X aa)(ab:Hw.Acc s bl (Aq g.l++Aq aa) 31 (g.l.length+r.ks.length) 32):(⟨g.k+1,g.l++aa,s,bl,pbl (ps.drop (g.k+1))⟩:OrdG).ok X ps where
  lst:=by
    show g.l++aa=((ps.take (g.k+1)).map λr=>C9 X r.ks).flatten;rw[take_at hr,Lae,Lcb,<-h.lst,isortD_eq hp hs];simp
  acc:=by
    show Hw.Acc s bl (Aq (g.l++aa)) 31 (g.l++aa).length 32;rw[Br,La2,hp.length_eq];exact ab
  bls:=Lco _
  len:=by
    show(g.l++aa).length<=(g.k+1)*20000;have h1:=h.len;rw[La2,hp.length_eq];omega
theorem ord_start(X:PD)(ps:List RV){bl br:List Blk}(h:Hw.Acc s bl (Aq []) 31 0 32)(hb:br.Perm (pbl ps)):(⟨0,[],s,bl,br⟩:OrdG).ok X ps where
  lst:=rfl
  acc:=h
  bls:=hb
  len:=Laf _
theorem parts_count{X:PD}:∀ {bf:List (List UInt8)} {cs ls:List (List (List UInt8))},PartsOk X bf cs ls->ls.length=cs.length
  |_,_,_, .nil=>rfl
  |_,_,_, .cons _ _ h=>by rw[Lax,Lax,parts_count h]
theorem parts_sub{X:PD}(hI:X.Inv):∀ {bf:List (List UInt8)} {cs ls:List (List (List UInt8))},PartsOk X bf cs ls->∀l∈ls,∀n∈l,n∈X.names
  |_,_,_, .nil,l,hl=>by cases hl
  | _,_,_, .cons h1 h2 h3,l,hl=>by
    rcases Lam.1 hl with rfl|hl
    .exact λn hn=>(names_mem hI n).2 (reach_P ((h2 n).1 hn).1)
    .exact parts_sub hI h3 l hl
theorem ord_all(hI:X.Inv)(h:PartsOk X [] cs (ps.map (·.ks))):((ps++[(⟨s,bl,restL X cs⟩:RV)]).map λr=>C9 X r.ks).flatten=ordL X cs:=by
  have h1:=parts_sorted hI h;rw[Lgt]at h1;rw[Lae,Lcb,ordL,<-h1];simp;rfl
theorem lin_ord(x:DD)(hx:x.ok)(hI:x.pl.Inv)(hO:x.pl.Ord)(p:Nat)(s:Sl)(rs:List Sl)(cs:List (List (List UInt8)))(hn:s.n<=16)(b6:∀c∈cs,c.length<=90000):Meets prog 30 [ptr p 0,s.v] [] (λW=>Lies (x.blks p) W/\SeqIs slc 1 HdsIs W s rs cs) (OrdR x.pl cs):=by
 intro W hW;have ci:=hx.big;have cn:x.pl.names.length=x.names.length:=rfl;have bu:∀q∈x.P,q.2.check=0:=hI.ck;have bq:∀q∈x.P,q.2.ls.length<=16:=λq hq=>(ck_small (bu q hq)).1;have cm:=hW.2.nd;refine Ae func30 J 59 ntmps30 J (G11 ?_);refine .cV J J J J Body64 (lin_none x hx bq p) (λw h=>Bf hW.1 h) (G2 ?_);refine .cond_f J J (G6 ?_);refine .call4 J J J J J Body73 (lin_beneath x hx hI p s rs cs oM b6) (λw h=>⟨Bf hW.1 h,hW.2.ext h J λr d hd=>B4 h J hd⟩) ?_;rintro cz b7 (⟨e,ba,aw,rfl,rfl⟩|⟨aw,cy,cg,a6,ps,m,fs,rfl,rfl,ai,bt,bj,ah,bv,bc⟩)
 ·
  skip;refine G13 ?_;refine .nei J J J J (show(!decide _)=true from congrArg not (decide_eq_false (ba))) (G2 ?_);refine .cond_t J J (G8 ?_);refine G3 ?_;refine Ao (out:=[]) (res_tmp3 J J J J) Ad ?_;exact .inl ⟨e,ba,aw,rfl,rfl⟩
 have cj:=ai.num;have cq:ps.length<=16:=by have h9:=parts_count ah;rw[La0]at h9;omega
 have bz:∀r∈ps,r.ks.length<=x.names.length:=λr hr=>parts_len hI ah r.ks (La6.2 ⟨r,hr,rfl⟩);refine G13 ?_;refine .nei J J J J (show(!decide _)=false from congrArg not (decide_eq_true (rfl))) (G2 ?_);refine .cond_f J J (G5 ?_);refine .call4 J J J J J Body12 (dag_names x hx p) (λw h=>Bf hW.1 h) ?_;rintro c0 b8 ⟨ap,rfl,ad⟩;have bi:=ad.num;refine G7 ?_;refine .call4 J J J J J Body65 (lin_depths x hx hI hO p ap x.pl.names) (λw h=>⟨Bf hW.1 h,acc_rows ad (Lies.of h (by repeat(exact Ap))) hx.n32 J oM⟩) ?_;rintro c3 b9 ⟨aD,bD,cD,mD,aq,cu,⟨rfl,rfl,be⟩,bg⟩;have a8:∀n,n∈x.pl.names->An aq n=some (x.pl.dp n):=λn hn=>be.all n (bg n hn hn);simp only[Lan,Lah,Lab];refine G7 ?_;refine .call4 J J J J J Body46 (cl_digs ap x.pl.names oM) (λw h=>acc_rows ad (Lies.of h (by repeat(first|exact Ap|refine A1 ?_))) hx.n32 J oM) ?_;rintro c4 ao ⟨ce,rfl,aj⟩;rw[bi]at aj;refine G2 ?_;refine .callL (L:=ao) J J J J J Body74 (del_acc ce ao x.pl.names hx.n32 oM aj m fs) sG (lent_ok J) (λw h=>by have h9:=lent_pre (L:=[A3 m (Ak 32 evU) fs]) h sG (by intro b hb;simp only[Lam,Lc1,or_false]at hb;rcases hb with rfl;exact mR);exact h9) ?_;rintro c5 aa ⟨ab,rfl,ak⟩;rw[rest_filter bc]at ak;have bm:(restL x.pl cs).length<=x.names.length:=by unfold restL;exact Lcz _ _
 have bn:(⟨ab,aa,restL x.pl cs⟩:RV).ok:=⟨ak,λl hl=>hx.n32 l (Lb7.1 hl).1⟩;refine .mkRow2 (z:= .slice none 0 0) [ab.v] (slc ab) J J Y55.h Sz32 Zr32 J J (by intro v hv;rw[La1.1 hv];simp[Value.cells,Sl.v]) dE (by simp[Value.cells,slc,Sl.v]) ?_;intro cx;refine .appendAcc (z:= .slice none 0 0) (by':=24) (slc ab) J J J J J Y55.h Y55.h Sz32 Zr32 (by unfold By;kernel_rfl) J ai sG (λw h=>SeesP.of (Ar h Z0)) (λe=>by cases e) (slc_cell ab) oM oM (by rfl) ?_;intro ac av am;have ar:Hw.Acc ac av (psv (ps++[(⟨ab,aa,restL x.pl cs⟩:RV)])) 32 (ps++[(⟨ab,aa,restL x.pl cs⟩:RV)]).length 1:=by rw[psv_snoc,La2];exact am
 have cl:ac.n=ps.length+1:=am.num;refine G7 ?_;refine .mkRoomN (z:=agg (Aa (List.replicate 32 0))) (by':=32) ap.n J J J J J Y32.h Sz31 Bz (by unfold By;kernel_rfl) oM oM ?_;intro bp;refine G12 ?_;refine .loop (ι:=OrdG) (λg=>⟨[(4, .slice none 0 0),(5,i64 0),(6,i64 0),(7,ac.v),(8, .map (some m)),(11, .func (.func 109) #[] #[ptr aD 0,ptr bD 0,ptr cD 0]),(12,g.s.v),(43,ac.v),(44,i64 (ac.n:Int)),(45,i64 (g.k:Int))],(g.bl++(g.br++(A3 m (Ak 32 evU) fs::(av++(A3 mD (Ak 32 evI) aq::(⟨cD,[.func (.func 109) #[] #[ptr aD 0,ptr bD 0,ptr cD 0]],115,1⟩::(⟨aD,[.map (some mD)],117,1⟩::(⟨bD,[ptr p 0],25,1⟩::[]))))))))⟩) (λg=>g.k<=ac.n/\g.ok x.pl (ps++[(⟨ab,aa,restL x.pl cs⟩:RV)])) (λg=>ac.n-g.k) (⟨0,[],⟨some ⟨bp,0,none⟩,0,ap.n⟩,[⟨bp,[],31,ap.n*32⟩],aa++a6⟩) ?_ ?_ ?_
 .exact⟨Laf _,ord_start _ _ (Acc.some (Laf _) sP) (by rw[pbl_snoc];exact Lcy.trans (Lcm _ bt))⟩
 .exact Af wN (pm_in0 (Ab rM (pm_two (Ac sG (Ac sG (Ab rM (Ac sG (Ab rM (Ab rM (Ab rM (Ab rM Ad)))))))))))
 rintro⟨k,l,cd,a1,br⟩ ⟨hk,hG⟩;simp only at hk ⊢;refine G6 ?_;refine .condP J (λhc2=>?_) (λhc2=>?_)
 ·
  have co:k<ac.n:=by omega
  obtain⟨r,au⟩:∃r,(ps++[(⟨ab,aa,restL x.pl cs⟩:RV)])[k]? =some r:=⟨_,La4 (by rw[La2,Laq];omega)⟩;obtain⟨c7,cw,bk,a7⟩:=psv_at ar au;have ay:=Lau au;have az:r.ok:=by rcases La8.1 ay with h9|h9;exact bj r h9;rw[La1.1 h9];exact bn
  have ct:r.ks.length<=x.names.length:=by rcases La8.1 ay with h9|h9;exact bz r h9;rw[La1.1 h9];exact bm
  have b3:∀n∈r.ks,n∈x.pl.names:=by rcases La8.1 ay with h9|h9;exact parts_sub hI ah r.ks (La6.2 ⟨r,h9,rfl⟩);rw[La1.1 h9];exact λn hn=>(Lb7.1 hn).1
  have b4:=hG.bls.trans (List.Perm.of_eq (pbl_drop au));refine G6 ?_;refine .idxSlP 1 J J J bk J Y55.h Sz32 k J oM (.loadS1 J J J Y32.h J (λw h=>a7 w (Lies.of h (by repeat(first|exact Ap|refine A1 ?_|refine A5 ?_)))) ?_);refine G4 ?_;refine Sat.perm (perm_seg (by repeat(first|exact B9|apply Cj)) b4) ?_;refine G3 ?_;refine .callL (L:=r.bl) J J J J J Body70 (lin_order x.pl r.s r.bl r.ks az.r32 oM az.acc aD bD cD mD aq (λn hn=>a8 n (b3 n hn))) (show List.Perm _ (r.bl++_)from sG) (lent_ok J) (λw h=>by have h9:=lent_pre (L:=[⟨aD,[.map (some mD)],117,1⟩,A3 mD (Ak 32 evI) aq]) h sG (by intro b hb;simp only[Lam,Lc1,or_false]at hb;rcases hb with rfl|rfl;exact mR;exact mR);exact h9) ?_;rintro c6 cc ⟨rfl,bo,ax,b5,ae⟩;have ag:=ae.num;refine G5 ?_;refine .appendAcc (n:=l.length) (z:=agg (Aa (List.replicate 32 0))) (by':=32) (Aq bo) J J J J J Y32.h Y32.h Sz31 Bz (by unfold By;kernel_rfl) J hG.acc (by repeat(first|exact B9|apply Cj)) (λw h=>ae.see (Lies.of h (by repeat(exact Ap)))) (λe=>ae.nil e) (Cu _) (by have h9:l.length<=k*20000:=hG.len;rw[ag];show l.length+r.ks.length<=1000000;omega) (by have h9:l.length<=k*20000:=hG.len;rw[ag];show(l.length+r.ks.length)*32<=140737488355328;omega) (by rw[As (λq hq=>az.r32 q (ax.mem_iff.1 hq)),ax.length_eq,ag]) ?_;intro cf a2 an;rw[ag]at an;refine G9 ?_;refine⟨⟨k+1,l++bo,cf,a2,pbl ((ps++[(⟨ab,aa,restL x.pl cs⟩:RV)]).drop (k+1))⟩,⟨by simp only;omega,OrdG.next hG au oM ax b5 an⟩,by simp only;omega,Af (wk1 J (wk1 J (wk1 J (wk1 J (wk1 J (wk1 J (wk1 J (wk1 J (wk1 J (wk1 (by rw[Lcd];rfl) wk0)))))))))) (Ac sG (Ac (by repeat(first|exact B9|apply Cj)) (Ab (by repeat(first|exact A4|apply Bq)) (Ac (by repeat(first|exact B9|apply Cj)) (Ab (by repeat(first|exact A4|apply Bq)) (Ab (by repeat(first|exact A4|apply Bq)) (Ab (by repeat(first|exact A4|apply Bq)) (Ab (by repeat(first|exact A4|apply Bq)) Ad))))))))⟩
 have cp:k=ac.n:=by omega
 refine G9 ?_;refine .lenMap Y119.h J J J mR ?_;refine G5 ?_;refine G2 ?_;refine Ao (out:=(a1++[])) (res_tmp3 J J J J) (Ac sG Ad) ?_;have bw:l=ordL x.pl cs:=by
  have h9:=hG.lst;simp only at h9;rw[h9,La5 (by rw[La2,Laq];omega),ord_all hI ah]
 rw[beneath_keys hI bv bc];exact .inr ⟨aw,cd,rfl,by rw[<-bw];simpa using hG.acc⟩
theorem digs_same(p q:Option Addr)(n m c1 c2:Nat)(xs:List (List UInt8))(hx:∀l∈xs,l.length=32)(h1:xs.length=n)(h2:xs.length=m)(hn:n<=1000000):Mv 16 [.slice p n c1, .slice q m c2] (λW=>SeesP W p (Aq xs)/\SeesP W q (Aq xs)) (.bool true):=by
  have h:=digests_any2 p q n m c1 c2 xs xs hx hx h1 h2 hn;rwa[show decide (xs=xs)=true from decide_eq_true rfl]at h
open Ed
variable{L:List (List UInt8)}
theorem law17_signed(n:Int)(ab:List UInt8)(ah:ab.length=32)(B:Block)(hB:B.ok)(D D1:DB)(ag:D1.ok)(ac:Mv 116 [i64 n] (λ_=>True) (agg (Aa ab)))(cS:∀B:Block,B.ok->Meets prog 115 [agg (Aa ab),agg B.cells] [] (λW=>BlockIs W B D) (BlkR 0 D1)):Meets prog 101 [i64 n,agg B.cells] [] (λW=>BlockIs W B D) (BlkV D1):=by
 intro W hW;refine Ae func101 J 15 ntmps101 J (G3 ?_);intro n3 am ai;refine .alloc (cs:=Block.zero.cells) J Block.zr J ?_;intro n4 an aj;refine G3 ?_;refine .draw (oPq [0,102,301,303,4,5,6,207,408,9]) Au zK (G1 ?_);refine .lA J J J Y37.h J Sz37 Z1 (Block.length (by exact hB)) ?_;refine .cV J J J J Body116 (ac) tV (.call J J J J Body115 (cS B hB) (BlkR.loose 0 D1 ag) (λw h=>hW.ext h J) ?_);rintro ap ad ⟨B11,aa,rfl,ae⟩;refine G3 ?_;refine .alloc (cs:=Block.zero.cells) J Block.zr J ?_;intro n5 ao ak;refine .sA J J J J (Block.isCell (by exact aa.ok)) Sz37 (Block.length (by exact aa.ok)) Z0 (Block.length (by exact Block.zero_ok)) zU ?_;refine G5 ?_;refine .lA J J J Y37.h J Sz37 Z0 (Block.length (by exact aa.ok)) ?_;refine .sA J J J J (Block.isCell (by exact aa.ok)) Sz37 (Block.length (by exact aa.ok)) mR (Block.length (by exact Block.zero_ok)) uU ?_;refine G2 ?_;refine G2 ?_;refine Ao (out:=(ad++[])) (Ax J J Y37.h J Sz37 mR (by exact Block.length (by exact aa.ok))) (Ac sG Ad) ?_;exact⟨B11,aa,rfl,by simpa using ae⟩
theorem law17_filled(s:Sl)(ds:List DB)(hn:s.n<=1000)(aj:∀d∈ds,d.ls.length<=500000/\d.ds.length<=500000):Meets prog 19 [s.v] [] (λW=>BlocksAt W s ds) (λv out=>∃(p:Nat) (x:DD),v=ptr p 0/\out=x.blks p/\x.ok/\x.pl=fillP PD.new ds/\x.names.length+x.orp.length<=ds.length):=by
 intro W hW;obtain⟨rs,hs⟩:=hW;have a7:=hs.nd;refine Ae func19 J 20 ntmps19 J (G7 ?_);refine .call4 J J J J J Body41 (dag_new2) tV ?_;rintro v5 a2 ⟨p,x0,rfl,rfl,aw,ac,ah⟩;refine G10 ?_;refine .loop (ι:=Nat×DD) (λr=>⟨[(0,s.v),(3,ptr p 0),(4,i64 (r.1:Int))],(r.2.blks p++[])⟩) (λr=>r.1<=s.n/\r.2.ok/\r.2.pl=fillP PD.new (ds.take r.1)/\r.2.names.length+r.2.orp.length<=r.1) (λr=>s.n-r.1) ((0,x0)) ?_ ?_ ?_
 .exact⟨Laf _,aw,ac,Ld5 ah⟩
 .exact Af wN (Ac sG Ad)
 rintro⟨k,x⟩ ⟨hk,hx,aa,au⟩;simp only at hk hx aa au ⊢;refine G9 ?_;refine .condP J (λao=>?_) (λao=>?_)
 ·
  have aq:k<s.n:=by omega
  obtain⟨b,o,r,d,av,hr,hd,ap,ag,ai⟩:=hs.at dE aq;refine G8 ?_;refine .idxSlP 131 J J J av J Y22.h Sz37 k J oM (.loadEN r.cells J J J Y37.h J Sz37 sP ag ai (.call4 J J J J J Body44 (db_own r d (aj d (Lau hd)).1 (aj d (Lau hd)).2) (λw h=>ap.ext h J) ?_));rintro bc ab ⟨B17,ak,rfl,ae⟩;refine .callL (L:=(x.blks p++ab)) J J J J J Body42 (dag_add x hx p B17 d ab ⟨ak,ae⟩ oM) (sg_two (by repeat(first|exact B9|apply Cj)) sG) (lent_ok J) (λw h=>Lent.of h (sg_two (by repeat(first|exact B9|apply Cj)) sG)) ?_;rintro be ay ⟨x1,⟨ba,a8,a6⟩,az,rfl,rfl,ax,an,am,ad,a1⟩;simp only[Lab];refine G9 ?_;exact⟨(k+1,x1),⟨by simp only;omega,ax,by show x1.pl=_;rw[ad,aa,take_snoc hd,fillP_snoc],by simp only;omega⟩,by simp only;omega,Af wN (Ac sG Ad)⟩
 have ar:k=s.n:=by omega
 refine G11 ?_;refine G2 ?_;refine Ao (out:=(x.blks p++[])) (Ag J J) (Ac sG Ad) ?_;refine⟨p,x,rfl,by simp,hx,?_,by omega⟩;rw[ar,La5 oM]at aa;exact aa
theorem law17_chain(Da Db Dc:DB)(na:List UInt8)(ap:Da.ok)(ag:Db.ok)(ah:Dc.ok)(aa:na.length=32)(aq:A6 Da=na)(am:∀B:Block,B.ok->Meets prog 115 [agg (Aa s1B),agg B.cells] [] (λW=>BlockIs W B DB.zero) (BlkR 0 Da))(an:∀B:Block,B.ok->Meets prog 115 [agg (Aa s1B),agg B.cells] [] (λW=>BlockIs W B { DB.zero with seq:=1,prev:=na }) (BlkR 0 Db))(ao:∀B:Block,B.ok->Meets prog 115 [agg (Aa s2B),agg B.cells] [] (λW=>BlockIs W B { DB.zero with ls:=[na] }) (BlkR 0 Dc)):Meets prog 61 [] [] (λ_=>True) (ChainS Da Db Dc):=by
 intro W hW;refine Ae func61 J 16 ntmps61 J (G7 ?_);refine .build (cs:=Block.zero.cells) J J J (λw=>by kernel_rfl) ?_;refine .call4 J J J J J Body101 (law17_signed 1 s1B J Block.zero Block.zero_ok DB.zero Da ap kitS1 am) (λw h=>zero_is w) ?_;rintro v4 aj ⟨Ba,ha,rfl,ai⟩;have ae:=r15_Name Ba Da ha.ok;rw[aq]at ae;refine .alloc (cs:=Block.zero.cells) J Block.zr J ?_;intro n1 ax av;refine .sA J J J J (Block.isCell (by exact ha.ok)) Sz37 (Block.length (by exact ha.ok)) Z0 (Block.length (by exact Block.zero_ok)) zU ?_;refine G4 ?_;refine .lA J J J Y37.h J Sz37 Z0 (Block.length (by exact ha.ok)) ?_;refine .cV J J J J Body43 (ae) (λw h=>ai w (Lies.of h (by repeat(first|exact Ap|refine A1 ?_)))) ?_;refine .alloc (cs:=(Aa (List.replicate 32 0))) J Bz J ?_;intro n2 ay aw;refine .sA J J J J zE Sz31 (by(simp[aa];done)) Z0 sP zU ?_;refine G3 ?_;refine .drawZ (oPq [100,101,2,104,303,205,6,307,208,9]) Au zK (.lA J J J Y37.h J Sz37 Z1 (Block.length (by exact ha.ok)) ?_);refine .lA J J J Y31.h J Sz31 Z0 (by(simp[aa];done)) ?_;refine .build (cs:=({ Block.zero with fSeq:=1,fPrev:=na }:Block).cells) J J J (λw=>build_sp 1 na aa w) (.lA J J J Y31.h J Sz31 Z0 (by(simp[aa];done)) ?_);refine .call J J J J Body101 (law17_signed 1 s1B J _ (sp_ok 1 aa) _ Db ag kitS1 an) (BlkV.loose Db ag) (λw h=>sp_is w 1 aa) ?_;rintro v10 ab ⟨Bb,hb,rfl,ar⟩;refine .mkRow2 (z:=agg (Aa (List.replicate 32 0))) [agg (Aa na)] (Aa na) J J Y32.h Sz31 Bz J J (by intro v hv;rw[La1.1 hv];simp[Value.cells,Aa,aa]) dE (by simp[Value.cells,agg]) ?_;intro ad;refine .build (cs:=(bl1 ad).cells) J J J (λw=>by kernel_rfl) ?_;refine .call J J J J Body101 (law17_signed 2 s2B J (bl1 ad) (bl1_ok ad) _ Dc ah kitS2 ao) (BlkV.loose Dc ah) (λw h=>bl1_is aa (Ar h Z0)) ?_;rintro az ac ⟨Bc,hc,rfl,au⟩;refine .mkRow2 (z:=agg Block.zero.cells) [agg Ba.cells,agg Bb.cells,agg Bc.cells] (tri Ba Bb Bc) J J Y22.h Sz37 Block.zr J J (by intro v hv;simp only[Lam,Lc1,or_false]at hv;rcases hv with rfl|rfl|rfl;exact Block.length ha.ok;exact Block.length hb.ok;exact Block.length hc.ok) dE (by simp[Value.cells,agg,tri]) ?_;intro ak;refine G3 ?_;refine G2 ?_;refine Ao (out:=(⟨ak,tri Ba Bb Bc,37,(tri Ba Bb Bc).length⟩::(ac++(ab++(aj++[]))))) (Ag J J) (Ab rM (Ac sG (Ac sG (Ac sG Ad)))) ?_;exact⟨ak,Ba,Bb,Bc,_,ha,hb,hc,rfl,rfl,λW2 hl=>⟨ai W2 (hl.sub (by repeat(first|exact Ap|refine A5 ?_))),ar W2 (hl.sub (by repeat(first|exact Ap|refine A5 ?_))),au W2 (hl.sub (by repeat(exact Ap)))⟩⟩
theorem three_32{a b c:List UInt8}(ha:a.length=32)(hb:b.length=32)(hc:c.length=32):∀l∈ [a,b,c],l.length=32:=λl hl=>by
  simp only[Lam,Lc1,or_false]at hl;rcases hl with rfl|rfl|rfl<;>assumption
theorem hds_one{w:World}{q:Nat}{r:Sl}{d:List (List UInt8)}(hs:Dd w q 0 (slc r))(h:RowsAt w r 32 d):SeqIs slc 1 HdsIs w ⟨some ⟨q,0,none⟩,1,1⟩ [r] [d]:=by
  refine⟨rfl,rfl,λi r2 d2 hr hd=>?_,λr2 hr=>?_,Lag 1,SeesP.of (by simpa using hs),(by show 1<=maxLen;decide),λe=>by cases e⟩
  . rcases i with _|i
    .cases hr;cases hd;exact h
    .cases hr
  .rw[La1.1 hr];rfl
theorem lin_depth_at(x:DD)(hx:x.ok)(hI:x.pl.Inv)(hO:x.pl.Ord)(p:Nat)(n:List UInt8)(aa:n.length=32){v:Value}(h:x.pl.depthR n=v):Mv 23 [ptr p 0,agg (Aa n)] (λW=>Lies (x.blks p) W) v:=by
  rw[<-h];exact lin_depth x hx hI hO p n aa
theorem lin_ord_at(x:DD)(hx:x.ok)(hI:x.pl.Inv)(hO:x.pl.Ord)(p:Nat)(s:Sl)(cs:List (List (List UInt8)))(hn:s.n<=16)(ad:∀c∈cs,c.length<=90000)(he:benE x.pl [] cs=0){k:Nat}(hk:(Cl x.pl (cs.getLastD [])).length=k)(hl:ordL x.pl cs=L):Meets prog 30 [ptr p 0,s.v] [] (λW=>Lies (x.blks p) W/\∃rs,SeqIs slc 1 HdsIs W s rs cs)
    (λv out=>∃s2:Sl,v= .tuple #[s2.v,i64 (k:Int),i64 0]/\Hw.Acc s2 out (Aq L) 31 L.length 32):=λW hW=>by
  obtain⟨h1,rs,h2⟩:=hW;refine(lin_ord x hx hI hO p s rs cs hn ad W ⟨h1,h2⟩).mono λe W' ⟨v,out,h3,h4,h5⟩=>⟨v,out,h3,?_,h5⟩;rcases h4 with ⟨e,ac,ab,_⟩|⟨_,s2,hv,aa⟩
  .exact absurd (ab.symm.trans he) ac
  . rw[hk]at hv;rw[hl]at aa
    exact⟨s2,hv,aa⟩
theorem d_nm:cX3.names=[mAN,mBN,mLN]:=by kernel_rfl
theorem d_pk:cX3.P.map (·.1)=[mAN,mBN,mLN]:=by kernel_rfl
theorem dAN:cX3.dp mAN=0:=by kernel_rfl
theorem dBN:cX3.dp mBN=1:=by kernel_rfl
theorem dLN:cX3.dp mLN=1:=by kernel_rfl
theorem d_hA:An cX3.P mAN=some mAD:=by kernel_rfl
theorem d_hB:An cX3.P mBN=some mBD:=by kernel_rfl
theorem d_hL:An cX3.P mLN=some mLD:=by kernel_rfl
theorem d_lb:Cn mLN mBN<0:=of_decide_eq_true zK
theorem d_pB:Bj mBD=[mAN]:=by kernel_rfl
theorem d_pA:Bj mAD=[]:=by kernel_rfl
theorem d_sub{X:PD}{a:Int}{L S:List (List UInt8)}(hL:∀n∈L,n∈S)(hp:∀n∈S,∀D,An X.P n=some D->∀m∈Bj D,m∈S){n:List UInt8}(h:X.Reach a L n):n∈S:=by
  induction h with
  |base h1 _ _=>exact hL _ h1
  |step _ hP hn _ _ ih=>exact hp _ ih _ hP _ hn
theorem d_rA:rB cX3 (-1) [mBN] mAN=true:=rB_iff.2 (.step (reach_in c_inv La9 d_hB) d_hB (by rw[d_pB];exact La9) d_hA (by have:=c_inv.d0 _ _ d_hA;omega))
theorem d_rB:rB cX3 (-1) [mBN] mBN=true:=rB_iff.2 (reach_in c_inv La9 d_hB)
theorem d_rL:rB cX3 (-1) [mBN] mLN=false:=by
  cases h:rB cX3 (-1) [mBN] mLN with
  |false=>rfl
  | true=>
    exfalso;have h1:=d_sub (S:=[mBN,mAN]) (λn hn=>by rw[La1.1 hn];exact La9) (λn hn D hD m hm=>by
      rcases Lam.1 hn with rfl|hn
      .rw[d_hB]at hD;cases hD;rw[d_pB]at hm;exact Laj _ hm
      .rw[La1.1 hn,d_hA]at hD;cases hD;rw[d_pA]at hm;cases hm) (rB_iff.1 h)
    exact absurd h1 (of_decide_eq_true zK)
theorem d_dpA:cX3.depthR mAN= .tuple #[i64 0,i64 0]:=by
  unfold PD.depthR;rw[if_pos (show cX3.has mAN=true by unfold PD.has;rw[d_hA];rfl),dAN]
theorem d_dpL:cX3.depthR mLN= .tuple #[i64 1,i64 0]:=by
  unfold PD.depthR;rw[if_pos (show cX3.has mLN=true by unfold PD.has;rw[d_hL];rfl),dLN]
theorem d_s3:C9 cX3 [mAN,mBN,mLN]=[mAN,mLN,mBN]:=by
  have h:=d_lb;refine(isortD_eq (List.Perm.cons _ (List.Perm.swap _ _ _)) ?_).symm;unfold SortD LeD;simp only[Ld4,Lam,Lc1,or_false,forall_eq_or_imp,forall_eq,dAN,dBN,dLN];refine⟨⟨.inl dE, .inl dE⟩, .inr ⟨trivial,by omega⟩,λa ha=>(by cases ha),List.Pairwise.nil⟩
theorem d_s2:C9 cX3 [mAN,mBN]=[mAN,mBN]:=by
  refine(isortD_eq (Lco _) ?_).symm;unfold SortD LeD;simp only[Ld4,Lam,Lc1,or_false,forall_eq,dAN,dBN];exact⟨.inl dE,λa ha=>(by cases ha),List.Pairwise.nil⟩
theorem d_s1:C9 cX3 [mLN]=[mLN]:=(isortD_eq (Lco _) (List.pairwise_singleton _ _)).symm
theorem d_o0:ordL cX3 []=[mAN,mLN,mBN]:=by
  have e:restL cX3 []=[mAN,mBN,mLN]:=by
    unfold restL;rw[d_nm,Lcc];intro n _;show(!rB cX3 (-1) [] n)=true;rw[rB_nil];rfl
  show C9 cX3 (restL cX3 [])=_;rw[e,d_s3]
theorem d_o1:ordL cX3 [[mBN]]=[mAN,mBN,mLN]:=by
  have e1:restL cX3 [[mBN]]=[mLN]:=by
    unfold restL;show(cX3.names.filter λn=> !rB cX3 (-1) [mBN] n)=_;rw[d_nm];simp[Ldh,d_rA,d_rB,d_rL]
  have e2:(cX3.names.filter λn=>rB cX3 (-1) [mBN] n&& !rB cX3 (-1) [] n)=[mAN,mBN]:=by
    rw[d_nm];simp[Ldh,d_rA,d_rB,d_rL,rB_nil]
  unfold ordL;rw[e1,d_s1,partsD,e2,d_s2];rfl
theorem d_b1:(Cl cX3 [mBN]).length=2:=by
  unfold Cl;rw[d_pk];simp[Ldh,d_rA,d_rB,d_rL]
theorem d_e1:benE cX3 [] [[mBN]]=0:=by
  have h:cX3.has mBN=true:=by unfold PD.has;rw[d_hB];rfl
  rw[benE,if_neg (by simp[h]),if_neg sP,benE]
theorem chain17_facts:∃(Da Db Dc:DB) (na nb nc:List UInt8) (X:PD),(Da.ok/\Db.ok/\Dc.ok)/\(na.length=32/\nb.length=32/\nc.length=32)/\(A6 Da=na/\A6 Db=nb/\A6 Dc=nc)
    /\(∀B:Block,B.ok->Meets prog 115 [agg (Aa s1B),agg B.cells] [] (λW=>BlockIs W B DB.zero) (BlkR 0 Da))/\(∀B:Block,B.ok->Meets prog 115 [agg (Aa s1B),agg B.cells] [] (λW=>BlockIs W B { DB.zero with seq:=1,prev:=na }) (BlkR 0 Db))/\(∀B:Block,B.ok->Meets prog 115 [agg (Aa s2B),agg B.cells] [] (λW=>BlockIs W B { DB.zero with ls:=[na] }) (BlkR 0 Dc))/\(∀d∈ [Da,Db,Dc],d.ls.length<=500000/\d.ds.length<=500000)
    /\fillP PD.new [Da,Db,Dc]=X/\X.depthR na= .tuple #[i64 0,i64 0]/\X.depthR nc= .tuple #[i64 1,i64 0]/\(Cl X []).length=0/\(Cl X [nb]).length=2/\benE X [] [[nb]]=0/\ordL X []=[na,nc,nb]/\ordL X [[nb]]=[na,nb,nc]/\Cn nc nb<0:=
  ⟨mAD,mBD,mLD,mAN,mBN,mLN,cX3,⟨mA_f.1,mB_f.1,mL_f.1⟩,⟨mA_len,mB_len,mL_len⟩,⟨mA_nm,mB_nm,mL_nm⟩,mA_f.2.2.2,mB_f.2.2.2,mL_f.2.2.2,
    (λd hd=>by simp only[Lam,Lc1,or_false]at hd;rcases hd with rfl|rfl|rfl<;>exact of_decide_eq_true zK),c_fill,d_dpA,d_dpL,beneath_nil cX3,d_b1,d_e1,d_o0,d_o1,d_lb⟩
theorem law17_lives  :Mv 17 [] (λ_=>True) (.bool true):=by
 intro W hW;obtain⟨Da,Db,Dc,na,nb,nc,X,⟨bc,be,bg⟩,⟨aa,ab,ac⟩,⟨ay,bj,bk⟩,a7,a8,ba,bm,am,au,av,aq,ar,aw,az,a1,bi⟩:=chain17_facts;refine Ae func17 J 116 ntmps17 J (G7 ?_);refine .call4 J J J J J Body61 (law17_chain Da Db Dc na bc be bg aa ay a7 a8 ba) tV ?_;rintro v9 bw ⟨q,Ba,Bb,Bc,bl,ha,hb,hc,rfl,rfl,aj⟩;have an:=r15_Name Ba Da ha.ok;have ao:=r15_Name Bb Db hb.ok;have ap:=r15_Name Bc Dc hc.ok;rw[ay]at an;rw[bj]at ao;rw[bk]at ap;refine G6 ?_;refine .call4 J J J J J Body19 (law17_filled ⟨some ⟨q,0,none⟩,3,3⟩ [Da,Db,Dc] (by show 3<=1000;omega) bm) (λw h=>tri_blocks (Cd (B:=⟨q,tri Ba Bb Bc,37,(tri Ba Bb Bc).length⟩) h Z0) (aj w (Lies.of h (by repeat(first|exact Ap|refine A1 ?_))))) ?_;rintro cc bn ⟨p,x,rfl,rfl,hx,ae,bv⟩;have hI:x.pl.Inv:=by rw[ae];exact PD.Inv.fill _ PD.Inv.new
 have hO:x.pl.Ord:=by rw[ae];exact PD.Ord.fill _ PD.Inv.new PD.Ord.new
 rw[am]at ae;rw[<-ae]at au av aq ar aw az a1;refine G4 ?_
 try simp only[Lan,Lah,Lab]
 refine .withK (sp_x (sp_k (sp_x sp_n))) J (.draw (oPq [0,1,2,4,5,6,8,9,10,303,307,311,212,213,214,415,416,417]) Au zK ?_)
 try simp only[Lan,Lah,Lab]
 refine G1 ?_;refine .idxSlP 131 J J J J J Y22.h Sz37 0 J dE (.kloadSN (n:=131) Ba.cells J J J Y37.h J Sz37 (Block.length ha.ok) (λw h=>(tri_sees ha.ok hb.ok hc.ok (h ⟨q,tri Ba Bb Bc,37,(tri Ba Bb Bc).length⟩ (by simp[Cx.with]))).1) ?_);refine G1 ?_;refine .idxSlP 131 J J J J J Y22.h Sz37 1 J dE (.kloadSN (n:=131) Bb.cells J J J Y37.h J Sz37 (Block.length hb.ok) (λw h=>(tri_sees ha.ok hb.ok hc.ok (h ⟨q,tri Ba Bb Bc,37,(tri Ba Bb Bc).length⟩ (by simp[Cx.with]))).2.1) ?_);refine G1 ?_;refine .idxSlP 131 J J J J J Y22.h Sz37 2 J dE (.kloadSN (n:=131) Bc.cells J J J Y37.h J Sz37 (Block.length hc.ok) (λw h=>(tri_sees ha.ok hb.ok hc.ok (h ⟨q,tri Ba Bb Bc,37,(tri Ba Bb Bc).length⟩ (by simp[Cx.with]))).2.2) ?_);refine .cV J J J J Body43 (an) (λw h=>(aj w (Lies.of h (by repeat(first|exact Ap|refine A1 ?_|refine A5 ?_)))).1) ?_;refine .cV J J J J Body43 (ao) (λw h=>(aj w (Lies.of h (by repeat(first|exact Ap|refine A1 ?_|refine A5 ?_)))).2.1) ?_;refine .cV J J J J Body43 (ap) (λw h=>(aj w (Lies.of h (by repeat(first|exact Ap|refine A1 ?_|refine A5 ?_)))).2.2) ?_;refine .alloc (cs:=(Aa (List.replicate 32 0))) J Bz J ?_;intro n3 b6 b3;refine .alloc (cs:=(Aa (List.replicate 32 0))) J Bz J ?_;intro n4 b7 b4;refine .alloc (cs:=(Aa (List.replicate 32 0))) J Bz J ?_;intro n5 b8 b5;refine .sA J J J J zE Sz31 (by(simp[aa];done)) Z2 sP (by exact upd2) ?_;refine .sA J J J J zE Sz31 (by(simp[ab];done)) Z1 sP zV ?_;refine .sA J J J J zE Sz31 (by(simp[ac];done)) Z0 sP zU ?_;refine G4 ?_
 try simp only[Lan,Lah,Lab]
 refine G1 ?_;refine .lA J J J Y31.h J Sz31 Z2 (by(simp[aa];done)) ?_;refine .cV J J J J Body23 (lin_depth_at x hx hI hO p na aa au) (λw h=>Lies.of h (by repeat(first|exact Ap|refine A1 ?_))) ?_;refine G9 ?_
 try simp only[Lan,Lah,Lab]
 refine G1 ?_;refine .lA J J J Y31.h J Sz31 Z0 (by(simp[ac];done)) ?_;refine .cV J J J J Body23 (lin_depth_at x hx hI hO p nc ac av) (λw h=>Lies.of h (by repeat(first|exact Ap|refine A1 ?_))) ?_;refine G9 ?_
 try simp only[Lan,Lah,Lab]
 refine G1 ?_;refine .call4 J J J J J Body30 (lin_ord_at x hx hI hO p Sl.nil [] (Laf _) (λc hc=>by cases hc) J aq az) (λw h=>⟨Lies.of h (by repeat(first|exact Ap|refine A1 ?_)),[],SeqIs.none⟩) ?_;rintro v45 bo ⟨bt,rfl,ag⟩;have bu:bt.n=3:=ag.num;obtain⟨bz,b9,ai,ad⟩:=par_open ag sP (three_32 aa ac ab);refine G11 ?_
 try simp only[Lan,Lah,Lab]
 refine G1 ?_;refine .lA J J J Y31.h J Sz31 mR (by(simp[ab];done)) ?_;refine .mkRow (z:=agg (Aa (List.replicate 32 0))) [agg (Aa nb)] (Aq [nb]) J J J Y32.h Sz31 Bz J J (by intro v hv;simp only[Lam,Lc1,or_false]at hv;rcases hv with rfl<;>simp[Value.cells,Aa,ab]) dE (by simp[Value.cells,agg,Aq]) ?_;intro a6;refine .mkRow2 (z:= .slice none 0 0) [Sl.v (⟨some ⟨a6,0,none⟩,1,1⟩:Sl)] (slc (⟨some ⟨a6,0,none⟩,1,1⟩:Sl)) J J Y55.h Sz32 Zr32 J J (by intro v hv;rw[La1.1 hv];simp[Value.cells,Sl.v]) dE (by simp[Value.cells,slc,Sl.v]) ?_;intro bq;refine .call4 J J J J J Body30 (lin_ord_at x hx hI hO p ⟨some ⟨bq,0,none⟩,1,1⟩ [[nb]] (by show 1<=16;decide) (λc hc=>by rw[La1.1 hc];show 1<=90000;decide) aw ar a1) (λw h=>⟨Lies.of h (by repeat(first|exact Ap|refine A1 ?_|refine A5 ?_)),_,hds_one (Ar h Z0) (row_one ab (by have h9:=Ar (cs:=Aq [nb]) h Z1;simpa[Aq]using h9))⟩) ?_;rintro cd bp ⟨ak,rfl,ah⟩;have ax:ak.n=3:=ah.num;refine G12 ?_
 try simp only[Lan,Lah,Lab]
 refine G1 ?_;refine .nei J J J J (show(!decide _)=false from congrArg not (decide_eq_true (rfl))) (G2 ?_);refine .nei J J J J (show(!decide _)=false from congrArg not (decide_eq_true (rfl))) (G3 ?_);refine .nei J J J J (show(!decide _)=false from congrArg not (decide_eq_true (rfl))) (G3 ?_);refine .nei J J J J (show(!decide _)=false from congrArg not (decide_eq_true (rfl))) (G3 ?_);refine .nei J J J J (show(!decide _)=false from congrArg not (decide_eq_true (rfl))) (G3 ?_);refine .nei J J J J (show(!decide _)=false from congrArg not (decide_eq_true (rfl))) (G3 ?_);refine .nei J J J J (show(!decide _)=false from congrArg not (decide_eq_true (rfl))) (G3 ?_);refine .nei J J J J (show(!decide _)=false from congrArg not (decide_eq_true (rfl))) (G4 ?_);refine .nei J J J J (show(!decide _)=false from congrArg not (decide_eq_true oM)) (G3 ?_);refine .cond_f J J (G3 ?_);refine .draw (oPq [0,1,102,103,4,5,6,7,108,9,10,111,312,13,14,15,16,117,118,119,420,321,22,23]) Au zK ?_
 try simp only[Lan,Lah,Lab]
 refine G1 ?_;refine .idxSlP 32 J J J ai J Y32.h Sz31 0 J oM (.loadSN (n:=32) (Aa na) J J J Y31.h J Sz31 (by rw[Aa,La0];exact aa) (λw h=>ad w (Lies.of h (by repeat(first|exact Ap|refine A1 ?_|refine A5 ?_))) 0 sP) ?_);refine .lA J J J Y31.h J Sz31 mR (by(simp[aa];done)) ?_;refine .eql_bytes J J J J eqGuardType31 Y31.h Y5.h Sz5 (by(simp[aa];done)) (by(simp[aa];done)) (decide_eq_true (rfl)) ?_;refine G2 ?_;refine .idxSlP 32 J J J ai J Y32.h Sz31 1 J oM (.loadSN (n:=32) (Aa nc) J J J Y31.h J Sz31 (by rw[Aa,La0];exact ac) (λw h=>ad w (Lies.of h (by repeat(first|exact Ap|refine A1 ?_|refine A5 ?_))) 1 sP) ?_);refine G1 ?_;refine .idxSlP 32 J J J ai J Y32.h Sz31 2 J oM (.loadSN (n:=32) (Aa nb) J J J Y31.h J Sz31 (by rw[Aa,La0];exact ab) (λw h=>ad w (Lies.of h (by repeat(first|exact Ap|refine A1 ?_|refine A5 ?_))) 2 sP) ?_);refine .cV J J J J Body10 (r15_cmp nc nb ac ab) tV (.lss J J J J (decide_eq_true (bi)) (G3 ?_));refine .lA J J J Y31.h J Sz31 mR (by(simp[aa];done)) ?_;refine .lA J J J Y31.h J Sz31 mR (by(simp[ab];done)) ?_;refine .lA J J J Y31.h J Sz31 mR (by(simp[ac];done)) ?_;refine .mkRow (z:=agg (Aa (List.replicate 32 0))) [agg (Aa na),agg (Aa nb),agg (Aa nc)] (Aq [na,nb,nc]) J J J Y32.h Sz31 Bz J J (by intro v hv;simp only[Lam,Lc1,or_false]at hv;rcases hv with rfl|rfl|rfl<;>simp[Value.cells,Aa,aa,ab,ac]) dE (by simp[Value.cells,agg,Aq]) ?_;intro a2;refine .cV J J J J Body16 (digs_same ak.p (some ⟨a2,0,none⟩) ak.n 3 ak.c 3 [na,nb,nc] (three_32 aa ab ac) ax.symm J oM) (λw h=>⟨ah.see (Lies.of h (by repeat(first|exact Ap|refine A1 ?_))),SeesP.of (Ar h Z0)⟩) ?_;refine G4 ?_;refine G2 ?_;refine Ao (out:=[]) (Ag J J) Ad ?_;exact⟨rfl,rfl⟩
end Go.Proofs.YtbdfihcjddbhaaaGreat
namespace Go.Proofs.YtbdfihcjddbhaaaGreat
open Go Hw _root_.Go.Proofs.Tryz
variable{S T:List UInt8->Prop}{X:PD}{cs:List (List (List UInt8))}{j:Nat}{l:Nat->Bool}{ms:List (List UInt8×Int)}{n:List UInt8}
theorem setP_len:∀(l:List (List UInt8)) (fs:List (List UInt8×Unit)),(l.foldl (λfs n=>Bh fs n ()) fs).length<=fs.length+l.length/\((l.foldl (λfs n=>Bh fs n ()) fs).length=fs.length+l.length↔l.Nodup/\∀n∈l,n∉fs.map (·.1))
  | [],fs=>⟨Lag _,⟨λ_=>⟨Lch,λn hn=>by cases hn⟩,λ_=>rfl⟩⟩
  | a ::l,fs=>by
    obtain⟨h1,h2⟩:=setP_len l (Bh fs a ());rw[Le2,Lax,Lb6];cases hm:An fs a with
    | none=>
      have hl:(Bh fs a ()).length=fs.length+1:=by rw[mput_app hm];simp
      have hk:=keysP_put hm;refine⟨by omega,⟨λh=>?_,λh=>?_⟩⟩
      . obtain⟨h3,h4⟩:=h2.1 oM
        refine⟨⟨λha=>h4 a ha (by rw[hk];exact Lat _ La9),h3⟩,λn hn=>?_⟩;rcases Lam.1 hn with rfl|hn
        .exact not_key hm
        .exact λhf=>h4 n hn (by rw[hk];exact Lak _ hf)
      . have h5:=h2.2 ⟨h.1.2,λn hn hf=>by
          rw[hk]at hf;rcases La8.1 hf with h6|h6
          .exact h.2 n (Laj _ hn) h6
          .rw[La1.1 h6]at hn;exact h.1.1 hn⟩
        omega
    | some u=>
      have ha:a∈fs.map (·.1):=La6.2 ⟨(a,u),Bi hm,rfl⟩;have hl:(Bh fs a ()).length=fs.length:=by
        unfold Bh;cases hi:midx fs a with
        | none=>
          exfalso;unfold midx at hi;rw[Ldg]at hi;have h9:=hi _ (Bi hm);simp at h9
        |some j=>simp only[Lbc]
      exact⟨by omega,⟨λh=>by omega,λh=>absurd ha (h.2 a La9)⟩⟩
theorem setP_full(ls:List (List UInt8)):(setP ls).length=ls.length↔ls.Nodup:=by
  have h:=(setP_len ls []).2;rw[Lew,Lb0]at h;exact⟨λh1=>(h.1 h1).1,λh1=>h.2 ⟨h1,λn _ hn=>by cases hn⟩⟩
def SortR(X:PD)(ls:List (List UInt8))(v:Value)(out:List Blk):Prop:=
  ((∃n∈ls,X.has n=false)/\v= .tuple #[.slice none 0 0,i64 6]/\out=[])
  \/ (∀n∈ls,X.has n=true)/\(¬ls.Nodup/\v= .tuple #[.slice none 0 0,i64 2]/\out=[]
    \/ls.Nodup/\∃s:Sl,v= .tuple #[s.v,i64 0]/\Hw.Acc s out (Aq (C9 X ls)) 31 ls.length 32)
def BenthR(X:PD)(cs:List (List (List UInt8)))(v:Value)(out:List Blk):Prop:=
  (∃e,e≠0/\benE X [] cs=e/\v= .tuple #[.slice none 0 0,i64 e]/\out=[])
  \/benE X [] cs=0/\∃s:Sl,v= .tuple #[s.v,i64 0]/\Hw.Acc s out (Aq ((ordL X cs).take (Cl X (cs.getLastD [])).length)) 31 (Cl X (cs.getLastD [])).length 32
theorem restL_len(X:PD)(cs:List (List (List UInt8))):(restL X cs).length<=X.names.length:=Lcz _ _
theorem parts_names{X:PD}:∀(cs:List (List (List UInt8))) (bf:List (List UInt8)),∀l∈partsD X bf cs,∀n∈l,n∈X.names
  | [],_,l,hl=>by cases hl
  | c::cs,bf,l,hl=>λn hn=>by
    rcases Lam.1 hl with rfl|hl
    .exact(Lb7.1 ((Ca X _).mem_iff.1 hn)).1
    .exact parts_names cs c l hl n hn
theorem ordL_names:∀n∈ordL X cs,n∈X.names:=λn hn=>by
  rcases La8.1 hn with h|h
  . obtain⟨l,hl,h2⟩:=Lhb.1 h
    exact parts_names cs [] l hl n h2
  .exact(Lb7.1 ((Ca X _).mem_iff.1 h)).1
theorem ben_acc{X:PD}(hI:X.Inv):∀ {cs:List (List (List UInt8))} {bf:List (List UInt8)},benE X bf cs=0->(Cl X bf).length+(partsD X bf cs).flatten.length=(Cl X (cs.getLastD bf)).length
  | [],bf,_=>by rw[partsD];simp
  | c ::cs,bf,h=>by
    rw[benE]at h;split at h
    .cases h
    . split at h
      .cases h
      . rename_i h1 h2
        have h3:=ben_acc hI h;rw[partsD,Lcv,La2,(Ca X _).length_eq];have aa:∀n∈bf,X.Reach (-1) c n:=λn hn=>by
          rw[Bool.not_eq_false]at h2;exact rB_iff.1 (Lbf.1 h2 n hn)
        have e:(X.names.filter λn=>rB X (-1) c n&& !rB X (-1) bf n).length+(Cl X bf).length=(Cl X c).length:=by
          have e1:X.names=X.P.map (·.1):=hI.nn;unfold Cl;rw[e1];have hi:∀n,rB X (-1) bf n=true->rB X (-1) c n=true:=λn hn=>rB_iff.2 (reach_subst aa (rB_iff.1 hn));generalize X.P.map (·.1)=L
          induction L with
          |nil=>rfl
          | cons a L ih=>
            have h9:=hi a;cases ha:rB X (-1) c a<;>cases hb:rB X (-1) bf a<;>simp[Ldh,ha,hb]at h9 ih ⊢ <;>omega
        have e9:cs.getLastD c=(c::cs).getLastD bf:=by cases cs<;>rfl
        rw[<-e9];omega
theorem ben_ord(hI:X.Inv)(h:benE X [] cs=0):(Cl X (cs.getLastD [])).length<=(ordL X cs).length:=by
  have h1:=ben_acc hI h;rw[beneath_nil X]at h1;rw[ordL,La2];omega
theorem lin_sort(x:DD)(hx:x.ok)(hI:x.pl.Inv)(hO:x.pl.Ord)(p:Nat)(s:Sl)(ls:List (List UInt8))(bc:ls.length<=90000):Meets prog 27 [ptr p 0,s.v] [] (λW=>Lies (x.blks p) W/\RowsAt W s 32 ls) (SortR x.pl ls):=by
 intro W hW;have ae:True:=trivial;obtain⟨ac,ah⟩:=id hW;have az:∀q∈x.P,q.2.check=0:=hI.ck;have au:∀q∈x.P,q.2.ls.length<=16:=λq hq=>(ck_small (az q hq)).1;have ar:=ah.len;have aa:=ah.row;refine Ae func27 J 35 ntmps27 J (G10 ?_);refine .cV J J J J Body64 (lin_none x hx au p) (λw h=>Bf ac h) (G2 ?_);refine .cond_f J J (G11 ?_);refine .loop (ι:=Nat) (λk=>⟨[(0,ptr p 0),(1,s.v),(4, .slice none 0 0),(5,i64 0),(10,s.v),(11,i64 (s.n:Int)),(12,i64 (k:Int))],[]⟩) (λk=>k<=s.n/\∀j,j<k->x.pl.has (ls.getD j [])=true) (λk=>s.n-k) (0) ?_ ?_ ?_
 .exact⟨Laf _,λj hj=>absurd hj (Lcj _)⟩
 .exact Af wN Ad
 rintro k ⟨hk,hg⟩;refine G6 ?_;refine .condP J (λax=>?_) (λax=>?_)
 ·
  have ba:k<s.n:=by omega
  obtain⟨b,o,av,aw⟩:=ah.see.at (by rw[As aa];omega);have ae:(ls.getD k []).length=32:=Bn aa oM;refine G6 ?_;refine .idxSlP 32 J J J av J Y32.h Sz31 k J oM (.loadEN (Aa (ls.getD k [])) J J J Y31.h J Sz31 sP (by rw[Aa,La0];exact ae) (Bk aa aw oM) ?_);refine .alloc (cs:=(Aa (List.replicate 32 0))) J Bz J ?_;intro n7 be a8;refine .sA J J J J zE Sz31 (by(rw[Aa,La0];assumption)) Z0 sP zU ?_;refine G5 ?_;refine .lA J J J Y31.h J Sz31 Z0 (by(rw[Aa,La0];assumption)) ?_;refine .cV J J J J Body59 (dag_hasP x hx p (ls.getD k []) ae) (λw h=>Bf ac h) (G3 ?_);refine .cond J (λhc2=>?_) (λhc2=>?_)
  ·
   refine G6 ?_;refine G7 ?_;refine Ao (out:=[]) (Bm J J J) Ad ?_;exact .inl ⟨⟨_,Cm (show k<ls.length by omega),by simpa using hc2⟩,rfl,rfl⟩
  refine G8 ?_;exact⟨k+1,⟨by omega,λj hj=>by rcases Lb4.1 hj with h|rfl;exact hg j h;simpa using hc2⟩,by omega,Af (wk1 rfl (wk1 rfl (wk1 rfl (wk1 rfl (wk1 rfl (wk1 rfl (wk1 (by rw[Lcd];rfl) wk0))))))) Ad⟩
 obtain rfl:k=s.n:=by omega
 have ag:∀n∈ls,x.pl.has n=true:=λn hn=>by
  obtain⟨j,hj,e⟩:=Lb8 hn;have h9:=hg j oM;rw[La3,La4 hj]at h9;rw[<-e];exact h9
 refine G9 ?_;refine .call4 J J J J J Body69 (lin_set s ls) (λw h=>B4 h J ah) ?_;rintro v22 a6 ⟨bj,rfl,rfl⟩;refine .lenMap Y119.h J J J Z0 ?_;refine G5 ?_;refine .condNP J (λay=>?_) (λay=>?_)
 ·
  have ak:¬ls.Nodup:=λh9=>by have h8:=(setP_full ls).2 h9;omega
  refine G6 ?_;refine G3 ?_;refine Ao (out:=[]) (Bm J J J) Ad ?_;exact .inr ⟨ag, .inl ⟨ak,rfl,rfl⟩⟩
 have ak:ls.Nodup:=(setP_full ls).1 oM;refine G5 ?_;refine .call4 J J J J J Body46 (cl_digs s ls oM) (λw h=>B4 h J ah) ?_;rintro bk ad ⟨an,rfl,ab⟩;rw[<-ar]at ab;refine G8 ?_;refine .call4 J J J J J Body65 (lin_depths x hx hI hO p an ls) (λw h=>⟨Bf ac h,acc_rows ab (Lies.of h (by repeat(exact Ap))) aa J oM⟩) ?_;rintro bm a7 ⟨aD,bD,cD,mD,ai,bi,⟨rfl,rfl,ap⟩,aq⟩;have ao:∀n∈ls,An ai n=some (x.pl.dp n):=λn hn=>ap.all n (aq n hn (has_names hI (ag n hn)));simp only[Lan,Lah,Lab];refine .callL (L:=ad) J J J J J Body70 (lin_order x.pl an ad ls aa oM ab aD bD cD mD ai ao) sG (lent_ok J) (λw h=>by have h9:=lent_pre (bl:=ad) (L:=[⟨aD,[.map (some mD)],117,1⟩,A3 mD (Ak 32 evI) ai]) h sG (by intro b hb;simp only[Lam,Lc1,or_false]at hb;rcases hb with rfl|rfl;exact Z2;exact Z0);exact h9) ?_;rintro bn am ⟨rfl,bg,a1,a2,aj⟩;refine G9 ?_;refine G2 ?_;refine Ao (out:=(am++[])) (Bm J J J) (Ac sG Ad) ?_;exact .inr ⟨ag, .inr ⟨ak,an,rfl,by rw[<-isortD_eq a1 a2];simpa using aj⟩⟩
theorem lin_ben(x:DD)(hx:x.ok)(hI:x.pl.Inv)(hO:x.pl.Ord)(p:Nat)(s:Sl)(rs:List Sl)(cs:List (List (List UInt8)))(hn:s.n<=16)(am:∀c∈cs,c.length<=90000):Meets prog 32 [ptr p 0,s.v] [] (λW=>Lies (x.blks p) W/\SeqIs slc 1 HdsIs W s rs cs) (BenthR x.pl cs):=by
 intro W hW;have ap:=hx.big;have av:x.pl.names.length=x.names.length:=rfl;have au:=hW.2.nd;have ad:∀l∈ordL x.pl cs,l.length=32:=λl hl=>hx.n32 l (ordL_names l hl);refine Ae func32 J 23 ntmps32 J (G10 ?_);refine .call4 J J J J J Body30 (lin_ord x hx hI hO p s rs cs hn am) (λw h=>⟨Bf hW.1 h,hW.2.ext h J λr d hd=>B4 h J hd⟩) ?_;rintro aw an (⟨e,ah,ab,rfl,rfl⟩|⟨ab,ac,rfl,aa⟩)
 ·
  skip;refine G13 ?_;refine .nei J J J J (show(!decide _)=true from congrArg not (decide_eq_false (ah))) (G2 ?_);refine .cond_t J J (G7 ?_);refine G3 ?_;refine Ao (out:=[]) (Bm J J J) Ad ?_;exact .inl ⟨e,ah,ab,rfl,rfl⟩
 have ak:=ben_ord hI ab;have ar:=aa.num;have aq:=aa.cap;have aj:(Cl x.pl (cs.getLastD [])).length<=x.names.length:=by have h9:=Lcz (λn=>rB x.pl (-1) (cs.getLastD []) n) (x.pl.P.map (·.1));rw[<-hI.nn]at h9;unfold Cl;rw[<-hI.nn];exact h9
 obtain⟨kb,ai⟩:∃kb,kb=(Cl x.pl (cs.getLastD [])).length:=⟨_,rfl⟩;rw[<-ai]at ak aj ⊢;refine G13 ?_;refine .nei J J J J (show(!decide _)=false from congrArg not (decide_eq_true (rfl))) (G2 ?_);refine .cond_f J J (G6 ?_);refine .sliceHiA ac kb J J J J J oM Y32.h Sz31 (.call4 J J J J J Body46 (cl_digs ⟨ac.p,kb,ac.c⟩ ((ordL x.pl cs).take kb) (by show kb<=90000;omega)) (λw h=>⟨by rw[Lac];show min kb _=kb;omega,λl hl=>ad l (Lbi hl),by show kb<=ac.c;omega,rows_take (aa.see (Lies.of h (by repeat(exact Ap)))) ad,by show kb<=maxLen;unfold maxLen;omega,aa.nilc⟩) ?_);rintro v22 ag ⟨ao,rfl,ae⟩;refine G4 ?_;refine G2 ?_;refine Ao (out:=(ag++[])) (Bm J J J) (Ac sG Ad) ?_;exact .inr ⟨ab,ao,rfl,by rw[<-ai];simpa using ae⟩
structure KI(ms:List (List UInt8×Int))(S:List UInt8->Prop):Prop where
  one:∀p∈ms,p.1.length=32/\p.2=1
  nd:(ms.map (·.1)).Nodup
  mem:∀n,n∈ms.map (·.1)↔S n
theorem KI.none:KI [] (λ_=>False):=⟨λp h=>(by cases h),Lch,λn=>⟨λh=>(by cases h),λh=>h.elim⟩⟩
theorem KI.put(h:KI ms S)(aa:n.length=32)(hT:∀k,T k↔S k\/k=n):KI (Bh ms n 1) T where
  one:=λp hp=>by
    rcases mput_mem hp with hp|rfl
    .exact h.one p hp
    .exact⟨aa,rfl⟩
  nd:=mput_nodup h.nd n 1
  mem:=λk=>by rw[keys_put,h.mem,hT]
theorem KI.iff(h:KI ms S)(hT:∀k,T k↔S k):KI ms T:={ h with mem:=λk=>(h.mem k).trans (hT k).symm }
theorem KI.no(h:KI ms S)(hg:An ms n=Option.none):¬S n:=λhs=>by
  obtain⟨v,hv⟩:=C2 ((h.mem n).2 hs);rw[hg]at hv;cases hv
theorem KI.yes(h:KI ms S){v:Int}(hg:An ms n=some v):v=1/\S n:=⟨(h.one _ (Bi hg)).2,(h.mem n).1 (La6.2 ⟨_,Bi hg,rfl⟩)⟩
theorem also_ne{j i:Nat}(h:j≠i):also j l i=l i:=by simp[also,h]
theorem also_eq:also j l j=true:=by simp[also]
def IntsAt(W:World)(s:Sl)(l:List Int):Prop:=SeqIs (λr:Int=>[i64 r]) 1 (λ_ r d=>d=r/\(Lit.int .i64 r).wf=true) W s l l
theorem ints_ext{C:Cx}{hp:List Blk}{w:World}{s:Sl}{l:List Int}(hh:HRep C hp w)(hl:C.lent=[])(h:IntsAt C.W0 s l):IntsAt w s l:=h.ext hh hl λr d hd=>hd
section
variable{B:List (Nat×Value)}{K:List Blk}{m:Nat}{f:List (List UInt8×Int)}{n:List UInt8}{s0:Sl}{bl0:List Blk}{L:List (List UInt8)}{q:Nat}{s5:Sl}{bl5:List Blk}{l:Nat->Bool}{sl:List (Nat×Value)}{hp:List Blk}
end
variable{D:DB}{L bf c ks l ls out row:List (List UInt8)}{X:PD}{a b n:List UInt8}{bl:List Blk}{cs:List (List (List UInt8))}{e:RE}{f:List UInt8->Bool}{hk:List UInt8->Prop}{i j k:Nat}{s:Sl}{x:RD}
theorem light_ats{ds:List DB}{m:Int}(h:lightOf lightBf ds m=true):(ds.length:Int)<=m/\∀d∈ds,d.ls.length<=500000/\d.ds.length<=500000:=by
  unfold lightOf at h;simp only[Lap,Lcw,decide_eq_false_iff_not,Lbf]at h;refine⟨by omega,λd hd=>?_⟩;have:=h.2 d hd;unfold lightBf at this;simp only[Lap,decide_eq_true_eq]at this;omega
theorem kit_namesA(s:Sl)(ls:List (List UInt8))(hn:s.n<=500000):Meets prog 28 [s.v] [] (λW=>RowsAt W s 32 ls) (λv out=>∃s2:Sl,v=s2.v/\Hw.Acc s2 out (Aq ls) 31 ls.length 32):=λW hW=>by
  refine(kit_names s ls hn W hW).mono λe W' ⟨v,out,h1,⟨q,c,hv,hc,ho⟩,h3⟩=>⟨v,out,h1,⟨⟨some ⟨q,0,none⟩,s.n,c⟩,hv,?_⟩,h3⟩;rw[ho,<-hW.len];exact Acc.some (by rw[hW.len];exact hc) (As hW.row)
def putB(l:List (List UInt8))(n:List UInt8):List (List UInt8):=if n∈l then l else isort (n::l)
theorem put_sort(h:SortB l)(n:List UInt8):SortB (putB l n):=by
  unfold putB;split
  .exact h
  .exact isort_sort _
theorem put_nd(h:l.Nodup)(n:List UInt8):(putB l n).Nodup:=by
  unfold putB;split
  .exact h
  .exact(isort_perm _).nodup_iff.2 (Lb6.2 ⟨by assumption,h⟩)
theorem put_mem{n k:List UInt8}:k∈putB l n↔k∈l\/k=n:=by
  unfold putB;split
  .exact⟨.inl,λh=>by rcases h with h|rfl<;>assumption⟩
  .rw[(isort_perm _).mem_iff,Lam];exact Or.comm
theorem put_at(hs:SortB l)(hn:n∉l)(h1:∀j,j<k->Cn (l.getD j []) n<0)(h2:k<l.length->¬Cn (l.getD k []) n<0)(hk:k<=l.length):l.take k++n::l.drop k=putB l n:=by
  unfold putB;rw[if_neg hn];have aa:∀j (h:j<l.length),l.getD j []=l[j]:=λj h=>by rw[La3,La4 h];rfl
  refine isort_eq ?_ ?_
  . refine Ldu.trans ?_
    rw[Lbt]
  . have h3:SortB (l.take k++l.drop k):=by rw[Lbt];exact hs
    unfold SortB at h3 ⊢;rw[Lfr]at h3 ⊢;obtain⟨h4,h5,h6⟩:=h3;have hlt:∀a∈l.take k,Cn a n<=0:=λa ha=>by
      obtain⟨j,hj,rfl⟩:=Lb8 ha;rw[Lac]at hj;have:=h1 j oM;rw[aa j oM]at this;rw[Lgg];omega
    have ab:∀a∈l.drop k,Cn n a<=0:=λa ha=>by
      obtain⟨j,hj,rfl⟩:=Lb8 ha;rw[Laz]at hj;have h7:=h2 oM;rw[aa k oM]at h7;have ac:=cmpB_neg l[k] n;rw[List.getElem_drop];rcases Lfd j with rfl|h0
      .simp only[Lc7];omega
      . have h8:Cn l[k] l[k+j]<=0:=Lde.1 hs k (k+j) oM oM oM
        exact(cmpB_trans n l[k] l[k+j] oM h8).1
    refine⟨h4,Ld4.2 ⟨ab,h5⟩,λa ha b hb=>?_⟩;rcases Lam.1 hb with rfl|hb
    .exact hlt a ha
    .exact h6 a ha b hb
theorem put_no(hs:SortB l)(ac:l.Nodup)(h1:∀j,j<k->Cn (l.getD j []) n<0)(h2:k<l.length->¬Cn (l.getD k []) n<0)(ab:k<l.length->l.getD k []≠n):n∉l:=λhm=>by
  have aa:∀j (h:j<l.length),l.getD j []=l[j]:=λj h=>by rw[La3,La4 h];rfl
  obtain⟨j,hj,e⟩:=Lb8 hm;have hz:Cn l[j] n=0:=(cmpB_zero _ _).2 e;rcases Lgf j k with h|h|h
  .have:=h1 j h;rw[aa j hj]at this;omega
  .subst h;exact ab hj (by rw[aa j hj];exact e)
  . have h3:=h2 oM
    have h4:=ab oM;rw[aa k oM]at h3 h4;have h5:Cn l[k] l[j]<=0:=Lde.1 hs k j oM hj h;have h6:Cn l[k] n<=0:=(cmpB_trans l[k] l[j] n h5 oM).1;exact h4 ((cmpB_zero _ _).1 oM)
structure ClosI(X:PD)(L:List (List UInt8))(i:Nat)(ks out:List (List UInt8)):Prop where
  srt:SortB out
  nd:out.Nodup
  snd:∀n∈out,X.Reach (-1) L n
  sub:∀n∈ks,n∈L\/∃m D,m∈out/\An X.P m=some D/\n∈Bj D
  inL:∀n∈L,n∈ks
  par:∀m∈out,∀D,An X.P m=some D->∀n∈Bj D,n∈ks
  cov:∀j,i<=j->∀n,X.names[j]? =some n->(n∈out↔n∈ks)
  out:∀n∈out,∃j,i<=j/\X.names[j]? =some n
theorem ClosI.start(h:∀n,n∈ks↔n∈L):ClosI X L X.names.length ks [] where
  srt:=List.Pairwise.nil
  nd:=Lch
  snd:=λn hn=>by cases hn
  sub:=λn hn=> .inl ((h n).1 hn)
  inL:=λn hn=>(h n).2 hn
  par:=λm hm=>by cases hm
  cov:=λj hj n hn=>by have:=(Laa.1 hn).1;omega
  out:=λn hn=>by cases hn
theorem ClosI.reach(hI:X.Inv)(h:ClosI X L i ks out)(hn:n∈ks)(hD:An X.P n=some D):X.Reach (-1) L n:=by
  have h0:=hI.d0 n D hD;rcases h.sub n hn with h1|⟨m,E,h1,h2,h3⟩
  .exact .base h1 hD oM
  .exact .step (h.snd m h1) h2 h3 hD oM
theorem ClosI.skip(hI:X.Inv)(h:ClosI X L (i+1) ks out)(hn:X.names[i]? =some n)(hk:n∉ks):ClosI X L i ks out:={ h with
  cov :=λj hj m hm=>by
    rcases Lfb hj with h1|rfl
    .exact h.cov j h1 m hm
    . rw[hn]at hm;cases hm
      refine⟨λho=>?_,λh9=>absurd h9 hk⟩;obtain⟨j2,h2,h3⟩:=h.out n ho;have aa:X.names.Nodup:=by rw[hI.nn];exact hI.nd
      have:=(Ley (Laa.1 hn).1 aa).1 (hn.trans h3.symm);omega
  out:=λm hm=>by obtain⟨j,h1,h2⟩:=h.out m hm;exact⟨j,by omega,h2⟩ }
theorem ClosI.fresh(hI:X.Inv)(h:ClosI X L (i+1) ks out)(hn:X.names[i]? =some n):n∉out:=λho=>by
  obtain⟨j2,h2,h3⟩:=h.out n ho;have aa:X.names.Nodup:=by rw[hI.nn];exact hI.nd
  have:=(Ley (Laa.1 hn).1 aa).1 (hn.trans h3.symm);omega
theorem ClosI.meet{L ks ab out:List (List UInt8)}(hI:X.Inv)(hO:X.Ord)(h:ClosI X L (i+1) ks out)(hn:X.names[i]? =some n)(hD:An X.P n=some D)(hk:n∈ks)(h2:∀m,m∈ab↔m∈ks\/m∈Bj D):ClosI X L i ab (putB out n) where
  srt:=put_sort h.srt n
  nd:=put_nd h.nd n
  snd:=λm hm=>by
    rcases put_mem.1 hm with h1|rfl
    .exact h.snd m h1
    .exact h.reach hI hk hD
  sub :=λm hm=>by
    rcases(h2 m).1 hm with h1|h1
    . rcases h.sub m h1 with h3|⟨a,E,h3,h4,h5⟩
      .exact .inl h3
      .exact .inr ⟨a,E,put_mem.2 (.inl h3),h4,h5⟩
    .exact .inr ⟨n,D,put_mem.2 (.inr rfl),hD,h1⟩
  inL:=λm hm=>(h2 m).2 (.inl (h.inL m hm))
  par:=λm hm E hE a ha=>by
    rcases put_mem.1 hm with h1|rfl
    .exact(h2 a).2 (.inl (h.par m h1 E hE a ha))
    .rw[hD]at hE;cases hE;exact(h2 a).2 (.inr ha)
  cov :=λj hj m hm=>by
    have aa:X.names.Nodup:=by rw[hI.nn];exact hI.nd
    rcases Lfb hj with h1|rfl
    . have hmn:m≠n:=λe=>by
        subst e;have:=(Ley (Laa.1 hn).1 aa).1 (hn.trans hm.symm);omega
      have ac:m∉Bj D:=λhp=>by
        obtain⟨E,hE,hb,_⟩:=PD.Ord.before hI hO hn;rw[hD]at hE;cases hE;obtain⟨j2,h3,h4⟩:=Lb8 (hb m hp);rw[Lac]at h3;rw[Lgg]at h4;have h5:X.names[j2]? =some m:=by rw[La4 oM,h4]
        have:=(Ley (Laa.1 hm).1 aa).1 (hm.trans h5.symm);omega
      rw[put_mem,h2,h.cov j h1 m hm];exact⟨λh=>h.elim .inl λe=>absurd e hmn,λh=>h.elim .inl λe=>absurd e ac⟩
    . rw[hn]at hm;cases hm
      exact⟨λ_=>(h2 n).2 (.inl hk),λ_=>put_mem.2 (.inr rfl)⟩
  out:=λm hm=>by
    rcases put_mem.1 hm with h1|rfl
    .obtain⟨j,h3,h4⟩:=h.out m h1;exact⟨j,by omega,h4⟩
    .exact⟨i,Lag i,hn⟩
theorem ClosI.fin(hI:X.Inv)(h:ClosI X L 0 ks out)(hL:∀n∈L,(An X.P n).isSome=true)(n:List UInt8):n∈out↔X.Reach (-1) L n:=by
  refine⟨h.snd n,λhr=>?_⟩;have aa:∀ {m:List UInt8} {D:DB},An X.P m=some D->m∈ks->m∈out:=λ{m D} hD hk=>by
    have hm:m∈X.names:=by rw[hI.nn];exact La6.2 ⟨(m,D),Bi hD,rfl⟩
    obtain⟨j,hj,e⟩:=Lb8 hm;exact(h.cov j (Laf _) m (by rw[La4 hj,e])).2 hk
  induction hr with
  |base h1 h2 _=>exact aa h2 (h.inL _ h1)
  |step _ h2 h3 h4 _ ih=>exact aa h4 (h.par _ ih _ h2 _ h3)
def PutR(s:Sl)(ls:List (List UInt8))(n:List UInt8)(v:Value)(out:List Blk):Prop:=(n∈ls/\v=s.v/\out=[])\/(n∉ls/\∃s2:Sl,v=s2.v/\Hw.Acc s2 out (Aq (putB ls n)) 31 (putB ls n).length 32)
theorem rk_names(hP:x.P=X.P)(hI:X.Inv):X.names=rkNames x:=by rw[rkNames_P,hP,hI.nn]
theorem rk_nameAt(h:x.L[j]? =some e):(rkNames x)[j]? =some e.1.fName:=by unfold rkNames;rw[Lad,h];rfl
theorem rk_getP(hP:x.P=X.P)(hI:X.Inv)(h:x.L[j]? =some e):An X.P e.1.fName=some e.2:=mget_some hI.nd (j:=j) (p:=(e.1.fName,e.2)) (by rw[<-hP];exact rp_at h)
theorem rows_dropK(h:∀l∈L,l.length=32)(k:Nat):(Aq L).drop (k*32)=Aq (L.drop k):=by
  unfold Aq;rw[Leb];generalize hM:L.map Aa=M;have hl:∀l∈M,l.length=32:=λl hl=>by
    rw[<-hM]at hl;obtain⟨a,ha,rfl⟩:=La6.1 hl;rw[Aa,La0];exact h a ha
  clear hM
  induction k generalizing M with
  |zero=>simp
  | succ k ih=>
    cases M with
    |nil=>simp
    | cons a M=>
      rw[Lcv,List.drop_succ_cons,show(k+1)*32=a.length+k*32 by rw[hl a La9];omega,<-Lf7,List.drop_left' rfl];exact ih M λl h9=>hl l (Laj _ h9)
theorem rd_put(s:Sl)(bl:List Blk)(ls:List (List UInt8))(ag:Hw.Acc s bl (Aq ls) 31 ls.length 32)(aa:∀l∈ls,l.length=32)(hs:SortB ls)(az:ls.Nodup)(bc:ls.length<=100000)(n:List UInt8)(ae:n.length=32):Meets prog 114 [s.v,agg (Aa n)] [] (λW=>Lies bl W) (PutR s ls n):=by
 intro W hW;have ad:True:=trivial;have bg:=ag.num;have be:=ag.cap;have ak:=ag.see hW;refine Ae func114 J 46 ntmps114 J (G3 ?_);intro n3 bk bi;refine G8 ?_;refine .join (ι:=Nat) (λk=>⟨[(0,s.v),(3,ptr n3 0),(5,i64 (k:Int))],[⟨n3,Aa n,31,(Aa n).length⟩]⟩) (λk=>k<=s.n/\(∀j,j<k->Cn (ls.getD j []) n<0)/\(k<ls.length->¬Cn (ls.getD k []) n<0)) ?_ ?_
 ·
  refine .block (.loop (ι:=Nat) (λk=>⟨[(0,s.v),(3,ptr n3 0),(5,i64 (k:Int))],[⟨n3,Aa n,31,(Aa n).length⟩]⟩) (λk=>k<=s.n/\∀j,j<k->Cn (ls.getD j []) n<0) (λk=>s.n-k) (0) ?_ ?_ ?_)
  .exact⟨Laf _,λj hj=>absurd hj (Lcj _)⟩
  .exact Af wN (Ab rM Ad)
  rintro k ⟨hk,hg⟩;refine G2 ?_;refine .draw (oPq [0,1,2,3,4,5,6,7,108,109,310,11,12]) Au zK (G3 ?_);refine two (λr hr k=>Tr.lss J J J J hr k) (λab=>?_) (λab=>?_)
  ·
   have av:=of_decide_eq_true ab;have a1:k<s.n:=by omega
   obtain⟨b,o,ap,aq⟩:=ak.at (by rw[As aa];omega);have ad:(ls.getD k []).length=32:=Bn aa oM;refine G3 ?_;refine .idxSlP 32 J J J ap J Y32.h Sz31 k J oM (.loadEN (Aa (ls.getD k [])) J J J Y31.h J Sz31 sP (by rw[Aa,La0];exact ad) (Bk aa aq oM) ?_);refine .lA J J J Y31.h J Sz31 Z0 (by(simp[ae];done)) ?_;refine .cV J J J J Body10 (r15_cmp (ls.getD k []) n ad ae) tV (G4 ?_);refine .condP J (λar=>?_) (λar=>?_)
   ·
    refine G10 ?_;exact⟨k+1,⟨by omega,λj hj=>by rcases Lb4.1 hj with h|rfl;exact hg j h;exact ar⟩,by omega,Af wN (Ab rM Ad)⟩
   refine G5 ?_;exact⟨k,⟨by omega,hg,λ_=>ar⟩,Af wN (Ab rM Ad)⟩
  have av:=of_decide_eq_false ab;skip;refine G11 ?_;refine .cond_f J J (G5 ?_);exact⟨k,⟨by omega,hg,λh=>by omega⟩,Af wN (Ab rM Ad)⟩
 intro k hj;obtain⟨hk,hg,ah⟩:=hj;refine .join (ι:=Unit) (λu=>⟨[(0,s.v),(3,ptr n3 0),(5,i64 (k:Int))],[⟨n3,Aa n,31,(Aa n).length⟩]⟩) (λu=>n∉ls) ?_ ?_
 ·
  refine .seq (.draw (oPq [0,1,2,3,4,5,6,7,108,109,10,11]) Au zK (G3 ?_));refine two (λr hr k=>Tr.lss J J J J hr k) (λac=>?_) (λac=>?_)
  ·
   have aw:=of_decide_eq_true ac;have a1:k<s.n:=by omega
   obtain⟨b,o,ap,aq⟩:=ak.at (by rw[As aa];omega);have ad:(ls.getD k []).length=32:=Bn aa oM;refine G3 ?_;refine .idxSlP 32 J J J ap J Y32.h Sz31 k J oM (.loadEN (Aa (ls.getD k [])) J J J Y31.h J Sz31 sP (by rw[Aa,La0];exact ad) (Bk aa aq oM) ?_);refine .lA J J J Y31.h J Sz31 Z0 (by(simp[ae];done)) ?_;refine .eql_bytes J J J J eqGuardType31 Y31.h Y5.h Sz5 zA (by(simp[ae];done)) J ?_;refine G3 ?_;refine .condP J (λau=>?_) (λau=>?_)
   ·
    refine G6 ?_;refine G3 ?_;refine Ao (out:=[]) (Ag J J) Ad ?_;exact .inl ⟨by rw[<-au];exact Cm oM,rfl,rfl⟩
   refine G2 ?_;exact⟨(),put_no hs az hg ah (λ_=>by simpa using au),Af wN (Ab rM Ad)⟩
  have aw:=of_decide_eq_false ac;skip;refine G10 ?_;refine .cond_f J J (G2 ?_);exact⟨(),put_no hs az hg ah (λh=>by omega),Af wN (Ab rM Ad)⟩
 intro u hj;skip;refine .seq (.withK (sp_k sp_n) J (.draw (oPq [1,2,3,5,8,9,10,200,304,206,407,411,12]) Au zK (G2 ?_)));refine .sliceHiA s k J J J J J oM Y32.h Sz31 (.kloadAll J J J Y31.h J Sz31 Z0 (by(simp[ae];done)) ?_);refine G2 ?_;refine Tr.sliceLoA k J J J J J ag oM Y32.h Sz31 ?_;intro a6 ay ai aj _ _;refine .mkRow2 (z:=agg (Aa (List.replicate 32 0))) [] ([]) J J Y32.h Sz31 Bz J J (by intro v hv;cases hv) dE J ?_;intro a2;refine .appendF (b:=a2) (m:=k) (z:=agg (Aa (List.replicate 32 0))) (by':=32) (Aq (ls.take k)) J J J J Y32.h Y32.h Sz31 Bz (by unfold By;kernel_rfl) J (λw h=>rows_take (ag.see (Bf hW h)) aa) (λe=>by have:=ag.nil e;omega) (Cu _) oM oM (by rw[As (λq hq=>aa q (Lbi hq)),Lac,Lc6 oM]) ?_;intro bn a8 am;refine .mkRow2 (z:=agg (Aa (List.replicate 32 0))) [agg (Aa n)] (Aa n) J J Y32.h Sz31 Bz J J (by intro v hv;rw[La1.1 hv];simp[Value.cells,Aa,ae]) dE (by simp[Value.cells,agg]) ?_;intro bm;refine .appendF2 [_] (n:=k) (z:=agg (Aa (List.replicate 32 0))) (by':=32) (Aa n) J J J J J Y32.h Y32.h Sz31 Bz (by unfold By;kernel_rfl) J am dE J (λw h=>SeesP.of (Ar h Z0)) (λe=>by cases e) (Ay _) oM oM (by rw[Aa,La0,ae]) ?_;intro bo ba an;refine .appendAcc (n:=(k+1)) (z:=agg (Aa (List.replicate 32 0))) (by':=32) (Aq (ls.drop k)) J J J J J Y32.h Y32.h Sz31 Bz (by unfold By;kernel_rfl) J an sG (λw h=>by rw[<-rows_dropK aa];exact aj w (Bf hW h)) ai (Cu _) oM oM (by rw[As (λq hq=>aa q (Lct hq)),Laz,ay]) ?_;intro a7 ax ao;refine G3 ?_;refine G2 ?_
 try simp only[Lft,Lan,Lah,Lab]
 refine Ao (out:=(ax++[])) (Ag J J) (Ac sG Ad) ?_;have bj:=(putB ls n).length;have e8:(putB ls n).length=k+1+a6.n:=by rw[<-put_at hs hj hg ah oM,La2,Lax,Lac,Laz];omega
 have e9:Aq (putB ls n)=Aq (ls.take k)++Aa n++Aq (ls.drop k):=by rw[<-put_at hs hj hg ah oM];simp[Aq]
 exact .inr ⟨hj,a7,rfl,by rw[e8,e9];simpa using ao⟩
theorem rd_closure(x:RD)(hx:x.ok)(p:Nat)(X:PD)(hP:x.P=X.P)(hI:X.Inv)(hO:X.Ord)(s0:Sl)(L:List (List UInt8)):Meets prog 76 [ptr p 0,s0.v] [] (λW=>Lies (x.blks p) W/\RowsAt W s0 32 L) (ClosR X L):=by
 intro W hW;have bz:=hx.big;have b5:=hx.accL.num;have b6:=hx.accO.num;have aq:=rd_L hW.1;have bv:=rd_seeL hx hW.1;have ab:True:=trivial;have ac:True:=trivial;have am:True:=trivial;have b3:=hW.2.len;have ae:=hW.2.row;have ba:=hW.2.max;simp only[maxLen]at ba;have ay:=rk_names hP hI;have b9:X.names.length=x.L.length:=by rw[ay];exact La0 _
 have a2:=rkNames_32 hx;refine Ae func76 J 83 ntmps76 J (G8 ?_);refine .mkMap (Ak 32 evI) J J ?_;intro ai;refine G10 ?_;refine .loop (ι:=Nat×List (List UInt8×Int)) (λr=>⟨[(0,ptr p 0),(1,s0.v),(6, .map (some ai)),(7,i64 (r.1:Int))],[A3 ai (Ak 32 evI) r.2]⟩) (λr=>r.1<=s0.n/\(∀j,j<r.1->(An X.P (L.getD j [])).isSome=true)/\KI r.2 (λn=>n∈L.take r.1)) (λr=>s0.n-r.1) ((0,[])) ?_ ?_ ?_
 .exact⟨Laf _,λj hj=>absurd hj (Lcj _),KI.none.iff λn=>by simp⟩
 .exact Af wN (Ab rM Ad)
 rintro⟨k,im⟩ ⟨hk,aj,aa⟩;simp only at hk aj aa ⊢;refine G9 ?_;refine .condP J (λbj=>?_) (λbj=>?_)
 ·
  have b4:k<s0.n:=by omega
  obtain⟨b,o,ag,ah⟩:=hW.2.see.at (by rw[As ae];omega);have ab:(L.getD k []).length=32:=Bn ae oM;refine G10 ?_;refine .idxSlP 32 J J J ag J Y32.h Sz31 k J oM (.loadEN (Aa (L.getD k [])) J J J Y31.h J Sz31 sP (by rw[Aa,La0];exact ab) (Bk ae ah oM) ?_);refine .cV J J J J Body66 (rd_has x hx p (L.getD k []) ab) (λw h=>Bf hW.1 h) (G3 ?_);refine .cond J (λav=>?_) (λav=>?_)
  ·
   refine G6 ?_;refine G8 ?_;refine Ao (out:=[]) (Bm J J J) Ad (.inl ⟨⟨L.getD k [],Cm oM,?_⟩,rfl,rfl⟩);have h9:(An x.P (L.getD k [])).isSome=false:=by simpa using av
   rw[hP]at h9;exact Leq.1 (by rw[<-Option.not_isSome,h9];rfl)
  refine G6 ?_;refine .idxSlP 32 J J J ag J Y32.h Sz31 k J oM (.loadEN (Aa (L.getD k [])) J J J Y31.h J Sz31 sP (by rw[Aa,La0];exact ab) (Bk ae ah oM) ?_);refine .mapPut (v:=(1:Int)) MI J J J J J ab rM ?_;refine G9 ?_;exact⟨(k+1,Bh im (L.getD k []) 1),⟨by simp only;omega,λj hj=>by rcases Lb4.1 hj with h|rfl;exact aj j h;have h9:(An x.P (L.getD j [])).isSome=true:=(by simpa using av);rw[hP]at h9;exact h9,aa.put ab λn=>by rw[Bt oM,La8,La1]⟩,by simp only;omega,Af wN (Ab rM Ad)⟩
 obtain rfl:k=s0.n:=by omega
 have ak:∀n∈L,(An X.P n).isSome=true:=λn hn=>by
  obtain⟨j,hj,e⟩:=Lb8 hn;have h9:=aj j oM;rw[La3,La4 hj]at h9;rw[<-e];exact h9
 refine G16 ?_;refine .loadE J J J Y109.h J sP (aq) (G6 ?_);refine .loop (ι:=Nat×List (List UInt8×Int)×Sl×List Blk×List (List UInt8)) (λr=>⟨[(0,ptr p 0),(6, .map (some ai)),(8,r.2.2.1.v),(9,i64 ((r.1:Int)-1))],(A3 ai (Ak 32 evI) r.2.1::(r.2.2.2.1++[]))⟩) (λr=>r.1<=x.sL.n/\KI r.2.1 (λn=>n∈r.2.1.map (·.1))/\ClosI X L r.1 (r.2.1.map (·.1)) r.2.2.2.2/\Hw.Acc r.2.2.1 r.2.2.2.1 (Aq r.2.2.2.2) 31 r.2.2.2.2.length 32) (λr=>r.1) ((x.sL.n,im,Sl.nil,[],[])) ?_ ?_ ?_
 .exact⟨Lag _,aa.iff aa.mem,by simp only;rw[show x.sL.n=X.names.length by omega];exact ClosI.start (λn=>by rw[aa.mem,La5 oM]),Acc.none⟩
 .exact Af wN (Ab rM (Ac (by repeat(exact C8)) Ad))
 rintro⟨i,im,s,bl,out⟩ ⟨bm,aa,hC,ap⟩;simp only at bm aa hC ap ⊢;refine G7 ?_;refine .condP J (λhc2=>?_) (λhc2=>?_)
 ·
  obtain⟨i,rfl⟩:∃j,i=j+1:=⟨i-1,by omega⟩;have a8:i<x.L.length:=by omega
  obtain⟨e,hd⟩:∃e,x.L[i]? =some e:=⟨_,La4 a8⟩;have aw:=hx.entL e (Lau hd);have a7:=aw.1;have am:=a7.l_fName;have ax:X.names[i]? =some e.1.fName:=by rw[ay];exact rk_nameAt hd
  have bi:=rk_getP hP hI hd;obtain⟨b,o,ag,ah⟩:=rd_open bv hx.okL a8;have a6:∀l∈out,l.length=32:=λl hl=>by obtain⟨j2,_,h2⟩:=hC.out l hl;rw[ay]at h2;exact a2 l (Lau h2)
  have cc:out.length<=X.names.length:=nd_len hC.nd λl hl=>by obtain⟨j2,_,h2⟩:=hC.out l hl;exact Lau h2
  refine G11 ?_;refine .loadE J J J Y109.h J sP (aq) (G1 ?_);refine .idxSlP 163 J J J ag J Y109.h Sz113 i oM oM (G1 ?_);refine .loadEN (Aa e.1.fName) J J J Y31.h J Sz31 sP (by rw[Aa,La0];exact am) (rk_name ah hx.okL hd) ?_;refine .lookG evI MI J J J J am Z0 (λhg=>?_) (λv hg=>?_)
  ·
   have bt:=aa.no hg;refine .eqi J J J J (decide_eq_true (dE)) (G2 ?_);refine .cond_t J J (G10 ?_);exact⟨(i,im,s,bl,out),⟨by simp only;omega,aa,hC.skip hI ax bt,ap⟩,by simp only;omega,Af (wk1 rfl (wk1 rfl (wk1 rfl (wk1 (congrArg (λz=>some (i64 z)) (show((i+1:Nat):Int)-1-1=(i:Int)-1 by omega)) wk0)))) (Ab rM (Ac sG Ad))⟩
  obtain⟨rfl,bn⟩:=aa.yes hg;refine .eqi J J J J (decide_eq_false (dE)) (G2 ?_);refine .cond_f J J (G8 ?_);refine .loadE J J J Y109.h J sP (aq) (G1 ?_);refine .idxSlP 163 J J J ag J Y109.h Sz113 i oM oM (G1 ?_);refine .loadEN (Aa e.1.fName) J J J Y31.h J Sz31 sP (by rw[Aa,La0];exact am) (rk_name ah hx.okL hd) ?_;refine .call4 J J J J J Body114 (rd_put s bl out ap a6 hC.srt hC.nd oM e.1.fName am) (λw h=>Lies.of h (by repeat(first|exact Ap|refine A1 ?_))) ?_;rintro ce ao (⟨h9,_⟩|⟨_,be,rfl,au⟩)
  .exact absurd h9 (hC.fresh hI ax)
  refine G8 ?_;refine .loadE J J J Y109.h J sP (aq) (G1 ?_);refine .idxSlP 163 J J J ag J Y109.h Sz113 i oM oM (G1 ?_);refine .loadEN e.1.fBlock.cells J J J Y37.h J Sz37 sP (Block.length a7.o_fBlock) (rk_blk ah hx.okL hd) (.call4 J J J J J Body80 (r15_parA e.1.fBlock e.2 oM) (λw h=>aw.2.1.2 w (rd_cb (Bf hW.1 h))) ?_);rintro v70 a1 ⟨bw,rfl,ar⟩;have b7:=ar.num;have an:=parL_row (aw.2.1.2 _ (rd_cb hW.1)).dok;have cd:=parL_len e.2;refine G9 ?_;refine .loop (ι:=Nat×List (List UInt8×Int)) (λy=>⟨[(0,ptr p 0),(6, .map (some ai)),(8,be.v),(9,i64 (((i+1:Nat):Int)-1)),(10,bw.v),(11,i64 (y.1:Int))],(A3 ai (Ak 32 evI) y.2::(ao++(a1++[])))⟩) (λy=>y.1<=(Bj e.2).length/\KI y.2 (λn=>n∈im.map (·.1)\/n∈(Bj e.2).take y.1)) (λy=>(Bj e.2).length-y.1) ((0,im)) ?_ ?_ ?_
  .exact⟨Laf _,aa.iff λn=>by simp⟩
  .exact Af wN (Ab (by repeat(first|exact A4|apply Bq)) (Ac (by repeat(first|exact B9|apply Cj)) (Ac sG Ad)))
  rintro⟨j,bc⟩ ⟨hj,ad⟩;simp only at hj ad ⊢;refine G9 ?_;refine .condP J (λbk=>?_) (λbk=>?_)
  ·
   have bo:j<(Bj e.2).length:=by omega
   obtain⟨pp,az⟩:∃q,q=(Bj e.2).getD j []:=⟨_,rfl⟩;have ac:pp.length=32:=by rw[az];exact an _ (Cm bo)
   refine G8 ?_;obtain⟨b8,o8,bu,bg⟩:=par_open ar oM an;refine .idxSlP 32 J J J bu J Y32.h Sz31 j J oM (.loadSN (n:=32) (Aa pp) J J J Y31.h J Sz31 (by rw[Aa,La0];exact ac) (λw h=>by rw[az];exact bg w (Lies.of h (by repeat(first|exact Ap|refine A1 ?_|refine A5 ?_))) j oM) ?_);refine .mapPut (v:=(1:Int)) MI J J J J J ac rM ?_;refine G9 ?_;exact⟨(j+1,Bh bc pp 1),⟨by simp only;omega,ad.put ac λn=>by rw[Bt oM,La8,La1,az,or_assoc]⟩,by simp only;omega,Af wN (Ab rM (Ac sG (Ac sG Ad)))⟩
  have bp:j=(Bj e.2).length:=by omega
  have bq:∀m:List UInt8,(m∈im.map (·.1)\/m∈(Bj e.2).take j)↔(m∈im.map (·.1)\/m∈Bj e.2):=λm=>by rw[bp,Lci]
  refine G12 ?_;exact⟨(i,bc,be,ao,putB out e.1.fName),⟨by simp only;omega,ad.iff ad.mem,hC.meet hI hO ax bi bn (λm=>by simp only;rw[ad.mem m,bq]),au⟩,by simp only;omega,Af (wk1 rfl (wk1 rfl (wk1 rfl (wk1 (congrArg (λz=>some (i64 z)) (show((i+1:Nat):Int)-1-1=(i:Int)-1 by omega)) wk0)))) (Ab rM (Ac sG Ad))⟩
 obtain rfl:i=0:=by omega
 refine G12 ?_;refine G2 ?_;refine Ao (out:=(bl++[])) (Bm J J J) (Ac sG Ad) ?_;exact .inr ⟨ak,s,out,rfl,by simpa using ap,hC.srt,hC.nd,λn=>hC.fin hI ak n⟩
structure InsI(X:PD)(l row:List (List UInt8))(i k:Nat):Prop where
  perm:row.Perm l
  ki:k<=i
  il:i<row.length
  oth:∀a b,a<b->b<=i->a≠k->b≠k->LeD X (row.getD a []) (row.getD b [])
  one:∀b,k<b->b<=i->LeD X (row.getD k []) (row.getD b [])
theorem getD_at(h:i<l.length):l.getD i []=l[i]:=by rw[La3,La4 h];rfl
theorem sortD_iff:SortD X l↔∀a b,a<b->b<l.length->LeD X (l.getD a []) (l.getD b []):=by
  unfold SortD;rw[Lde];refine⟨λh a b aa hb=>?_,λh a b ha hb aa=>?_⟩
  .rw[getD_at oM,getD_at hb];exact h a b oM hb aa
  .have:=h a b aa hb;rwa[getD_at ha,getD_at hb]at this
theorem take_getD{i a:Nat}(h:a<i):(l.take i).getD a []=l.getD a []:=by
  rw[La3,La3,Lex h]
theorem InsI.start(hp:row.Perm l)(hi:i<row.length)(hs:SortD X (row.take i)):InsI X l row i i where
  perm:=hp
  ki:=Lag i
  il:=hi
  oth:=λa b aa hb _ ab=>by
    have h:=sortD_iff.1 hs a b aa (by rw[Lac];omega);rwa[take_getD oM,take_getD oM]at h
  one:=λb h1 h2=>by omega
theorem LeD.trans'{a b c:List UInt8}(h1:LeD X a b)(h2:LeD X b c):LeD X a c:=by
  have:=cmpB_trans a b c;unfold LeD at*;omega
theorem LeD.tot'(h:¬LeD X a b):LeD X b a:=by
  have:=cmpB_neg a b;unfold LeD at*;omega
theorem InsI.fin(h:InsI X l row i k)(hk:k=0\/LeD X (row.getD (k-1) []) (row.getD k [])):SortD X (row.take (i+1)):=sortD_iff.2 λa b ab hb=>by
  have ad:=h.il;rw[Lac]at hb;rw[take_getD oM,take_getD oM];by_cases ac:b=k
  . subst ac
    rcases hk with hk|hk
    .omega
    . by_cases ha:a=b-1
      .rw[ha];exact hk
      .exact(h.oth a (b-1) oM oM oM oM).trans' hk
  . by_cases aa:a=k
    .subst aa;exact h.one b ab oM
    .exact h.oth a b ab oM aa ac
def swp(row:List (List UInt8))(k:Nat):List (List UInt8):=(row.set (k-1) (row.getD k [])).set k (row.getD (k-1) [])
theorem swp_len(row:List (List UInt8))(k:Nat):(swp row k).length=row.length:=by unfold swp;rw[Lbc,Lbc]
theorem swp_at(h0:0<k)(hk:k<row.length):(swp row k).getD j []=if j=k then row.getD (k-1) []else if j=k-1 then row.getD k []else row.getD j []:=by
  unfold swp;simp only[La3];rw[Lcu,Lcu,Lbc];by_cases e1:k=j
  . subst e1
    rw[if_pos rfl,if_pos hk,if_pos rfl];rfl
  . rw[if_neg e1,if_neg (show ¬j=k from λe=>e1 e.symm)]
    by_cases e2:k-1=j
    .rw[if_pos e2,if_pos (show k-1<row.length by omega),if_pos e2.symm];rfl
    .rw[if_neg e2,if_neg (show ¬j=k-1 from λe=>e2 e.symm)]
theorem swp_perm(h0:0<k)(hk:k<row.length):(swp row k).Perm row:=by
  unfold swp;rw[getD_at hk,getD_at (show k-1<row.length by omega)];exact List.set_set_perm oM hk
theorem InsI.step(h:InsI X l row i k)(h0:0<k)(hn:¬LeD X (row.getD (k-1) []) (row.getD k [])):InsI X l (swp row k) i (k-1):=by
  have ag:=h.ki;have ae:=h.il;have hg:=λj=>swp_at (j:=j) h0 (show k<row.length by omega);exact{
    perm:=(swp_perm h0 oM).trans h.perm
    ki:=by omega
    il:=by rw[swp_len];exact ae
    oth :=λa b ab hb aa ac=>by
      rw[hg a,hg b];by_cases e1:a=k
      . rw[if_pos e1,if_neg oM,if_neg oM]
        subst e1;exact h.oth (a-1) b oM hb oM oM
      . rw[if_neg e1,if_neg aa]
        by_cases e2:b=k
        . rw[if_pos e2]
          subst e2;exact h.oth a (b-1) oM oM e1 oM
        . rw[if_neg e2,if_neg ac]
          exact h.oth a b ab hb e1 e2
    one :=λb hb ad=>by
      rw[hg (k-1),hg b,if_neg oM,if_pos rfl];by_cases e2:b=k
      .rw[if_pos e2];exact LeD.tot' hn
      . rw[if_neg e2,if_neg oM]
        exact h.one b oM ad }
def DepM(X:PD)(v:Value)(out:List Blk):Prop:=∃(m:Nat) (fs:List (List UInt8×Int)),v= .map (some m)/\out=[A3 m (Ak 32 evI) fs]/\∀n∈X.names,An fs n=some (X.dp n)
theorem set_32{v:List UInt8}(h:∀l∈L,l.length=32)(hv:v.length=32):∀l∈L.set k v,l.length=32:=λl hl=>by
  rcases Ldy hl with h1|rfl
  .exact h l h1
  .exact hv
theorem nodup_snoc(h:L.Nodup)(hn:n∉L):(L++[n]).Nodup:=by
  rw[Lay];exact⟨h,Lb6.2 ⟨λh9=>(by cases h9),Lch⟩,λa ha b hb e=>hn (by rw[La1.1 hb]at e;rw[<-e];exact ha)⟩
theorem rd_depths(x:RD)(hx:x.ok)(y:DD)(hy:y.ok)(hP:x.P=y.pl.P)(hI:y.pl.Inv)(hO:y.pl.Ord)(p:Nat):Meets prog 67 [ptr p 0] [] (λW=>Lies (x.blks p) W) (DepM y.pl):=by
 intro W hW;have bn:=hx.big;have bz:=hx.accL.num;have b3:=hx.accO.num;have bp:=rd_L hW;have b7:=rd_seeL hx hW;have aa:True:=trivial;have ab:True:=trivial;have ar:=rk_names hP hI;have b5:y.pl.names.length=x.L.length:=by rw[ar];exact La0 _
 have ae:∀l∈y.pl.names,l.length=32:=by rw[ar];exact rkNames_32 hx
 have ax:∀q∈y.pl.P,q.2.check=0:=hI.ck;refine Ae func67 J 53 ntmps67 J (G7 ?_);refine .mkMap (Ak 32 evI) J J ?_;intro ad;refine G6 ?_;refine .call4 J J J J J Body21 (rd_names x hx p) (λw h=>Bf hW h) ?_;rintro cc ai ⟨s4,rfl,ag⟩;rw[<-ar]at ag;have bv:=ag.num;refine G10 ?_;refine .loop (ι:=Nat×List (List UInt8×Int)) (λr=>⟨[(0,ptr p 0),(3, .map (some ad)),(4,s4.v),(5,i64 (r.1:Int))],(A3 ad (Ak 32 evI) r.2::(ai++[]))⟩) (λr=>r.1<=y.pl.names.length/\DMap y.pl r.2 (y.pl.names.take r.1)) (λr=>y.pl.names.length-r.1) ((0,[])) ?_ ?_ ?_
 .exact⟨Laf _,DMap.none y.pl⟩
 .exact Af wN (Ab (by repeat(first|exact A4|apply Bq)) (Ac sG Ad))
 rintro⟨k,fs⟩ ⟨hk,aj⟩;simp only at hk aj ⊢;refine G9 ?_;refine .condP J (λa7=>?_) (λa7=>?_)
 ·
  have az:k<y.pl.names.length:=by omega
  obtain⟨kk,ac⟩:∃q,q=y.pl.names.getD k []:=⟨_,rfl⟩;have aa:kk.length=32:=by rw[ac];exact ae _ (Cm az)
  obtain⟨q4,o4,a1,aq⟩:=par_open ag oM ae;obtain⟨Dk,ak,ao,ay⟩:=PD.Ord.before hI hO (show y.pl.names[k]? =some kk by rw[ac,La3,La4 az];rfl);have aw:=(ck_small (ax _ (Bi ak))).1;simp only at aw;have b6:=parL_len Dk;refine G9 ?_;refine .idxSlP 32 J J J a1 J Y32.h Sz31 k J oM (.loadSN (n:=32) (Aa kk) J J J Y31.h J Sz31 (by rw[Aa,La0];exact aa) (λw h=>by rw[ac];exact aq w (Lies.of h (by repeat(first|exact Ap|refine A1 ?_))) k oM) ?_);refine .call4 J J J J J Body79 (rd_get x hx p y.pl hP ax kk aa) (λw h=>Bf hW h) ?_;rintro cd bk (⟨h0,_⟩|⟨D,B,hD,hB,rfl,a6⟩)
  .exfalso;rw[h0]at ak;cases ak
  obtain rfl:Dk=D:=by rw[ak]at hD;exact Leh hD
  refine G3 ?_;refine .alloc (cs:=Block.zero.cells) J Block.zr J ?_;intro n6 bw bu;refine .sA J J J J (Block.isCell (by exact hB.ok)) Sz37 (Block.length (by exact hB.ok)) Z0 (Block.length (by exact Block.zero_ok)) zU ?_;refine G5 ?_;refine .lA J J J Y37.h J Sz37 Z0 (Block.length (by exact hB.ok)) ?_;refine .call4 J J J J J Body80 (r15_parA B Dk oM) (λw h=>a6 w (Lies.of h (by repeat(first|exact Ap|refine A1 ?_)))) ?_;rintro ce av ⟨bm,rfl,an⟩;have b4:=an.num;refine G15 ?_;refine .loop (ι:=Nat×Int) (λq=>⟨[(0,ptr p 0),(3, .map (some ad)),(4,s4.v),(5,i64 (k:Int)),(8,bm.v),(9,i64 q.2),(10,i64 (q.1:Int))],(A3 ad (Ak 32 evI) fs::(ai++(av++[])))⟩) (λq=>q.1<=(Bj Dk).length/\q.2=((Bj Dk).take q.1).foldl (stepP y.pl.dep) 0) (λq=>(Bj Dk).length-q.1) ((0,0)) ?_ ?_ ?_
  .exact⟨Laf _,rfl⟩
  .exact Af wN (Ab rM (Ac sG (Ac sG Ad)))
  rintro⟨j,mx⟩ ⟨hj,am⟩;simp only at hj am ⊢;refine G9 ?_;refine .condP J (λa8=>?_) (λa8=>?_)
  ·
   have bc:j<(Bj Dk).length:=by omega
   obtain⟨pp,au⟩:∃q,q=(Bj Dk).getD j []:=⟨_,rfl⟩;have ap:pp∈Bj Dk:=by rw[au];exact Cm bc
   have ba:=aj.all pp (ao pp ap);have ah:∀l∈Bj Dk,l.length=32:=λl hl=>ae l (Lbi (ao l hl));have ab:pp.length=32:=ah pp ap;obtain⟨qP,b9,bi,a2⟩:=par_open an oM ah;have bt:=dp_big hy pp;have bq:=dp_le hI pp;have b8:=hy.big;have bo:y.pl.names.length=y.names.length:=rfl;have bj:=step_bound hy hI ((Bj Dk).take j) 0 dE dE;rw[<-am]at bj;refine G9 ?_;refine .idxSlP 32 J J J bi J Y32.h Sz31 j J oM (.loadSN (n:=32) (Aa pp) J J J Y31.h J Sz31 (by rw[Aa,La0];exact ab) (λw h=>by rw[au];exact a2 w (Lies.of h (by repeat(first|exact Ap|refine A1 ?_|refine A5 ?_))) j oM) ?_);refine .lookS evI MI ba J J J J ab Z0 ?_;refine G1 ?_;refine .max2 J J J J (rfl) (G10 ?_);refine⟨(j+1,_),⟨by simp only;omega,?_⟩,by simp only;omega,Af wN (Ab rM (Ac sG (Ac sG Ad)))⟩;simp only;rw[step_take oM,<-am,<-au];rfl
  have be:j=(Bj Dk).length:=by omega
  refine G9 ?_;refine .idxSlP 32 J J J a1 J Y32.h Sz31 k J oM (.loadSN (n:=32) (Aa kk) J J J Y31.h J Sz31 (by rw[Aa,La0];exact aa) (λw h=>by rw[ac];exact aq w (Lies.of h (by repeat(first|exact Ap|refine A1 ?_))) k oM) ?_);refine G1 ?_;refine .mapPut (v:=mx) MI J J J J J aa rM ?_;refine G9 ?_;refine⟨(k+1,Bh fs kk mx),⟨by simp only;omega,?_⟩,by simp only;omega,Af wN (Ab rM (Ac sG Ad))⟩;simp only;rw[Bt oM,<-ac,show mx=y.pl.dp kk by rw[am,be,Lci,ay]];exact aj.put (by rw[ac];exact not_before (hI.nn▸hI.nd) oM)
 have bg:k=y.pl.names.length:=by omega
 refine G11 ?_;refine G2 ?_;refine Ao (out:=(A3 ad (Ak 32 evI) fs::[])) (Ag J J) (Ab rM Ad) ?_;exact⟨ad,fs,rfl,rfl,λn hn=>aj.all n (by rw[bg,Lci];exact hn)⟩
theorem rd_depth(x:RD)(hx:x.ok)(y:DD)(hy:y.ok)(hP:x.P=y.pl.P)(hI:y.pl.Inv)(hO:y.pl.Ord)(p:Nat)(n:List UInt8)(ab:n.length=32):Mv 24 [ptr p 0,agg (Aa n)] (λW=>Lies (x.blks p) W) (y.pl.depthR n):=by
 intro W hW;refine Ae func24 J 16 ntmps24 J (G3 ?_);intro n3 ai ah;refine G8 ?_;refine .eqNilP J J J J underlying53 (G2 ?_);refine .cond_f J J (G6 ?_);refine .lA J J J Y31.h J Sz31 Z0 (by(simp[ab];done)) ?_;refine .cV J J J J Body66 (rd_has x hx p n ab) (λw h=>Bf hW h) (G3 ?_);refine .cond J (λac=>?_) (λac=>?_)
 ·
  have aa:y.pl.has n=false:=by unfold PD.has;rw[<-hP];simpa using ac
  refine G6 ?_;refine G3 ?_;refine Ao (out:=[]) (Bm J J J) Ad ?_;exact⟨by rw[PD.depthR,if_neg (by rw[aa];decide)],rfl⟩
 have aa:y.pl.has n=true:=by unfold PD.has;rw[<-hP];simpa using ac
 refine G3 ?_;refine .withK (sp_k sp_n) J (.draw (oPq [0,2,401,103,4,5]) Au zK (G1 ?_));refine .kloadAll J J J Y31.h J Sz31 Z0 (by(simp[ab];done)) ?_;refine .call4 J J J J J Body67 (rd_depths x hx y hy hP hI hO p) (λw h=>Bf hW h) ?_;rintro ak ae ⟨aj,ag,rfl,rfl,ad⟩;refine .lookS evI MI (ad n (has_names hI aa)) J J J J ab Z0 ?_;refine G4 ?_;refine G2 ?_;refine Ao (out:=[]) (Bm J J J) Ad ?_;exact⟨by rw[PD.depthR,if_pos aa],rfl⟩
theorem rd_twice(s:Sl)(ls:List (List UInt8)):Mv 71 [s.v] (λW=>RowsAt W s 32 ls) (.bool (!decide ls.Nodup)):=by
 intro W hW;have aa:True:=trivial;have am:=hW.len;have ab:=hW.row;have ah:=hW.max;simp only[maxLen]at ah;refine Ae func71 J 24 ntmps71 J (G7 ?_);refine .mkMap (Ak 32 evI) J J ?_;intro m5;refine G10 ?_;refine .loop (ι:=Nat×List (List UInt8×Int)) (λr=>⟨[(0,s.v),(3, .map (some m5)),(4,i64 (r.1:Int))],[A3 m5 (Ak 32 evI) r.2]⟩) (λr=>r.1<=s.n/\KI r.2 (λn=>n∈ls.take r.1)/\(ls.take r.1).Nodup) (λr=>s.n-r.1) ((0,[])) ?_ ?_ ?_
 .exact⟨Laf _,KI.none.iff (λn=>by simp),by simp⟩
 .exact Af wN (Ab rM Ad)
 rintro⟨k,im⟩ ⟨hk,ac,ad⟩;simp only at hk ac ad ⊢;refine G9 ?_;refine .condP J (λai=>?_) (λai=>?_)
 ·
  have an:k<s.n:=by omega
  obtain⟨b,o,ae,ag⟩:=hW.see.at (by rw[As ab];omega);have aa:(ls.getD k []).length=32:=Bn ab oM;refine G10 ?_;refine .idxSlP 32 J J J ae J Y32.h Sz31 k J oM (.loadEN (Aa (ls.getD k [])) J J J Y31.h J Sz31 sP (by rw[Aa,La0];exact aa) (Bk ab ag oM) ?_);refine .lookG evI MI J J J J aa Z0 (λhg=>?_) (λv hg=>?_)
  ·
   have ak:=ac.no hg;refine .nei J J J J (show(!decide _)=false from congrArg not (decide_eq_true (dE))) (G2 ?_);refine .cond_f J J (G6 ?_);refine .idxSlP 32 J J J ae J Y32.h Sz31 k J oM (.loadEN (Aa (ls.getD k [])) J J J Y31.h J Sz31 sP (by rw[Aa,La0];exact aa) (Bk ab ag oM) ?_);refine .mapPut (v:=(1:Int)) MI J J J J J aa rM ?_;refine G9 ?_;exact⟨(k+1,Bh im (ls.getD k []) 1),⟨by simp only;omega,ac.put aa λn=>by rw[Bt oM,La8,La1],by rw[Bt oM];exact nodup_snoc ad ak⟩,by simp only;omega,Af wN (Ab rM Ad)⟩
  obtain⟨rfl,aj⟩:=ac.yes hg;refine .nei J J J J (show(!decide _)=true from congrArg not (decide_eq_false (dE))) (G2 ?_);refine .cond_t J J (G5 ?_);refine G8 ?_;refine Ao (out:=[]) (Ag J J) Ad ?_;refine⟨congrArg Value.bool (Eq.symm ?_),rfl⟩;rw[Lcw,decide_eq_false_iff_not];intro h9;exact not_before h9 (show k<ls.length by omega) aj
 obtain rfl:k=s.n:=by omega
 refine G10 ?_;refine G2 ?_;refine Ao (out:=[]) (Ag J J) Ad ?_;refine⟨congrArg Value.bool (Eq.symm ?_),rfl⟩;rw[Bool.not_eq_false',decide_eq_true_iff];rwa[La5 oM]at ad
theorem row_open3(h:Hw.Acc s bl (Aq L) 31 L.length 32)(h0:0<L.length):∃q c,s=⟨some ⟨q,0,none⟩,L.length,c⟩/\L.length<=c/\bl=[⟨q,Aq L,31,c*32⟩]:=by
  rcases h with ⟨_,_,_,e⟩|⟨q,c,e,h1,h2,h3⟩
  .omega
  .exact⟨q,c,e,h1,h3⟩
theorem tri_seesR{w:World}{q m:Nat}{cs:List Value}{T:TypeId}(h:BlkOk w ⟨q,cs,T,m⟩):Dd w q 0 cs:=λj v hj=>by
  have h1:=h.cell (b:=⟨q,cs,T,m⟩) (o:=j) hj;rwa[Lb0]
theorem sort_one(ls:List (List UInt8)):SortD X (ls.take 1):=by
  cases ls with
  |nil=>exact List.Pairwise.nil
  |cons a l=>simp[SortD]
theorem rd_sortedS(X:PD)(m:Nat)(fs:List (List UInt8×Int))(s:Sl)(ls:List (List UInt8))(av:∀n∈ls,An fs n=some (X.dp n))(h0:0<ls.length)(bi:ls.length<=1000000):Meets prog 72 [.map (some m),s.v] [] (λW=>BlkOk W (A3 m (Ak 32 evI) fs)/\RowsAt W s 32 ls) (RowA (C9 X ls)):=by
 intro W hW;have ac:True:=trivial;have ab:True:=trivial;have ao:=hW.1;have ar:=hW.2.len;have am:=hW.2.row;have ay:s.p=none->s.n=0:=λe=>by have:=hW.2.nil e;have:=hW.2.cap;omega
 refine Ae func72 J 65 ntmps72 J (G7 ?_);refine .mkRow2 (z:=agg (Aa (List.replicate 32 0))) [] ([]) J J Y32.h Sz31 Bz J J (by intro v hv;cases hv) dE J ?_;intro bt;refine G1 ?_;refine .appendAcc (n:=0) (m:=s.n) (z:=agg (Aa (List.replicate 32 0))) (by':=32) (Aq ls) J J J J J Y32.h Y32.h Sz31 Bz (by unfold By;kernel_rfl) J (Acc.some (cells:=[]) (E:=31) (Lag 0) J) (Ab rM Ad) (λw h=>(B4 h J hW.2).see) ay (Cu _) oM oM (by rw[As am,ar]) ?_;intro bu bg ak;rw[Lah,Lb0,<-ar]at ak;obtain⟨q,c,az,bc,au⟩:=row_open3 ak h0;subst az;subst au;refine G10 ?_;refine .loop (ι:=Nat×List (List UInt8)) (λr=>⟨[(0, .map (some m)),(5, .slice (some ⟨q,0,none⟩) ls.length c),(6,i64 (r.1:Int))],[⟨q,Aq r.2,31,c*32⟩]⟩) (λr=>1<=r.1/\r.1<=ls.length/\r.2.Perm ls/\SortD X (r.2.take r.1)) (λr=>ls.length-r.1) ((1,ls)) ?_ ?_ ?_
 .exact⟨Lag 1,h0,Lco _,sort_one ls⟩
 .exact Af wN (Ab rM Ad)
 rintro⟨i,row⟩ ⟨a6,a8,hp,hs⟩;simp only at a6 a8 hp hs ⊢;refine G9 ?_;refine .condP J (λa1=>?_) (λa1=>?_)
 ·
  refine G2 ?_;refine .join (ι:=List (List UInt8)) (λrow=>⟨[(0, .map (some m)),(5, .slice (some ⟨q,0,none⟩) ls.length c),(6,i64 (i:Int))],[⟨q,Aq row,31,c*32⟩]⟩) (λrow=>row.Perm ls/\SortD X (row.take (i+1))) ?_ ?_
  ·
   refine G8 ?_;refine .loop (ι:=Nat×List (List UInt8)) (λr=>⟨[(0, .map (some m)),(5, .slice (some ⟨q,0,none⟩) ls.length c),(6,i64 (i:Int)),(7,i64 (r.1:Int))],[⟨q,Aq r.2,31,c*32⟩]⟩) (λr=>InsI X ls r.2 i r.1) (λr=>r.1) ((i,row)) ?_ ?_ ?_
   .exact InsI.start hp (by have:=hp.length_eq;show i<row.length;omega) hs
   .exact Af wN (Ab rM Ad)
   rintro⟨k,row⟩ hQ;simp only at hQ ⊢;have bq:=hQ.perm.length_eq;have bn:=hQ.ki;have ad:∀l∈row,l.length=32:=λl hl=>am l (hQ.perm.mem_iff.1 hl);refine G7 ?_;refine .condP J (λa2=>?_) (λa2=>?_)
   ·
    have bm:0<k:=by omega
    obtain⟨aa,ai⟩:∃a,a=row.getD (k-1) []:=⟨_,rfl⟩;obtain⟨bb,aj⟩:∃a,a=row.getD k []:=⟨_,rfl⟩;have aw:aa∈row:=by rw[ai];exact Cm oM
    have ax:bb∈row:=by rw[aj];exact Cm oM
    have ac:=ad aa aw;have ab:=ad bb ax;have ap:=av aa (hQ.perm.mem_iff.1 aw);have aq:=av bb (hQ.perm.mem_iff.1 ax);refine G5 ?_;refine .withK (sp_k sp_n) J (.draw (oPq [0,1,2,3,4,5,6,7,8,209,210,411,412]) Au zK (G3 ?_));refine .idxSlP 32 J J J J J Y32.h Sz31 (k-1) oM oM (.kloadSN (n:=32) (Aa aa) J J J Y31.h J Sz31 (by rw[Aa,La0];exact ac) (λw h=>by rw[ai];exact Bk ad (tri_seesR (h ⟨q,Aq row,31,c*32⟩ (by simp[Cx.with]))) oM) ?_);refine G2 ?_;refine .idxSlP 32 J J J J J Y32.h Sz31 k J oM (.kloadSN (n:=32) (Aa bb) J J J Y31.h J Sz31 (by rw[Aa,La0];exact ab) (λw h=>by rw[aj];exact Bk ad (tri_seesR (h ⟨q,Aq row,31,c*32⟩ (by simp[Cx.with]))) oM) ?_);refine .alloc (cs:=(Aa (List.replicate 32 0))) J Bz J ?_;intro n8 bo bj;refine .alloc (cs:=(Aa (List.replicate 32 0))) J Bz J ?_;intro n9 bp bk;refine .sA J J J J zE Sz31 (by(simp[ac];done)) Z1 sP zV ?_;refine .sA J J J J zE Sz31 (by(simp[ab];done)) Z0 sP zU ?_;refine G2 ?_;refine .join (ι:=Unit) (λu=>⟨[(0, .map (some m)),(5, .slice (some ⟨q,0,none⟩) ls.length c),(6,i64 (i:Int)),(7,i64 (k:Int)),(8,ptr n8 0),(9,ptr n9 0)],[⟨q,Aq row,31,c*32⟩,⟨n8,Aa aa,31,32⟩,⟨n9,Aa bb,31,32⟩]⟩) (λu=>¬LeD X aa bb) ?_ ?_
    ·
     refine .seq (.draw (oPq [0,101,102,3,104,105,6,7,8,109,110,11,112,113,14,15,116,117,318,19,20,21]) Au zK (G1 ?_));refine .lA J J J Y31.h J Sz31 Z1 (by(simp[ac];done)) ?_;refine .lookSC MI ao sP ap J J J J ac (G1 ?_);refine .lA J J J Y31.h J Sz31 Z0 (by(simp[ab];done)) ?_;refine .lookSC MI ao sP aq J J J J ab (two (λr hr k=>Tr.lss J J J J hr k) (λag=>?_) (λag=>?_))
     ·
      have an:=of_decide_eq_true ag;refine G17 ?_;refine .cond_t J J (G2 ?_);refine bl_x J (G5 ?_);exact⟨row,⟨hQ.perm,hQ.fin (.inr (by rw[<-ai,<-aj];exact .inl an))⟩,Af wN (Ab rM Ad)⟩
     have an:=of_decide_eq_false ag;refine G2 ?_;refine .lA J J J Y31.h J Sz31 Z1 (by(simp[ac];done)) ?_;refine .lookSC MI ao sP ap J J J J ac (G1 ?_);refine .lA J J J Y31.h J Sz31 Z0 (by(simp[ab];done)) ?_;refine .lookSC MI ao sP aq J J J J ab (two (λr hr k=>Tr.eqi J J J J hr k) (λae=>?_) (λae=>?_))
     ·
      have ah:=of_decide_eq_true ae;refine G1 ?_;refine .lA J J J Y31.h J Sz31 Z1 (by(simp[ac];done)) ?_;refine .lA J J J Y31.h J Sz31 Z0 (by(simp[ab];done)) ?_;refine .cV J J J J Body10 (r15_cmp aa bb ac ab) tV (G5 ?_);refine .condP J (λhc2=>?_) (λhc2=>?_)
      ·
       refine G2 ?_;refine bl_x J (G5 ?_);exact⟨row,⟨hQ.perm,hQ.fin (.inr (by rw[<-ai,<-aj];exact .inr ⟨ah,hc2⟩))⟩,Af wN (Ab rM Ad)⟩
      refine G2 ?_;exact⟨(),(by unfold LeD;omega),Af wN (Ab rM (Ab rM (Ab rM Ad)))⟩
     have ah:=of_decide_eq_false ae;refine G9 ?_;refine .cond_f J J (G2 ?_);exact⟨(),(by unfold LeD;omega),Af wN (Ab rM (Ab rM (Ab rM Ad)))⟩
    intro u hj;skip;refine .withK (sp_v (sp_k (sp_k sp_n))) J (.draw (oPq [0,1,2,3,4,5,6,7,408,9,410]) Au zK (G5 ?_));refine .kloadAll J J J Y31.h J Sz31 Z1 (by(simp[ab];done)) ?_;refine .kloadAll J J J Y31.h J Sz31 Z0 (by(simp[ac];done)) ?_;refine .idxSlP 32 J J J J J Y32.h Sz31 (k-1) oM oM (.storeN (Aa bb) (cs':=Aq (row.set (k-1) bb)) J J J J J (Ay _) Sz31 (by rw[Aa,La0];exact ab) Z0 (by rw[As ad,Aa,La0,ab];omega) (upd_set ad ab oM) zU ?_);refine .idxSlP 32 J J J J J Y32.h Sz31 k J oM (.storeN (Aa aa) (cs':=Aq ((row.set (k-1) bb).set k aa)) J J J J J (Ay _) Sz31 (by rw[Aa,La0];exact ac) Z0 (by rw[As (set_32 ad ab),Lbc,Aa,La0,ac];omega) (upd_set (set_32 ad ab) ac (by rw[Lbc];omega)) zU ?_);refine G9 ?_;refine⟨(k-1,swp row k),hQ.step oM (by rw[<-ai,<-aj];exact hj),by simp only;omega,?_⟩;simp only[swp];rw[<-ai,<-aj];exact Af (wk1 rfl (wk1 rfl (wk1 rfl (wk1 (congrArg (λz=>some (i64 z)) (show(k:Int)-1=((k-1:Nat):Int) by omega)) wk0)))) (Ab rM Ad)
   refine G6 ?_;exact⟨row,⟨hQ.perm,hQ.fin (.inl oM)⟩,Af wN (Ab rM Ad)⟩
  intro row hj;obtain⟨ba,be⟩:=hj;refine G6 ?_;exact⟨(i+1,row),⟨by simp only;omega,by simp only;omega,ba,be⟩,by simp only;omega,Af wN (Ab rM Ad)⟩
 have a7:i=ls.length:=by omega
 refine G11 ?_;refine G2 ?_;refine Ao (out:=(⟨q,Aq row,31,c*32⟩::[])) (Ag J J) (Ab rM Ad) ?_;rw[a7,La5 (by have:=hp.length_eq;omega)]at hs;have e9:=isortD_eq hp hs;rw[<-e9];exact⟨⟨some ⟨q,0,none⟩,ls.length,c⟩,rfl,by rw[hp.length_eq];exact Acc.some bc (by rw[As (λl hl=>am l (hp.mem_iff.1 hl)),hp.length_eq])⟩
theorem rd_sorted0(m:Nat)(s:Sl):Meets prog 72 [.map (some m),s.v] [] (λW=>RowsAt W s 32 []) (RowA []):=by
 intro W hW;have ab:0=s.n:=hW.len;have ad:s.p=none->s.n=0:=λ_=>ab.symm;refine Ae func72 J 65 ntmps72 J (G7 ?_);refine .mkRow2 (z:=agg (Aa (List.replicate 32 0))) [] ([]) J J Y32.h Sz31 Bz J J (by intro v hv;cases hv) dE J ?_;intro ah;refine G1 ?_;refine .appendAcc (n:=0) (m:=s.n) (z:=agg (Aa (List.replicate 32 0))) (by':=32) (Aq []) J J J J J Y32.h Y32.h Sz31 Bz (by unfold By;kernel_rfl) J (Acc.some (cells:=[]) (E:=31) (Lag 0) J) (Ab rM Ad) (λw h=>(B4 h J hW).see) ad (Cu _) oM oM (by rw[<-ab];rfl) ?_;intro ae ac aa;rw[Lah,<-ab]at aa;have ag:=aa.num;refine G10 ?_;refine .loop (ι:=Unit) (λu=>⟨[(0, .map (some m)),(5,ae.v),(6,i64 1)],(ac++[])⟩) (λu=>True) (λu=>0) (()) ?_ ?_ ?_
 .trivial
 .exact Af wN (Ac sG Ad)
 rintro u _;refine G6 ?_;refine .lss J J J J (decide_eq_false oM) (G2 ?_);refine .cond_f J J (G11 ?_);refine G2 ?_;refine Ao (out:=(ac++[])) (Ag J J) (Ac sG Ad) ?_;exact⟨ae,rfl,by simpa using aa⟩
theorem rd_sorted(X:PD)(m:Nat)(fs:List (List UInt8×Int))(s:Sl)(ls:List (List UInt8))(ab:∀n∈ls,An fs n=some (X.dp n))(aa:ls.length<=1000000):Meets prog 72 [.map (some m),s.v] [] (λW=>BlkOk W (A3 m (Ak 32 evI) fs)/\RowsAt W s 32 ls) (RowA (C9 X ls)):=by
  cases ls with
  | nil=>
    have e:C9 X []=[]:=Lg6.1 (Ca X []).length_eq;rw[e];exact(rd_sorted0 m s).imp (λW h=>h.2) λv out h=>h
  |cons a l=>exact rd_sortedS X m fs s (a::l) ab (Nat.succ_pos _) aa
theorem rd_sort(x:RD)(hx:x.ok)(y:DD)(hy:y.ok)(hP:x.P=y.pl.P)(hI:y.pl.Inv)(hO:y.pl.Ord)(p:Nat)(s:Sl)(ls:List (List UInt8))(av:ls.length<=90000):Meets prog 29 [ptr p 0,s.v] [] (λW=>Lies (x.blks p) W/\RowsAt W s 32 ls) (SortR y.pl ls):=by
 intro W hW;have aa:True:=trivial;have ar:=hW.2.len;have ac:=hW.2.row;refine Ae func29 J 28 ntmps29 J (G10 ?_);refine .eqNilP J J J J underlying53 (G2 ?_);refine .cond_f J J (G9 ?_);refine .loop (ι:=Nat) (λk=>⟨[(0,ptr p 0),(1,s.v),(6,i64 (k:Int))],[]⟩) (λk=>k<=s.n/\∀j,j<k->y.pl.has (ls.getD j [])=true) (λk=>s.n-k) (0) ?_ ?_ ?_
 .exact⟨Laf _,λj hj=>absurd hj (Lcj _)⟩
 .exact Af wN Ad
 rintro k ⟨hk,hg⟩;refine G9 ?_;refine .condP J (λam=>?_) (λam=>?_)
 ·
  have au:k<s.n:=by omega
  obtain⟨b,o,aj,ak⟩:=hW.2.see.at (by rw[As ac];omega);have aa:(ls.getD k []).length=32:=Bn ac oM;refine G9 ?_;refine .idxSlP 32 J J J aj J Y32.h Sz31 k J oM (.loadEN (Aa (ls.getD k [])) J J J Y31.h J Sz31 sP (by rw[Aa,La0];exact aa) (Bk ac ak oM) ?_);refine .cV J J J J Body66 (rd_has x hx p (ls.getD k []) aa) (λw h=>Bf hW.1 h) (G3 ?_);refine .cond J (λhc2=>?_) (λhc2=>?_)
  ·
   refine G6 ?_;refine G7 ?_;refine Ao (out:=[]) (Bm J J J) Ad ?_;exact .inl ⟨⟨_,Cm (show k<ls.length by omega),by unfold PD.has;rw[<-hP];simpa using hc2⟩,rfl,rfl⟩
  refine G9 ?_;exact⟨k+1,⟨by omega,λj hj=>by rcases Lb4.1 hj with h|rfl;exact hg j h;exact(by unfold PD.has;rw[<-hP];simpa using hc2)⟩,by omega,Af wN Ad⟩
 obtain rfl:k=s.n:=by omega
 have ab:∀n∈ls,y.pl.has n=true:=λn hn=>by
  obtain⟨j,hj,e⟩:=Lb8 hn;have h9:=hg j oM;rw[La3,La4 hj]at h9;rw[<-e];exact h9
 refine G9 ?_;refine .cV J J J J Body71 (rd_twice s ls) (λw h=>B4 h J hW.2) (G2 ?_);refine .condNP J (λae=>?_) (λae=>?_)
 ·
  have ag:¬ls.Nodup:=by simpa using ae
  refine G6 ?_;refine G3 ?_;refine Ao (out:=[]) (Bm J J J) Ad ?_;exact .inr ⟨ab, .inl ⟨ag,rfl,rfl⟩⟩
 have ag:ls.Nodup:=by simpa using ae
 refine G5 ?_;refine .call4 J J J J J Body67 (rd_depths x hx y hy hP hI hO p) (λw h=>Bf hW.1 h) ?_;rintro v25 ap ⟨ao,ai,rfl,rfl,an⟩;refine G1 ?_;refine .call4 J J J J J Body72 (rd_sorted y.pl ao ai s ls (λn hn=>an n (has_names hI (ab n hn))) oM) (λw h=>⟨Cd h Z0,B4 h J hW.2⟩) ?_;rintro aw ah ⟨aq,rfl,ad⟩;refine G4 ?_;refine G2 ?_;refine Ao (out:=(ah++[])) (Bm J J J) (Ac sG Ad) ?_;exact .inr ⟨ab, .inr ⟨ag,aq,rfl,by rw[<-(Ca y.pl ls).length_eq];simpa using ad⟩⟩
theorem ben_okR(h:∀n∈c,X.has n=true)(h2:∀n∈bf,X.Reach (-1) c n):benE X bf (c::cs)=benE X c cs:=by
  have e1:¬(c.any λn=> !X.has n)=true:=λh9=>by
    obtain⟨m,hm,h8⟩:=Lc2.1 h9;rw[h m hm]at h8;cases h8
  have e2:(bf.all λn=>rB X (-1) c n)=true:=Lbf.2 λn hn=>rB_iff.2 (h2 n hn);rw[benE,if_neg e1,if_neg (by rw[e2];decide)]
structure OrdI(X:PD)(cs:List (List (List UInt8)))(k:Nat)(bf out:List (List UInt8))(hk:List UInt8->Prop):Prop where
  err:benE X [] cs=benE X bf (cs.drop k)
  lst:bf=(cs.take k).getLastD []
  prt:out=(partsD X [] (cs.take k)).flatten
  hm:∀n,hk n↔X.Reach (-1) bf n
  om:∀n,n∈out↔X.Reach (-1) bf n
  bh:∀n∈bf,X.has n=true
  nd:out.Nodup
theorem getLast_snoc{α:Type}(l:List α)(a z:α):(l++[a]).getLastD z=a:=by
  induction l generalizing z with
  |nil=>rfl
  | cons b l ih=>
    have e:(b::(l++[a])).getLastD z=(l++[a]).getLastD b:=by cases l<;>rfl
    exact e.trans (ih b)
theorem parts_snoc{X:PD}{c:List (List UInt8)}:∀(cs:List (List (List UInt8))) (bf:List (List UInt8)),partsD X bf (cs++[c])=partsD X bf cs++[C9 X (X.names.filter λn=>rB X (-1) c n&& !rB X (-1) (cs.getLastD bf) n)]
  | [],bf=>by rw[Lah,partsD,partsD,partsD];rfl
  | d::cs,bf=>by
    have e:(d::cs).getLastD bf=cs.getLastD d:=by cases cs<;>rfl
    rw[Lan,partsD,partsD,parts_snoc cs d,Lan,e]
theorem OrdI.start(h:∀n,¬hk n):OrdI X cs 0 [] [] hk where
  err:=rfl
  lst:=rfl
  prt:=rfl
  hm:=λn=>⟨λh1=>absurd h1 (h n),λh1=>(reach_nil h1).elim⟩
  om:=λn=>⟨λh1=>(by cases h1),λh1=>(reach_nil h1).elim⟩
  bh:=λn h=>(by cases h)
  nd:=Lch
theorem OrdI.e6(h:OrdI X cs k bf out hk)(hc:cs[k]? =some c)(hn:∃n∈c,X.has n=false):benE X [] cs=6:=by
  rw[h.err,drop_at hc];exact ben_6 hn
theorem OrdI.e4(h:OrdI X cs k bf out hk)(hc:cs[k]? =some c)(aa:∀n∈c,X.has n=true)(hn:n∈out)(ab:¬X.Reach (-1) c n):benE X [] cs=4:=by
  rw[h.err,drop_at hc];refine ben_4 aa (Classical.byContradiction λh9=>ab ?_);exact reach_subst (λm hm=>Classical.byContradiction λh8=>h9 ⟨m,hm,h8⟩) ((h.om n).1 hn)
theorem OrdI.next(hI:X.Inv){bf out c kc:List (List UInt8)}{hk hk2:List UInt8->Prop}(h:OrdI X cs k bf out hk)(hc:cs[k]? =some c)(aa:∀n∈c,X.has n=true)(ab:∀n∈out,X.Reach (-1) c n)
    (ad:kc.Nodup) (ac:∀n,n∈kc↔X.Reach (-1) c n) (f:List UInt8->Bool) (hf:∀n,f n=true↔¬hk n) (h2:∀n,hk2 n↔n∈kc):OrdI X cs (k+1) c (out++C9 X (kc.filter f)) hk2:=by
  have ae:∀n∈bf,X.Reach (-1) c n:=λn hn=>by
    obtain⟨D,hD⟩:=Ldl.1 (h.bh n hn);exact ab n ((h.om n).2 (reach_in hI hn hD))
  have ag:(kc.filter f).Perm (X.names.filter λn=>rB X (-1) c n&& !rB X (-1) bf n):=(Lfo (ad.filter _) ((hI.nn▸hI.nd:X.names.Nodup).filter _)).2 λn=>by
    rw[Lb7,Lb7,ac,hf,h.hm,Lap,rB_iff,Lcw,<-Lfw,rB_iff,names_mem hI];exact⟨λh=>⟨reach_P h.1,h⟩,λh=>h.2⟩
  have ah:C9 X (kc.filter f)=C9 X (X.names.filter λn=>rB X (-1) c n&& !rB X (-1) bf n):=isortD_eq ((Ca X _).trans ag) (isortD_sort X _);exact{
    err:=by rw[h.err,drop_at hc,ben_okR aa ae]
    lst:=by rw[take_at hc,getLast_snoc]
    prt:=by rw[take_at hc,parts_snoc,Lcb,<-h.prt,<-h.lst,ah];simp
    hm:=λn=>(h2 n).trans (ac n)
    om:=λn=>by
      rw[La8,(Ca X _).mem_iff,Lb7,ac,hf,h.hm];refine⟨λh9=>h9.elim (ab n) (λh9=>h9.1),λh9=>?_⟩;by_cases h8:X.Reach (-1) bf n
      .exact .inl ((h.om n).2 h8)
      .exact .inr ⟨h9,h8⟩
    bh:=aa
    nd:=Lay.2 ⟨h.nd,(Ca X _).nodup_iff.2 (ad.filter _),λa ha b hb e=>by
      subst e;exact(hf a).1 (Lb7.1 ((Ca X _).mem_iff.1 hb)).2 ((h.hm a).2 ((h.om a).1 ha))⟩ }
theorem OrdI.fin(h:OrdI X cs cs.length bf out hk)(f:List UInt8->Bool)(hf:∀n,f n=true↔¬hk n):benE X [] cs=0/\out++C9 X (X.names.filter f)=ordL X cs/\out.length+(C9 X (X.names.filter f)).length=(ordL X cs).length:=by
  have e1:X.names.filter f=restL X cs:=by
    unfold restL;refine Lgz λn _=>?_;rw[Lei,hf,h.hm,Lcw,<-Lfw,rB_iff,h.lst,Lci]
  have e2:out++C9 X (X.names.filter f)=ordL X cs:=by rw[e1,h.prt,Lci];rfl
  refine⟨?_,e2,by rw[<-e2,La2]⟩;rw[h.err,List.drop_length];rfl
theorem OrdI.len(hI:X.Inv)(h:OrdI X cs cs.length bf out hk):out.length=(Cl X (cs.getLastD [])).length:=by
  have h0:benE X [] cs=0:=by rw[h.err,List.drop_length];rfl
  have h1:=ben_acc hI h0;rw[h.prt,Lci,<-h1,beneath_nil];omega
structure OG where
  k:Nat
  bf:List (List UInt8)
  o:List (List UInt8)
  s:Sl
  bl:List Blk
  m:Nat
  im:List (List UInt8×Int)
def notK(im:List (List UInt8×Int))(n:List UInt8):Bool:=decide (n∉im.map (·.1))
theorem notK_iff{im:List (List UInt8×Int)}(n:List UInt8):notK im n=true↔¬n∈im.map (·.1):=decide_eq_true_iff
structure OG.ok(g:OG)(X:PD)(cs:List (List (List UInt8))):Prop where
  oi:OrdI X cs g.k g.bf g.o (λn=>n∈g.im.map (·.1))
  ki:KI g.im (λn=>n∈g.im.map (·.1))
  acc:Hw.Acc g.s g.bl (Aq g.o) 31 g.o.length 32
theorem OG.ok.len{g:OG}(hI:X.Inv)(h:g.ok X cs):g.o.length<=X.names.length:=nd_len h.oi.nd λn hn=>(names_mem hI n).2 (reach_P ((h.oi.om n).1 hn))
theorem filt_yes(hj:j<L.length)(h:f (L.getD j [])=true):(L.take (j+1)).filter f=(L.take j).filter f++[L.getD j []]:=by
  rw[filter_step hj,if_pos h]
theorem filt_no(hj:j<L.length)(h:¬f (L.getD j [])=true):(L.take (j+1)).filter f=(L.take j).filter f:=by
  rw[filter_step hj,if_neg h,Law]
theorem filt_len:((L.take j).filter f).length<=L.length:=Lbd (Lcz _ _) (by rw[Lac];omega)
theorem acc_one'{k:List UInt8}{E:TypeId}(h:Hw.Acc s bl (Aq l++Aa k) E (l.length+1) 32):Hw.Acc s bl (Aq (l++[k])) E (l++[k]).length 32:=by
  rw[Br,La2,show Aq [k]=Aa k by simp[Aq]];exact h
theorem rd_order(x:RD)(hx:x.ok)(y:DD)(hy:y.ok)(hP:x.P=y.pl.P)(hI:y.pl.Inv)(hO:y.pl.Ord)(p:Nat)(s:Sl)(rs:List Sl)(cs:List (List (List UInt8)))(dz:s.n<=1000):Meets prog 31 [ptr p 0,s.v] [] (λW=>Lies (x.blks p) W/\SeqIs slc 1 HdsIs W s rs cs) (OrdR y.pl cs):=by
 intro W hW;have aa:True:=trivial;have au:True:=trivial;have ac:True:=trivial;have hs:=hW.2;have dr:=hs.nd;have d1:=hy.big;have dt:y.pl.names.length=y.names.length:=rfl;have ci:=rk_names hP hI;have ai:∀l∈y.pl.names,l.length=32:=by rw[ci];exact rkNames_32 hx
 have ar:∀ {L:List (List UInt8)} {n:List UInt8},y.pl.Reach (-1) L n->n.length=32:=λh=>ai _ ((names_mem hI _).2 (reach_P h));refine Ae func31 J 119 ntmps31 J (G11 ?_);refine .eqNilP J J J J underlying53 (G2 ?_);refine .cond_f J J (G5 ?_);refine .call4 J J J J J Body67 (rd_depths x hx y hy hP hI hO p) (λw h=>Bf hW.1 h) ?_;rintro d4 dc ⟨ag,ah,rfl,rfl,cf⟩;refine G10 ?_;refine .mkMap (Ak 32 evI) J J ?_;intro m9;refine G10 ?_;refine .loop (ι:=OG) (λg=>⟨[(0,ptr p 0),(1,s.v),(7, .map (some ag)),(8,g.s.v),(9, .map (some g.m)),(10,i64 (g.k:Int))],(A3 ag (Ak 32 evI) ah::(A3 g.m (Ak 32 evI) g.im::(g.bl++[])))⟩) (λg=>g.k<=s.n/\g.ok y.pl cs) (λg=>s.n-g.k) (⟨0,[],[],Sl.nil,[],m9,[]⟩) ?_ ?_ ?_
 .exact⟨Laf _,OrdI.start (λn h=>(by cases h)),KI.none.iff (λn=>⟨λh=>(by cases h),λh=>h.elim⟩),Acc.none⟩
 .exact Af wN (Ab rM (Ab rM (Ac sG Ad)))
 rintro g ⟨hk,hG⟩;have dy:=hG.len hI;have c8:=hG.acc.num;refine G9 ?_;refine .condP J (λcw=>?_) (λcw=>?_)
 ·
  have c4:g.k<s.n:=by omega
  obtain⟨b,o,r,c,db,hr,hd,c3,dl,cm⟩:=hs.at dE c4;refine G9 ?_;refine .idxSlP 1 J J J db J Y55.h Sz32 g.k J oM (.loadE J J J Y32.h J sP ((by have h9:=cm 0 r.v J;simpa using h9)) ?_);refine .call4 J J J J J Body76 (rd_closure x hx p y.pl hP hI hO r c) (λw h=>⟨Bf hW.1 h,B4 h J c3⟩) ?_;rintro d5 b5 (⟨⟨n9,c7,cu⟩,rfl,rfl⟩|⟨bt,de,kc,rfl,av,da,a1,be⟩)
  ·
   skip;refine G11 ?_;refine .nei J J J J (show(!decide _)=true from congrArg not (decide_eq_false (dE))) (G2 ?_);refine .cond_t J J (G8 ?_);refine G8 ?_;refine Ao (out:=[]) (res_tmp3 J J J J) Ad ?_;exact .inl ⟨6,by decide,hG.oi.e6 hd ⟨n9,c7,by unfold PD.has;rw[cu];rfl⟩,rfl,rfl⟩
  have ay:∀n∈kc,n∈y.pl.names:=λn hn=>(names_mem hI n).2 (reach_P ((be n).1 hn));have an:∀l∈kc,l.length=32:=λl hl=>ai l (ay l hl);have dx:kc.length<=y.pl.names.length:=nd_len a1 ay;have dm:=av.num;have aw:∀n∈c,y.pl.has n=true:=bt;refine G11 ?_;refine .nei J J J J (show(!decide _)=false from congrArg not (decide_eq_true (dE))) (G2 ?_);refine .cond_f J J (G4 ?_);refine .mkMap (Ak 32 evI) J J ?_;intro a6;refine G15 ?_;refine .loop (ι:=Nat×List (List UInt8×Int)×Sl×List Blk) (λr=>⟨[(0,ptr p 0),(1,s.v),(7, .map (some ag)),(8,g.s.v),(9, .map (some g.m)),(10,i64 (g.k:Int)),(11,de.v),(13, .map (some a6)),(14,r.2.2.1.v),(15,i64 (r.1:Int))],(A3 ag (Ak 32 evI) ah::(A3 g.m (Ak 32 evI) g.im::(A3 a6 (Ak 32 evI) r.2.1::(g.bl++(b5++(r.2.2.2++[]))))))⟩) (λr=>r.1<=kc.length/\KI r.2.1 (λn=>n∈kc.take r.1)/\Hw.Acc r.2.2.1 r.2.2.2 (Aq ((kc.take r.1).filter (notK g.im))) 31 ((kc.take r.1).filter (notK g.im)).length 32) (λr=>kc.length-r.1) ((0,[],Sl.nil,[])) ?_ ?_ ?_
  .exact⟨Laf _,KI.none.iff (λn=>by simp),Acc.none⟩
  .exact Af wN (Ab rM (Ab rM (Ab rM (Ac (by repeat(first|exact B9|apply Cj)) (Ac sG (Ac (by repeat(exact C8)) Ad))))))
  rintro⟨j,bg,b7,bi⟩ ⟨hj,ab,ad⟩;simp only at hj ab ad ⊢;have c0:=filt_len (L:=kc) (f:=(notK g.im)) (j:=j);refine G9 ?_;refine .condP J (λcx=>?_) (λcx=>?_)
  ·
   have am:j<kc.length:=by omega
   obtain⟨cc,ak⟩:∃q,q=kc.getD j []:=⟨_,rfl⟩;have aa:cc.length=32:=by rw[ak];exact an _ (Cm am)
   obtain⟨qC,oC,bw,a7⟩:=par_open av oM an;refine G9 ?_;refine .idxSlP 32 J J J bw J Y32.h Sz31 j J oM (.loadSN (n:=32) (Aa cc) J J J Y31.h J Sz31 (by rw[Aa,La0];exact aa) (λw h=>by rw[ak];exact a7 w (Lies.of h (by repeat(first|exact Ap|refine A1 ?_|refine A5 ?_))) j oM) ?_);refine .mapPut (v:=(1:Int)) MI J J J J J aa rM ?_;refine G7 ?_;refine .idxSlP 32 J J J bw J Y32.h Sz31 j J oM (.loadSN (n:=32) (Aa cc) J J J Y31.h J Sz31 (by rw[Aa,La0];exact aa) (λw h=>by rw[ak];exact a7 w (Lies.of h (by repeat(first|exact Ap|refine A1 ?_|refine A5 ?_))) j oM) ?_);refine .lookG evI MI J J J J aa Z2 (λhg=>?_) (λv hg=>?_)
   ·
    have a2:=hG.ki.no hg;refine .eqi J J J J (decide_eq_true (dE)) (G2 ?_);refine .cond_t J J (G4 ?_);refine .idxSlP 32 J J J bw J Y32.h Sz31 j J oM (.loadSN (n:=32) (Aa cc) J J J Y31.h J Sz31 (by rw[Aa,La0];exact aa) (λw h=>by rw[ak];exact a7 w (Lies.of h (by repeat(first|exact Ap|refine A1 ?_|refine A5 ?_))) j oM) ?_);refine .mkRow2 (z:=agg (Aa (List.replicate 32 0))) [agg (Aa cc)] (Aa cc) J J Y32.h Sz31 Bz J J (by intro v hv;rw[La1.1 hv];simp[Value.cells,Aa,aa]) dE (by simp[Value.cells,agg]) ?_;intro d2;refine .appendAcc (n:=((kc.take j).filter (notK g.im)).length) (z:=agg (Aa (List.replicate 32 0))) (by':=32) (Aa cc) J J J J J Y32.h Y32.h Sz31 Bz (by unfold By;kernel_rfl) J ad sG (λw h=>SeesP.of (Ar h Z0)) (λe=>by cases e) (Ay _) oM oM (by rw[Aa,La0,aa]) ?_;intro dh b9 bp;refine G10 ?_;exact⟨(j+1,Bh bg cc 1,dh,b9),⟨by simp only;omega,ab.put aa λn=>by rw[Bt oM,La8,La1,ak],by simp only;rw[filt_yes am (by rw[<-ak];exact(notK_iff cc).2 a2),<-ak];exact acc_one' bp⟩,by simp only;omega,Af wN (Ab rM (Ab rM (Ab rM (Ac sG (Ac sG (Ac sG Ad))))))⟩
   obtain⟨rfl,ax⟩:=hG.ki.yes hg;refine .eqi J J J J (decide_eq_false (dE)) (G2 ?_);refine .cond_f J J (G9 ?_);exact⟨(j+1,Bh bg cc 1,b7,bi),⟨by simp only;omega,ab.put aa λn=>by rw[Bt oM,La8,La1,ak],by simp only;rw[filt_no am (by rw[<-ak];exact λh9=>(notK_iff cc).1 h9 ax)];exact ad⟩,by simp only;omega,Af wN (Ab rM (Ab rM (Ab rM (Ac sG (Ac sG (Ac sG Ad))))))⟩
  have bc:j=kc.length:=by omega
  rw[bc,Lci]at ad;have ab:=ab.iff (T:=λn=>n∈kc) (λn=>by rw[bc,Lci]);have ce:=Lcz (notK g.im) kc;refine G12 ?_;refine .loop (ι:=Nat) (λj=>⟨[(0,ptr p 0),(1,s.v),(7, .map (some ag)),(8,g.s.v),(10,i64 (g.k:Int)),(13, .map (some a6)),(14,b7.v),(16,i64 (j:Int))],(A3 ag (Ak 32 evI) ah::(A3 a6 (Ak 32 evI) bg::(g.bl++(bi++[]))))⟩) (λj=>j<=g.o.length/\∀i,i<j->g.o.getD i []∈kc) (λj=>g.o.length-j) (0) ?_ ?_ ?_
  .exact⟨Laf _,λi hi=>absurd hi (Lcj _)⟩
  .exact Af wN (Ab rM (Ab rM (Ac sG (Ac sG Ad))))
  rintro j ⟨hj,cg⟩;refine G9 ?_;refine .condP J (λcy=>?_) (λcy=>?_)
  ·
   have am:j<g.o.length:=by omega
   obtain⟨oo,bv⟩:∃q,q=g.o.getD j []:=⟨_,rfl⟩;have cj:oo∈g.o:=by rw[bv];exact Cm am
   have bk:∀l∈g.o,l.length=32:=λl hl=>ar ((hG.oi.om l).1 hl);have au:=bk oo cj;obtain⟨qO,oO,c9,cq⟩:=par_open hG.acc oM bk;refine G9 ?_;refine .idxSlP 32 J J J c9 J Y32.h Sz31 j J oM (.loadSN (n:=32) (Aa oo) J J J Y31.h J Sz31 (by rw[Aa,La0];exact au) (λw h=>by rw[bv];exact cq w (Lies.of h (by repeat(first|exact Ap|refine A1 ?_))) j oM) ?_);refine .lookG evI MI J J J J au Z1 (λhg=>?_) (λv hg=>?_)
   ·
    have a2:=ab.no hg;refine .eqi J J J J (decide_eq_true (dE)) (G2 ?_);refine .cond_t J J (G7 ?_);refine G12 ?_;refine Ao (out:=[]) (res_tmp3 J J J J) Ad ?_;exact .inl ⟨4,by decide,hG.oi.e4 hd aw cj (λh9=>a2 ((be oo).2 h9)),rfl,rfl⟩
   obtain⟨rfl,ax⟩:=ab.yes hg;refine .eqi J J J J (decide_eq_false (dE)) (G2 ?_);refine .cond_f J J (G9 ?_);exact⟨j+1,⟨by omega,λi hi=>by rcases Lb4.1 hi with h|rfl;exact cg i h;rw[<-bv];exact ax⟩,by omega,Af wN (Ab rM (Ab rM (Ac sG (Ac sG Ad))))⟩
  have b4:∀n∈g.o,y.pl.Reach (-1) c n:=λn hn=>by
   obtain⟨i,hi,e⟩:=Lb8 hn;have h9:=cg i oM;rw[getD_at hi,e]at h9;exact(be n).1 h9
  refine G15 ?_;refine .call4 J J J J J Body72 (rd_sorted y.pl ag ah b7 (kc.filter (notK g.im)) (λn hn=>cf n (ay n (Lb7.1 hn).1)) oM) (λw h=>⟨Cd h Z0,acc_rows ad (Lies.of h (by repeat(first|exact Ap|refine A1 ?_|refine A5 ?_))) (λl hl=>an l (Lb7.1 hl).1) J oM⟩) ?_;rintro d6 dd ⟨d3,rfl,ap⟩;have bj:=ap.num;have dj:=(Ca y.pl (kc.filter (notK g.im))).length_eq;have b3:∀l∈C9 y.pl (kc.filter (notK g.im)),l.length=32:=λl hl=>an l (Lb7.1 ((Ca y.pl _).mem_iff.1 hl)).1;refine .appendAcc (n:=g.o.length) (z:=agg (Aa (List.replicate 32 0))) (by':=32) (Aq (C9 y.pl (kc.filter (notK g.im)))) J J J J J Y32.h Y32.h Sz31 Bz (by unfold By;kernel_rfl) J hG.acc sG (λw h=>ap.see (Lies.of h (by repeat(exact Ap)))) (λe=>by have:=ap.nil e;omega) (Cu _) oM oM (by rw[As b3,bj]) ?_;intro di cd bq;refine G10 ?_;exact⟨⟨g.k+1,c,g.o++C9 y.pl (kc.filter (notK g.im)),di,cd,a6,bg⟩,⟨by simp only;omega,OrdI.next hI hG.oi hd aw b4 a1 be (notK g.im) notK_iff ab.mem,ab.iff ab.mem,by simp only;rw[Br,La2,<-bj];exact bq⟩,by simp only;omega,Af wN (Ab (by repeat(first|exact A4|apply Bq)) (Ab (by repeat(first|exact A4|apply Bq)) (Ac sG Ad)))⟩
 have c5:g.k=cs.length:=by omega
 refine G20 ?_;refine .call4 J J J J J Body21 (rd_names x hx p) (λw h=>Bf hW.1 h) ?_;rintro d7 b6 ⟨df,rfl,ao⟩;rw[<-ci]at ao;have dq:=ao.num;refine G10 ?_;refine .loop (ι:=Nat×Sl×List Blk) (λr=>⟨[(0,ptr p 0),(1,s.v),(7, .map (some ag)),(8,g.s.v),(9, .map (some g.m)),(17,i64 (g.s.n:Int)),(18,r.2.1.v),(19,df.v),(20,i64 (r.1:Int))],(A3 ag (Ak 32 evI) ah::(A3 g.m (Ak 32 evI) g.im::(g.bl++(b6++(r.2.2++[])))))⟩) (λr=>r.1<=y.pl.names.length/\Hw.Acc r.2.1 r.2.2 (Aq ((y.pl.names.take r.1).filter (notK g.im))) 31 ((y.pl.names.take r.1).filter (notK g.im)).length 32) (λr=>y.pl.names.length-r.1) ((0,Sl.nil,[])) ?_ ?_ ?_
 .exact⟨Laf _,Acc.none⟩
 .exact Af wN (Ab (by repeat(first|exact A4|apply Bq)) (Ab (by repeat(first|exact A4|apply Bq)) (Ac (by repeat(first|exact B9|apply Cj)) (Ac sG (Ac (by repeat(exact C8)) Ad)))))
 rintro⟨j,cp,b8⟩ ⟨hj,ae⟩;simp only at hj ae ⊢;have c0:=filt_len (L:=y.pl.names) (f:=(notK g.im)) (j:=j);refine G9 ?_;refine .condP J (λcz=>?_) (λcz=>?_)
 ·
  have am:j<y.pl.names.length:=by omega
  obtain⟨nn,aq⟩:∃q,q=y.pl.names.getD j []:=⟨_,rfl⟩;have ac:nn.length=32:=by rw[aq];exact ai _ (Cm am)
  obtain⟨qN,oN,cl,bm⟩:=par_open ao oM ai;refine G9 ?_;refine .idxSlP 32 J J J cl J Y32.h Sz31 j J oM (.loadSN (n:=32) (Aa nn) J J J Y31.h J Sz31 (by rw[Aa,La0];exact ac) (λw h=>by rw[aq];exact bm w (Lies.of h (by repeat(first|exact Ap|refine A1 ?_|refine A5 ?_))) j oM) ?_);refine .lookG evI MI J J J J ac Z1 (λhg=>?_) (λv hg=>?_)
  ·
   have a2:=hG.ki.no hg;refine .eqi J J J J (decide_eq_true (dE)) (G2 ?_);refine .cond_t J J (G4 ?_);refine .idxSlP 32 J J J cl J Y32.h Sz31 j J oM (.loadSN (n:=32) (Aa nn) J J J Y31.h J Sz31 (by rw[Aa,La0];exact ac) (λw h=>by rw[aq];exact bm w (Lies.of h (by repeat(first|exact Ap|refine A1 ?_|refine A5 ?_))) j oM) ?_);refine .mkRow2 (z:=agg (Aa (List.replicate 32 0))) [agg (Aa nn)] (Aa nn) J J Y32.h Sz31 Bz J J (by intro v hv;rw[La1.1 hv];simp[Value.cells,Aa,ac]) dE (by simp[Value.cells,agg]) ?_;intro du;refine .appendAcc (n:=((y.pl.names.take j).filter (notK g.im)).length) (z:=agg (Aa (List.replicate 32 0))) (by':=32) (Aa nn) J J J J J Y32.h Y32.h Sz31 Bz (by unfold By;kernel_rfl) J ae sG (λw h=>SeesP.of (Ar h Z0)) (λe=>by cases e) (Ay _) oM oM (by rw[Aa,La0,ac]) ?_;intro cn bn a8;refine G10 ?_;exact⟨(j+1,cn,bn),⟨by simp only;omega,by simp only;rw[filt_yes am (by rw[<-aq];exact(notK_iff nn).2 a2),<-aq];exact acc_one' a8⟩,by simp only;omega,Af wN (Ab rM (Ab rM (Ac sG (Ac sG (Ac sG Ad)))))⟩
  obtain⟨rfl,ax⟩:=hG.ki.yes hg;refine .eqi J J J J (decide_eq_false (dE)) (G2 ?_);refine .cond_f J J (G9 ?_);exact⟨(j+1,cp,b8),⟨by simp only;omega,by simp only;rw[filt_no am (by rw[<-aq];exact λh9=>(notK_iff nn).1 h9 ax)];exact ae⟩,by simp only;omega,Af wN (Ab rM (Ab rM (Ac sG (Ac sG (Ac sG Ad)))))⟩
 have bc:j=y.pl.names.length:=by omega
 rw[bc,Lci]at ae;have ce:=Lcz (notK g.im) y.pl.names;refine G10 ?_;refine .call4 J J J J J Body72 (rd_sorted y.pl ag ah cp (y.pl.names.filter (notK g.im)) (λn hn=>cf n (Lb7.1 hn).1) oM) (λw h=>⟨Cd h Z0,acc_rows ae (Lies.of h (by repeat(first|exact Ap|refine A1 ?_|refine A5 ?_))) (λl hl=>ai l (Lb7.1 hl).1) J oM⟩) ?_;rintro dw ct ⟨dv,rfl,aj⟩;have az:=aj.num;have c6:=(Ca y.pl (y.pl.names.filter (notK g.im))).length_eq;have bz:∀l∈C9 y.pl (y.pl.names.filter (notK g.im)),l.length=32:=λl hl=>ai l (Lb7.1 ((Ca y.pl _).mem_iff.1 hl)).1;refine .appendAcc (n:=g.o.length) (z:=agg (Aa (List.replicate 32 0))) (by':=32) (Aq (C9 y.pl (y.pl.names.filter (notK g.im)))) J J J J J Y32.h Y32.h Sz31 Bz (by unfold By;kernel_rfl) J hG.acc sG (λw h=>aj.see (Lies.of h (by repeat(exact Ap)))) (λe=>by have:=aj.nil e;omega) (Cu _) oM oM (by rw[As bz,az]) ?_;intro co bo ba;refine G6 ?_;refine G2 ?_;refine Ao (out:=(bo++[])) (res_tmp3 J J J J) (Ac sG Ad) ?_;have bu:=hG.oi;rw[c5]at bu;obtain⟨f1,f2,f3⟩:=bu.fin (notK g.im) notK_iff;have f4:=bu.len hI;exact .inr ⟨f1,co,by rw[c8,f4],by rw[<-f2,Br,f2,<-f3,<-az];simpa using ba⟩
def chkE(X:PD):List (List UInt8)->List (List UInt8)->Int
  |_,[]=>0
  | bf,n::ls=>match An X.P n with
    |none=>6
    |some D=>if n∈bf then 2 else if((Bj D).any λm=>decide (m∉bf))=true then 4 else chkE X (bf++[n]) ls
theorem chk_6(h:An X.P n=none):chkE X bf (n::ls)=6:=by rw[chkE,h]
theorem chk_2(h:An X.P n=some D)(h2:n∈bf):chkE X bf (n::ls)=2:=by rw[chkE,h];exact if_pos h2
theorem chk_4(h:An X.P n=some D)(h2:n∉bf)(h3:∃m∈Bj D,m∉bf):chkE X bf (n::ls)=4:=by
  obtain⟨m,hm,h4⟩:=h3;rw[chkE,h];exact(if_neg h2).trans (if_pos (Lc2.2 ⟨m,hm,decide_eq_true h4⟩))
theorem chk_0(h:An X.P n=some D)(h2:n∉bf)(h3:∀m∈Bj D,m∈bf):chkE X bf (n::ls)=chkE X (bf++[n]) ls:=by
  rw[chkE,h];refine(if_neg h2).trans (if_neg λh4=>?_);obtain⟨m,hm,h5⟩:=Lc2.1 h4;exact of_decide_eq_true h5 (h3 m hm)
def comL:List (List UInt8)->List (List UInt8)->Nat
  |a::l,b::m=>if a=b then comL l m+1 else 0
  |_,_=>0
theorem com_at:∀ {l m:List (List UInt8)} {k:Nat},l.take k=m.take k->k<l.length->k<m.length->l.getD k []≠m.getD k []->comL l m=k
  | a::l,b::m,0,_,_,_,h=>by
    rw[comL];exact if_neg h
  | a::l,b::m,k+1,ht,h1,h2,h=>by
    rw[Ldi,Ldi]at ht;obtain⟨h3,h4⟩:=List.cons.inj ht;rw[comL];exact(if_pos h3).trans (congrArg (· +1) (com_at h4 (by simpa using h1) (by simpa using h2) (by simpa using h)))
  | [],_,_,_,h,_,_=>absurd h (Lcj _)
  |_::_,[],_,_,_,h,_=>absurd h (Lcj _)
theorem com_all:∀ {l m:List (List UInt8)},l.take (min l.length m.length)=m.take (min l.length m.length)->comL l m=min l.length m.length
  | a::l,b::m,h=>by
    rw[Lax,Lax,Nat.add_min_add_right,Ldi,Ldi]at h;obtain⟨h3,h4⟩:=List.cons.inj h;rw[comL,Lax,Lax,Nat.add_min_add_right];exact(if_pos h3).trans (congrArg (· +1) (com_all h4))
  | [],m,_=>by rw[Lew,Nat.zero_min];rfl
  |_::_,[],_=>rfl
theorem miss_1(n:List UInt8)(aa:n.length=32)(q m:Nat)(fs:List (List UInt8×Unit)):Mv 77 [agg (Aa n),ptr q 0] (λW=>W.cell? ⟨q,0,none⟩=some (.map (some m))/\BlkOk W (A3 m (Ak 32 evU) fs)) (.bool (An fs n).isNone):=by
 intro W hW;refine Ae func77 J 8 ntmps77 J (G3 ?_);intro n2 ac ab;refine G5 ?_;refine .loadE J J J Y119.h J sP (hW.1) (.lA J J J Y31.h J Sz31 Z0 (by(simp[aa];done)) ?_);refine .cV J J J J Body75 (lin_has m fs n aa) (λw h2=>mblk_keep hW.2 h2) (G4 ?_);refine G2 ?_;refine Ao (out:=[]) (Ag J J) Ad ?_;exact⟨congrArg Value.bool (by cases An fs n<;>rfl),rfl⟩
theorem index_miss(s:Sl)(ls:List (List UInt8))(q m:Nat)(fs:List (List UInt8×Unit)):Mv 113 [s.v, .func (.func 77) #[] #[ptr q 0]] (λW=>RowsAt W s 32 ls/\W.cell? ⟨q,0,none⟩=some (.map (some m))/\BlkOk W (A3 m (Ak 32 evU) fs)) (i64 (fstBad (λn=>(An fs n).isNone) ls)):=by
 intro W hW;have ad:=hW.1.len;have aa:=hW.1.row;have ae:=hW.1.max;simp only[maxLen]at ae;have aj:=hW.1.cap;refine Ae func113 J 19 ntmps113 J (G14 ?_);refine .loop (ι:=Nat) (λk=>⟨[(0,s.v),(1, .func (.func 77) #[] #[ptr q 0]),(7,i64 (s.n:Int)),(8,i64 (k:Int))],[]⟩) (λk=>k<=s.n/\∀j,j<k->(ls.map (λn=>(An fs n).isNone))[j]? =some false) (λk=>s.n-k) (0) ?_ ?_ ?_
 .exact⟨by omega,λj hj=>by omega⟩
 .exact Ah wN wh0 nD
 rintro k ⟨hk,hg⟩;refine G6 ?_;refine .condP J (λai=>?_) (λai=>?_)
 ·
  have ak:k<s.n:=by omega
  obtain⟨b,o,ag,ah⟩:=hW.1.see.at (by rw[As aa];omega);have ab:(ls.getD k []).length=32:=Bn aa oM;have hd:ls[k]? =some (ls.getD k []):=by rw[La3,La4 (show k<ls.length by omega)];rfl
  refine G15 ?_;refine .idxSlP 32 J J J ag J Y32.h Sz31 k oM oM (.loadEN (Aa (ls.getD k [])) J J J Y31.h J Sz31 sP (by rw[Aa,La0];exact ab) (Bk aa ah oM) ?_);refine .callCV J J J J J Body77 (miss_1 (ls.getD k []) ab q m fs) (λw h2=>⟨h2.keeps.cell sP hW.2.1,mblk_keep hW.2.2 h2⟩) (G2 ?_);refine .cond J (λac=>?_) (λac=>?_)
  ·
   refine G6 ?_;refine G7 ?_;refine⟨_,[],Ag J J,sP,sP,?_,rfl⟩;exact congrArg i64 (fstBad_at hg (by rw[Lad,hd];simpa using ac)).symm
  refine G8 ?_;exact⟨k+1,⟨by omega,λj hj=>by rcases Lb4.1 hj with h|rfl;exact hg j h;rw[Lad,hd];simpa using ac⟩,by omega,Ah wN wh0 nD⟩
 obtain rfl:k=s.n:=by omega
 refine G10 ?_;refine G2 ?_;refine⟨_,[],Ag J J,sP,sP,?_,rfl⟩;exact congrArg i64 (fstBad_none (by intro j hj;exact hg j (by rw[ad]at hj;exact hj))).symm
theorem contains_miss(s:Sl)(ls:List (List UInt8))(q m:Nat)(fs:List (List UInt8×Unit)):Mv 78 [s.v, .func (.func 77) #[] #[ptr q 0]] (λW=>RowsAt W s 32 ls/\W.cell? ⟨q,0,none⟩=some (.map (some m))/\BlkOk W (A3 m (Ak 32 evU) fs)) (.bool (ls.any (λn=>(An fs n).isNone))):=by
 intro W hW;refine Ae func78 J 9 ntmps78 J (G9 ?_);refine .cV J J J J Body113 (index_miss s ls q m fs) (λw h2=>⟨B4 h2 J hW.1,h2.keeps.cell sP hW.2.1,mblk_keep hW.2.2 h2⟩) (G4 ?_);refine G2 ?_;refine⟨_,[],Ag J J,sP,sP,?_,rfl⟩;exact congrArg Value.bool (fstBad_ge _ _)
theorem lin_check(x:DD)(hx:x.ok)(hI:x.pl.Inv)(p:Nat)(s:Sl)(ls:List (List UInt8)):Mv 34 [ptr p 0,s.v] (λW=>Lies (x.blks p) W/\RowsAt W s 32 ls) (i64 (chkE x.pl [] ls)):=by
 intro W hW;have ab:True:=trivial;obtain⟨ad,ak⟩:=id hW;have aq:∀q∈x.P,q.2.check=0:=hI.ck;have ap:∀q∈x.P,q.2.ls.length<=16:=λq hq=>(ck_small (aq q hq)).1;have bg:=ak.len;have ah:=ak.row;have ar:=ak.max;simp only[maxLen]at ar;refine Ae func34 J 43 ntmps34 J (G9 ?_);refine .cV J J J J Body64 (lin_none x hx ap p) (λw h=>Bf ad h) (G2 ?_);refine .cond_f J J (G4 ?_);refine .mkMap (Ak 32 evU) J J ?_;intro ai;refine .alloc (cs:=[.map none]) J Zr119 J ?_;intro n5 bo bk;refine .s1 J J J J J Sz119 Z0 sP (by rfl) zU ?_;refine G17 ?_;refine .loop (ι:=Nat×List (List UInt8×Unit)) (λr=>⟨[(0,ptr p 0),(4,i64 0),(5,ptr n5 0),(6, .func (.func 77) #[] #[ptr n5 0]),(15,s.v),(16,i64 (s.n:Int)),(17,i64 (r.1:Int))],[A3 ai (Ak 32 evU) r.2,⟨n5,[.map (some ai)],119,1⟩]⟩) (λr=>r.1<=s.n/\(∀n,n∈r.2.map (·.1)↔n∈ls.take r.1)/\chkE x.pl [] ls=chkE x.pl (ls.take r.1) (ls.drop r.1)) (λr=>s.n-r.1) ((0,[])) ?_ ?_ ?_
 .exact⟨Laf _,λn=>by simp,rfl⟩
 .exact Af wN (Ab rM (Ab rM Ad))
 rintro⟨k,fs⟩ ⟨hk,aa,ac⟩;simp only at hk aa ac ⊢;refine G6 ?_;refine .condP J (λaz=>?_) (λaz=>?_)
 ·
  have bn:k<s.n:=by omega
  have an:k<ls.length:=by omega
  obtain⟨b,o,ax,ay⟩:=ak.see.at (by rw[As ah];omega);have ab:(ls.getD k []).length=32:=Bn ah oM;have aj:ls.drop k=ls.getD k []::ls.drop (k+1):=drop_at (by rw[La3,La4 an];rfl);refine G6 ?_;refine .idxSlP 32 J J J ax J Y32.h Sz31 k J oM (.loadEN (Aa (ls.getD k [])) J J J Y31.h J Sz31 sP (by rw[Aa,La0];exact ab) (Bk ah ay oM) ?_);refine .alloc (cs:=(Aa (List.replicate 32 0))) J Bz J ?_;intro n8 bp bm;refine .sA J J J J zE Sz31 (by(rw[Aa,La0];assumption)) Z0 sP zU ?_;refine G5 ?_;refine .lA J J J Y31.h J Sz31 Z0 (by(rw[Aa,La0];assumption)) ?_;refine .call4 J J J J J Body9 (dag_get x hx aq p (ls.getD k []) ab) (λw h=>Bf ad h) ?_;rintro bq a8 (⟨h0,rfl,rfl⟩|⟨D,B,hD,hB,rfl,aw⟩)
  ·
   skip;refine G3 ?_;refine .alloc (cs:=Block.zero.cells) J Block.zr J ?_;intro n9 a6 a1;refine G9 ?_;refine .nei J J J J (show(!decide _)=true from congrArg not (decide_eq_false dE)) (G3 ?_);refine .cond_t J J (G5 ?_);refine G9 ?_;refine⟨_,[],Ag J J,sP,sP,?_,rfl⟩;rw[ac,aj,chk_6 h0]
  have be:D.ls.length<=16:=ap _ (Bi hD);have bj:(Bj D).length<=17:=by have:=parL_len D;omega
  have ao:∀l∈Bj D,l.length=32:=parL_row (hB_ok hx ad hD);refine G3 ?_;refine .alloc (cs:=Block.zero.cells) J Block.zr J ?_;intro n9 a6 a1;refine .sA J J J J (Block.isCell (by exact hB.ok)) Sz37 (Block.length (by exact hB.ok)) Z0 (Block.length (by exact Block.zero_ok)) zU ?_;refine G8 ?_;refine .nei J J J J (show(!decide _)=false from congrArg not (decide_eq_true (rfl))) (G3 ?_);refine .cond_f J J (G3 ?_);refine .lA J J J Y31.h J Sz31 mR (by(rw[Aa,La0];assumption)) ?_;refine .cV J J J J Body75 (lin_has ai fs (ls.getD k []) ab) (λw h=>Cd h mR) ?_;refine G3 ?_;refine .cond J (λag=>?_) (λag=>?_)
  ·
   refine G5 ?_;refine G9 ?_;refine⟨_,[],Ag J J,sP,sP,?_,rfl⟩;rw[ac,aj,chk_2 hD ((aa _).1 (is_key ag))]
  refine G2 ?_;refine .lA J J J Y37.h J Sz37 Z0 (Block.length (by exact hB.ok)) ?_;refine .call4 J J J J J Body58 (db_parA B D oM) (λw h=>aw w (Lies.of h (by repeat(first|exact Ap|refine A1 ?_)))) ?_;rintro bt ba ⟨⟨bc,au,av⟩,rfl,ae⟩;have bi:au=(Bj D).length:=ae.num;refine G1 ?_;refine .cV J J J J Body78 (contains_miss ⟨bc,au,av⟩ (Bj D) n5 ai fs) (λw h=>⟨acc_rows ae (Lies.of h (by repeat(exact Ap))) ao J oM,(Cd (B:=⟨n5,[.map (some ai)],119,1⟩) h mR).cell (o:=0) J,Cd h mR⟩) ?_;refine G3 ?_;refine .cond J (λam=>?_) (λam=>?_)
  ·
   refine G5 ?_;refine G9 ?_;refine⟨_,[],Ag J J,sP,sP,?_,rfl⟩;obtain⟨m9,a2,a7⟩:=some_any am;rw[ac,aj,chk_4 hD (λh9=>not_key (by simpa using ag) ((aa _).2 h9)) ⟨m9,a2,λh9=>a7 ((aa _).2 h9)⟩]
  refine G5 ?_;refine .lA J J J Y31.h J Sz31 mR (by(rw[Aa,La0];assumption)) ?_;refine .build (cs:=[]) J J J (λw=>by kernel_rfl) ?_;refine .mapPut (v:=()) MN J J J J J ab rM ?_;refine G8 ?_;refine⟨(k+1,Bh fs (ls.getD k []) ()),⟨by simp only;omega,λn=>?_,?_⟩,by simp only;omega,Af (wk1 J (wk1 J (wk1 J (wk1 J (wk1 J (wk1 J (wk1 (by rw[Lcd];rfl) wk0))))))) (Ab rM (Ab rM Ad))⟩
  .simp only;rw[keysP_put (by simpa using ag),Bt an,La8,La8,aa n]
  .simp only;rw[ac,aj,chk_0 hD (λh9=>not_key (by simpa using ag) ((aa _).2 h9)) (λm hm=>(aa m).1 (none_any am m hm)),Bt an]
 rw[Lao oM]at ac;refine G10 ?_;refine G2 ?_;refine⟨_,[],Ag J J,sP,sP,?_,rfl⟩;rw[ac];rfl
theorem lin_common(s t:Sl)(xs ys:List (List UInt8)):Mv 36 [s.v,t.v] (λW=>RowsAt W s 32 xs/\RowsAt W t 32 ys) (i64 (comL xs ys:Int)):=by
 intro W hW;have ab:=hW.1.row;have ac:=hW.2.row;have ad:=hW.1.len;have ae:=hW.2.len;have ag:=hW.1.max;simp only[maxLen]at ag;refine Ae func36 J 30 ntmps36 J (G12 ?_);refine .min2 J J J J (congrArg i64 (show(if(t.n:Int)<(s.n:Int)then(t.n:Int)else(s.n:Int))=((min s.n t.n:Nat):Int)from(by split<;>omega))) ?_;refine G4 ?_;refine .loop (ι:=Nat) (λk=>⟨[(0,s.v),(1,t.v),(4,i64 0),(10,i64 ((min s.n t.n:Nat):Int)),(11,i64 (k:Int))],[]⟩) (λk=>k<=min s.n t.n/\xs.take k=ys.take k) (λk=>min s.n t.n-k) (0) ?_ ?_ ?_
 .exact⟨Laf _,rfl⟩
 .exact Ah wN wh0 nD
 rintro k ⟨hk,hg⟩;refine G6 ?_;refine .condP J (λah=>?_) (λah=>?_)
 ·
  have am:k<min s.n t.n:=by omega
  obtain⟨b1,o1,hp1,aj⟩:=hW.1.see.at (by rw[As ab];omega);obtain⟨b2,o2,ai,ak⟩:=hW.2.see.at (by rw[As ac];omega);have r1:(xs.getD k []).length=32:=Bn ab oM;have r2:(ys.getD k []).length=32:=Bn ac oM;refine G11 ?_;refine .draw (oPq [0,1,2,103,4,5,6,107,8]) Au zK (G2 ?_);refine .idxSlP 32 J J J hp1 J Y32.h Sz31 k J oM (.loadEN (Aa (xs.getD k [])) J J J Y31.h J Sz31 sP (by rw[Aa,La0];exact r1) (Bk ab aj oM) ?_);refine G2 ?_;refine .idxSlP 32 J J J ai J Y32.h Sz31 k J oM (.loadEN (Aa (ys.getD k [])) J J J Y31.h J Sz31 sP (by rw[Aa,La0];exact r2) (Bk ac ak oM) ?_);refine .neq_bytes J J J J eqGuardType31 Y31.h Y5.h Sz5 zA zA J ?_;refine G2 ?_;refine .condNP J (λaa=>?_) (λaa=>?_)
  ·
   refine G6 ?_;refine G7 ?_;refine⟨_,[],Ag J J,sP,sP,?_,rfl⟩;rw[com_at hg oM oM aa]
  refine G8 ?_;exact⟨k+1,⟨by omega,take_step [] oM oM hg aa⟩,by omega,Ah wN wh0 nD⟩
 obtain rfl:k=min s.n t.n:=by omega
 refine G11 ?_;refine .min2 J J J J (congrArg i64 (show(if(t.n:Int)<(s.n:Int)then(t.n:Int)else(s.n:Int))=((min s.n t.n:Nat):Int)from(by split<;>omega))) ?_;refine G3 ?_;refine G2 ?_;refine⟨_,[],Ag J J,sP,sP,?_,rfl⟩;rw[com_all (by rw[ad,ae];exact hg),ad,ae]
theorem index_dig(s:Sl)(ls:List (List UInt8))(n:List UInt8)(ad:n.length=32):Mv 68 [s.v,agg (Aa n)] (λW=>RowsAt W s 32 ls) (i64 (fstBad (λm=>decide (n=m)) ls)):=by
 intro W hW;have ab:True:=trivial;have ae:=hW.len;have aa:=hW.row;have ag:=hW.max;simp only[maxLen]at ag;refine Ae func68 J 19 ntmps68 J (G3 ?_);intro n3 an ak;refine G12 ?_;refine .loop (ι:=Nat) (λk=>⟨[(0,s.v),(3,ptr n3 0),(7,i64 (s.n:Int)),(8,i64 (k:Int))],[⟨n3,Aa n,31,(Aa n).length⟩]⟩) (λk=>k<=s.n/\∀j,j<k->(ls.map (λm=>decide (n=m)))[j]? =some false) (λk=>s.n-k) (0) ?_ ?_ ?_
 .exact⟨by omega,λj hj=>by omega⟩
 .exact Ah wN (wh1 Z0 wh0) nD
 rintro k ⟨hk,hg⟩;refine G6 ?_;refine .condP J (λaj=>?_) (λaj=>?_)
 ·
  have am:k<s.n:=by omega
  obtain⟨b,o,ah,ai⟩:=hW.see.at (by rw[As aa];omega);have ab:(ls.getD k []).length=32:=Bn aa oM;have hd:ls[k]? =some (ls.getD k []):=by rw[La3,La4 (show k<ls.length by omega)];rfl
  refine G11 ?_;refine .draw (oPq [100,1,2,3,104,5]) Au zK (.lA J J J Y31.h J Sz31 Z0 (by(simp[ad];done)) ?_);refine G2 ?_;refine .idxSlP 32 J J J ah J Y32.h Sz31 k J oM (.loadEN (Aa (ls.getD k [])) J J J Y31.h J Sz31 sP (by rw[Aa,La0];exact ab) (Bk aa ai oM) ?_);refine .eql_bytes J J J J eqGuardType31 Y31.h Y5.h Sz5 (by(simp[ad];done)) zA J ?_;refine G2 ?_;refine .condP J (λac=>?_) (λac=>?_)
  ·
   refine G6 ?_;refine G7 ?_;refine⟨_,[],Ag J J,sP,sP,?_,rfl⟩;exact congrArg i64 (fstBad_at hg (by rw[Lad,hd];simpa using ac)).symm
  refine G8 ?_;exact⟨k+1,⟨by omega,λj hj=>by rcases Lb4.1 hj with h|rfl;exact hg j h;rw[Lad,hd];simpa using ac⟩,by omega,Ah wN (wh1 Z0 wh0) nD⟩
 obtain rfl:k=s.n:=by omega
 refine G10 ?_;refine G2 ?_;refine⟨_,[],Ag J J,sP,sP,?_,rfl⟩;exact congrArg i64 (fstBad_none (by intro j hj;exact hg j (by rw[ae]at hj;exact hj))).symm
theorem lin_place(s:Sl)(ls:List (List UInt8))(n:List UInt8)(aa:n.length=32):Mv 25 [s.v,agg (Aa n)] (λW=>RowsAt W s 32 ls) (i64 (fstBad (λm=>decide (n=m)) ls)):=by
 intro W hW;refine Ae func25 J 8 ntmps25 J (G3 ?_);intro n3 ac ab;refine G6 ?_;refine .lA J J J Y31.h J Sz31 Z0 (by(simp[aa];done)) ?_;refine .cV J J J J Body68 (index_dig s ls n aa) (λw h=>B4 h J hW) (G3 ?_);refine G2 ?_;refine⟨_,[],Ag J J,sP,sP,?_,rfl⟩;rfl
section
variable{C:Cx}{ops:Array Oper}{rest:List (Nat×Oper)}{sl:List (Nat×Value)}{hp:List Blk}{Q:St->Prop}{c d:Nat}{ty:TypeId}{pos:String}{af:Array Edge}{g:Option (Nat×Bool)}
theorem Tr.sliceHM{x hi mx:Operand}{T E:TypeId}{kh km:IntKind}{h m:Int}{sz:Nat}(s:Sl)(j:Nat)(hg:Al ops sl g=true)(hk:okD c d C.N=true)(hx:Ai sl x=some s.v)(hh:Ai sl hi=some (.int kh h))(hm:Ai sl mx=some (.int km m))(hj:h=j)(ht:m=j)(ab:j<=s.c)
    (hu:C.P.underlying T=some (.slice E)) (hs:Sz C.P E sz)
    (k:Tr C ops rest ⟨(d,Sl.v ⟨s.p,j,j⟩)::sl,hp⟩ Q):Tr C ops ((c,⟨some d, .slice T x none (some hi) (some mx),ty,pos,af,g⟩)::rest) ⟨sl,hp⟩ Q:=
  .pv hg hk ⟨by simpa[Known,Op.operands]using known3 hx hh hm,λρ aa w=>by
    have h1:=aa x (by simp[Op.operands]);rw[hx]at h1;have h3:=aa hi (by simp[Op.operands]);rw[hh]at h3;have h4:=aa mx (by simp[Op.operands]);rw[hm]at h4;simp only[La7]at h1 h3 h4;subst hj;subst ht;obtain⟨p,n,cap⟩:=s;simp only[Sl.v]at h1 ab ⊢;by_cases e:j=0
    . subst e
      simp[execOp,Instr.sliceAt,Instr.slice,<-h1,<-h3,<-h4,run_underlying hu,Instr.sliceBounds,Instr.sliceBound,asIntOf,Ch hs,Addr.add]
    . have e2:(p.map λa=>a.add 0)=p:=by cases p<;>simp[Addr.add]
      simp[execOp,Instr.sliceAt,Instr.slice,<-h1,<-h3,<-h4,run_underlying hu,Instr.sliceBounds,Instr.sliceBound,asIntOf,Ch hs,e,ab,e2]⟩ k
end
def BenW(X:PD)(cs:List (List (List UInt8)))(v:Value)(out:List Blk):Prop:=
  (∃e,e≠0/\benE X [] cs=e/\v= .tuple #[.slice none 0 0,i64 e]/\out=[])
  \/benE X [] cs=0/\∃s:Sl,v= .tuple #[s.v,i64 0]/\s.n=(Cl X (cs.getLastD [])).length/\∀w,Lies out w->SeesP w s.p (Aq ((ordL X cs).take (Cl X (cs.getLastD [])).length))
theorem ben_len{X:PD}(hI:X.Inv)(L:List (List UInt8)):(Cl X L).length<=X.names.length:=by
  unfold Cl;rw[hI.nn];exact Lcz _ _
theorem com_leR(a b:List (List UInt8)):comL a b<=a.length/\comL a b<=b.length/\a.take (comL a b)=b.take (comL a b)/\(comL a b<a.length->comL a b<b.length->a.getD (comL a b) []≠b.getD (comL a b) []):=by
  induction a generalizing b with
  |nil=>exact⟨Lag _,Laf _,by rw[show comL [] b=0 from rfl,Ld8,Ld8],λh=>absurd h (Lh5 0)⟩
  | cons x a ih=>
    cases b with
    |nil=>exact⟨Laf _,Lag _,rfl,λ_ h=>absurd h (Lh5 0)⟩
    | cons y b=>
      obtain⟨h1,h2,h3,h4⟩:=ih b;by_cases h:x=y
      . have e:comL (x::a) (y::b)=comL a b+1:=by rw[comL];exact if_pos h
        rw[e];refine⟨Nat.succ_le_succ h1,Nat.succ_le_succ h2,by rw[Ldi,Ldi,h3,h],λg1 g2=>?_⟩;have:=h4 (Lgd g1) (Lgd g2);simpa using this
      . have e:comL (x::a) (y::b)=0:=by rw[comL];exact if_neg h
        rw[e];exact⟨Laf _,Laf _,by rw[Ld8,Ld8],λ_ _=>h⟩
theorem com_eqR(a b:List (List UInt8)):(a=b)↔(comL a b=a.length/\comL a b=b.length):=by
  obtain⟨h1,h2,h3,h4⟩:=com_leR a b;constructor
  . rintro rfl
    have h5:=h4;by_cases h:comL a a<a.length
    .exact absurd rfl (h4 h h)
    .omega
  . rintro⟨h5,h6⟩
    rw[h5]at h3;rw[La5 (Lag _),La5 oM]at h3;exact h3
theorem com_end{xs ys:List (List UInt8)}{k:Nat}(h:xs.take k=ys.take k)(h1:k<=xs.length)(h2:k<=ys.length)(h3:k=xs.length\/k=ys.length):comL xs ys=k:=by
  have e:min xs.length ys.length=k:=by omega
  rw[com_all (by rw[e];exact h),e]
theorem rd_ben(x:RD)(hx:x.ok)(y:DD)(hy:y.ok)(hP:x.P=y.pl.P)(hI:y.pl.Inv)(hO:y.pl.Ord)(p:Nat)(s:Sl)(rs:List Sl)(cs:List (List (List UInt8)))(ah:s.n<=1000):Meets prog 33 [ptr p 0,s.v] [] (λW=>Lies (x.blks p) W/\SeqIs slc 1 HdsIs W s rs cs) (BenW y.pl cs):=by
 intro W hW;have ai:=hy.big;have am:y.pl.names.length=y.names.length:=rfl;have ae:∀l∈ordL y.pl cs,l.length=32:=λl hl=>hy.n32 l (ordL_names l hl);refine Ae func33 J 23 ntmps33 J (G10 ?_);refine .call4 J J J J J Body31 (rd_order x hx y hy hP hI hO p s rs cs ah) (λw h=>⟨Bf hW.1 h,hW.2.ext h J λr d hd=>B4 h J hd⟩) ?_;rintro ap ac (⟨e,ad,ab,rfl,rfl⟩|⟨ab,ag,rfl,aa⟩)
 ·
  skip;refine G13 ?_;refine .nei J J J J (show(!decide _)=true from congrArg not (decide_eq_false (ad))) (G2 ?_);refine .cond_t J J (G7 ?_);refine G3 ?_;refine Ao (out:=[]) (Bm J J J) Ad ?_;exact .inl ⟨e,ad,ab,rfl,rfl⟩
 have ao:=ben_ord hI ab;have ak:=aa.num;have aj:=aa.cap;have an:=ben_len hI (cs.getLastD []);refine G13 ?_;refine .nei J J J J (show(!decide _)=false from congrArg not (decide_eq_true (rfl))) (G2 ?_);refine .cond_f J J (G7 ?_);refine Tr.sliceHM ag (Cl y.pl (cs.getLastD [])).length J J J J J J J oM Y32.h Sz31 (G4 ?_);refine G2 ?_;refine Ao (out:=(ac++[])) (Bm J J J) (Ac sG Ad) ?_;exact .inr ⟨ab,⟨ag.p,_,_⟩,rfl,rfl,λw hw=>rows_take (aa.see (by simpa using hw)) ae⟩
theorem rd_check(x:RD)(hx:x.ok)(y:DD)(hy:y.ok)(hP:x.P=y.pl.P)(hI:y.pl.Inv)(hO:y.pl.Ord)(p:Nat)(s:Sl)(ls:List (List UInt8)):Mv 35 [ptr p 0,s.v] (λW=>Lies (x.blks p) W/\RowsAt W s 32 ls) (i64 (chkE y.pl [] ls)):=by
 intro W hW;have aa:True:=trivial;have ac:True:=trivial;have bm:=hW.2.len;have ab:=hW.2.row;have av:=hW.2.max;simp only[maxLen]at av;have ar:∀q∈y.pl.P,q.2.check=0:=hI.ck;have bg:=rk_names hP hI;have ap:∀l∈y.pl.names,l.length=32:=by rw[bg];exact rkNames_32 hx
 refine Ae func35 J 59 ntmps35 J (G9 ?_);refine .eqNilP J J J J underlying53 (G2 ?_);refine .cond_f J J (G4 ?_);refine .mkMap (Ak 32 evI) J J ?_;intro m5;refine G10 ?_;refine .loop (ι:=Nat×List (List UInt8×Int)) (λr=>⟨[(0,ptr p 0),(1,s.v),(5, .map (some m5)),(6,i64 (r.1:Int))],[A3 m5 (Ak 32 evI) r.2]⟩) (λr=>r.1<=s.n/\KI r.2 (λn=>n∈ls.take r.1)/\chkE y.pl [] ls=chkE y.pl (ls.take r.1) (ls.drop r.1)) (λr=>s.n-r.1) ((0,[])) ?_ ?_ ?_
 .exact⟨Laf _,KI.none.iff (λn=>by simp),rfl⟩
 .exact Af wN (Ab rM Ad)
 rintro⟨k,im⟩ ⟨hk,ae,ad⟩;simp only at hk ae ad ⊢;refine G9 ?_;refine .condP J (λa6=>?_) (λa6=>?_)
 ·
  have bn:k<s.n:=by omega
  obtain⟨b,o,ak,am⟩:=hW.2.see.at (by rw[As ab];omega);have aa:(ls.getD k []).length=32:=Bn ab oM;have ah:ls.drop k=ls.getD k []::ls.drop (k+1):=drop_at (by rw[La3,La4 (show k<ls.length by omega)];rfl);refine G9 ?_;refine .idxSlP 32 J J J ak J Y32.h Sz31 k J oM (.loadEN (Aa (ls.getD k [])) J J J Y31.h J Sz31 sP (by rw[Aa,La0];exact aa) (Bk ab am oM) ?_);refine .call4 J J J J J Body79 (rd_get x hx p y.pl hP ar (ls.getD k []) aa) (λw h=>Bf hW.1 h) ?_;rintro bt bj (⟨h0,rfl,rfl⟩|⟨D,B,hD,hB,rfl,a2⟩)
  ·
   skip;refine G3 ?_;refine .alloc (cs:=Block.zero.cells) J Block.zr J ?_;intro n7 be a8;refine G8 ?_;refine .nei J J J J (show(!decide _)=true from congrArg not (decide_eq_false (dE))) (G2 ?_);refine .cond_t J J (G6 ?_);refine G8 ?_;refine Ao (out:=[]) (Ag J J) Ad ?_;exact⟨by rw[ad,ah,chk_6 h0];rfl,rfl⟩
  have aq:=(ck_small (ar _ (Bi hD))).1;simp only at aq;have bp:=parL_len D;have ag:∀l∈Bj D,l.length=32:=λl hl=>by obtain⟨⟨E,hE⟩,_⟩:=hI.par _ D hD l hl;exact ap l ((names_mem hI l).2 ⟨E,hE⟩)
  refine G3 ?_;refine .alloc (cs:=Block.zero.cells) J Block.zr J ?_;intro n7 be a8;refine .sA J J J J (Block.isCell (by exact hB.ok)) Sz37 (Block.length (by exact hB.ok)) Z0 (Block.length (by exact Block.zero_ok)) zU ?_;refine G7 ?_;refine .nei J J J J (show(!decide _)=false from congrArg not (decide_eq_true (dE))) (G2 ?_);refine .cond_f J J (G8 ?_);refine .idxSlP 32 J J J ak J Y32.h Sz31 k J oM (.loadEN (Aa (ls.getD k [])) J J J Y31.h J Sz31 sP (by rw[Aa,La0];exact aa) (Bk ab am oM) ?_);refine .lookG evI MI J J J J aa mR (λhg=>?_) (λv hg=>?_)
  ·
   have aw:=ae.no hg;refine .nei J J J J (show(!decide _)=false from congrArg not (decide_eq_true (dE))) (G2 ?_);refine .cond_f J J (G4 ?_);refine .lA J J J Y37.h J Sz37 Z0 (Block.length (by exact hB.ok)) ?_;refine .call4 J J J J J Body80 (r15_parA B D oM) (λw h=>a2 w (Lies.of h (by repeat(first|exact Ap|refine A1 ?_)))) ?_;rintro bu ao ⟨bk,rfl,ai⟩;have bo:=ai.num;refine G10 ?_;refine .loop (ι:=Nat) (λj=>⟨[(0,ptr p 0),(1,s.v),(5, .map (some m5)),(6,i64 (k:Int)),(9,bk.v),(10,i64 (j:Int))],(A3 m5 (Ak 32 evI) im::(ao++[]))⟩) (λj=>j<=(Bj D).length/\∀i,i<j->(Bj D).getD i []∈ls.take k) (λj=>(Bj D).length-j) (0) ?_ ?_ ?_
   .exact⟨Laf _,λi hi=>absurd hi (Lcj _)⟩
   .exact Af wN (Ab rM (Ac sG Ad))
   rintro j ⟨hj,ay⟩;refine G9 ?_;refine .condP J (λa7=>?_) (λa7=>?_)
   ·
    have bc:j<(Bj D).length:=by omega
    obtain⟨pp,an⟩:∃q,q=(Bj D).getD j []:=⟨_,rfl⟩;have aj:pp∈Bj D:=by rw[an];exact Cm bc
    have ac:=ag pp aj;obtain⟨qP,bq,bi,a1⟩:=par_open ai oM ag;refine G9 ?_;refine .idxSlP 32 J J J bi J Y32.h Sz31 j J oM (.loadSN (n:=32) (Aa pp) J J J Y31.h J Sz31 (by rw[Aa,La0];exact ac) (λw h=>by rw[an];exact a1 w (Lies.of h (by repeat(first|exact Ap|refine A1 ?_))) j oM) ?_);refine .lookG evI MI J J J J ac Z0 (λhg=>?_) (λv hg=>?_)
    ·
     have ax:=ae.no hg;refine .eqi J J J J (decide_eq_true (dE)) (G2 ?_);refine .cond_t J J (G5 ?_);refine G12 ?_;refine Ao (out:=[]) (Ag J J) Ad ?_;exact⟨by rw[ad,ah,chk_4 hD aw ⟨pp,aj,ax⟩],rfl⟩
    obtain⟨rfl,au⟩:=ae.yes hg;refine .eqi J J J J (decide_eq_false (dE)) (G2 ?_);refine .cond_f J J (G9 ?_);exact⟨j+1,⟨by omega,λi hi=>by rcases Lb4.1 hi with h|rfl;exact ay i h;rw[<-an];exact au⟩,by omega,Af wN (Ab rM (Ac sG Ad))⟩
   have az:∀m∈Bj D,m∈ls.take k:=λm hm=>by
    obtain⟨i,hi,e⟩:=Lb8 hm;have h9:=ay i oM;rw[getD_at hi,e]at h9;exact h9
   refine G9 ?_;refine .idxSlP 32 J J J ak J Y32.h Sz31 k J oM (.loadEN (Aa (ls.getD k [])) J J J Y31.h J Sz31 sP (by rw[Aa,La0];exact aa) (Bk ab am oM) ?_);refine .mapPut (v:=(1:Int)) MI J J J J J aa rM ?_;refine G9 ?_;exact⟨(k+1,Bh im (ls.getD k []) 1),⟨by simp only;omega,ae.put aa λn=>by rw[Bt oM,La8,La1],by simp only;rw[ad,ah,chk_0 hD aw az,Bt oM]⟩,by simp only;omega,Af wN (Ab rM Ad)⟩
  obtain⟨rfl,ba⟩:=ae.yes hg;refine .nei J J J J (show(!decide _)=true from congrArg not (decide_eq_false (dE))) (G2 ?_);refine .cond_t J J (G5 ?_);refine G8 ?_;refine Ao (out:=[]) (Ag J J) Ad ?_;exact⟨by rw[ad,ah,chk_2 hD ba],rfl⟩
 rw[Lao oM]at ad;refine G10 ?_;refine G2 ?_;refine Ao (out:=[]) (Ag J J) Ad ?_;exact⟨by rw[ad];rfl,rfl⟩
theorem rd_common(s t:Sl)(xs ys:List (List UInt8)):Mv 37 [s.v,t.v] (λW=>RowsAt W s 32 xs/\RowsAt W t 32 ys) (i64 (comL xs ys:Int)):=by
 intro W hW;have ad:=hW.1.row;have ae:=hW.2.row;have aq:=hW.1.len;have ar:=hW.2.len;have ai:=hW.1.max;simp only[maxLen]at ai;refine Ae func37 J 30 ntmps37 J (G10 ?_);refine .join (ι:=Nat) (λk=>⟨[(0,s.v),(1,t.v),(5,i64 (k:Int))],[]⟩) (λk=>comL xs ys=k) ?_ ?_
 ·
  refine .block (.loop (ι:=Nat) (λk=>⟨[(0,s.v),(1,t.v),(5,i64 (k:Int))],[]⟩) (λk=>k<=s.n/\k<=t.n/\xs.take k=ys.take k) (λk=>s.n-k) (0) ?_ ?_ ?_)
  .exact⟨Laf _,Laf _,rfl⟩
  .exact Af wN Ad
  rintro k ⟨hk,ap,hg⟩;refine G2 ?_;refine .draw (oPq [0,1,2,3,4,5,6,7,8,9,10,11,12,13,114,15,16,17,118,19,20]) Au zK (G3 ?_);refine two (λr hr k=>Tr.lss J J J J hr k) (λaa=>?_) (λaa=>?_)
  ·
   have ag:=of_decide_eq_true aa;have an:k<s.n:=by omega
   obtain⟨b1,o1,hp1,ak⟩:=hW.1.see.at (by rw[As ad];omega);have r1:(xs.getD k []).length=32:=Bn ad oM;refine G4 ?_;refine two (λr hr k=>Tr.lss J J J J hr k) (λab=>?_) (λab=>?_)
   ·
    have ah:=of_decide_eq_true ab;have ao:k<t.n:=by omega
    obtain⟨b2,o2,aj,am⟩:=hW.2.see.at (by rw[As ae];omega);have r2:(ys.getD k []).length=32:=Bn ae oM;refine G4 ?_;refine .idxSlP 32 J J J hp1 J Y32.h Sz31 k J oM (.loadEN (Aa (xs.getD k [])) J J J Y31.h J Sz31 sP (by rw[Aa,La0];exact r1) (Bk ad ak oM) ?_);refine G2 ?_;refine .idxSlP 32 J J J aj J Y32.h Sz31 k J oM (.loadEN (Aa (ys.getD k [])) J J J Y31.h J Sz31 sP (by rw[Aa,La0];exact r2) (Bk ae am oM) ?_);refine .eql_bytes J J J J eqGuardType31 Y31.h Y5.h Sz5 zA zA J ?_;refine G3 ?_;refine .condP J (λac=>?_) (λac=>?_)
    ·
     refine G10 ?_;exact⟨k+1,⟨by omega,by omega,take_step [] oM oM hg ac⟩,by omega,Af wN Ad⟩
    refine G5 ?_;exact⟨k,com_at hg oM oM ac,Af wN Ad⟩
   have ah:=of_decide_eq_false ab;skip;refine G14 ?_;refine .cond_f J J (G5 ?_);exact⟨k,com_end hg oM oM oM,Af wN Ad⟩
  have ag:=of_decide_eq_false aa;skip;refine G19 ?_;refine .cond_f J J (G5 ?_);exact⟨k,com_end hg oM oM oM,Af wN Ad⟩
 intro k hj;skip;refine G6 ?_;refine G2 ?_;refine Ao (out:=[]) (Ag J J) Ad ?_;exact⟨by rw[hj],rfl⟩
theorem rd_place(s:Sl)(ls:List (List UInt8))(n:List UInt8)(ad:n.length=32):Mv 26 [s.v,agg (Aa n)] (λW=>RowsAt W s 32 ls) (i64 (fstBad (λm=>decide (n=m)) ls)):=by
 intro W hW;have ab:True:=trivial;have ae:=hW.len;have aa:=hW.row;have ag:=hW.max;simp only[maxLen]at ag;refine Ae func26 J 19 ntmps26 J (G3 ?_);intro n3 an ak;refine G10 ?_;refine .loop (ι:=Nat) (λk=>⟨[(0,s.v),(3,ptr n3 0),(5,i64 (k:Int))],[⟨n3,Aa n,31,(Aa n).length⟩]⟩) (λk=>k<=s.n/\∀j,j<k->(ls.map (λm=>decide (n=m)))[j]? =some false) (λk=>s.n-k) (0) ?_ ?_ ?_
 .exact⟨by omega,λj hj=>by omega⟩
 .exact Af wN (Ab rM Ad)
 rintro k ⟨hk,hg⟩;refine G9 ?_;refine .condP J (λaj=>?_) (λaj=>?_)
 ·
  have am:k<s.n:=by omega
  obtain⟨b,o,ah,ai⟩:=hW.see.at (by rw[As aa];omega);have ab:(ls.getD k []).length=32:=Bn aa oM;have hd:ls[k]? =some (ls.getD k []):=by rw[La3,La4 (show k<ls.length by omega)];rfl
  refine G5 ?_;refine .draw (oPq [0,1,2,103,104,5]) Au zK (G2 ?_);refine .idxSlP 32 J J J ah J Y32.h Sz31 k J oM (.loadEN (Aa (ls.getD k [])) J J J Y31.h J Sz31 sP (by rw[Aa,La0];exact ab) (Bk aa ai oM) ?_);refine .lA J J J Y31.h J Sz31 Z0 (by(simp[ad];done)) ?_;refine .eql_bytes J J J J eqGuardType31 Y31.h Y5.h Sz5 zA (by(simp[ad];done)) J ?_;refine G2 ?_;refine .condP J (λac=>?_) (λac=>?_)
  ·
   refine G6 ?_;refine G7 ?_;refine Ao (out:=[]) (Ag J J) Ad ?_;exact⟨congrArg i64 (fstBad_at hg (by rw[Lad,hd];simpa[eq_comm]using ac)).symm,rfl⟩
  refine G9 ?_;exact⟨k+1,⟨by omega,λj hj=>by rcases Lb4.1 hj with h|rfl;exact hg j h;rw[Lad,hd];simpa[eq_comm]using ac⟩,by omega,Af wN (Ab rM Ad)⟩
 obtain rfl:k=s.n:=by omega
 refine G10 ?_;refine G2 ?_;refine Ao (out:=[]) (Ag J J) Ad ?_;exact⟨congrArg i64 (fstBad_none (by intro j hj;exact hg j (by rw[ae]at hj;exact hj))).symm,rfl⟩
theorem rd_same(s t:Sl)(xs ys:List (List UInt8)):Mv 39 [s.v,t.v] (λW=>RowsAt W s 32 xs/\RowsAt W t 32 ys) (.bool (decide (xs=ys))):=by
 intro W hW;have ad:=hW.1.len;have ae:=hW.2.len;have ac:=com_eqR xs ys;refine Ae func39 J 18 ntmps39 J (G11 ?_);refine two (λr hr k=>Tr.eqi J J J J hr k) (λaa=>?_) (λaa=>?_)
 ·
  have ab:=of_decide_eq_true aa;refine G3 ?_;refine .cV J J J J Body37 (rd_common s t xs ys) (λw h=>⟨B4 h J hW.1,B4 h J hW.2⟩) (G7 ?_);refine G2 ?_;refine Ao (out:=[]) (Ag J J) Ad ?_;refine⟨congrArg Value.bool (Eq.symm ?_),rfl⟩
  (rw[Lei,decide_eq_true_iff,decide_eq_true_iff,ac];omega)
 have ab:=of_decide_eq_false aa;refine G11 ?_;refine G2 ?_;refine Ao (out:=[]) (Ag J J) Ad ?_;refine⟨congrArg Value.bool (Eq.symm ?_),rfl⟩
 (rw[decide_eq_false_iff_not];intro h9;have h8:=congrArg List.length h9;omega)
section
variable{X:PD}(hI:X.Inv)
include hI
end
def pk9(v:Int):List UInt8:=Hw.byteOf v::(List.replicate 30 0++[9])
variable{X:PD}{a b e k:Int}{cs:List (List (List UInt8))}{ls:List (List UInt8)}{n:Nat}{out:List Blk}{v:Value}{x:DD}
theorem pk9_len(v:Int):(pk9 v).length=32:=rfl
theorem run_pk9(v:Int)(w:World):(Instr.build 31 #[(0,u8 (Hw.byteOf v)),(31, .int .u8 9)]).run prog w= .ok (agg (Aa (pk9 v))) w:=by
  have hz:Zr prog 31 (agg (Aa (List.replicate 32 0))):=Bz;have r1:=Ch Sz5 w;unfold Zr at hz;cases hi:prog.info? 31 with
  |none=>rw[hi]at hz;cases hz
  | some i=>
    rw[hi]at hz;simp only[Lbx]at hz;have hf:Instr.fill (λi=>some (i*1,1)) (Value.agg (Aa (List.replicate 32 0)).toArray).cells [(0,u8 (Hw.byteOf v)),(31, .int .u8 9)]=some (Aa (pk9 v)).toArray:=by rfl
    simp only[Instr.build,Sem.run_bind,zeroValue,typeInfo,hi,hz,run_underlying Y31.h,Result.andThen_ok,agg];simp[r1,zeroValue,typeInfo,hi,hz,agg];rfl
theorem law17_picked(so:Sl)(o:List (List UInt8))(si:Sl)(lst:List Int)(hn:si.n<=1000):Meets prog 22 [so.v,si.v] [] (λW=>RowsAt W so 32 o/\IntsAt W si lst) (λv out=>∃(s:Sl) (L:List (List UInt8)),v=s.v/\Hw.Acc s out (Aq L) 31 L.length 32/\(∀l∈L,l.length=32)/\L.length=lst.length):=by
 intro W hW;have ac:True:=trivial;have ba:=hW.2.nd;have bc:=hW.1.len;have ai:=hW.1.row;refine Ae func22 J 47 ntmps22 J (G17 ?_);refine .loop (ι:=Nat×List (List UInt8)×Sl×List Blk) (λr=>⟨[(0,so.v),(1,si.v),(5,r.2.2.1.v),(6,i64 (r.1:Int))],(r.2.2.2++[])⟩) (λr=>r.1<=si.n/\r.2.1.length=r.1/\Hw.Acc r.2.2.1 r.2.2.2 (Aq r.2.1) 31 r.2.1.length 32/\∀l∈r.2.1,l.length=32) (λr=>si.n-r.1) ((0,[],Sl.nil,[])) ?_ ?_ ?_
 .exact⟨Laf _,rfl,Acc.none,λl hl=>by cases hl⟩
 .exact Af wN (Ac (by repeat(exact C8)) Ad)
 rintro⟨k,L,s5,bl5⟩ ⟨hk,au,ad,ah⟩;simp only at hk au ad ah ⊢;refine G9 ?_;refine .condP J (λav=>?_) (λav=>?_)
 ·
  have ax:k<si.n:=by omega
  obtain⟨b,o2,bj,v9,aj,be,a7,⟨rfl,bg⟩,ay,aq⟩:=hW.2.at dE ax;have aa:=aq 0 _ rfl;refine G8 ?_;refine .idxSlP 1 J J J aj J Y51.h Sz3 k J oM (.loadE J J J Y3.h J sP ((by simpa using aa)) ?_);refine two (λr hr k=>Tr.geq J J J J hr k) (λab=>?_) (λab=>?_)
  ·
   have am:=of_decide_eq_true ab;refine G3 ?_;refine .idxSlP 1 J J J aj J Y51.h Sz3 k J oM (.loadE J J J Y3.h J sP ((by simpa using aa)) ?_);refine G6 ?_;refine .condP J (λaw=>?_) (λaw=>?_)
   ·
    have ar:v9.toNat<o.length:=by omega
    obtain⟨b1,o1,az,a1⟩:=hW.1.see.at (by rw[As ai];omega);obtain⟨gv,ap⟩:∃gv,gv=o.getD v9.toNat []:=⟨_,rfl⟩;have ac:gv.length=32:=by rw[ap];exact Bn ai ar
    refine G5 ?_;refine .idxSlP 1 J J J aj J Y51.h Sz3 k J oM (.loadE J J J Y3.h J sP ((by simpa using aa)) ?_);refine .idxSlP 32 J J J az J Y32.h Sz31 v9.toNat oM oM (.loadEN (Aa gv) J J J Y31.h J Sz31 sP (by rw[Aa,La0];exact ac) (by rw[ap];exact Bk ai a1 ar) ?_);refine .mkRow2 (z:=agg (Aa (List.replicate 32 0))) [agg (Aa gv)] (Aa gv) J J Y32.h Sz31 Bz J J (by intro v hv;rw[La1.1 hv];simp[Value.cells,Aa,ac]) dE (by simp[Value.cells,agg]) ?_;intro bi;refine .appendAcc (n:=L.length) (z:=agg (Aa (List.replicate 32 0))) (by':=32) (Aa gv) J J J J J Y32.h Y32.h Sz31 Bz (by unfold By;kernel_rfl) J ad sG (λw h=>SeesP.of (Ar h Z0)) (λe=>by cases e) (Ay _) oM oM (by rw[Aa,La0,ac]) ?_;intro a6 ao ak;refine G10 ?_;exact⟨(k+1,L++[gv],a6,ao),⟨by simp only;omega,by simp only[La2,Laq];omega,by simp only;rw[Br,La2,show Aq [gv]=Aa (gv) by simp[Aq]];exact ak,λl hl=>by rcases La8.1 hl with h|h;exact ah l h;rw[La1.1 h];exact ac⟩,by simp only;omega,Af wN (Ac sG Ad)⟩
   refine G4 ?_;refine .idxSlP 1 J J J aj J Y51.h Sz3 k J oM (.loadE J J J Y3.h J sP ((by simpa using aa)) ?_);refine G1 ?_;refine .build (cs:=Aa (pk9 v9)) J J J (λw=>run_pk9 v9 w) (.mkRow2 (z:=agg (Aa (List.replicate 32 0))) [agg (Aa (pk9 v9))] (Aa (pk9 v9)) J J Y32.h Sz31 Bz J J (by intro v hv;rw[La1.1 hv];simp[Value.cells,Aa,pk9_len]) dE (by simp[Value.cells,agg]) ?_);intro a2;refine .appendAcc (n:=L.length) (z:=agg (Aa (List.replicate 32 0))) (by':=32) (Aa (pk9 v9)) J J J J J Y32.h Y32.h Sz31 Bz (by unfold By;kernel_rfl) J ad sG (λw h=>SeesP.of (Ar h Z0)) (λe=>by cases e) (Ay _) oM oM (by rw[Aa,La0,pk9_len]) ?_;intro an ag ae;refine G10 ?_;exact⟨(k+1,L++[pk9 v9],an,ag),⟨by simp only;omega,by simp only[La2,Laq];omega,by simp only;rw[Br,La2,show Aq [pk9 v9]=Aa (pk9 v9) by simp[Aq]];exact ae,λl hl=>by rcases La8.1 hl with h|h;exact ah l h;rw[La1.1 h];exact pk9_len v9⟩,by simp only;omega,Af wN (Ac sG Ad)⟩
  have am:=of_decide_eq_false ab;refine G11 ?_;refine .cond_f J J (G4 ?_);refine .idxSlP 1 J J J aj J Y51.h Sz3 k J oM (.loadE J J J Y3.h J sP ((by simpa using aa)) ?_);refine G1 ?_;refine .build (cs:=Aa (pk9 v9)) J J J (λw=>run_pk9 v9 w) (.mkRow2 (z:=agg (Aa (List.replicate 32 0))) [agg (Aa (pk9 v9))] (Aa (pk9 v9)) J J Y32.h Sz31 Bz J J (by intro v hv;rw[La1.1 hv];simp[Value.cells,Aa,pk9_len]) dE (by simp[Value.cells,agg]) ?_);intro a2;refine .appendAcc (n:=L.length) (z:=agg (Aa (List.replicate 32 0))) (by':=32) (Aa (pk9 v9)) J J J J J Y32.h Y32.h Sz31 Bz (by unfold By;kernel_rfl) J ad sG (λw h=>SeesP.of (Ar h Z0)) (λe=>by cases e) (Ay _) oM oM (by rw[Aa,La0,pk9_len]) ?_;intro an ag ae;refine G10 ?_;exact⟨(k+1,L++[pk9 v9],an,ag),⟨by simp only;omega,by simp only[La2,Laq];omega,by simp only;rw[Br,La2,show Aq [pk9 v9]=Aa (pk9 v9) by simp[Aq]];exact ae,λl hl=>by rcases La8.1 hl with h|h;exact ah l h;rw[La1.1 h];exact pk9_len v9⟩,by simp only;omega,Af wN (Ac sG Ad)⟩
 have a8:k=si.n:=by omega
 refine G11 ?_;refine G2 ?_;refine Ao (out:=(bl5++[])) (Ag J J) (Ac sG Ad) ?_;exact⟨s5,L,rfl,by simpa using ad,ah,by omega⟩
def IntssAt(W:World)(s:Sl)(rs:List Sl)(l:List (List Int)):Prop:=SeqIs slc 1 IntsAt W s rs l
noncomputable def sortV(X:PD)(ls:List (List UInt8)):List (List UInt8)×Int:=if(ls.any λn=> !X.has n)=true then([],6)else if ls.Nodup then(C9 X ls,0)else([],2)
noncomputable def ordV(X:PD)(cs:List (List (List UInt8))):List (List UInt8)×Nat×Int:=if benE X [] cs=0 then(ordL X cs,(Cl X (cs.getLastD [])).length,0)else([],0,benE X [] cs)
def RowE(L:List (List UInt8))(e:Int)(v:Value)(out:List Blk):Prop:=∃s:Sl,v= .tuple #[s.v,i64 e]/\s.n=L.length/\∀w,Lies out w->SeesP w s.p (Aq L)
def RowO(L:List (List UInt8))(k:Nat)(e:Int)(v:Value)(out:List Blk):Prop:=∃s:Sl,v= .tuple #[s.v,i64 (k:Int),i64 e]/\s.n=L.length/\∀w,Lies out w->RowsAt w s 32 L
theorem rowE_nil(e:Int):RowE [] e (.tuple #[.slice none 0 0,i64 e]) []:=⟨Sl.nil,rfl,rfl,λw _=>SeesP.nil⟩
theorem sortV_32(h:∀l∈ls,l.length=32):(sortV X ls).1.length<=ls.length/\∀l∈(sortV X ls).1,l.length=32:=by
  unfold sortV;split
  .exact⟨Laf _,λl hl=>by cases hl⟩
  . split
    .exact⟨Ld5 (Ca X ls).length_eq,λl hl=>h l ((Ca X ls).mem_iff.1 hl)⟩
    .exact⟨Laf _,λl hl=>by cases hl⟩
theorem sortR_e(h:SortR X ls v out):RowE (sortV X ls).1 (sortV X ls).2 v out:=by
  rcases h with ⟨⟨n,hn,h1⟩,rfl,rfl⟩|⟨h1,⟨h2,rfl,rfl⟩|⟨h2,s,rfl,aa⟩⟩
  . have e:sortV X ls=([],6):=by unfold sortV;rw[if_pos (Lc2.2 ⟨n,hn,by rw[h1];rfl⟩)]
    rw[e];exact rowE_nil 6
  . have e0:¬(ls.any λn=> !X.has n)=true:=λh9=>by
      obtain⟨m,hm,h8⟩:=Lc2.1 h9;rw[h1 m hm]at h8;cases h8
    have e:sortV X ls=([],2):=by unfold sortV;rw[if_neg e0,if_neg h2]
    rw[e];exact rowE_nil 2
  . have e0:¬(ls.any λn=> !X.has n)=true:=λh9=>by
      obtain⟨m,hm,h8⟩:=Lc2.1 h9;rw[h1 m hm]at h8;cases h8
    have e:sortV X ls=(C9 X ls,0):=by unfold sortV;rw[if_neg e0,if_pos h2]
    rw[e];exact⟨s,rfl,by rw[aa.num];exact(Ca X ls).length_eq.symm,λw hw=>aa.see hw⟩
theorem ord_bound(hI:X.Inv)(h:benE X [] cs=0):(ordL X cs).length<=2*X.names.length:=by
  have h1:=ben_acc hI h;rw[beneath_nil X]at h1;have h2:=ben_len hI (cs.getLastD []);have h3:=restL_len X cs;rw[ordL,La2,(Ca X _).length_eq];omega
theorem ordV_32(hx:x.ok)(hI:x.pl.Inv)(cs:List (List (List UInt8))):(ordV x.pl cs).1.length<=40000/\(ordV x.pl cs).2.1<=(ordV x.pl cs).1.length/\∀l∈(ordV x.pl cs).1,l.length=32:=by
  unfold ordV;split
  . rename_i h
    have h1:=ord_bound hI h;have h2:=hx.big;have h3:x.pl.names.length=x.names.length:=rfl;exact⟨by simp only;omega,ben_ord hI h,λl hl=>hx.n32 l (ordL_names l hl)⟩
  .exact⟨Laf _,Lag _,λl hl=>by cases hl⟩
theorem ordR_e(hx:x.ok)(hI:x.pl.Inv)(h:OrdR x.pl cs v out):RowO (ordV x.pl cs).1 (ordV x.pl cs).2.1 (ordV x.pl cs).2.2 v out:=by
  rcases h with ⟨e,he,hb,rfl,rfl⟩|⟨hb,s,rfl,aa⟩
  . have e1:ordV x.pl cs=([],0,e):=by unfold ordV;rw[hb,if_neg he]
    rw[e1];exact⟨Sl.nil,rfl,rfl,λw _=>nil_rows w⟩
  . have e1:ordV x.pl cs=(ordL x.pl cs,(Cl x.pl (cs.getLastD [])).length,0):=by unfold ordV;rw[if_pos hb]
    have h9:=ordV_32 hx hI cs;rw[e1]at h9 ⊢;exact⟨s,rfl,aa.num,λw hw=>acc_rows aa hw h9.2.2 rfl (by have:=h9.1;simp only at this;omega)⟩
noncomputable def benV(X:PD)(cs:List (List (List UInt8))):List (List UInt8)×Int:=((ordV X cs).1.take (ordV X cs).2.1,(ordV X cs).2.2)
theorem benV_err(he:e≠0)(hb:benE X [] cs=e):benV X cs=([],e):=by unfold benV ordV;rw[hb,if_neg he];rfl
theorem benV_ok(hb:benE X [] cs=0):benV X cs=((ordL X cs).take (Cl X (cs.getLastD [])).length,0):=by unfold benV ordV;rw[if_pos hb]
theorem benR_e(hI:X.Inv)(h:BenthR X cs v out):RowE (benV X cs).1 (benV X cs).2 v out:=by
  rcases h with ⟨e,he,hb,rfl,rfl⟩|⟨hb,s,rfl,aa⟩
  .rw[benV_err he hb];exact rowE_nil e
  . rw[benV_ok hb]
    have:=ben_ord hI hb;exact⟨s,rfl,by rw[aa.num,Lac];omega,λw hw=>aa.see hw⟩
theorem benW_e(hI:X.Inv)(h:BenW X cs v out):RowE (benV X cs).1 (benV X cs).2 v out:=by
  rcases h with ⟨e,he,hb,rfl,rfl⟩|⟨hb,s,rfl,hn,hs⟩
  .rw[benV_err he hb];exact rowE_nil e
  . rw[benV_ok hb]
    have:=ben_ord hI hb;exact⟨s,rfl,by rw[hn,Lac];omega,hs⟩
theorem depthR_ex(X:PD)(n:List UInt8):∃a b:Int,X.depthR n= .tuple #[i64 a,i64 b]:=by
  unfold PD.depthR;split
  .exact⟨_,_,rfl⟩
  .exact⟨_,_,rfl⟩
theorem lin_depthK(x:DD)(hx:x.ok)(hI:x.pl.Inv)(hO:x.pl.Ord)(p:Nat)(n:List UInt8)(aa:n.length=32)(hk:x.pl.depthR n= .tuple #[i64 a,i64 b]):Mv 23 [ptr p 0,agg (Aa n)] (λW=>Lies (x.blks p) W) (.tuple #[i64 a,i64 b]):=by
  rw[<-hk];exact lin_depth x hx hI hO p n aa
theorem rd_depthK(x:RD)(hx:x.ok)(y:DD)(hy:y.ok)(hP:x.P=y.pl.P)(hI:y.pl.Inv)(hO:y.pl.Ord)(p:Nat)(n:List UInt8)(aa:n.length=32)(hk:y.pl.depthR n= .tuple #[i64 a,i64 b]):Mv 24 [ptr p 0,agg (Aa n)] (λW=>Lies (x.blks p) W) (.tuple #[i64 a,i64 b]):=by
  rw[<-hk];exact rd_depth x hx y hy hP hI hO p n aa
theorem lin_placeQ(s:Sl)(ls:List (List UInt8))(n:List UInt8)(aa:n.length=32)(hk:fstBad (λm=>decide (n=m)) ls=k):Mv 25 [s.v,agg (Aa n)] (λW=>RowsAt W s 32 ls) (i64 k):=by
  rw[<-hk];exact lin_place s ls n aa
theorem rd_placeQ(s:Sl)(ls:List (List UInt8))(n:List UInt8)(aa:n.length=32)(hk:fstBad (λm=>decide (n=m)) ls=k):Mv 26 [s.v,agg (Aa n)] (λW=>RowsAt W s 32 ls) (i64 k):=by
  rw[<-hk];exact rd_place s ls n aa
theorem lin_checkQ(x:DD)(hx:x.ok)(hI:x.pl.Inv)(p:Nat)(s:Sl)(ls:List (List UInt8))(hk:chkE x.pl [] ls=e):Mv 34 [ptr p 0,s.v] (λW=>Lies (x.blks p) W/\RowsAt W s 32 ls) (i64 e):=by
  rw[<-hk];exact lin_check x hx hI p s ls
theorem rd_checkQ(x:RD)(hx:x.ok)(y:DD)(hy:y.ok)(hP:x.P=y.pl.P)(hI:y.pl.Inv)(hO:y.pl.Ord)(p:Nat)(s:Sl)(ls:List (List UInt8))(hk:chkE y.pl [] ls=e):Mv 35 [ptr p 0,s.v] (λW=>Lies (x.blks p) W/\RowsAt W s 32 ls) (i64 e):=by
  rw[<-hk];exact rd_check x hx y hy hP hI hO p s ls
theorem lin_commonQ(s t:Sl)(xs ys:List (List UInt8))(hk:comL xs ys=n):Mv 36 [s.v,t.v] (λW=>RowsAt W s 32 xs/\RowsAt W t 32 ys) (i64 (n:Int)):=by
  rw[<-hk];exact lin_common s t xs ys
theorem rd_commonQ(s t:Sl)(xs ys:List (List UInt8))(hk:comL xs ys=n):Mv 37 [s.v,t.v] (λW=>RowsAt W s 32 xs/\RowsAt W t 32 ys) (i64 (n:Int)):=by
  rw[<-hk];exact rd_common s t xs ys
theorem law_linearcalls(s:Sl)(ds:List DB)(sc:Sl)(rc:List Sl)(lc:List (List Int))(bn:Sl)(lst:List Int):Mv 4 [s.v,sc.v,bn.v] (λW=>BlocksAt W s ds/\IntssAt W sc rc lc/\IntsAt W bn lst) (.bool true):=by
 intro W hW;have aa:True:=trivial;have cl:=hW.2.1;have d6:=cl.nd;have ea:=hW.2.2.nd;refine Ae func4 J 223 ntmps4 J (G8 ?_);refine .cV J J J J Body17 (law17_lives) tV (G3 ?_);refine .cond_f J J (G6 ?_);refine .callB J J J J Body18 (lightd_blocks s ds 16) (λw h=>Blocks_ext h J hW.1) (λae=>?_) (λae=>?_)
 ·
  have ax:=ae;refine G4 ?_;refine two (λr hr k=>Tr.gtr J J J J hr k) (λag=>?_) (λag=>?_)
  ·
   have bz:=of_decide_eq_true ag;refine G8 ?_;refine .cond_t J J (G5 ?_);refine G3 ?_;refine Ao (out:=[]) (Ag J J) Ad ?_;exact⟨rfl,rfl⟩
  have bz:=of_decide_eq_false ag;refine G8 ?_;refine .condP J (λdc=>?_) (λdc=>?_)
  ·
   refine G5 ?_;refine G3 ?_;refine Ao (out:=[]) (Ag J J) Ad ?_;exact⟨rfl,rfl⟩
  have ct:lightOf lightBf ds 16=true:=by simpa using ax
  obtain⟨dq,cq⟩:=light_ats ct;obtain⟨el,di⟩:=id hW.1;have dv:=di.nd;refine G5 ?_;refine .call4 J J J J J Body19 (law17_filled s ds oM cq) (λw h=>Blocks_ext h J hW.1) ?_;rintro em aj ⟨p,x,rfl,cw,hx,aw,ef⟩;have ar:∀w,Lies aj w->Lies (x.blks p) w:=λw h=>cw▸h;clear cw;have hI:x.pl.Inv:=by rw[aw];exact PD.Inv.fill ds PD.Inv.new
  have hO:x.pl.Ord:=by rw[aw];exact PD.Ord.fill ds PD.Inv.new PD.Ord.new
  refine G1 ?_;refine .call4 J J J J J Body20 (law17_known s ds oM cq) (λw h=>Blocks_ext h J hW.1) ?_;rintro v50 ak ⟨pr,r,rfl,cp,hr,bq,ei⟩;have ap:∀w,Lies ak w->Lies (r.blks pr) w:=λw h=>cp▸h;clear cp;rw[<-aw]at bq;have aq:r.P=x.pl.P:=bq.p;have c8:rkNames r=x.pl.names:=(rk_names aq hI).symm;refine G7 ?_;refine .call4 J J J J J Body21 (rd_names r hr pr) (λw h=>(ap w (Lies.of h (by repeat(exact Ap))))) ?_;rintro en cx ⟨s9,rfl,am⟩;rw[c8]at am;have eb:=am.num;have du:x.pl.names.length<=20000:=by have:=hx.big;have h9:x.pl.names.length=x.names.length:=rfl;omega
  refine G15 ?_;refine .loop (ι:=Nat×Sl×List Blk×List Blk×List Sl×List (List (List UInt8))) (λq=>⟨[(0,s.v),(1,sc.v),(2,bn.v),(7,ptr p 0),(8,ptr pr 0),(9,s9.v),(10,q.2.1.v),(11,i64 (q.1:Int))],(q.2.2.1++(q.2.2.2.1++(cx++(aj++(ak++[])))))⟩) (λq=>q.1<=sc.n/\OwnSeq slc 1 HdsIs 32 q.2.1 q.2.2.1 q.2.2.2.1 q.2.2.2.2.1 q.2.2.2.2.2 q.1/\∀c∈q.2.2.2.2.2,c.length<=90000) (λq=>sc.n-q.1) ((0,Sl.nil,[],[],[],[])) ?_ ?_ ?_
  .exact⟨Laf _,OwnSeq.none,λc hc=>by cases hc⟩
  .exact Af wN (Ac sG (Ac sG (Ac sG (Ac (by repeat(first|exact B9|apply Cj)) (Ac sG Ad)))))
  rintro⟨k,ay,b8,cd,rs,cs⟩ ⟨hk,ai,an⟩;simp only at hk ai an ⊢;refine G9 ?_;refine .condP J (λhc2=>?_) (λhc2=>?_)
  ·
   have dh:k<sc.n:=by omega
   obtain⟨b,o,cc,ci,cu,eh,d7,cn,dr,bt⟩:=cl.at dE dh;refine G9 ?_;refine .idxSlP 1 J J J cu J Y50.h Sz51 k J oM (.loadE J J J Y51.h J sP ((by have h9:=bt 0 cc.v J;simpa using h9)) ?_);refine G4 ?_;refine .condP J (λdd=>?_) (λdd=>?_)
   ·
    refine G5 ?_;refine G8 ?_;refine Ao (out:=[]) (Ag J J) Ad ?_;exact⟨rfl,rfl⟩
   refine G7 ?_;refine .idxSlP 1 J J J cu J Y50.h Sz51 k J oM (.loadE J J J Y51.h J sP ((by have h9:=bt 0 cc.v J;simpa using h9)) ?_);refine .call4 J J J J J Body22 (law17_picked s9 x.pl.names cc ci oM) (λw h=>⟨acc_rows am (Lies.of h (by repeat(first|exact Ap|refine A5 ?_))) hx.n32 J oM,ints_ext h J cn⟩) ?_;rintro eo dj ⟨az,LP,rfl,bo,ce,d9⟩;have ec:=bo.num;have dm:=cn.nd;refine .mkRow2 (z:= .slice none 0 0) [az.v] (slc az) J J Y55.h Sz32 Zr32 J J (by intro v hv;rw[La1.1 hv];simp[Value.cells,Sl.v]) dE (by simp[Value.cells,slc,Sl.v]) ?_;intro ej;refine .appendAcc (z:= .slice none 0 0) (by':=24) (slc az) J J J J J Y55.h Y55.h Sz32 Zr32 (by unfold By;kernel_rfl) J ai.acc sG (λw h=>SeesP.of (Ar h Z0)) (λe=>by cases e) (slc_cell az) oM oM (by rfl) ?_;intro dl b9 bw;refine G10 ?_;exact⟨(k+1,dl,b9,_,rs++[az],cs++[LP]),⟨by simp only;omega,ai.snoc bw rfl (λW2 hl=>acc_rows bo hl ce rfl oM),λc hc=>by rcases La8.1 hc with h|h;exact an c h;rw[La1.1 h];omega⟩,by simp only;omega,Af wN (Ac sG (pm_two (Ac sG (Ac sG (Ac sG (Ac sG (Ac sG Ad)))))))⟩
  have d8:k=sc.n:=by omega
  have dt:=ai.acc.num;refine G9 ?_;refine .call4 J J J J J Body22 (law17_picked s9 x.pl.names bn lst oM) (λw h=>⟨acc_rows am (Lies.of h (by repeat(first|exact Ap|refine A5 ?_))) hx.n32 J oM,ints_ext h J hW.2.2⟩) ?_;rintro v76 bu ⟨ac,LS,rfl,au,ad,d5⟩;have ed:=au.num;have hS:∀ {w:World},Lies bu w->RowsAt w ac 32 LS:=λh=>acc_rows au h ad rfl oM;have c9:=sortV_32 (X:=x.pl) ad;have bv:=ordV_32 hx hI cs;refine G10 ?_;refine .loop (ι:=Nat) (λi=>⟨[(7,ptr p 0),(8,ptr pr 0),(10,ay.v),(12,ac.v),(13,i64 (i:Int))],(b8++(cd++(bu++(aj++(ak++[])))))⟩) (λi=>i<=LS.length) (λi=>LS.length-i) (0) ?_ ?_ ?_
  .exact Laf _
  .exact Af wN (Ac (by repeat(first|exact B9|apply Cj)) (Ac (by repeat(first|exact B9|apply Cj)) (Ac sG (Ac (by repeat(first|exact B9|apply Cj)) (Ac (by repeat(first|exact B9|apply Cj)) Ad)))))
  rintro i hi;refine G9 ?_;refine .condP J (λde=>?_) (λde=>?_)
  ·
   have df:i<LS.length:=by omega
   obtain⟨nn,av⟩:∃q,q=LS.getD i []:=⟨_,rfl⟩;have aa:nn.length=32:=by rw[av];exact ad _ (Cm df)
   obtain⟨qS,oS,a2,ao⟩:=par_open au oM ad;obtain⟨da,db,bp⟩:=depthR_ex x.pl nn;obtain⟨pv,co⟩:∃k,fstBad (λm=>decide (nn=m)) LS=k:=⟨_,rfl⟩;refine G9 ?_;refine .idxSlP 32 J J J a2 J Y32.h Sz31 i J oM (.loadSN (n:=32) (Aa nn) J J J Y31.h J Sz31 (by rw[Aa,La0];exact aa) (λw h=>by rw[av];exact ao w (Lies.of h (by repeat(first|exact Ap|refine A5 ?_))) i oM) ?_);refine .cV J J J J Body23 (lin_depthK x hx hI hO p nn aa bp) (λw h=>(ar w (Lies.of h (by repeat(first|exact Ap|refine A5 ?_))))) ?_;refine G12 ?_;refine .idxSlP 32 J J J a2 J Y32.h Sz31 i J oM (.loadSN (n:=32) (Aa nn) J J J Y31.h J Sz31 (by rw[Aa,La0];exact aa) (λw h=>by rw[av];exact ao w (Lies.of h (by repeat(first|exact Ap|refine A5 ?_))) i oM) ?_);refine .cV J J J J Body24 (rd_depthK r hr x hx aq hI hO pr nn aa bp) (λw h=>(ap w (Lies.of h (by repeat(first|exact Ap|refine A5 ?_))))) ?_;refine G8 ?_;refine .draw (oPq [0,1,2,3,4,5,6,7,8,9,10,11,12,113,15,16,17,18,119,314,320,21,22]) Au zK (G2 ?_);refine .nei J J J J (show(!decide _)=false from congrArg not (decide_eq_true sP)) (G3 ?_);refine .nei J J J J (show(!decide _)=false from congrArg not (decide_eq_true sP)) (G5 ?_);refine .idxSlP 32 J J J a2 J Y32.h Sz31 i J oM (.loadSN (n:=32) (Aa nn) J J J Y31.h J Sz31 (by rw[Aa,La0];exact aa) (λw h=>by rw[av];exact ao w (Lies.of h (by repeat(first|exact Ap|refine A5 ?_))) i oM) ?_);refine G3 ?_;refine .idxSlP 32 J J J a2 J Y32.h Sz31 i J oM (.loadSN (n:=32) (Aa nn) J J J Y31.h J Sz31 (by rw[Aa,La0];exact aa) (λw h=>by rw[av];exact ao w (Lies.of h (by repeat(first|exact Ap|refine A5 ?_))) i oM) ?_);refine .cV J J J J Body25 (lin_placeQ ac LS nn aa co) (λw h=>(hS (Lies.of h (by repeat(first|exact Ap|refine A5 ?_))))) ?_;refine .cV J J J J Body26 (rd_placeQ ac LS nn aa co) (λw h=>(hS (Lies.of h (by repeat(first|exact Ap|refine A5 ?_))))) ?_;refine .nei J J J J (show(!decide _)=false from congrArg not (decide_eq_true sP)) (G3 ?_);refine .cond_f J J (G9 ?_);exact⟨i+1,by omega,by omega,Af wN (Ac sG (Ac sG (Ac sG (Ac sG (Ac sG Ad)))))⟩
  refine G9 ?_;refine .call4 J J J J J Body28 (kit_namesA ac LS oM) (λw h=>(hS (Lies.of h (by repeat(first|exact Ap|refine A5 ?_))))) ?_;rintro dw cz ⟨cy,rfl,a1⟩;refine .call4 J J J J J Body27 (((lin_sort x hx hI hO p cy LS oM).imp (λw h=>h) λv out h=>sortR_e h)) (λw h=>⟨(ar w (Lies.of h (by repeat(first|exact Ap|refine A5 ?_)))),acc_rows a1 (Lies.of h (by repeat(exact Ap))) ad J oM⟩) ?_;rintro dx c0 ⟨b3,rfl,be,a6⟩;refine G11 ?_;refine .call4 J J J J J Body29 (((rd_sort r hr x hx aq hI hO pr ac LS oM).imp (λw h=>h) λv out h=>sortR_e h)) (λw h=>⟨(ap w (Lies.of h (by repeat(first|exact Ap|refine A5 ?_)))),(hS (Lies.of h (by repeat(first|exact Ap|refine A5 ?_))))⟩) ?_;rintro dy c3 ⟨b4,rfl,bg,a7⟩;refine G11 ?_;refine .call4 J J J J J Body30 (((lin_ord x hx hI hO p ay rs cs oM an).imp (λw h=>h) λv out h=>ordR_e hx hI h)) (λw h=>⟨(ar w (Lies.of h (by repeat(first|exact Ap|refine A5 ?_)))),(ai.seq (Lies.of h (by repeat(first|exact Ap|refine A5 ?_))) (Lies.of h (by repeat(first|exact Ap|refine A5 ?_))) oM)⟩) ?_;rintro dz c4 ⟨b5,rfl,bi,a8⟩;refine G13 ?_;refine .call4 J J J J J Body31 (((rd_order r hr x hx aq hI hO pr ay rs cs oM).imp (λw h=>h) λv out h=>ordR_e hx hI h)) (λw h=>⟨(ap w (Lies.of h (by repeat(first|exact Ap|refine A5 ?_)))),(ai.seq (Lies.of h (by repeat(first|exact Ap|refine A5 ?_))) (Lies.of h (by repeat(first|exact Ap|refine A5 ?_))) oM)⟩) ?_;rintro d1 c5 ⟨ah,rfl,bj,ab⟩;refine G13 ?_;refine .call4 J J J J J Body32 (((lin_ben x hx hI hO p ay rs cs oM an).imp (λw h=>h) λv out h=>benR_e hI h)) (λw h=>⟨(ar w (Lies.of h (by repeat(first|exact Ap|refine A5 ?_)))),(ai.seq (Lies.of h (by repeat(first|exact Ap|refine A5 ?_))) (Lies.of h (by repeat(first|exact Ap|refine A5 ?_))) oM)⟩) ?_;rintro d2 c6 ⟨b6,rfl,bk,ba⟩;refine G11 ?_;refine .call4 J J J J J Body33 (((rd_ben r hr x hx aq hI hO pr ay rs cs oM).imp (λw h=>h) λv out h=>benW_e hI h)) (λw h=>⟨(ap w (Lies.of h (by repeat(first|exact Ap|refine A5 ?_)))),(ai.seq (Lies.of h (by repeat(first|exact Ap|refine A5 ?_))) (Lies.of h (by repeat(first|exact Ap|refine A5 ?_))) oM)⟩) ?_;rintro d3 c7 ⟨b7,rfl,bm,bc⟩;have d4:(benV x.pl cs).1.length<=40000:=by unfold benV;rw[Lac];omega
  have cf:∀l∈(benV x.pl cs).1,l.length=32:=λl hl=>bv.2.2 l (Lbi hl);obtain⟨ck,cg⟩:∃e,chkE x.pl [] LS=e:=⟨_,rfl⟩;obtain⟨cm,cj⟩:∃n,comL LS (ordV x.pl cs).1=n:=⟨_,rfl⟩;refine G11 ?_;refine .cV J J J J Body16 (digs_same b3.p b4.p b3.n b4.n b3.c b4.c (sortV x.pl LS).1 c9.2 be.symm bg.symm oM) (λw h=>⟨a6 w (Lies.of h (by repeat(first|exact Ap|refine A5 ?_))),a7 w (Lies.of h (by repeat(first|exact Ap|refine A5 ?_)))⟩) ?_;refine G3 ?_;refine .eqi J J J J (decide_eq_true (rfl)) (G4 ?_);refine .cV J J J J Body16 (digs_same b5.p ah.p b5.n ah.n b5.c ah.c (ordV x.pl cs).1 bv.2.2 bi.symm bj.symm oM) (λw h=>⟨(a8 w (Lies.of h (by repeat(first|exact Ap|refine A5 ?_)))).see,(ab w (Lies.of h (by repeat(first|exact Ap|refine A5 ?_)))).see⟩) ?_;refine G4 ?_;refine .eqi J J J J (decide_eq_true (rfl)) (G4 ?_);refine .eqi J J J J (decide_eq_true (rfl)) (G4 ?_);refine .cV J J J J Body16 (digs_same b6.p b7.p b6.n b7.n b6.c b7.c (benV x.pl cs).1 cf bk.symm bm.symm oM) (λw h=>⟨ba w (Lies.of h (by repeat(first|exact Ap|refine A5 ?_))),bc w (Lies.of h (by repeat(exact Ap)))⟩) ?_;refine G4 ?_;refine .eqi J J J J (decide_eq_true (rfl)) (G4 ?_);refine .cV J J J J Body34 (lin_checkQ x hx hI p ac LS cg) (λw h=>⟨(ar w (Lies.of h (by repeat(first|exact Ap|refine A5 ?_)))),(hS (Lies.of h (by repeat(first|exact Ap|refine A5 ?_))))⟩) ?_;refine G2 ?_;refine .cV J J J J Body35 (rd_checkQ r hr x hx aq hI hO pr ac LS cg) (λw h=>⟨(ap w (Lies.of h (by repeat(first|exact Ap|refine A5 ?_)))),(hS (Lies.of h (by repeat(first|exact Ap|refine A5 ?_))))⟩) ?_;refine .eqi J J J J (decide_eq_true (rfl)) (G4 ?_);refine .cV J J J J Body36 (lin_commonQ ac ah LS (ordV x.pl cs).1 cj) (λw h=>⟨(hS (Lies.of h (by repeat(first|exact Ap|refine A5 ?_)))),ab w (Lies.of h (by repeat(first|exact Ap|refine A5 ?_)))⟩) ?_;refine G2 ?_;refine .cV J J J J Body37 (rd_commonQ ac ah LS (ordV x.pl cs).1 cj) (λw h=>⟨(hS (Lies.of h (by repeat(first|exact Ap|refine A5 ?_)))),ab w (Lies.of h (by repeat(first|exact Ap|refine A5 ?_)))⟩) ?_;refine .eqi J J J J (decide_eq_true (rfl)) (G4 ?_);refine .cV J J J J Body38 (lin_eq ac.p ah.p ac.n ah.n ac.c ah.c LS (ordV x.pl cs).1 ad bv.2.2 oM oM oM) (λw h=>⟨((hS (Lies.of h (by repeat(first|exact Ap|refine A5 ?_))))).see,(ab w (Lies.of h (by repeat(first|exact Ap|refine A5 ?_)))).see⟩) ?_;refine G2 ?_;refine .cV J J J J Body39 (rd_same ac ah LS (ordV x.pl cs).1) (λw h=>⟨(hS (Lies.of h (by repeat(first|exact Ap|refine A5 ?_)))),ab w (Lies.of h (by repeat(first|exact Ap|refine A5 ?_)))⟩) ?_;refine .eqb J J J J underlying4 (beq_self_eq_true _) (G4 ?_);refine G2 ?_;refine Ao (out:=[]) (Ag J J) Ad ?_;exact⟨rfl,rfl⟩
 have ax:=ae;refine G13 ?_;refine .cond_t J J (G5 ?_);refine G3 ?_;refine Ao (out:=[]) (Ag J J) Ad ?_;exact⟨rfl,rfl⟩
end Go.Proofs.YtbdfihcjddbhaaaGreat
namespace Go.Proofs.YtbdfihcjddbhaaaGreat
open Hw (La4 Le7)
open Go Go.ChangeShapes Go.WideShapes Go.ChangeAt Go.RowKit
variable{H:Type}{P:Program}{W:World}{b0 base:Nat}{e k:TypeId}{held:Bool}{ps:List MemPlace}{r:Reach}{sp:Nat->Bool}{v:Value}{d:DataW H}{enc:TypeId×Value->H}
theorem ownLCal:ownKnob Tryz.prog.godebug=none:=by kernel_rfl
theorem laidOutLCal:laidOutB Tryz.prog=true:=by kernel_rfl
theorem ints_ofLCal{s:Hw.Sl}{rs ds:List Int}(h:Hw.SeqIs (λr:Int=>[Hw.i64 r]) 1 (λ(_:World) (r d:Int)=>d=r/\(Lit.int .i64 r).wf=true) W s rs ds):IntsAt W s rs:=by
  have e:ds=rs:=Le7 (by rw[h.nd,h.nr]) λi h1 h2=>(h.is i _ _ (La4 h2) (La4 h1)).1;subst e;exact h
theorem openInLCal(hu:P.underlying k=some (.slice e))(he:P.underlying e=some (.int .i64))(hc:P.cellsOf e=1)
    (aa:Value.okWide P W r b0 k v) (hd:DataW.Trod enc P W base sp held k v d ps):∃s l,v=Hw.Sl.v s/\IntsAt W s l:=by
  simp only[Value.okWide,hu,Cell.okWide]at aa;obtain⟨a1,len,cap,rfl⟩:∃a1 len cap,v= .slice a1 len cap:=by
    unfold Cell.ok at aa;rw[hu]at aa;split at aa<;>first|exact aa.elim|exact⟨_,_,_,rfl⟩|simp_all
  obtain⟨fuel,hf⟩:=hd;obtain⟨s,rs,ds,h1,h2⟩:=Hw.open_seqS (cells:=λr:Int=>[Hw.i64 r]) (Is:=λ(_:World) (r d:Int)=>d=r/\(Lit.int .i64 r).wf=true) hu hc (by decide) (λht=>by
    obtain⟨a,ea,_,wa⟩:=DataW.trod_int he ht;exact⟨a,a,ea,⟨rfl,wa⟩,rfl⟩) hf
  refine⟨s,rs,?_,ints_ofLCal h2⟩;simp[Value.cells]at h1;exact h1
theorem openSqLCalBlock(hu:Tryz.prog.underlying k=some (.slice 37))(hc:Tryz.prog.cellsOf 37=131)
    (aa:Value.okWide Tryz.prog W r b0 k v) (hd:DataW.Trod enc Tryz.prog W base sp held k v d ps):∃s l,v=Hw.Sl.v s/\BlocksAt W s l:=by
  simp only[Value.okWide,hu,Cell.okWide]at aa;obtain⟨a1,len,cap,rfl⟩:∃a1 len cap,v= .slice a1 len cap:=by
    unfold Cell.ok at aa;rw[hu]at aa;split at aa<;>first|exact aa.elim|exact⟨_,_,_,rfl⟩|simp_all
  obtain⟨fuel,hf⟩:=hd;obtain⟨s,l,h1,h2⟩:=Block.openS hu hc hf;refine⟨s,l,?_,h2⟩;simp[Value.cells]at h1;exact h1
theorem openIILCal{k e f:TypeId}(hu:P.underlying k=some (.slice e))(he:P.underlying e=some (.slice f))(ab:P.underlying f=some (.int .i64))(hc:P.cellsOf f=1)(hc2:P.cellsOf e=1)
    (aa:Value.okWide P W r b0 k v) (hd:DataW.Trod enc P W base sp held k v d ps):∃s rs l,v=Hw.Sl.v s/\IntssAt W s rs l:=by
  simp only[Value.okWide,hu,Cell.okWide]at aa;obtain⟨a1,len,cap,rfl⟩:∃a1 len cap,v= .slice a1 len cap:=by
    unfold Cell.ok at aa;rw[hu]at aa;split at aa<;>first|exact aa.elim|exact⟨_,_,_,rfl⟩|simp_all
  obtain⟨fuel,hf⟩:=hd;obtain⟨s,rs,ds,h1,h2⟩:=Hw.open_seqS (cells:=slc) (Is:=IntsAt) hu hc2 (by decide) (λht=>by
    obtain⟨s2,r2,d2,e1,e2⟩:=Hw.open_seqS (cells:=λr:Int=>[Hw.i64 r]) (Is:=λ(_:World) (r d:Int)=>d=r/\(Lit.int .i64 r).wf=true) he hc (by decide) (λac=>by
      obtain⟨a,ea,_,wa⟩:=DataW.trod_int ab ac;exact⟨a,a,ea,⟨rfl,wa⟩,rfl⟩) ht
    exact⟨s2,r2,e1,ints_ofLCal e2,rfl⟩) hf
  refine⟨s,rs,ds,?_,h2⟩;simp[Value.cells]at h1;exact h1
theorem walkLCal(w:World)(s0:Hw.Sl)(l0:List DB)(ab:BlocksAt w s0 l0)(s1:Hw.Sl)(aa:List Hw.Sl)(l1:List (List Int))(ac:IntssAt w s1 aa l1)(s2:Hw.Sl)(l2:List Int)(ad:IntsAt w s2 l2):Calls Tryz.prog 4 #[Hw.Sl.v s0,Hw.Sl.v s1,Hw.Sl.v s2] w λe w'=>e= .returned (.bool true)/\Below w.heap.size w w':=
  by
  have fin:∀ {us:Array Value},Calls Tryz.prog 4 us w (λe W'=>∃v out,e= .returned v/\(v= .bool true/\out=[])/\Hw.Ret [] out w W')->Calls Tryz.prog 4 us w (λe w'=>e= .returned (.bool true)/\Below w.heap.size w w'):=
    λh=>h.mono λe w' ⟨v,out,he,⟨hv,ho⟩,hr⟩=>⟨by rw[he,hv],Hw.Keeps.below hr.keeps⟩
  exact fin (law_linearcalls s0 l0 s1 aa l1 s2 l2 w ⟨ab,ac,ad⟩)
theorem liftedLCal(os:Os)(ac:os.Started)(H:Type)(enc:TypeId×Value->H):
    ReturnsInHanded {} Tryz.checked os 4 .any (Rows.linearCallsSpec.pre6 enc Tryz.prog Tryz.f4 Rows.linearCallsRow.domain false) (Rows.linearCallsSpec.post enc Tryz.prog Tryz.f4 false true false false):=by
  refine returnsInHanded_of_change (C:=Tryz.checked) ownLCal ac (by kernel_rfl) Tryz.func4
    (ChangeSpec.witness6 (enc:=enc) (C:=Tryz.checked) false ⟨#[], #[.slice none 0 0, .slice none 0 0, .slice none 0 0],[]⟩ 8 (by kernel_rfl) (by kernel_rfl) (by kernel_rfl) (by kernel_rfl)) ?_
  intro W base args ds gs before ab hW aq _;have aa:∀(j:Nat) t v,Tryz.f4.params[j]? =some t->args[j]? =some v->Value.okWide Tryz.prog W .any base t v:=ab;have ag:=hW;obtain⟨p,q,ae,hV,rfl,aw,ax⟩:=hW;have hA:DataW.TrodAll enc Tryz.prog W 0 (λ_=>true) true Tryz.f4.params.toList args.toList ds p:=ae;rw[Tryz.params4]at hA aa;obtain⟨v0,ay,d0,ar,p0,q0,ah,rfl,rfl,h0,r0⟩:=trodAll_cons hA;obtain⟨v1,az,d1,au,p1,q1,rfl,rfl,rfl,h1,r1⟩:=trodAll_cons r0;obtain⟨v2,a1,d2,av,p2,q2,rfl,rfl,rfl,h2,r2⟩:=trodAll_cons r1;obtain⟨rfl,rfl,rfl⟩:=trodAll_nil r2;obtain rfl:args= #[v0,v1,v2]:=by cases args;simp_all
  obtain⟨rfl,rfl⟩:=trodVars_none hV;have k0:=h0;have am:∀x∈p0,x.block<W.heap.size:=by obtain⟨m,hm⟩:=k0;exact DataW.trod_lt m _ _ _ hm
  have k1:=h1;have an:∀x∈p1,x.block<W.heap.size:=by obtain⟨m,hm⟩:=k1;exact DataW.trod_lt m _ _ _ hm
  have k2:=h2;have ao:∀x∈p2,x.block<W.heap.size:=by obtain⟨m,hm⟩:=k2;exact DataW.trod_lt m _ _ _ hm
  obtain⟨s0,l0,rfl,ai⟩:=openSqLCalBlock Tryz.underlying22 (by kernel_rfl) (aa 0 22 v0 rfl rfl) h0;obtain⟨s1,ap,l1,rfl,aj⟩:=openIILCal Tryz.underlying50 Tryz.underlying51 Tryz.underlying3 (by kernel_rfl) (by kernel_rfl) (aa 1 50 v1 rfl rfl) h1;obtain⟨s2,l2,rfl,ak⟩:=openInLCal Tryz.underlying51 Tryz.underlying3 (by kernel_rfl) (aa 2 51 v2 rfl rfl) h2;clear ae ab;refine(walkLCal W s0 l0 ai s1 ap l1 aj s2 l2 ak).mono λe W' ⟨he,ad⟩=>?_;subst he;exact⟨_,rfl,_,_,_,[],_,[],ag,trodAll_mk1 (shut_bool Tryz.underlying4 _),(trodAll_cons_mk (Below.trod laidOutLCal (by kernel_rfl) (of_decide_eq_true (by kernel_rfl)) k0 ad am) (trodAll_cons_mk (Below.trod laidOutLCal (by kernel_rfl) (of_decide_eq_true (by kernel_rfl)) k1 ad an) (trodAll_cons_mk (Below.trod laidOutLCal (by kernel_rfl) (of_decide_eq_true (by kernel_rfl)) k2 ad ao) trodAll_mk0))),rfl,ad.frame _,λh=>by cases h⟩
theorem linearCalls_holds:Rows.LinearCallsSaid:=
  OpenClaim.holds_of_wide 4 Tryz.f4 rfl rfl rfl rfl rfl rfl rfl ⟨rfl,rfl,rfl,rfl,rfl⟩ rfl rfl rfl rfl rfl (by kernel_rfl) Tryz.func4 closedLCal
    (of_decide_eq_true (by kernel_rfl)) (by unfold Func.isWrapper;first|(rw[if_pos (by decide+kernel)];kernel_rfl)|(rw[if_neg (by decide+kernel)];exact⟨rfl,rfl⟩))
    (λos aa H enc _=>liftedLCal os aa H enc)
end Go.Proofs.YtbdfihcjddbhaaaGreat
end
