/- LinearNames returns true at every start, and leaves all old memory as it was. Conditions: none beyond the given statement's own. -/
import Derived.WalkKit
import Derived.Orders
import Derived.Deep.LoopGhost
import Derived.IntWalk
import Derived.Laws.StructEq
import Derived.ArgAppend
import Derived.Deep.AppendSrc
import Derived.Lib.Bytealg
import Derived.Lib.BytesEntry
import Derived.Laws.IdiomStrings
import Derived.WideKeyArr2
import Derived.ProofKit
import Derived.OpenShut
import Derived.Deep.Slices
import Derived.Laws.Pointers
import Derived.Laws.Cover3
import Derived.LaidEqlPtr
import Derived.LoopN
import Derived.RangeFuncLeaves
import Derived.RangeFuncSeq
import Derived.OrdersIn
import Derived.Maps.Keyed
import Derived.Maps.RangeRun
import Derived.DeepKeys4
import Derived.Below
import Derived.Test.YtpogmfngccolbaaGreatRows
import Derived.KernelRfl
import Derived.Laws.Externs
import Derived.Defers
import Derived.Laws.MathBits
import Derived.Shelf.SlSortCmp.WholeK
import Derived.Shelf.SlGeneric
import Derived.Test.YtpogmfngccolbaaGreatProg
import Derived.Shelf.SlSortCmp.NoneTotal
import Derived.Deep.QuietTactic
import Derived.BigQuiet
import Derived.ScopeJumps
import Derived.DeepKeys3
import Derived.ChangeOld
import Derived.JoinedOf
import Derived.Test.YtpogmfngccolbaaGreatLNmX5
set_option maxRecDepth 100000
set_option maxHeartbeats 8000000
set_option linter.unusedVariables false
set_option linter.unusedSimpArgs false
set_option linter.unusedSectionVars false
set_option linter.unnecessarySimpa false
section
namespace Go.Proofs.YtpogmfngccolbaaGreat
open Go Hw _root_.Go.Proofs.Tryz
structure DMap(X:PD)(fs:List (List UInt8×Int))(ks:List (List UInt8)):Prop where
  all:∀n∈ks,Ao fs n=some (X.dp n)
  only:∀n v,Ao fs n=some v→n∈ks
variable{B:Blk}{C:Cx}{L:List (List UInt8)}{X:PD}{hp:List Blk}{k:Nat}{w:World}
theorem DMap.none(X:PD):DMap X [] []:=⟨fun n hn=>(by cases hn),fun n v h=>(by cases h)⟩
theorem DMap.put{fs:List (List UInt8×Int)}{ks:List (List UInt8)}(h:DMap X fs ks){n:List UInt8}(hn:n∉ks):DMap X (Bd fs n (X.dp n)) (ks++[n]):=by
  have h0:Ao fs n=Option.none:=by
    cases hm:Ao fs n with
    |none=>rfl
    |some v=>exact absurd (h.only n v hm) hn
  constructor
  · intro m hm
    rcases Laa.1 hm with h1|h1
    ·rw[mget_old h0 _ (fun e=>hn (e▸h1))];exact h.all m h1
    ·rw[La1.1 h1];exact mget_new h0 _
  · intro m v hm
    by_cases e:n=m
    ·rw[←e];exact Lax _ La4
    · rw[mget_old h0 _ e]at hm
      exact Lak _ (h.only m v hm)
theorem dp_le(hI:X.Inv)(n:List UInt8):0≤X.dp n:=by
  unfold PD.dp;cases h:Ao X.P n with
  |some D=>exact hI.d0 n D h
  | none=>
    cases h2:Ao X.dep n with
    |none=>exact Int.le_refl _
    | some v=>
      exfalso;have h3:n∈X.P.map (·.1):=by rw[←hI.dk];exact La8.2 ⟨(n,v),Bg h2,rfl⟩
      obtain⟨D,hD⟩:=mget_of_key h3;rw[h]at hD;cases hD
theorem dp_big{x:DD}(hx:x.ok)(n:List UInt8):x.pl.dp n≤x.names.length:=by
  unfold PD.dp;have e:Ao x.pl.dep n=(Ao x.ent n).map fun e=>e.1.fDepth:=mget_map (fun e:EV=>e.1.fDepth) x.ent n;rw[e];cases h:Ao x.ent n with
  |none=>simp
  |some e=>exact(hx.ent _ (Bg h)).2.2.2
theorem step_take(hk:k<L.length):(L.take (k+1)).foldl (stepP X.dep) 0=if X.dp (L.getD k [])+1>(L.take k).foldl (stepP X.dep) 0 then X.dp (L.getD k [])+1 else(L.take k).foldl (stepP X.dep) 0:=by
  have e:L.getD k []=L[k]:=by rw[La2,La6 hk];rfl
  rw[Laq hk,Ldd,e];rfl
theorem step_bound{x:DD}(hx:x.ok)(hI:x.pl.Inv):∀(L:List (List UInt8)) (d:Int),0≤d→d≤20001→0≤L.foldl (stepP x.pl.dep) d∧L.foldl (stepP x.pl.dep) d≤20001
  | [],d,h0,h1=>⟨h0,h1⟩
  | a::L,d,h0,h1=>by
    have h2:=dp_big hx a;have h3:=dp_le hI a;have h4:=hx.big;unfold PD.dp at h2 h3;refine step_bound hx hI L _ ?_ ?_<;>unfold stepP<;>split<;>omega
theorem par_open{s:Sl}{bl:List Blk}(h:Hw.Acc s bl (Am L) 34 L.length 32)(h0:0<L.length)(h32:∀l∈L,l.length=32):∃b o,s.p=some ⟨b,o,none⟩∧∀w,Lies bl w→∀k,k<L.length→Sees w b (o+k*32) (Aa (L.getD k [])):=by
  rcases h with ⟨_,_,_,e⟩|⟨q,c,rfl,h1,h2,rfl⟩
  ·omega
  ·exact⟨q,0,rfl,fun w hw k hk=>Bv h32 (sees_kok (hw _ La4) fun j v hj=>by rw[Lb3];exact hj) hk⟩
theorem depth_known(n:List UInt8)(h32:n.length=32)(a b c m:Nat)(fs:List (List UInt8×Int))(k:Int)(hk:Ao fs n=some k):Mv 144 [agg (Aa n),ptr a 0,ptr b 0,ptr c 0] (fun W=>W.cell? ⟨a,0,none⟩=some (.map (some m))∧BlkOk W (A0 m (Al 32 evI) fs)) (i64 k):=by
 intro W hW;refine Ac func144 J 45 ntmps144 J (G3 ?_);intro n4 hn4 hf4;refine G6 ?_;refine .loadE J J J underlying32 J sP (hW.1) (.lA J J J Y34.h J Sz34 Z0 (by(simp[h32];done)) ?_);refine .lookFC evI MI hW.2 sP J J J J h32 (fun hg=>?_) (fun v hg=>?_)
 ·
  exfalso;rw[hk]at hg;cases hg
 obtain rfl:v=k:=by rw[hk]at hg;exact(Lee hg).symm
 refine G12 ?_;refine .cond_t J J (G6 ?_);refine G3 ?_;refine⟨_,[],Ah J J,sP,sP,?_,rfl⟩;rfl
theorem depth_next(x:DD)(hx:x.ok)(hI:x.pl.Inv)(p:Nat)(n:List UInt8)(h32:n.length=32)(D:DB)(hD:Ao x.pl.P n=some D)(a b c m:Nat)(fs:List (List UInt8×Int))(hno:Ao fs n=none)(hpar:∀q∈Bk D,Ao fs q=some (x.pl.dp q))(hdp:x.pl.dp n=(Bk D).foldl (stepP x.pl.dep) 0):Meets prog 144 [agg (Aa n),ptr a 0,ptr b 0,ptr c 0] [m] (fun W=>Lent [A0 m (Al 32 evI) fs] W∧Lies (x.blks p) W∧(∀b∈x.blks p,b.n≠m)∧(W.cell? ⟨a,0,none⟩=some (.map (some m))∧a≠m)∧(W.cell? ⟨b,0,none⟩=some (ptr p 0)∧b≠m)∧W.cell? ⟨c,0,none⟩=some (.func (.func 144) #[] #[ptr a 0,ptr b 0,ptr c 0])∧c≠m) (fun v out=>v=i64 (x.pl.dp n)∧out=[A0 m (Al 32 evI) (Bd fs n (x.pl.dp n))]):=by
 intro W hW;have h32q:True:=trivial;obtain⟨_,hlies,hxm,⟨hca,ham⟩,⟨hcb,hbm⟩,hcc,hcm⟩:=id hW;have hck:∀q∈x.P,q.2.check=0:=hI.ck;have h16:D.ls.length≤16:=(ck_small (hck _ (Bg hD))).1;have h17:(Bk D).length≤17:=by have:=parL_len D;omega
 have hdk:∀k,0≤((Bk D).take k).foldl (stepP x.pl.dep) 0∧((Bk D).take k).foldl (stepP x.pl.dep) 0≤20001:=fun k=>step_bound hx hI _ 0 (Int.le_refl _) dE;have hbig:=hx.big;refine calls_of (hp0:=[A0 m (Al 32 evI) fs]) func144 J 45 ntmps144 J hW.1.rep (G3 ?_);intro n4 hn4 hf4;refine G6 ?_;refine .loadE J J J underlying32 J (by(simp;omega)) (hca) ?_;refine .lA J J J Y34.h J Sz34 Z0 (by(simp[h32];done)) ?_;refine .lookF evI MI J J J J h32 Z1 (fun hg=>?_) (fun v hg=>?_)
 ·
  skip;refine G12 ?_;refine .cond_f J J (G4 ?_);refine .loadE J J J Y26.h J (by(simp;omega)) (hcb) ?_;refine .lA J J J Y34.h J Sz34 Z0 (by(simp[h32];done)) ?_;refine .call4 J J J J J Body114 (dag_get x hx hck p n h32) (fun w h=>Lies.keep hlies h.keeps (fun b hb=>by simpa using hxm b hb)) ?_;rintro v24 out24 (⟨h0,_⟩|⟨D2,B,hD2,hB,rfl,hbi⟩)
  ·exfalso;rw[h0]at hD;cases hD
  obtain rfl:D2=D:=by rw[hD]at hD2;exact(Lee hD2).symm
  refine G3 ?_;refine .alloc (cs:=Block.zero.cells) J Block.zr J ?_;intro n8 hn8 hf8;refine .sA J J J J (Block.isCell (by exact hB.ok)) Sz50 (Block.length (by exact hB.ok)) Z0 (Block.length (by exact Block.zero_ok)) zU ?_;refine G11 ?_;refine .lA J J J Y50.h J Sz50 Z0 (Block.length (by exact hB.ok)) ?_;refine .call4 J J J J J Body116 (db_parA B D2 oM) (fun w h=>hbi w (Lies.of h (by repeat(first|exact A4|refine A9 ?_)))) ?_;rintro v28 out28 ⟨⟨p28,n28,c28⟩,rfl,hac28⟩;have hn28:n28=(Bk D2).length:=hac28.num;have hprow2:∀l∈Bk D2,l.length=32:=parL_row (hB_ok hx hlies hD2);refine G5 ?_;refine .loop (ι:=Nat×Int) (fun r=>⟨[(1,ptr a 0),(2,ptr b 0),(3,ptr c 0),(4,ptr n4 0),(5,i64 0),(10,i64 r.2),(28, .slice p28 n28 c28),(29,i64 (n28:Int)),(30,i64 (r.1:Int))],(out28++(out24++(⟨n4,Aa n,34,(Aa n).length⟩::(A0 m (Al 32 evI) fs::[]))))⟩) (fun r=>r.1≤n28∧r.2=((Bk D2).take r.1).foldl (stepP x.pl.dep) 0) (fun r=>n28-r.1) ((0,0)) ?_ ?_ ?_
  ·exact⟨Lar _,rfl⟩
  ·exact Aq wN (Ae sG (Ae sG (Ab rM (Ab rM Aj))))
  rintro⟨k,dv⟩ ⟨hk,hdv⟩;simp only at hk hdv ⊢;have hdb:=hdk k;rw[←hdv]at hdb;have hdb2:=dp_le hI ((Bk D2).getD k []);have hdb3:=dp_big hx ((Bk D2).getD k []);refine .seq ?_;skip;refine G5 ?_;refine .condP J (fun hc1=>?_) (fun hc1=>?_)
  ·
   have hk3:k<(Bk D2).length:=by omega
   obtain⟨b28,o28,hp28,see28⟩:∃b o,p28=some ⟨b,o,none⟩∧∀w,Lies out28 w→∀k,k<(Bk D2).length→Sees w b (o+k*32) (Aa ((Bk D2).getD k [])):=par_open hac28 oM hprow2;have h32q:((Bk D2).getD k []).length=32:=hprow2 _ (getD_mem2 hk3);refine G6 ?_;refine .idxSlP 32 J J J hp28 J Y30.h Sz34 k J oM (.loadSN (n:=32) (Aa ((Bk D2).getD k [])) J J J Y34.h J Sz34 (by rw[Aa,La0];exact h32q) (fun w h=>see28 w (Lies.of h (by repeat(exact A4))) k hk3) ?_);refine .alloc (cs:=(Aa (List.replicate 32 0))) J B5 J ?_;intro n12 hn12 hf12;refine .sA J J J J zE Sz34 (by(rw[Aa,La0];assumption)) Z0 sP zU ?_;refine G4 ?_;refine .loadE J J J underlying118 J (by(simp;omega)) (hcc) ?_;refine .lA J J J Y34.h J Sz34 Z0 (by(rw[Aa,La0];assumption)) ?_;refine .callCV J J J J J Body144 (depth_known ((Bk D2).getD k []) h32q a b c m fs (x.pl.dp ((Bk D2).getD k [])) (hpar _ (getD_mem2 hk3))) (fun w h=>⟨h.keeps.cell (by simpa using ham) hca,Ca h mR⟩) ?_;refine G1 ?_;refine .max2 J J J J (rfl) (G9 ?_);refine⟨(k+1,_),⟨by simp only;omega,?_⟩,by simp only;omega,Aq wN (Ae sG (Ae sG (Ab rM (Ab rM Aj))))⟩;simp only;rw[step_take hk3,←hdv];rfl
  obtain rfl:k=n28:=by omega
  obtain rfl:dv=x.pl.dp n:=by rw[hdv,hdp,La5 oM]
  refine G7 ?_;refine .loadE J J J underlying32 J (by(simp;omega)) (hca) ?_;refine .lA J J J Y34.h J Sz34 mR (by(simp[h32];done)) ?_;refine G1 ?_;refine .mapPut (v:=x.pl.dp n) MI J J J J J h32 rM ?_;refine G8 ?_;refine G2 ?_;refine Az (out:=(A0 m (Al 32 evI) (Bd fs n (x.pl.dp n))::[])) (Ah J J) (Ab rM Aj) ?_;exact⟨rfl,rfl⟩
 exfalso;rw[hno]at hg;cases hg
theorem nodup_inj{α β:Type}{f:α→β}{l:List α}(h:(l.map f).Nodup)(a:α)(ha:a∈l)(b:α)(hb:b∈l)(e:f a=f b):a=b:=by
  obtain⟨i,hi,rfl⟩:=Lcl ha;obtain⟨j,hj,rfl⟩:=Lcl hb;have h2:=Lf8.1 h;rcases Lgg i j with h3|h3|h3
  ·exact absurd (by rw[Lfc,Lfc];exact e) (h2 i j (by simpa using hi) (by simpa using hj) h3)
  ·subst h3;rfl
  ·exact absurd (by rw[Lfc,Lfc];exact e.symm) (h2 j i (by simpa using hj) (by simpa using hi) h3)
theorem names_apart{A B:Blk}(h:HRep C hp w)(hA:A∈hp)(hB:B∈hp)(hc:¬A.cs.length=B.cs.length):A.n≠B.n:=fun e=>hc (by rw[nodup_inj h.nodup A hA B hB e])
theorem own_apart{hp L:List Blk}(h:HRep C hp w)(hB:B∈hp)(hL:Lies L C.W0)(hl:C.lent=[]:=by rfl):∀b∈L,b.n≠B.n:=fun b hb e=>by
  have h1:=(hL b hb).lt;rcases h.own B hB with h2|h2
  ·omega
  ·rw[hl]at h2;cases h2
def DepV(X:PD)(p a b c m:Nat)(fs:List (List UInt8×Int))(ks:List (List UInt8))(v:Value)(bl:List Blk):Prop:=
  v= .func (.func 144) #[] #[ptr a 0,ptr b 0,ptr c 0]∧bl=[A0 m (Al 32 evI) fs,⟨c,[.func (.func 144) #[] #[ptr a 0,ptr b 0,ptr c 0]],118,1⟩,⟨a,[.map (some m)],32,1⟩,⟨b,[ptr p 0],26,1⟩]∧DMap X fs ks
def DepR(X:PD)(p:Nat)(ls:List (List UInt8))(v:Value)(out:List Blk):Prop:=∃a b c m fs ks,DepV X p a b c m fs ks v out∧∀n∈ls,n∈X.names→n∈ks
theorem mput_in{κ ν:Type}[DecidableEq κ]{fs:List (κ×ν)}{q:κ×ν}{a:κ}{v:ν}(hq:q∈fs):q.1∈(Bd fs a v).map (·.1):=by
  unfold Bd;cases h:midx fs a with
  |none=>exact La8.2 ⟨q,Lak _ hq,rfl⟩
  | some j=>
    simp only;obtain⟨i,hi,e⟩:=Lcl hq;unfold midx at h;rw[Lbr]at h;obtain⟨hl,he,_⟩:=h;by_cases hij:j=i
    · subst hij
      rw[e]at he;exact La8.2 ⟨(a,v),List.mem_set hl _,by rw[←of_decide_eq_true he]⟩
    · refine La8.2 ⟨q,?_,rfl⟩
      rw[←e];exact List.mem_iff_getElem.2 ⟨i,by rw[Lbk];exact hi,List.getElem_set_ne hij _⟩
theorem setP_keys(ls:List (List UInt8)):((setP ls).map (·.1)).Nodup∧∀n∈ls,n∈(setP ls).map (·.1):=by
  have key:∀(l:List (List UInt8)) (fs:List (List UInt8×Unit)),(fs.map (·.1)).Nodup→((l.foldl (fun fs n=>Bd fs n ()) fs).map (·.1)).Nodup∧∀n,(n∈l∨n∈fs.map (·.1))→n∈(l.foldl (fun fs n=>Bd fs n ()) fs).map (·.1):=by
    intro l
    induction l with
    |nil=>intro fs h;exact⟨h,fun n hn=>by rcases hn with h1|h1;cases h1;exact h1⟩
    | cons a l ih=>
      intro fs h;obtain⟨h1,h2⟩:=ih (Bd fs a ()) (mput_nodup h a ());refine⟨h1,fun n hn=>h2 n ?_⟩;by_cases e:n=a
      · right
        rw[e];cases hm:Ao fs a with
        |none=>exact La8.2 ⟨(a,()),Bg (mget_new hm ()),rfl⟩
        |some u=>exact mput_in (q:=(a,u)) (Bg hm)
      · rcases hn with hn|hn
        · rcases Lab.1 hn with hn|hn
          ·exact absurd hn e
          ·exact .inl hn
        · obtain⟨q,hq,rfl⟩:=La8.1 hn
          exact .inr (mput_in hq)
  obtain⟨h1,h2⟩:=key ls [] Lcp;exact⟨h1,fun n hn=>h2 n (.inl hn)⟩
theorem take_succ_getD(hk:k<L.length):L.take (k+1)=L.take k++[L.getD k []]:=by
  rw[Laq hk,La2,La6 hk];rfl
theorem not_before(h:L.Nodup)(hk:k<L.length):L.getD k []∉L.take k:=by
  have h2:(L.take (k+1)).Nodup:=h.sublist (List.take_sublist _ _);rw[take_succ_getD hk,Lb2]at h2;exact fun hm=>h2.2.2 _ hm _ La4 rfl
theorem lin_depths(x:DD)(hx:x.ok)(hI:x.pl.Inv)(hO:x.pl.Ord)(p:Nat)(s:Sl)(ls:List (List UInt8)):Meets prog 83 [ptr p 0,s.v] [] (fun W=>Lies (x.blks p) W∧RowsAt W s 32 ls) (DepR x.pl p ls):=by
  intro W hW;have h32k:True:=trivial;have hbig:=hx.big;have hnln:x.pl.names.length=x.names.length:=rfl;have hnd:x.pl.names.Nodup:=by rw[hI.nn];exact hI.nd
  refine Ac func83 J 31 ntmps83 J (.sr (.box1 J J J ?_));intro n2 hn2 hf2;refine .a J J J (.nsr (.mkMap (Al 32 evI) J J ?_));intro m10;refine .alloc (cs:=[.map none]) J Zr32 J ?_;intro n5 hn5 hf5;refine .s1 J J J J J Sz32 Z0 sP (by rfl) zU ?_;refine .nsr (.alloc (cs:=[.nilFunc]) J Zr118 J ?_);intro n6 hn6 hf6;refine .nsr (.makeFunc J J J J (.s1 J J J J J Sz118 Z0 sP (by rfl) zU ?_));refine .nsr (.m J J J (.call4 J J J J J Body80 (lin_set s ls) (fun w h=>Cp h J hW.2) ?_));rintro v13 out13 ⟨m13,rfl,rfl⟩;refine .a J J J (.na (.seq (.sr (.load1 J J J Y26.h J Z4 (by rfl) ?_))));refine .call4 J J J J J Body110 (dag_names x hx p) (fun w h=>Bw hW.1 h) ?_;rintro v15 out15 ⟨s15,rfl,hac15⟩;have hn15:=hac15.num;refine .lenSl J J J Y30.h (.m J J J (.na (.block (.loop (ι:=Nat×List (List UInt8×Int)×List (List UInt8×Unit)) (fun r=>⟨[(2,ptr n2 0),(4, .nilFunc),(5,ptr n5 0),(6,ptr n6 0),(7, .map (some m13)),(15,s15.v),(16,i64 (s15.n:Int)),(17,i64 (r.1:Int))],(A0 m10 (Al 32 evI) r.2.1::(A0 m13 (Al 32 evU) r.2.2::(out15++(⟨n6,[.func (.func 144) #[] #[ptr n5 0,ptr n2 0,ptr n6 0]],118,1⟩::(⟨n5,[.map (some m10)],32,1⟩::(⟨n2,[ptr p 0],26,1⟩::[]))))))⟩) (fun r=>r.1≤s15.n∧DMap x.pl r.2.1 (x.pl.names.take r.1)∧(r.2.2.map (·.1)).Nodup∧∀n∈ls,n∈x.pl.names.take r.1∨n∈r.2.2.map (·.1)) (fun r=>s15.n-r.1) ((0,[],setP ls)) ?_ ?_ ?_))))
  ·exact⟨Lar _,DMap.none _,(setP_keys ls).1,fun n hn=> .inr ((setP_keys ls).2 n hn)⟩
  ·exact Aq wN (Ab rM (Ab (by repeat(first|exact A3|apply B0)) (Ae sG (Ab rM (Ab rM (Ab rM Aj))))))
  rintro⟨k,fs,rs⟩ ⟨hk,hfs,hrn,hrs⟩;simp only at hk hfs hrn hrs ⊢;refine .sr (.lss J J J J J (.na (.seq (.condP J (fun hc0=>?_) (fun hc0=>?_)))))
  ·
    have hk3:k<x.pl.names.length:=by omega
    obtain⟨b15,o15,hp15,see15⟩:=par_open hac15 oM hx.n32;have h32k:(x.pl.names.getD k []).length=32:=hx.n32 _ (getD_mem2 hk3);obtain⟨D,hD,hbef,hdp⟩:=hO.before hI (k:=k) (n:=(x.pl.names.getD k [])) (by rw[La2,La6 hk3];rfl);have hno:Ao fs (x.pl.names.getD k [])=none:=by
      cases h9:Ao fs (x.pl.names.getD k [])with
      |none=>rfl
      |some v9=>exact absurd (hfs.only _ _ h9) (not_before hnd hk3)
    have hpar:∀q∈Bk D,Ao fs q=some (x.pl.dp q):=fun q hq=>hfs.all q (hbef q hq);refine .skip (Bx (.seq (.block (.sr (.idxSlP 32 J J J hp15 J Y30.h Sz34 k J oM (.loadSN (n:=32) (Aa (x.pl.names.getD k [])) J J J Y34.h J Sz34 (by rw[Aa,La0];exact h32k) (fun w h=>see15 w (Lies.of h (by repeat(first|exact A4|refine A9 ?_))) k hk3) ?_))))));refine .alloc (cs:=(Aa (List.replicate 32 0))) J B5 J ?_;intro n9 hn9 hf9;refine .sA J J J J zE Sz34 (by(rw[Aa,La0];assumption)) Z0 sP zU ?_;refine .na (.seq (.sr (.m J J J (.lenMap Y115 J J J Z2 ?_))));refine .eqi J J J J J (.na (.condP J (fun hc1=>?_) (fun hc1=>?_)))
    ·
      have hfin:∀n∈ls,n∈x.pl.names→n∈x.pl.names.take k:=fun n hn _=>by
        rcases hrs n hn with h9|h9
        ·exact h9
        · have hz:rs=[]:=Lah oM
          rw[hz]at h9;cases h9
      refine .exit (at_x (bl_x J (at_x (at_x (bl_h (Bx (.sr (.load1 J J J underlying118 J mR (by rfl) ?_))))))));refine .a J J J (.na ?_);refine .ret (en_r (Az (out:=(A0 m10 (Al 32 evI) fs::(⟨n6,[.func (.func 144) #[] #[ptr n5 0,ptr n2 0,ptr n6 0]],118,1⟩::(⟨n5,[.map (some m10)],32,1⟩::(⟨n2,[ptr p 0],26,1⟩::[]))))) (Ah J J) (Ab rM (Ab rM (Ab rM (Ab rM Aj)))) ?_));exact⟨n5,n2,n6,m10,fs,_,⟨rfl,rfl,hfs⟩,hfin⟩
    refine .skip (Bx (.sr (.load1 J J J underlying118 J mR (by rfl) ?_)));refine .lA J J J Y34.h J Sz34 Z0 (by(rw[Aa,La0];assumption)) ?_;refine .callCL (L:=[A0 m10 (Al 32 evI) fs]) J J J J J J Body144 (depth_next x hx hI p (x.pl.names.getD k []) h32k D hD n5 n2 n6 m10 fs hno hpar hdp) (show List.Perm _ (A0 m10 (Al 32 evI) fs::_)from rM) (lent_ok J) (fun w h=>⟨Lent.of h (by repeat(first|exact sg_end|apply sg_there)),Bw hW.1 h,own_apart (B:=A0 m10 (Al 32 evI) fs) h Z1 hW.1,⟨(Ca (B:=⟨n5,[.map (some m10)],32,1⟩) h mR).cell (o:=0) J,names_apart (A:=⟨n5,[.map (some m10)],32,1⟩) (B:=A0 m10 (Al 32 evI) fs) h mR Z1 (by show ¬(1:Nat)=0;decide)⟩,⟨(Ca (B:=⟨n2,[ptr p 0],26,1⟩) h mR).cell (o:=0) J,names_apart (A:=⟨n2,[ptr p 0],26,1⟩) (B:=A0 m10 (Al 32 evI) fs) h mR Z1 (by show ¬(1:Nat)=0;decide)⟩,(Ca (B:=⟨n6,[.func (.func 144) #[] #[ptr n5 0,ptr n2 0,ptr n6 0]],118,1⟩) h mR).cell (o:=0) J,names_apart (A:=⟨n6,[.func (.func 144) #[] #[ptr n5 0,ptr n2 0,ptr n6 0]],118,1⟩) (B:=A0 m10 (Al 32 evI) fs) h mR Z1 (by show ¬(1:Nat)=0;decide)⟩) ?_;rintro v26 out26 ⟨rfl,rfl⟩;refine .na (.region (.m J J J (.lA J J J Y34.h J Sz34 Z1 (by(rw[Aa,La0];assumption)) ?_)));refine .mapDel MN J J J J h32k rM ?_;refine .nil (bl_n (Bx (.region (.aI J J J J oM (.m J J J (.na ?_))))));refine⟨(k+1,Bd fs (x.pl.names.getD k []) (x.pl.dp (x.pl.names.getD k [])),mdel rs (x.pl.names.getD k [])),⟨by simp only;omega,?_,mdel_nodup hrn _,fun n hn=>?_⟩,by simp only;omega,Aq wN (Ab rM (Ab rM (Ae sG (Ab rM (Ab rM (Ab rM Aj))))))⟩
    ·simp only;rw[take_succ_getD hk3];exact hfs.put (not_before hnd hk3)
    · simp only
      by_cases e:n=(x.pl.names.getD k [])
      ·left;rw[take_succ_getD hk3,e];exact Lax _ La4
      · rcases hrs n hn with h9|h9
        ·left;rw[take_succ_getD hk3];exact Lak _ h9
        ·right;exact(mdel_keys hrn _ _).2 ⟨h9,e⟩
  have hfin:∀n∈ls,n∈x.pl.names→n∈x.pl.names.take k:=fun n _ hn=>by rw[La5 oM];exact hn
  refine .exit (at_x (at_x (bl_h (Bx (.sr (.load1 J J J underlying118 J mR (by rfl) ?_))))));refine .a J J J (.na ?_);refine .ret (en_r (Az (out:=(A0 m10 (Al 32 evI) fs::(⟨n6,[.func (.func 144) #[] #[ptr n5 0,ptr n2 0,ptr n6 0]],118,1⟩::(⟨n5,[.map (some m10)],32,1⟩::(⟨n2,[ptr p 0],26,1⟩::[]))))) (Ah J J) (Ab rM (Ab rM (Ab rM (Ab rM Aj)))) ?_));exact⟨n5,n2,n6,m10,fs,_,⟨rfl,rfl,hfs⟩,hfin⟩
open Go.RowKit Go.Shelf Go.Lib Go.Sort
set_option maxHeartbeats 2000000
variable{W w:World}{α:Type}
theorem ret_grow{W W':World}{out:List Blk}(h:Ret [] out W W'):∃q os',W'=grow (W.drewN q) os':=by
  have k:=h.keeps;refine⟨W'.drawn-W.drawn,W'.heap.extract W.heap.size W'.heap.size,?_⟩;have hd:W.drawn+(W'.drawn-W.drawn)=W'.drawn:=by have:=k.drawn;omega
  have hh:W.heap++W'.heap.extract W.heap.size W'.heap.size=W'.heap:=by
    refine Le6 fun i=>?_;rcases Laz i W.heap.size with h1|h1
    ·rw[Ldb h1];exact(k.block i h1 sP).symm
    · rw[Array.getElem?_append_right h1,Array.getElem?_extract]
      have:=k.size;split
      ·rw[show W.heap.size+(i-W.heap.size)=i by omega]
      ·rw[Lcd oM]
  obtain⟨hp,tp,dr,os,ot⟩:=W';obtain⟨hp0,tp0,dr0,os0,ot0⟩:=W;have e1:=k.os;have e2:=k.tape;have e3:=k.output;simp only at e1 e2 e3 hd hh;subst e1;subst e2;subst e3;simp only[grow,World.drewN,hd,hh]
theorem sort_keep[Inhabited α]{enc:α→List Value}{k q m:Nat}{dk:Array α}{os:Array Obj}{i:Nat}(hi:i<W.heap.size)(hne:i≠q):(sortWorldK enc k W q 0 m dk os).heap[i]? =W.heap[i]? :=by
  simp only[sortWorldK,grow,putRowK,putRow,mapBlock];rw[Ldb (by simpa using hi),Ldo,if_neg (fun e:q=i=>hne e.symm)];rfl
theorem flatK_any[Inhabited α](g:α→List UInt8)(hg:∀x,(g x).length=32)(d:Array α):∀(j:Nat) (v:Value),(Am (d.toList.map g))[j]? =some v→j<d.size*32∧(flatK (fun x=>Aa (g x)) 32 d)[j]! =v:=fun j v hj=>by
  have h32:∀l∈d.toList.map g,l.length=32:=fun l hl=>by obtain⟨x,_,rfl⟩:=La8.1 hl;exact hg x
  have hlen:=Aw h32;have hlt:=(Lad.1 hj).1;rw[hlen]at hlt;have hlt2:j<d.size*32:=by simpa using hlt
  refine⟨hlt2,?_⟩;rw[get_flatK _ _ _ _ hlt2];have hi:j/32<d.size:=by omega
  have hc:((d.toList.map g).map Aa)[j/32]? =some (Aa (g d[j/32]!)):=by
    rw[Lal,Lal];have:d.toList[j/32]? =some d[j/32]! :=by simp[hi]
    rw[this];rfl
  have hm:j%32<(Aa (g d[j/32]!)).length:=by rw[Aa,La0,hg];omega
  have:=flat_get (m:=32) (fun l hl=>flatB_all h32 l hl) hc hm;have e:j/32*32+j%32=j:=by omega
  rw[e]at this;have hj2:((d.toList.map g).map Aa).flatten[j]? =some v:=hj;rw[hj2]at this;rw[Lfz,←this];rfl
theorem sort_by(q n c m:Nat)(ks:List (List UInt8))(h32:∀l∈ks,l.length=32)(hl:ks.length=n)(h0:0<n)(hbig:n≤1000000)(hm:n*32≤m)(f:Nat)(caps:List Value)(cf:List UInt8→List UInt8→Int)(swo:SWO (ltOf fun x y: {l:List UInt8//l∈ks}=>cf x.1 y.1))(bl:List Blk)
    (eg:∀args w,(callFunc f args).run prog w= .ok (.enter f args) w) (hcm:∀x∈ks,∀y∈ks,Meets prog f ([agg (Aa x),agg (Aa y)]++caps) [] (Lies bl) (fun v out=>v=i64 (cf x y)∧out=[])):
    Meets prog 140 [.slice (some ⟨q,0,none⟩) n c, .func (.func f) #[] caps.toArray] [q] (fun W=>BlkOk W ⟨q,Am ks,34,m⟩∧Lies bl W∧∀b∈bl,b.n≠q)
    (fun v out=>v= .tuple #[]∧∃ks':List (List UInt8),ks'.Perm ks∧ks'.Pairwise (fun a b=>¬cf b a<0)∧out=[⟨q,Am ks',34,m⟩]):=fun W ⟨hb,hbl,hbq⟩=>by
  haveI:Inhabited {l:List UInt8//l∈ks}:=⟨⟨ks[0]'oM,Lcf _⟩⟩
  obtain⟨d,hd⟩:∃d:Array {l:List UInt8//l∈ks},d=ks.attach.toArray:=⟨_,rfl⟩;have hdl:d.toList.map (·.1)=ks:=by rw[hd];simp
  have hds:d.size=n:=by rw[hd,←hl];simp
  have hg:∀x: {l:List UInt8//l∈ks},x.1.length=32:=fun x=>h32 x.1 x.2;have hb0:∃full fr,BlkAt W ⟨q,Am ks,34,m⟩ full fr:=hb;obtain⟨full,fr,hbk⟩:=hb0;have hfl:=Aw h32;have hH:HoldsK (fun x: {l:List UInt8//l∈ks}=>Aa x.1) 32 W q 0 d:=fun j hj=>by
    rw[size_flatK]at hj;have hj2:j<(Am ks).length:=by rw[hfl,hl,←hds];exact hj
    have h1:=La6 hj2;have h2:=(flatK_any (fun x: {l:List UInt8//l∈ks}=>x.1) hg d j _ (by rw[hdl];exact h1)).2;rw[h2];exact⟨hb.cell (b:=⟨q,Am ks,34,m⟩) (by rw[Lb3];exact h1),hbk.unfrozen (by show 0+j<m;omega)⟩
  have hcmp:CmpLays prog f caps.toArray (fun x: {l:List UInt8//l∈ks}=>Aa x.1) 32 (fun x y=>cf x.1 y.1) q 0 d.size W:=fun k os dk hk x y=>by
    have hl2:Lies bl (sortWorldK (fun x: {l:List UInt8//l∈ks}=>Aa x.1) 32 W q 0 k dk os):=fun b hb2=>(hbl b hb2).of_heap (sort_keep (hbl b hb2).lt (hbq b hb2));have h3:=hcm x.1 x.2 y.1 y.2 _ hl2;have e:([agg (Aa x.1),agg (Aa y.1)]++caps).toArray= #[.agg (Aa x.1).toArray, .agg (Aa y.1).toArray]++caps.toArray:=by simp[agg]
    rw[e]at h3;exact h3.mono fun e' W' ⟨v,out,he,⟨hv,_⟩,hr⟩=>⟨by rw[he,hv],ret_grow hr⟩
  have hz25:∀w,(Go.sizeOf (sortD_ren.t 24)).run prog w= .ok 32 w:=by
    intro w;have e:sortD_ren.t 24=34:=by rfl
    rw[e];exact Cf Sz34 w
  have hcon:=AnyQ.slices_SortFunc sortD 32 (fun w=>run_isAgg_arr Y34.h rfl w) (fun w=>hz25 w) (fun x: {l:List UInt8//l∈ks}=>Aa x.1) (fun x=>by rw[Aa,La0,hg x]) (fun x v hv=>by obtain⟨u,_,rfl⟩:=La8.1 hv;rfl) (fun x y=>cf x.1 y.1) swo f caps.toArray q 0 c d W eg hcmp hH hb.lt oM;have hcon2:Calls prog 140 #[.slice (some ⟨q,0,none⟩) d.size c, .func (.func f) #[] caps.toArray] W _:=hcon;rw[hds]at hcon2;refine hcon2.mono fun e W' ⟨he,d',k,os,hp,hs,hw⟩=>?_;subst hw;have hsz':d'.size=d.size:=hp.1;obtain⟨ks',hk'⟩:∃ks',ks'=d'.toList.map (·.1):=⟨_,rfl⟩;have h32':∀l∈ks',l.length=32:=fun l hl=>by rw[hk']at hl;obtain⟨x,_,rfl⟩:=La8.1 hl;exact hg x
  have hlen':ks'.length=n:=by rw[hk'];simp[hsz',hds]
  have hperm:ks'.Perm ks:=by
    have h4:(d'.toList.map (·.1)).Perm (d.toList.map (·.1)):=by
      refine List.Perm.map _ ?_;have h3:=hp.2.2;have e1:d.extract 0 d.size=d:=by simp
      have e2:d'.extract 0 d.size=d':=by rw[←hsz'];simp
      rw[←hds]at h3;rwa[e1,e2]at h3
    rw[hk'];rw[hdl]at h4;exact h4
  have hsort:ks'.Pairwise (fun a b=>¬cf b a<0):=by
    rw[hk'];refine Lgj.2 (Lf8.2 fun i j hi hj hij=>?_);have h4:=hs i j (Lar _) hij (by rw[←hds,←hsz'];simpa using hj);have h5:decide (cf d'[j]!.1 d'[i]!.1<0)=false:=h4;rw[decide_eq_false_iff_not]at h5;have hi2:i<d'.size:=by simpa using hi
    have hj2:j<d'.size:=by simpa using hj
    rw[getElem!_pos d' j hj2,getElem!_pos d' i hi2]at h5;simpa using h5
  refine⟨_,_,he,⟨rfl,ks',hperm,hsort,rfl⟩,⟨⟨rfl,rfl,rfl,?_,Lgs W.drawn k,fun i hi hn=>?_⟩,fun b hb2=>?_,by simp,fun b hb2=>?_⟩⟩
  ·simp[sortWorldK,grow,putRowK]
  ·exact sort_keep hi (by simpa using hn)
  · rw[La1.1 hb2]
    have hq:W.heap[q]? =some (.cells full 34 fr):=hbk.heap;have hql:q<W.heap.size:=hb.lt;refine⟨putCells id 0 (flatK (fun x: {l:List UInt8//l∈ks}=>Aa x.1) 32 d') full,fr,?_,by simpa[putCells]using hbk.size,?_,hbk.free⟩
    · simp only[sortWorldK,grow,putRowK,putRow,mapBlock]
      rw[Ldb (by simpa using hql),Ldo,if_pos rfl,show(Go.Sort.ahead W k).heap[q]? =some (Obj.cells full 34 fr)from hq];rfl
    · have hms:=hbk.size
      simp only at hms;rw[prefix_iff];intro j v hj;simp only at hj;have hf:=flatK_any (fun x: {l:List UInt8//l∈ks}=>x.1) hg d' j v (by rw[←hk'];exact hj);simp only[putCells,Ldn,Array.getElem?_mapIdx];have hjf:j<full.size:=by rw[hms];have:=hf.1;omega
      rw[Ld0 hjf];simp only[Lbg,La7,Lar,true_and,Lb3,size_flatK,Lfx];rw[if_pos hf.1,hf.2];rfl
  ·rw[La1.1 hb2];exact .inr sP
theorem sort_none_f(p:Option Addr)(c:Nat)(f:Value):Mv 140 [.slice p 0 c,f] (fun _=>True) (.tuple #[]):=fun W _=>by
  have hcon:=AnyF.slices_SortFunc_none sortD p c f W;have hcon2:Calls prog 140 #[.slice p 0 c,f] W _:=hcon;refine hcon2.mono fun e W' h=>?_;obtain⟨he,hw⟩:=h;subst hw;exact⟨_,[],he,⟨rfl,rfl⟩,⟨Keeps.refl _ _,fun b hb=>(by cases hb),Lcp,fun b hb=>(by cases hb)⟩⟩
def or2(x y:Int):Int:=if x≠0 then x else y
theorem cmp_or2(q:Nat)(x y:Int):Mv 142 [.slice (some ⟨q,0,none⟩) 2 2] (fun W=>Sees W q 0 [i64 x,i64 y]) (i64 (or2 x y)):=by
  intro W hW;refine Ac func142 J 18 ntmps142 J (G19 ?_);refine .loop (ι:=Nat) (fun k=>⟨[(0, .slice (some ⟨q,0,none⟩) 2 2),(3,i64 0),(6, .slice (some ⟨q,0,none⟩) 2 2),(7,i64 2),(8,i64 (k:Int))],[]⟩) (fun k=>k≤2∧(0<k→x=0)∧(1<k→y=0)) (fun k=>2-k) (0) ?_ ?_ ?_
  ·exact⟨by decide,fun h=>by omega,fun h=>by omega⟩
  ·exact Ad wN wh0 nD
  rintro k ⟨hk,hx,hy⟩;refine G6 ?_;refine .condP J (fun hc0=>?_) (fun hc0=>?_)
  ·
    have hk2:k<2:=by omega
    obtain⟨z,hz⟩:∃z,[x,y][k]? =some z:=⟨_,La6 (by simpa using hk2)⟩;have hzz:z=[x,y].getD k 0:=by rw[La2,hz];rfl
    have hzc:[i64 x,i64 y][k]? =some (i64 z):=by rcases(show k=0∨k=1 by omega)with rfl|rfl<;>(simp at hz;simp[hz])
    refine G6 ?_;refine .idxSlP 1 J J J J J Y23.h Sz3 k J oM (.loadE J J J Y3.h J sP ((by have:=hW k _ hzc;simpa using this)) ?_);refine G10 ?_;refine .condNP J (fun hc1=>?_) (fun hc1=>?_)
    ·
      refine G6 ?_;refine G7 ?_;refine⟨_,[],Ah J J,sP,sP,?_,rfl⟩;first
        | (rcases(show k=0∨k=1 by omega)with rfl|rfl
           · obtain rfl:z=x:=by rw[hzz];rfl
             rw[or2,if_pos oM]
           · obtain rfl:z=y:=by rw[hzz];rfl
             rw[or2,if_neg (by have:=hx oM;omega)])
        |rw[or2,hx oM,hy oM];rfl
    refine G8 ?_;refine⟨k+1,⟨by omega,fun _=>?_,fun _=>?_⟩,by omega,Ad wN wh0 nD⟩
    · rcases(show k=0∨k=1 by omega)with rfl|rfl
      ·rw[hzz]at hc1;simpa using hc1
      ·exact hx oM
    · obtain rfl:k=1:=by omega
      rw[hzz]at hc1;simpa using hc1
  have hke:k=2:=by omega
  refine G11 ?_;refine G2 ?_;refine⟨_,[],Ah J J,sP,sP,?_,rfl⟩;first
    | (rcases(show k=0∨k=1 by omega)with rfl|rfl
       · obtain rfl:z=x:=by rw[hzz];rfl
         rw[or2,if_pos oM]
       · obtain rfl:z=y:=by rw[hzz];rfl
         rw[or2,if_neg (by have:=hx oM;omega)])
    |rw[or2,hx oM,hy oM];rfl
def cmpD(X:PD)(a b:List UInt8):Int:=or2 (cmpI (X.dp a) (X.dp b)) (cmpB a b)
def LeD(X:PD)(a b:List UInt8):Prop:=X.dp a<X.dp b∨X.dp a=X.dp b∧cmpB a b≤0
theorem cmpD_neg(X:PD)(a b:List UInt8):cmpD X a b<0↔X.dp a<X.dp b∨X.dp a=X.dp b∧cmpB a b<0:=by
  unfold cmpD or2 cmpI;split<;>(repeat split)<;>omega
theorem cmpD_le(X:PD)(a b:List UInt8):¬cmpD X b a<0↔LeD X a b:=by
  have:=cmpB_neg a b;rw[cmpD_neg];unfold LeD;omega
theorem swoD(X:PD)(ks:List (List UInt8)):SWO (ltOf fun x y: {l:List UInt8//l∈ks}=>cmpD X x.1 y.1):=by
  have e:∀x y: {l:List UInt8//l∈ks},ltOf (fun x y: {l:List UInt8//l∈ks}=>cmpD X x.1 y.1) x y=decide (cmpD X x.1 y.1<0):=fun _ _=>rfl;constructor
  · intro x
    rw[e,decide_eq_false_iff_not,cmpD_neg,cmpB_self];omega
  · intro x y z h1 h2
    rw[e,decide_eq_true_eq,cmpD_neg]at*;have:=cmpB_trans x.1 y.1 z.1;omega
  · intro x y z h1 h2
    rw[e,decide_eq_false_iff_not,cmpD_le]at*;have:=cmpB_trans z.1 y.1 x.1;unfold LeD at*;omega
def SortD(X:PD)(ks:List (List UInt8)):Prop:=ks.Pairwise (LeD X)
theorem sortD_unique{X:PD}{a b:List (List UInt8)}(hp:a.Perm b)(ha:SortD X a)(hb:SortD X b):a=b:=
  hp.eq_of_pairwise (fun x y _ _ h1 h2=>by
    have h3:=cmpB_neg x y;unfold LeD at h1 h2;exact(cmpB_zero x y).1 oM) ha hb
theorem Lies.app{a b:List Blk}(h1:Lies a w)(h2:Lies b w):Lies (a++b) w:=fun x hx=>by
  rcases Laa.1 hx with h|h
  ·exact h1 x h
  ·exact h2 x h
theorem sort_acc_by(s:Sl)(bl:List Blk)(ks:List (List UInt8))(h32:∀l∈ks,l.length=32)(hbig:ks.length≤1000000)(hac:Hw.Acc s bl (Am ks) 34 ks.length 32)(f:Nat)(caps:List Value)(cf:List UInt8→List UInt8→Int)(swo:SWO (ltOf fun x y: {l:List UInt8//l∈ks}=>cf x.1 y.1))(bl2:List Blk)
    (eg:∀args w,(callFunc f args).run prog w= .ok (.enter f args) w) (hcm:∀x∈ks,∀y∈ks,Meets prog f ([agg (Aa x),agg (Aa y)]++caps) [] (Lies bl2) (fun v out=>v=i64 (cf x y)∧out=[])):
    Meets prog 140 [s.v, .func (.func f) #[] caps.toArray] (bl.map (·.n)) (fun W=>Lies bl W∧Lies bl2 W∧∀b∈bl2,∀b'∈bl,b.n≠b'.n)
    (fun v out=>v= .tuple #[]∧∃ks':List (List UInt8),ks'.Perm ks∧ks'.Pairwise (fun a b=>¬cf b a<0)∧Hw.Acc s out (Am ks') 34 ks.length 32):=fun W ⟨h1,h2,h3⟩=>by
  rcases hac with ⟨rfl,rfl,hz,hn⟩|⟨q,c,rfl,hnc,hfl,rfl⟩
  · obtain rfl:=Lah hn
    exact(sort_none_f none 0 _ W trivial).mono fun e W' ⟨v,out,he,⟨hv,ho⟩,hr⟩=>⟨v,out,he,⟨hv,[],Lch _,List.Pairwise.nil, .inl ⟨rfl,ho,rfl,rfl⟩⟩,hr⟩
  · have hb:BlkOk W ⟨q,Am ks,34,c*32⟩:=h1 _ (La1.2 rfl)
    by_cases h0:ks.length=0
    · obtain rfl:=Lah h0
      refine(sort_none_f (some ⟨q,0,none⟩) c _ W trivial).mono fun e W' ⟨v,out,he,⟨hv,ho⟩,hr⟩=>⟨v,[⟨q,Am [],34,c*32⟩],he,⟨hv,[],Lch _,List.Pairwise.nil, .inr ⟨q,c,rfl,hnc,hfl,rfl⟩⟩,⟨hr.keeps.mono sP,fun b hb2=>?_,by simp,fun b hb2=>?_⟩⟩
      · rw[La1.1 hb2]
        exact hb.of_heap (hr.keeps.block q hb.lt sP)
      ·rw[La1.1 hb2];exact .inr sP
    · refine(sort_by q ks.length c (c*32) ks h32 rfl oM hbig (Le9 32 hnc) f caps cf swo bl2 eg hcm W ⟨hb,h2,fun b hb2=>h3 b hb2 _ (La1.2 rfl)⟩).mono fun e W' ⟨v,out,he,⟨hv,ks',hp,hs,ho⟩,hr⟩=>⟨v,out,he,⟨hv,ks',hp,hs,?_⟩,hr⟩
      have h32':∀l∈ks',l.length=32:=fun l hl=>h32 l (hp.mem_iff.1 hl);exact .inr ⟨q,c,rfl,hnc,by rw[Aw h32',hp.length_eq],ho⟩
theorem order_cmp(x:PD)(a b:List UInt8)(ha:a.length=32)(hb:b.length=32)(qf na nb nc m:Nat)(fs:List (List UInt8×Int))(hda:Ao fs a=some (x.dp a))(hdb:Ao fs b=some (x.dp b)):Mv 141 [agg (Aa a),agg (Aa b),ptr qf 0] (fun W=>W.cell? ⟨qf,0,none⟩=some (.func (.func 144) #[] #[ptr na 0,ptr nb 0,ptr nc 0])∧W.cell? ⟨na,0,none⟩=some (.map (some m))∧BlkOk W (A0 m (Al 32 evI) fs)) (i64 (cmpD x a b)):=by
 intro W hW;refine Ac func141 J 18 ntmps141 J (G3 ?_);intro n3 hn3 hf3;refine G1 ?_;intro n4 hn4 hf4;refine G4 ?_;refine .draw (oP [100,101,103,104,107,108,302,305,306,309,210,311,12]) Au zK (.loadE J J J underlying118 J sP (hW.1) (.lA J J J Y34.h J Sz34 Z1 (by(simp[ha];done)) ?_));refine .loadE J J J underlying118 J sP (hW.1) (.lA J J J Y34.h J Sz34 Z0 (by(simp[hb];done)) ?_);refine .lA J J J Y34.h J Sz34 Z1 (by(simp[ha];done)) ?_;refine .lA J J J Y34.h J Sz34 Z0 (by(simp[hb];done)) ?_;refine .callCV J J J J J Body144 (depth_known a ha na nb nc m fs (x.dp a) hda) (fun w h=>⟨h.keeps.cell sP hW.2.1,mblk_keep hW.2.2 h⟩) (.callCV J J J J J Body144 (depth_known b hb na nb nc m fs (x.dp b) hdb) (fun w h=>⟨h.keeps.cell sP hW.2.1,mblk_keep hW.2.2 h⟩) (.cV J J J J Body143 (cmp_int (x.dp a) (x.dp b)) tV (.cV J J J J Body95 (block_cmp a b ha hb) tV (.mkRow2 (z:=i64 0) [i64 (cmpI (x.dp a) (x.dp b)),i64 (cmpB a b)] [i64 (cmpI (x.dp a) (x.dp b)),i64 (cmpB a b)] rfl J Y23.h Sz3 Zr3 J J (by intro v hv;simp only[Lab,Las,or_false]at hv;rcases hv with rfl|rfl<;>simp[Value.cells]) dE (by simp[Value.cells]) ?_))));intro q16;refine .cV J J J J Body142 (cmp_or2 q16 (cmpI (x.dp a) (x.dp b)) (cmpB a b)) (fun w h=>Ap h Z0) ?_;refine G3 ?_;refine G2 ?_;refine Az (out:=[]) (Ah J J) Aj ?_;exact⟨rfl,rfl⟩
theorem order_pre{C:Cx}{hp bl keep L:List Blk}{B:Blk}(h:HRep C hp w)(hp1:hp.Perm (bl++keep))(hB:B∈hp)(hL:Lies L C.W0)(hd:∀b∈L,∀b2∈bl,b.n≠b2.n)(hl:C.lent=bl.map (·.n):=by rfl)(hBb:∀b2∈bl,B.n≠b2.n):Lies bl w∧Lies (B::L) w∧∀b∈B::L,∀b2∈bl,b.n≠b2.n:=by
  refine⟨fun b hb=>h.cells b (hp1.mem_iff.2 (Lak _ hb)),fun b hb=>?_,fun b hb=>?_⟩
  · rcases Lab.1 hb with rfl|hb
    ·exact h.cells _ hB
    · refine(hL b hb).of_heap (h.keeps.block b.n (hL b hb).lt fun hm=>?_)
      rw[hl]at hm;obtain⟨b2,h2,e⟩:=La8.1 hm;exact hd b hb b2 h2 e.symm
  · rcases Lab.1 hb with rfl|hb
    ·exact hBb
    ·exact hd b hb
theorem lin_order(x:PD)(s:Sl)(bl:List Blk)(ks:List (List UInt8))(h32:∀l∈ks,l.length=32)(hbig:ks.length≤1000000)(hac:Hw.Acc s bl (Am ks) 34 ks.length 32)(na nb nc m:Nat)(fs:List (List UInt8×Int))(hfs:∀n∈ks,Ao fs n=some (x.dp n)):Meets prog 82 [s.v, .func (.func 144) #[] #[ptr na 0,ptr nb 0,ptr nc 0]] (bl.map (·.n)) (fun W=>Lent bl W∧Lies [⟨na,[.map (some m)],32,1⟩,A0 m (Al 32 evI) fs] W∧∀b∈ [⟨na,[.map (some m)],32,1⟩,A0 m (Al 32 evI) fs],∀b2∈bl,b.n≠b2.n) (fun v out=>v= .tuple #[]∧∃ks2:List (List UInt8),ks2.Perm ks∧SortD x ks2∧Hw.Acc s out (Am ks2) 34 ks.length 32):=by
 intro W hW;have eg:∀args w,(callFunc 141 args).run prog w= .ok (.enter 141 args) w:=enters_of func141 zK rfl;refine calls_of (hp0:=bl) func82 J 7 ntmps82 J hW.1.rep (G2 ?_);refine .box1 J J J ?_;intro n3 hn3 hf3;refine G5 ?_;refine .callL (L:=bl) J J J J J Body140 (sort_acc_by s bl ks h32 hbig hac 141 [ptr n3 0] (cmpD x) (swoD x ks) (⟨n3,[.func (.func 144) #[] #[ptr na 0,ptr nb 0,ptr nc 0]],118,1⟩::[⟨na,[.map (some m)],32,1⟩,A0 m (Al 32 evI) fs]) eg (fun a ha b hb=>(order_cmp x a b (h32 a ha) (h32 b hb) n3 na nb nc m fs (hfs a ha) (hfs b hb)).imp (fun w hl=>⟨(hl _ La4).cell (o:=0) J,(hl _ (Lae _ La4)).cell (o:=0) J,hl _ (Lae _ (Lae _ La4))⟩) fun v out h=>h)) (by repeat(first|exact sg_end|apply sg_there)) (lent_ok J) (fun w h=>order_pre (B:=⟨n3,[.func (.func 144) #[] #[ptr na 0,ptr nb 0,ptr nc 0]],118,1⟩) h (by repeat(first|exact sg_end|apply sg_there)) Z0 hW.2.1 hW.2.2 J (fun b2 h2 e=>hf3 b2 h2 e.symm)) ?_;rintro v6 out6 ⟨rfl,ks2,hp2,hs2,hac2⟩;refine G2 ?_;refine Az (out:=(out6++[])) (res_none J) (Ae sG Aj) ?_;exact⟨rfl,ks2,hp2,hs2.imp fun h=>(cmpD_le x _ _).1 h,by simpa using hac2⟩
end Go.Proofs.YtpogmfngccolbaaGreat
namespace Go.Proofs.YtpogmfngccolbaaGreat
open Go Hw _root_.Go.Proofs.Tryz
noncomputable def Cu(X:PD)(L:List (List UInt8)):List (List UInt8):=(X.P.map (·.1)).filter fun n=>rB X (-1) L n
variable{W:World}{X:PD}
theorem clos_len(hI:X.Inv){L ks:List (List UInt8)}(hnd:ks.Nodup)(hks:∀n,n∈ks↔X.Reach (-1) L n):ks.length=(Cu X L).length:=by
  refine((List.perm_ext_iff_of_nodup hnd (hI.nd.filter _)).2 fun n=>?_).length_eq;rw[hks,Lc0,rB_iff];refine⟨fun h=>⟨?_,h⟩,fun h=>h.2⟩;obtain⟨D,hD⟩:=reach_P h;exact La8.2 ⟨(n,D),Bg hD,rfl⟩
theorem seesP_left{p:Option Addr}{a b:List Value}(h:SeesP W p (a++b)):SeesP W p a:=fun j v hj=>h j v (by rw[Lb4 (Lad.1 hj).1];exact hj)
theorem rows_take{s:Sl}{ls:List (List UInt8)}{m:Nat}(h:SeesP W s.p (Am ls))(hr:∀l∈ls,l.length=32):SeesP W s.p (Am (ls.take m)):=by
  have e:Am ls=Am (ls.take m)++Am (ls.drop m):=by rw[←Co,Lct]
  rw[e]at h;exact seesP_left h
theorem reach_nil{a:Int}{n:List UInt8}(h:X.Reach a [] n):False:=by
  induction h with
  |base h1 _ _=>cases h1
  |step _ _ _ _ _ ih=>exact ih
end Go.Proofs.YtpogmfngccolbaaGreat
namespace Go.Proofs.YtpogmfngccolbaaGreat
open Go Hw Ed
variable{j n:Nat}{k st w:List UInt64}{p:List UInt8}{α:Type}{l:List α}
theorem cons_of8(h:l.length=n+1):∃a t,l=a::t∧t.length=n:=by
  cases l with
  |nil=>cases h
  |cons a t=>exact⟨a,t,rfl,by simpa using h⟩
def forceA{α:Type}(s:Nat)(f:Nat→α):α:=Nat.casesOn (motive:=fun _=>α) s (f 0) (fun m=>f (m+1))
theorem forceA_eq(s:Nat)(f:Nat→α):forceA s f=f s:=by cases s<;>rfl
def aN(a b:Nat):Nat:=Nat.mod (Nat.add a b) 18446744073709551616
def shN(x s:Nat):Nat:=Nat.mod (Nat.mul x (Nat.pow 2 s)) 18446744073709551616
def rolN(x s:Nat):Nat:=Nat.lor (shN x s) (Nat.div x (Nat.pow 2 (Nat.sub 64 s)))
def o8N(x:Nat)(b:UInt8):Nat:=Nat.lor (shN x 8) b.toNat
def sg0N(x:Nat):Nat:=Nat.xor (Nat.xor (rolN x 63) (rolN x 56)) (Nat.div x (Nat.pow 2 7))
def sg1N(x:Nat):Nat:=Nat.xor (Nat.xor (rolN x 45) (rolN x 3)) (Nat.div x (Nat.pow 2 6))
def t1N(e f g h k w:Nat):Nat:=aN (aN (aN (aN h (Nat.xor (Nat.xor (rolN e 50) (rolN e 46)) (rolN e 23))) (Nat.xor (Nat.land e f) (Nat.land (Nat.xor 18446744073709551615 e) g))) k) w
def t2N(a b c:Nat):Nat:=aN (Nat.xor (Nat.xor (rolN a 36) (rolN a 30)) (rolN a 25)) (Nat.xor (Nat.xor (Nat.land a b) (Nat.land a c)) (Nat.land b c))
def wgo:List UInt8→List Nat→List Nat
  |a::b::c::d::e::f::g::h::t,r=>forceA (o8N (o8N (o8N (o8N (o8N (o8N (o8N (o8N 0 a) b) c) d) e) f) g) h) fun v=>wgo t (v::r)
  |_,r=>r
def nxN(r:List Nat):Nat:=aN (aN (aN (r.getD 15 0) (sg0N (r.getD 14 0))) (r.getD 6 0)) (sg1N (r.getD 1 0))
def sgo:Nat→List Nat→List Nat
  |0,r=>r
  |n+1,r=>forceA (nxN r) fun v=>sgo n (v::r)
def rgo:List Nat→List Nat→Nat→Nat→Nat→Nat→Nat→Nat→Nat→Nat→List Nat
  |k::ks,w::ws,a,b,c,d,e,f,g,h=>forceA (t1N e f g h k w) fun t=>forceA (aN t (t2N a b c)) fun a2=>forceA (aN d t) fun e2=>rgo ks ws a2 a b c e2 e f g
  |_,_,a,b,c,d,e,f,g,h=>[a,b,c,d,e,f,g,h]
def adN:List Nat→List Nat→List Nat
  |x::xs,y::ys=>forceA (aN x y) fun z=>z::adN xs ys
  |_,_=>[]
def rgoL(ks ws:List Nat):List Nat→List Nat
  | [a,b,c,d,e,f,g,h]=>rgo ks ws a b c d e f g h
  |_=>[]
def pieceN(ks st:List Nat)(p:List UInt8):List Nat:=adN st (rgoL ks (sgo 64 (wgo p [])).reverse st)
def runN(ks st:List Nat)(bs:List UInt8):Nat→List Nat
  |0=>st
  |i+1=>pieceN ks (runN ks st bs i) ((bs.drop (128*i)).take 128)
def padT(n:Nat):List UInt8:=128::(List.replicate (padZ n) 0++(beUp 0 8++beUp (UInt64.ofNat (8*n)) 8))
def allN(ks st:List Nat)(l:List UInt8):List Nat:=forceA l.length fun n=>runN ks st (l++padT n) ((n+17+padZ n)/128)
theorem padT_eq(l:List UInt8):padB l=l++padT l.length:=by simp[padB,padT]
theorem sh_hom(x:UInt64)(s:Nat):(A2 x s).toNat=shN x.toNat s:=by rw[A2,Lbw];rfl
theorem sr_hom(x:UInt64)(s:Nat):(Av x s).toNat=Nat.div x.toNat (Nat.pow 2 s):=by
  have h:x.toNat/2^s<18446744073709551616:=Lew (Lcz _ _) x.toNat_lt;rw[Av,Lbw];exact Laf h
theorem add_hom(x y:UInt64):(x+y).toNat=aN x.toNat y.toNat:=Lba x y
theorem or_hom(x y:UInt64):(x|||y).toNat=Nat.lor x.toNat y.toNat:=Led x y
theorem xor_hom(x y:UInt64):(x^^^y).toNat=Nat.xor x.toNat y.toNat:=UInt64.toNat_xor x y
theorem and_hom(x y:UInt64):(x&&&y).toNat=Nat.land x.toNat y.toNat:=Lfb x y
theorem rol_hom(x:UInt64)(s:Nat):(rolW x s).toNat=rolN x.toNat s:=by rw[rolW,or_hom,sh_hom,sr_hom];rfl
theorem sg0_hom(x:UInt64):(sig0 x).toNat=sg0N x.toNat:=by simp only[sig0,xor_hom,rol_hom,sr_hom];rfl
theorem sg1_hom(x:UInt64):(sig1 x).toNat=sg1N x.toNat:=by simp only[sig1,xor_hom,rol_hom,sr_hom];rfl
theorem t1_hom(s:W8)(k w:UInt64):(rndT1 s k w).toNat=t1N s.e.toNat s.f.toNat s.g.toNat s.h.toNat k.toNat w.toNat:=by
  simp only[rndT1,add_hom,xor_hom,and_hom,rol_hom];rfl
theorem t2_hom(s:W8):(rndT2 s).toNat=t2N s.a.toNat s.b.toNat s.c.toNat:=by
  simp only[rndT2,add_hom,xor_hom,and_hom,rol_hom];rfl
theorem o8_hom(x:UInt64)(b:UInt8):(A2 x 8|||b.toUInt64).toNat=o8N x.toNat b:=by
  rw[or_hom,sh_hom,Ldv];rfl
def wU:List UInt8→List UInt64
  |a::b::c::d::e::f::g::h::t=>(A2 (A2 (A2 (A2 (A2 (A2 (A2 (A2 0 8|||a.toUInt64) 8|||b.toUInt64) 8|||c.toUInt64) 8|||d.toUInt64) 8|||e.toUInt64) 8|||f.toUInt64) 8|||g.toUInt64) 8|||h.toUInt64)::wU t
  |_=>[]
theorem wgo_eq:∀(n:Nat) (p:List UInt8) (r:List Nat),p.length=8*n→wgo p r=((wU p).map UInt64.toNat).reverse++r
  | 0,p,r,h=>by
    obtain rfl:=Lah h;rfl
  | n+1,p,r,h=>by
    have h:p.length=8*n+7+1:=h
    iterate 8 (obtain⟨a,l,e,h2⟩:=cons_of8 h;clear h;subst e;have h:=h2;clear h2)
    rw[wgo,forceA_eq,wgo_eq n _ _ h,wU,Lap,List.reverse_cons,La9];simp only[o8_hom];rfl
theorem schA_words(p:List UInt8)(h:p.length=128):schA p 128=wU p++List.replicate 64 0:=by
  iterate 128 (obtain⟨a,l,e,h2⟩:=cons_of8 h;clear h;subst e;have h:=h2;clear h2)
  obtain rfl:=Lah h;clear h;refine Eq.trans ?_ rfl;kernel_rfl
theorem wU_length:∀(n:Nat) (p:List UInt8),p.length=8*n→(wU p).length=n
  | 0,p,h=>by
    obtain rfl:=Lah h;rfl
  | n+1,p,h=>by
    have h:p.length=8*n+7+1:=h
    iterate 8 (obtain⟨a,l,e,h2⟩:=cons_of8 h;clear h;subst e;have h:=h2;clear h2)
    rw[wU,Lb0,wU_length n _ h]
def SJ(w:List UInt64)(j:Nat):List Nat:=(((schB w j).take (16+j)).map UInt64.toNat).reverse
theorem take_set(h:n<l.length)(v:α):(l.set n v).take (n+1)=l.take n++[v]:=by
  have hl:(l.take n).length=n:=by rw[Lam];omega
  rw[Ld8,if_pos h,Lbe,hl,La5 oM,show n+1-n=1 by omega];rfl
theorem SJ_get(hw:w.length=80){j i:Nat}(hj:j≤64)(hi:i<16+j):(SJ w j).getD i 0=((schB w j).getD (15+j-i) 0).toNat:=by
  have hl:((schB w j).take (16+j)).length=16+j:=by rw[Lam,schB_length,hw];omega
  have h1:15+j-i<(schB w j).length:=by rw[schB_length,hw];omega
  rw[SJ,La2,List.getElem?_reverse (by rw[La0,hl];exact hi),La0,hl,Lal,Lfi oM,show 16+j-1-i=15+j-i by omega,La2,La6 h1];rfl
theorem SJ_succ(hw:w.length=80)(hj:j<64):SJ w (j+1)=nxN (SJ w j)::SJ w j:=by
  have h1:SJ w (j+1)=((schB w j).getD j 0+sig0 ((schB w j).getD (j+1) 0)+(schB w j).getD (j+9) 0+sig1 ((schB w j).getD (j+14) 0)).toNat::SJ w j:=by
    rw[SJ,schB,show 16+(j+1)=(16+j)+1 by omega,take_set (by rw[schB_length,hw];omega),Laj,List.reverse_append];rfl
  rw[h1,nxN,SJ_get hw oM oM,SJ_get hw oM oM,SJ_get hw oM oM,SJ_get hw oM oM,show 15+j-15=j by omega,show 15+j-14=j+1 by omega,show 15+j-6=j+9 by omega,show 15+j-1=j+14 by omega];simp only[add_hom,sg0_hom,sg1_hom]
theorem sgo_run{w:List UInt64}(hw:w.length=80):∀n j,j+n≤64→sgo n (SJ w j)=SJ w (j+n)
  |0,j,_=>rfl
  | n+1,j,h=>by
    rw[sgo,forceA_eq,←SJ_succ hw oM,sgo_run hw n (j+1) oM,show j+1+n=j+(n+1) by omega]
theorem sch_N(h:p.length=128):(sgo 64 (wgo p [])).reverse=(schW p).map UInt64.toNat:=by
  have hw:(schA p 128).length=80:=schA_length p 128;have e:wgo p []=SJ (schA p 128) 0:=by
    rw[wgo_eq 16 p [] h,SJ,Lav,schB,schA_words p h,Lc7 (by rw[wU_length 16 p h];omega),La5 (by rw[wU_length 16 p h];omega)]
  rw[e,sgo_run hw 64 0 oM,SJ,List.reverse_reverse,schW,La5 (by rw[schB_length,hw];omega)]
def rndF(ks ws:List UInt64)(s:W8):W8:=(ks.zip ws).foldl (fun s p=>rnd1 s p.1 p.2) s
theorem rnds_F{k w:List UInt64}(s:W8)(hk:k.length=80)(hw:w.length=80):∀t,t≤80→rnds k w s t=rndF (k.take t) (w.take t) s
  |0,_=>by simp[rnds,rndF]
  | t +1,h=>by
    have e:rndF (k.take (t+1)) (w.take (t+1)) s=rnd1 (rndF (k.take t) (w.take t) s) (k[t]'oM) (w[t]'oM):=by
      rw[Laq oM,Laq oM,rndF,List.zip_append (by rw[Lam,Lam,hk,hw]),Ldd];rfl
    rw[rnds,rnds_F s hk hw t oM,e,La2,La2,La6 oM,La6 oM];rfl
theorem rgo_eq:∀(ks ws:List UInt64) (s:W8),rgo (ks.map UInt64.toNat) (ws.map UInt64.toNat) s.a.toNat s.b.toNat s.c.toNat s.d.toNat s.e.toNat s.f.toNat s.g.toNat s.h.toNat=(rndF ks ws s).l.map UInt64.toNat
  | [],ws,s=>by simp only[rndF,List.zip_nil_left,Lfw,Lei,rgo,W8.l,Lap]
  |_::_,[],s=>by simp only[rndF,List.zip_nil_right,Lfw,Lei,Lap,rgo,W8.l]
  | k::ks,w::ws,s=>by
    have e:rndF (k::ks) (w::ws) s=rndF ks ws (rnd1 s k w):=by simp only[rndF,List.zip_cons_cons,Ldk]
    rw[Lap,Lap,rgo,forceA_eq,forceA_eq,forceA_eq,e,←rgo_eq ks ws];simp only[rnd1,add_hom,t1_hom,t2_hom]
theorem add8{st xs:List UInt64}(h1:st.length=8)(h2:xs.length=8):(addUp st xs 8).map UInt64.toNat=adN (st.map UInt64.toNat) (xs.map UInt64.toNat):=by
  iterate 8 (obtain⟨a,l,e,h3⟩:=cons_of8 h1;clear h1;subst e;have h1:=h3;clear h3)
  obtain rfl:=Lah h1
  iterate 8 (obtain⟨a,l,e,h3⟩:=cons_of8 h2;clear h2;subst e;have h2:=h3;clear h3)
  obtain rfl:=Lah h2;simp only[Lap,Lei,adN,forceA_eq,←add_hom];rfl
theorem piece_N(hk:k.length=80)(hs:st.length=8)(hp:p.length=128):(pieceW k st p).map UInt64.toNat=pieceN (k.map UInt64.toNat) (st.map UInt64.toNat) p:=by
  have hw:(schW p).length=80:=by rw[schW,schB_length,schA_length]
  have e:rgoL (k.map UInt64.toNat) ((schW p).map UInt64.toNat) (st.map UInt64.toNat)=(rnds k (schW p) (W8.of st) 80).l.map UInt64.toNat:=by
    rw[rnds_F _ hk hw 80 oM,La5 oM,La5 oM,←rgo_eq]
    iterate 8 (obtain⟨a,l,e,h3⟩:=cons_of8 hs;clear hs;subst e;have hs:=h3;clear h3)
    obtain rfl:=Lah hs;rfl
  rw[pieceW,add8 hs rfl,pieceN,sch_N hp,e]
theorem run_N{k st:List UInt64}{bs:List UInt8}(hk:k.length=80)(hs:st.length=8):∀i,128*i≤bs.length→(runW k st bs i).map UInt64.toNat=runN (k.map UInt64.toNat) (st.map UInt64.toNat) bs i
  |0,_=>rfl
  | i+1,h=>by
    rw[runW,runN,piece_N hk (by rw[runW_length];exact hs) (by rw[Lam,Lce];omega),run_N hk hs i oM]
theorem all_N(l:List UInt8)(hk:k.length=80)(hs:st.length=8):(allW k st l).map UInt64.toNat=allN (k.map UInt64.toNat) (st.map UInt64.toNat) l:=by
  rw[allW,run_N hk hs _ (by have:=padB_mod l;omega),allN,forceA_eq,padT_eq,←padB_length,padT_eq]
def kN:List Nat:=[4794697086780616226,8158064640168781261,13096744586834688815,16840607885511220156,4131703408338449720,6480981068601479193,10538285296894168987,12329834152419229976,15566598209576043074,1334009975649890238,2608012711638119052,6128411473006802146,8268148722764581231,9286055187155687089,11230858885718282805,13951009754708518548,16472876342353939154,17275323862435702243,1135362057144423861,2597628984639134821,3308224258029322869,5365058923640841347,6679025012923562964,8573033837759648693,10970295158949994411,12119686244451234320,12683024718118986047,13788192230050041572,14330467153632333762,15395433587784984357,489312712824947311,1452737877330783856,2861767655752347644,3322285676063803686,5560940570517711597,5996557281743188959,7280758554555802590,8532644243296465576,9350256976987008742,10552545826968843579,11727347734174303076,12113106623233404929,14000437183269869457,14369950271660146224,15101387698204529176,15463397548674623760,17586052441742319658,1182934255886127544,1847814050463011016,2177327727835720531,2830643537854262169,3796741975233480872,4115178125766777443,5681478168544905931,6601373596472566643,7507060721942968483,8399075790359081724,8693463985226723168,9568029438360202098,10144078919501101548,10430055236837252648,11840083180663258601,13761210420658862357,14299343276471374635,14566680578165727644,15097957966210449927,16922976911328602910,17689382322260857208,500013540394364858,748580250866718886,1242879168328830382,1977374033974150939,2944078676154940804,3659926193048069267,4368137639120453308,4836135668995329356,5532061633213252278,6448918945643986474,6902733635092675308,7801388544844847127]
def stN:List Nat:=[7640891576956012808,13503953896175478587,4354685564936845355,11912009170470909681,5840696475078001361,11170449401992604703,2270897969802886507,6620516959819538809]
def siN:List Nat:=[2463787394917988140,11481187982095705282,2563595384472711505,10824532655140301501,10819967247969091555,13717434660681038226,3098927326965381290,1060366662362279074]
theorem kN_eq:kW.map UInt64.toNat=kN:=by kernel_rfl
theorem stN_eq:startW.map UInt64.toNat=stN:=by kernel_rfl
theorem of_to(l:List UInt64):(l.map UInt64.toNat).map UInt64.ofNat=l:=by
  rw[Lgw];exact(List.map_congr_left fun x _=>UInt64.ofNat_toNat).trans (List.map_id l)
theorem sha512_N(l:List UInt8):sha512 l=sumUp ((allN kN stN l).map UInt64.ofNat) 64:=by
  rw[←kN_eq,←stN_eq,←all_N l rfl rfl,of_to];rfl
theorem siN_eq:shaI.map UInt64.toNat=siN:=by kernel_rfl
theorem sha256_N(l:List UInt8):sha256 l=(sumUp ((allN kN siN l).map UInt64.ofNat) 64).take 32:=by
  rw[←kN_eq,←siN_eq,←all_N l rfl shaI_length,of_to];rfl
end Go.Proofs.YtpogmfngccolbaaGreat
namespace Go.Proofs.YtpogmfngccolbaaGreat
open Go Hw _root_.Go.Proofs.Tryz
open Ed
def pbN(n:Nat):List UInt8:=forceA (fastN n) fun s=>forceA (pwm PF 256 (uz s%PF) (PF-2)) fun i=>pb ⟨fe (ux s*i%PF),fe (uy s*i%PF)⟩
variable{n:Nat}
theorem pbN_eq(h:n<2^256):pb (cv.mul n bP)=pbN n:=by
  rw[fast_at h rfl rfl,pbN,forceA_eq,forceA_eq,affX,affY,force_eq,force_eq]
def h512(l:List UInt8):List UInt8:=sumUp ((allN kN stN l).map UInt64.ofNat) 64
def h256(l:List UInt8):List UInt8:=(sumUp ((allN kN siN l).map UInt64.ofNat) 64).take 32
def blkD(K:List UInt8)(D0:DB)(e S:Nat):DB:=bsg D0 K (leb 32 e++leb 32 S)
def blkOk(H K:List UInt8)(n:Nat)(D0:DB)(r e S N:Nat):Bool:=
  Nat.beq (le (h512 (H.drop 32++btxt { D0 with w:=K }))%L) r&&(Nat.beq (le (pbN r)) e&&(Nat.beq ((le (h512 (leb 32 e++(K++btxt { D0 with w:=K })))%L*n+r)%L) S
    &&(Nat.beq (le (h256 (blkD K D0 e S).bytes)) N&&(decide (D0.check=0)&&decide ((blkD K D0 e S).check=0)))))
theorem le_32{l:List UInt8}{x:Nat}(h:l.length=32)(e:le l=x):l=leb 32 x:=by rw[←e,←h,leb_le]
def BlkF(seed K:List UInt8)(D0:DB)(e S N:Nat):Prop:=(blkD K D0 e S).ok∧Bh (blkD K D0 e S)=leb 32 N∧dgood (blkD K D0 e S)=0∧∀B:Block,B.ok→Meets prog 164 [agg (Aa seed),agg B.cells] [] (fun W=>BlockIs W B D0) (BlkR 0 (blkD K D0 e S))
theorem blk_facts{seed H K:List UInt8}(h32:seed.length=32)(hH:sha512 seed=H)(hn:le (clampB (H.take 32))=n)(hK:sgK H=K){D0:DB}{r e S N:Nat}(hl:D0.ls.length≤40)(hd:D0.ds.length≤2000)(hD0:D0.ok)(h:blkOk H K n D0 r e S N=true):BlkF seed K D0 e S N:=by
  unfold blkOk at h;simp only[Lan,decide_eq_true_eq]at h;obtain⟨h1,h2,h3,h4,h5,h6⟩:=h;rw[h512,←sha512_N]at h1 h3;rw[h256,←sha256_N]at h4;have h1:=Lbz h1;have h2:=Lbz h2;have h3:=Lbz h3;have h4:=Lbz h4;have hr:r<2^256:=by rw[←h1];exact lm _
  have hKl:K.length=32:=by rw[←hK];exact sgK_length H
  obtain⟨T,hT⟩:∃T,T=btxt { D0 with w:=K }:=⟨_,rfl⟩;rw[←hT]at h1 h3;obtain⟨s1,hs1⟩:∃s1,sha512 (H.drop 32++T)=s1:=⟨_,rfl⟩;rw[hs1]at h1;have e1:le (sgR s1)=r:=by rw[sgR,le_leb32 (lm _),h1]
  have e2:sgF s1=leb 32 e:=by
    rw[sgF,e1,pbN_eq hr];refine le_32 ?_ h2;rw[←pbN_eq hr];exact Ci _
  obtain⟨s2,hs2⟩:∃s2,sha512 (leb 32 e++(K++T))=s2:=⟨_,rfl⟩;rw[hs2]at h3;have e3:sgS H s1 s2=leb 32 S:=by rw[sgS,e1,hn,sgR,le_leb32 (lm _),h3]
  have g:=good_self H s1 T (s2:=s2) (by rw[e2,hK];exact hs2);rw[hK,e2,e3]at g;refine⟨⟨hKl,hD0.prev,by show(leb 32 e++leb 32 S).length=64;rw[La3,Ai,Ai],hD0.ls⟩,?_,?_,fun B hB=>?_⟩
  · unfold Bh
    rw[if_pos h6];exact le_32 (sha256_length _) h4
  · unfold dgood
    rw[if_pos h6];refine if_pos ?_;have e4:btxt (blkD K D0 e S)=T:=hT.symm;rw[e4];exact g
  · have c:=r15_Sign B D0 hB hl hd seed h32 H s1 s2 ⟨hH⟩ ⟨by rw[hK,←hT];exact hs1⟩ ⟨by rw[hK,←hT,e2];exact hs2⟩ h5
    rw[hK,e2,e3]at c;exact c
end Go.Proofs.YtpogmfngccolbaaGreat
namespace Go.Proofs.YtpogmfngccolbaaGreat
open Go Hw Ed
def s1B:List UInt8:=[1,0,0,0,0,0,0,0,0,0,0,0,0,0,0,0,0,0,0,0,0,0,0,0,0,0,0,0,0,0,0,77]
def s1H:List UInt8:=[87,159,104,236,80,14,38,174,240,0,164,75,108,245,33,87,115,113,131,28,237,105,185,222,57,145,233,242,112,190,170,213,35,11,137,144,70,23,17,214,148,220,86,67,25,124,131,91,42,247,30,195,63,213,16,142,181,57,199,82,96,7,203,83]
def s1K:List UInt8:=[96,107,246,169,182,86,212,252,106,138,137,108,60,10,195,142,100,120,65,80,61,64,193,87,241,248,221,83,126,228,255,164]
theorem s1_h:sha512 s1B=s1H:=by rw[sha512_N];kernel_rfl
theorem s1_n:le (clampB ((s1H).take 32))=38748270507491543869280182973643753799655646515636239770492563660028217171792:=by kernel_rfl
theorem s1_k:sgK s1H=s1K:=by
  rw[sgK,s1_n,pbN_eq dE];kernel_rfl
def s2B:List UInt8:=[2,0,0,0,0,0,0,0,0,0,0,0,0,0,0,0,0,0,0,0,0,0,0,0,0,0,0,0,0,0,0,77]
def s2H:List UInt8:=[159,230,160,217,19,92,134,97,221,29,151,92,173,55,201,96,247,140,202,26,171,176,42,66,5,66,179,216,185,188,163,0,78,178,17,189,220,26,113,236,223,171,6,169,230,174,14,221,86,213,3,69,84,255,54,249,11,147,29,173,100,208,56,60]
def s2K:List UInt8:=[135,111,12,209,122,16,16,190,105,170,2,71,173,200,90,26,237,46,45,107,189,50,216,58,186,203,54,244,172,156,8,66]
theorem s2_h:sha512 s2B=s2H:=by rw[sha512_N];kernel_rfl
theorem s2_n:le (clampB ((s2H).take 32))=29237320919612452970742533751157944247979243399322251012381788756161947821720:=by kernel_rfl
theorem s2_k:sgK s2H=s2K:=by
  rw[sgK,s2_n,pbN_eq dE];kernel_rfl
def mA0:DB:=DB.zero
def mAR:Nat×Nat×Nat×Nat:=(565907765622320541399421425701583650488762096448569470237382742425803974514,100601403375759064195258946539497424308391876113719775996124634348183556250024,3579687427427459069974335426959508808461923918647704402293925102387200652691,97113733480288696092322898458545537851336488749795256506728843684697484984565)
def mAN:List UInt8:=leb 32 mAR.2.2.2
def mAD:DB:=blkD s1K mA0 mAR.2.1 mAR.2.2.1
theorem mA_ok:blkOk s1H s1K 38748270507491543869280182973643753799655646515636239770492563660028217171792 mA0 mAR.1 mAR.2.1 mAR.2.2.1 mAR.2.2.2=true:=by kernel_rfl
theorem mA_len:mAN.length=32:=Ai 32 _
theorem mA_f:BlkF s1B s1K mA0 mAR.2.1 mAR.2.2.1 mAR.2.2.2:=blk_facts (H:=s1H) rfl s1_h s1_n s1_k dE dE ⟨rfl,by rfl,rfl,fun l hl=>(by first|(cases hl;done)|(rw[La1.1 hl];rfl))⟩ mA_ok
def mB0:DB:={ DB.zero with seq:=1,prev:=mAN }
def mBR:Nat×Nat×Nat×Nat:=(1042854690461855033549293643297295419211154182590953024946931292553013138148,65806961080161634906959505977140487317327363723346420782109779725411984570611,7208915343660222524937526513360399956949480183635538504188365353118992172452,46058863218359618658494336369744020781322587224099048705861084924914012010741)
def mBN:List UInt8:=leb 32 mBR.2.2.2
def mBD:DB:=blkD s1K mB0 mBR.2.1 mBR.2.2.1
theorem mB_ok:blkOk s1H s1K 38748270507491543869280182973643753799655646515636239770492563660028217171792 mB0 mBR.1 mBR.2.1 mBR.2.2.1 mBR.2.2.2=true:=by kernel_rfl
theorem mB_len:mBN.length=32:=Ai 32 _
theorem mB_f:BlkF s1B s1K mB0 mBR.2.1 mBR.2.2.1 mBR.2.2.2:=blk_facts (H:=s1H) rfl s1_h s1_n s1_k dE dE ⟨rfl,by rfl,rfl,fun l hl=>(by first|(cases hl;done)|(rw[La1.1 hl];rfl))⟩ mB_ok
def mL0:DB:={ DB.zero with ls:=[mAN] }
def mLR:Nat×Nat×Nat×Nat:=(7069382373975793937875983969631401300928334206707799924608693727060737855406,89380441118362541782232043895724461995795574022816857334645768520515379073692,1378832678657371214062331319605579238817782231700001298769674763842384625692,60935820018387094301093397927544635555409945960002560190348470472531323507425)
def mLN:List UInt8:=leb 32 mLR.2.2.2
def mLD:DB:=blkD s2K mL0 mLR.2.1 mLR.2.2.1
theorem mL_ok:blkOk s2H s2K 29237320919612452970742533751157944247979243399322251012381788756161947821720 mL0 mLR.1 mLR.2.1 mLR.2.2.1 mLR.2.2.2=true:=by kernel_rfl
theorem mL_len:mLN.length=32:=Ai 32 _
theorem mL_f:BlkF s2B s2K mL0 mLR.2.1 mLR.2.2.1 mLR.2.2.2:=blk_facts (H:=s2H) rfl s2_h s2_n s2_k dE dE ⟨rfl,by rfl,rfl,fun l hl=>(by first|(cases hl;done)|(rw[La1.1 hl];rfl))⟩ mL_ok
end Go.Proofs.YtpogmfngccolbaaGreat
namespace Go.Proofs.YtpogmfngccolbaaGreat
open Go Hw _root_.Go.Proofs.Tryz
open Ed
variable{T:TypeId}{a b c:Block}{m q:Nat}{n:List UInt8}{w:World}
theorem s1B_length:s1B.length=32:=rfl
theorem s2B_length:s2B.length=32:=rfl
theorem kitS1  :Mv 165 [i64 1] (fun _=>True) (agg (Aa s1B)):=by
 intro W hW;refine Ac func165 J 9 ntmps165 J (G2 ?_);refine .alloc (cs:=(Aa (List.replicate 32 0))) J Zr33 J ?_;intro n2 hn2 hf2;refine G5 ?_;refine .conv J J J Y3.h Y5.h (show Value.int .u8 (IntKind.u8.wrap 1)=u8 1 from rfl) (G1 ?_)
 refine .shrN 1 8 J J J J J dE (.conv J J J Y3.h Y5.h (show Value.int .u8 (IntKind.u8.wrap ((1/2^8:Nat):Int))=u8 0 from rfl) (.build (cs:=Aa s1B) J J J (fun w=>by kernel_rfl) ?_));refine .sA J J J J zE Sz33 (by(simp[s1B_length];done)) Z0 sP zU ?_;refine G2 ?_;refine G2 ?_;refine⟨_,[],As J J Y33.h J Sz33 Z0 (by simp[s1B_length]),sP,sP,?_,rfl⟩;rfl
theorem kitS2  :Mv 165 [i64 2] (fun _=>True) (agg (Aa s2B)):=by
 intro W hW;refine Ac func165 J 9 ntmps165 J (G2 ?_);refine .alloc (cs:=(Aa (List.replicate 32 0))) J Zr33 J ?_;intro n2 hn2 hf2;refine G5 ?_;refine .conv J J J Y3.h Y5.h (show Value.int .u8 (IntKind.u8.wrap 2)=u8 2 from rfl) (G1 ?_)
 refine .shrN 2 8 J J J J J dE (.conv J J J Y3.h Y5.h (show Value.int .u8 (IntKind.u8.wrap ((2/2^8:Nat):Int))=u8 0 from rfl) (.build (cs:=Aa s2B) J J J (fun w=>by kernel_rfl) ?_));refine .sA J J J J zE Sz33 (by(simp[s2B_length];done)) Z0 sP zU ?_;refine G2 ?_;refine G2 ?_;refine⟨_,[],As J J Y33.h J Sz33 Z0 (by simp[s2B_length]),sP,sP,?_,rfl⟩;rfl
def bl1(q:Nat):Block:={ Block.zero with fLinks:=⟨some ⟨q,0,none⟩,1,1⟩ }
theorem bl1_ok(q:Nat):(bl1 q).ok:=⟨rfl,rfl,rfl⟩
theorem bl1_is(hn:n.length=32)(h:Sees w q 0 (Aa n)):BlockIs w (bl1 q) { DB.zero with ls:=[n] }:=⟨bl1_ok q,rfl,rfl,rfl,row_one hn h,(zero_is w).ds,rfl⟩
def ChainS(Da Db Dc:DB)(v:Value)(out:List Blk):Prop:=∃(q:Nat) (Ba Bb Bc:Block) (bl:List Blk),SameB Ba Da∧SameB Bb Db∧SameB Bc Dc∧v= .slice (some ⟨q,0,none⟩) 3 3∧out=⟨q,tri Ba Bb Bc,50,(tri Ba Bb Bc).length⟩::bl∧∀W2,Lies bl W2→BlockIs W2 Ba Da∧BlockIs W2 Bb Db∧BlockIs W2 Bc Dc
theorem tri_sees(ha:a.ok)(hb:b.ok)(hc:c.ok)(h:BlkOk w ⟨q,tri a b c,T,m⟩):Sees w q (0+0*131) a.cells∧Sees w q (0+1*131) b.cells∧Sees w q (0+2*131) c.cells:=by
  have part:∀(o:Nat) (l:List Value),((tri a b c).drop o).take 131=l→Sees w q o l:=fun o l e=>sees_kok h fun j v hj=>by
    rw[←e]at hj;have h1:=(Lad.1 hj).1;rw[Lfi (by rw[Lam]at h1;omega),Lb6]at hj;exact hj
  exact⟨part _ _ (tri_0 ha),part _ _ (tri_1 ha hb),part _ _ (tri_2 ha hb hc)⟩
theorem tri_blocks{Da Db Dc:DB}(h:BlkOk w ⟨q,tri a b c,T,m⟩)(hi:BlockIs w a Da∧BlockIs w b Db∧BlockIs w c Dc):BlocksAt w ⟨some ⟨q,0,none⟩,3,3⟩ [Da,Db,Dc]:=by
  obtain⟨ha,hb,hc⟩:=hi;refine⟨[a,b,c],rfl,rfl,fun i r d hr hd=>?_,fun r hr=>?_,Lai 3,?_,(by show 3≤maxLen;decide),fun e=>by cases e⟩
  · rcases i with _|_|_|i
    ·cases hr;cases hd;exact ha
    ·cases hr;cases hd;exact hb
    ·cases hr;cases hd;exact hc
    ·cases hr
  · simp only[Lab,Las,or_false]at hr
    rcases hr with rfl|rfl|rfl
    ·exact Block.length ha.ok
    ·exact Block.length hb.ok
    ·exact Block.length hc.ok
  · refine SeesP.of (sees_kok h fun j v hj=>?_)
    rw[Lb3];exact hj
theorem mA_g:dgood mAD=0:=mA_f.2.2.1
theorem mB_g:dgood mBD=0:=mB_f.2.2.1
theorem mL_g:dgood mLD=0:=mL_f.2.2.1
theorem mA_nm:Bh mAD=mAN:=mA_f.2.1
theorem mB_nm:Bh mBD=mBN:=mB_f.2.1
theorem mL_nm:Bh mLD=mLN:=mL_f.2.1
def cX1:PD:=PD.new.adm mAN mAD
def cX2:PD:=cX1.adm mBN mBD
def cX3:PD:=cX2.adm mLN mLD
theorem c_add1:PD.new.add mAD=(cX1,[mAN],0):=by
  have h:=add_fits (X:=PD.new) mA_g (by rw[mA_nm];kernel_rfl) zK;rw[mA_nm]at h;have e:PD.settle (PD.new.adm mAN mAD).orp.length (PD.new.adm mAN mAD)=(cX1,[]):=by kernel_rfl
  rw[h,e]
theorem c_add2:cX1.add mBD=(cX2,[mBN],0):=by
  have h:=add_fits (X:=cX1) mB_g (by rw[mB_nm];kernel_rfl) zK;rw[mB_nm]at h;have e:PD.settle (cX1.adm mBN mBD).orp.length (cX1.adm mBN mBD)=(cX2,[]):=by kernel_rfl
  rw[h,e]
theorem c_add3:cX2.add mLD=(cX3,[mLN],0):=by
  have h:=add_fits (X:=cX2) mL_g (by rw[mL_nm];kernel_rfl) zK;rw[mL_nm]at h;have e:PD.settle (cX2.adm mLN mLD).orp.length (cX2.adm mLN mLD)=(cX3,[]):=by kernel_rfl
  rw[h,e]
theorem c_fill:fillP PD.new [mAD,mBD,mLD]=cX3:=by
  simp only[fillP,Ldk,Lfw,c_add1,c_add2,c_add3]
theorem c_inv:cX3.Inv:=by rw[←c_fill];exact PD.Inv.fill _ PD.Inv.new
theorem rB_nil(X:PD)(n:List UInt8):rB X (-1) [] n=false:=by
  cases h:rB X (-1) [] n with
  |false=>rfl
  |true=>exact(reach_nil (rB_iff.1 h)).elim
theorem beneath_nil(X:PD):(Cu X []).length=0:=by
  unfold Cu;rw[Lfs.2 fun n _=>by rw[rB_nil];decide];rfl
theorem reach_in{X:PD}(hI:X.Inv){L:List (List UInt8)}{D:DB}(hn:n∈L)(hD:Ao X.P n=some D):X.Reach (-1) L n:= .base hn hD (by have:=hI.d0 n D hD;omega)
theorem row_two{a b:List UInt8}(ha:a.length=32)(hb:b.length=32)(h:Sees w q 0 (Am [a,b])):RowsAt w ⟨some ⟨q,0,none⟩,2,2⟩ 32 [a,b]:=⟨rfl,two_32 ha hb,Lai 2,SeesP.of h,(by show 2≤maxLen;decide),fun e=>by cases e⟩
end Go.Proofs.YtpogmfngccolbaaGreat
namespace Go.Proofs.YtpogmfngccolbaaGreat
open Go Hw _root_.Go.Proofs.Tryz
def PD.has(X:PD)(n:List UInt8):Bool:=(Ao X.P n).isSome
variable{X:PD}{κ:Type}{n:κ}
theorem has_names(hI:X.Inv){n:List UInt8}(h:X.has n=true):n∈X.names:=(names_mem hI n).2 (Ldp.1 h)
def PD.depthR(X:PD)(n:List UInt8):Value:=if X.has n=true then .tuple #[i64 (X.dp n),i64 0]else .tuple #[i64 0,i64 6]
theorem has_is(x:DD)(n:List UInt8):(Ao x.ent n).isSome=x.pl.has n:=by
  have e:Ao x.pl.P n=(Ao x.ent n).map (·.2):=x.getP n;unfold PD.has;rw[e];cases Ao x.ent n<;>rfl
theorem dag_hasP(x:DD)(hx:x.ok)(p:Nat)(n:List UInt8)(h32:n.length=32):Mv 79 [ptr p 0,agg (Aa n)] (fun W=>Lies (x.blks p) W) (.bool (x.pl.has n)):=by
  rw[←has_is];exact(dag_has x hx p n h32).imp (fun w h=>DagSee.lies h) fun v out h=>h
theorem lin_depth(x:DD)(hx:x.ok)(hI:x.pl.Inv)(hO:x.pl.Ord)(p:Nat)(n:List UInt8)(h32:n.length=32):Mv 24 [ptr p 0,agg (Aa n)] (fun W=>Lies (x.blks p) W) (x.pl.depthR n):=by
 intro W hW;have hck:∀q∈x.P,q.2.check=0:=hI.ck;have h16:∀q∈x.P,q.2.ls.length≤16:=fun q hq=>(ck_small (hck q hq)).1;refine Ac func24 J 18 ntmps24 J (G3 ?_);intro n3 hn3 hf3;refine G8 ?_;refine .cV J J J J Body78 (lin_none x hx h16 p) (fun w h=>Bw hW h) (G2 ?_);refine .cond_f J J (G6 ?_);refine .lA J J J Y34.h J Sz34 Z0 (by(simp[h32];done)) ?_;refine .cV J J J J Body79 (dag_hasP x hx p n h32) (fun w h=>Bw hW h) (G3 ?_);refine .cond J (fun hc1=>?_) (fun hc1=>?_)
 ·
  have hhas:x.pl.has n=false:=by simpa using hc1
  refine G6 ?_;refine G3 ?_;refine⟨_,[],B6 J J J,sP,sP,?_,rfl⟩;rw[PD.depthR,if_neg (by rw[hhas];decide)]
 have hhas:x.pl.has n=true:=by simpa using hc1
 refine G3 ?_;refine .withK (sp_k sp_n) J (.draw (oP [0,1,4,402,403,305,6,7]) Au zK (G1 ?_));refine .kloadAll J J J Y34.h J Sz34 Z0 (by(simp[h32];done)) ?_;refine .kloadAll J J J Y34.h J Sz34 Z0 (by(simp[h32];done)) ?_;refine .mkRow (z:=agg (Aa (List.replicate 32 0))) [agg (Aa n)] (Aa n) J J J Y30.h Sz34 B5 J J (by intro v hv;rw[La1.1 hv];simp[Value.cells,Aa,h32]) dE (by simp[Value.cells,agg]) ?_;intro q14;refine .call4 J J J J J Body83 (lin_depths x hx hI hO p ⟨some ⟨q14,0,none⟩,1,1⟩ [n]) (fun w h=>⟨Bw hW h,row_one h32 (Ap h Z0)⟩) ?_;rintro v15 out15 ⟨a15,b15,c15,m15,fs15,ks15,⟨rfl,rfl,hfs15⟩,hks15⟩;simp only[Lag,Lac];refine .callCV J J J J J Body144 (depth_known n h32 a15 b15 c15 m15 fs15 (x.pl.dp n) (hfs15.all n (hks15 n La4 (has_names hI hhas)))) (fun w h=>⟨(Ca (B:=⟨a15,[.map (some m15)],32,1⟩) h Z2).cell (o:=0) J,Ca h Z0⟩) ?_;refine G4 ?_;refine G2 ?_;refine⟨_,[],B6 J J J,sP,sP,?_,rfl⟩;rw[PD.depthR,if_pos hhas]
structure FreshI(X:PD)(L dn:List (List UInt8))(ms:List (List UInt8×Unit))(l st:List (List UInt8)):Prop where
  sub:∀n∈st,X.Reach (-1) L n
  met:∀n∈ms.map (·.1),X.Reach (-1) L n
  mnd:(ms.map (·.1)).Nodup
  lnd:l.Nodup
  lin:∀n,n∈l↔n∈ms.map (·.1)∧n∉dn
  all:∀n∈L,n∈ms.map (·.1)∨n∈st
  par:∀n∈ms.map (·.1),n∉dn→∀D,Ao X.P n=some D→∀m∈Bk D,m∈ms.map (·.1)∨m∈st
theorem FreshI.start(hI:X.Inv){L:List (List UInt8)}(dn:List (List UInt8))(hL:∀n∈L,X.has n=true):FreshI X L dn [] [] L where
  sub:=fun n hn=>by
    obtain⟨D,hD⟩:=Ldp.1 (hL n hn);exact reach_in hI hn hD
  met:=fun n hn=>by cases hn
  mnd:=Lcp
  lnd:=Lcp
  lin:=fun n=>⟨fun h=>(by cases h),fun h=>(by cases h.1)⟩
  all:=fun n hn=> .inr hn
  par:=fun n hn=>by cases hn
theorem keysP_put[DecidableEq κ]{ms:List (κ×Unit)}(h:Ao ms n=none):(Bd ms n ()).map (·.1)=ms.map (·.1)++[n]:=by rw[mput_app h,Laj];rfl
theorem not_key{κ ν:Type}[DecidableEq κ]{ms:List (κ×ν)}{n:κ}(h:Ao ms n=none):n∉ms.map (·.1):=fun hm=>by
  obtain⟨v,hv⟩:=mget_of_key hm;rw[h]at hv;cases hv
section
variable{X:PD}{L dn l st:List (List UInt8)}{ms:List (List UInt8×Unit)}{n:List UInt8}
theorem FreshI.seen(h:FreshI X L dn ms l (st++[n]))(hm:n∈ms.map (·.1)):FreshI X L dn ms l st:={ h with
  sub:=fun k hk=>h.sub k (Lak _ hk)
  all :=fun k hk=>by
    rcases h.all k hk with h1|h1
    ·exact .inl h1
    · rcases Laa.1 h1 with h2|h2
      ·exact .inr h2
      ·rw[La1.1 h2];exact .inl hm
  par :=fun k hk hd D hD m hmm=>by
    rcases h.par k hk hd D hD m hmm with h1|h1
    ·exact .inl h1
    · rcases Laa.1 h1 with h2|h2
      ·exact .inr h2
      ·rw[La1.1 h2];exact .inl hm }
theorem FreshI.old(h:FreshI X L dn ms l (st++[n]))(hm:Ao ms n=none)(hd:n∈dn):FreshI X L dn (Bd ms n ()) l st where
  sub:=fun k hk=>h.sub k (Lak _ hk)
  met:=fun k hk=>by
    rw[keysP_put hm]at hk;rcases Laa.1 hk with h1|h1
    ·exact h.met k h1
    ·rw[La1.1 h1];exact h.sub n (Lax _ La4)
  mnd:=mput_nodup h.mnd _ _
  lnd:=h.lnd
  lin:=fun k=>by
    rw[keysP_put hm,h.lin k];refine⟨fun⟨a,b⟩=>⟨Lak _ a,b⟩,fun⟨a,b⟩=>⟨?_,b⟩⟩;rcases Laa.1 a with h1|h1
    ·exact h1
    ·rw[La1.1 h1]at b;exact absurd hd b
  all :=fun k hk=>by
    rw[keysP_put hm];rcases h.all k hk with h1|h1
    ·exact .inl (Lak _ h1)
    · rcases Laa.1 h1 with h2|h2
      ·exact .inr h2
      ·exact .inl (Lax _ h2)
  par :=fun k hk hkd D hD m hmm=>by
    rw[keysP_put hm]at hk ⊢;rcases Laa.1 hk with h1|h1
    · rcases h.par k h1 hkd D hD m hmm with h2|h2
      ·exact .inl (Lak _ h2)
      · rcases Laa.1 h2 with h3|h3
        ·exact .inr h3
        ·exact .inl (Lax _ h3)
    ·rw[La1.1 h1]at hkd;exact absurd hd hkd
theorem FreshI.meet(hI:X.Inv)(h:FreshI X L dn ms l (st++[n]))(hm:Ao ms n=none)(hd:n∉dn){D:DB}(hD:Ao X.P n=some D):FreshI X L dn (Bd ms n ()) (l++[n]) (st++Bk D) where
  sub :=fun k hk=>by
    have hn:=h.sub n (Lax _ La4);rcases Laa.1 hk with h1|h1
    ·exact h.sub k (Lak _ h1)
    · obtain⟨⟨E,hE⟩,_⟩:=hI.par n D hD k h1
      exact .step hn hD h1 hE (by have:=hI.d0 k E hE;omega)
  met:=fun k hk=>by
    rw[keysP_put hm]at hk;rcases Laa.1 hk with h1|h1
    ·exact h.met k h1
    ·rw[La1.1 h1];exact h.sub n (Lax _ La4)
  mnd:=mput_nodup h.mnd _ _
  lnd:=by
    rw[Lb2];refine⟨h.lnd,by simp,fun a ha b hb e=>?_⟩;rw[La1.1 hb]at e;exact not_key hm (e▸((h.lin a).1 ha).1)
  lin :=fun k=>by
    rw[keysP_put hm,Laa,Laa,h.lin k,La1];constructor
    · rintro(⟨a,b⟩|rfl)
      ·exact⟨.inl a,b⟩
      ·exact⟨.inr rfl,hd⟩
    · rintro⟨a|rfl,b⟩
      ·exact .inl ⟨a,b⟩
      ·exact .inr rfl
  all :=fun k hk=>by
    rw[keysP_put hm];rcases h.all k hk with h1|h1
    ·exact .inl (Lak _ h1)
    · rcases Laa.1 h1 with h2|h2
      ·exact .inr (Lak _ h2)
      ·exact .inl (Lax _ h2)
  par :=fun k hk hkd E hE m hmm=>by
    rw[keysP_put hm]at hk ⊢;rcases Laa.1 hk with h1|h1
    · rcases h.par k h1 hkd E hE m hmm with h2|h2
      ·exact .inl (Lak _ h2)
      · rcases Laa.1 h2 with h3|h3
        ·exact .inr (Lak _ h3)
        ·exact .inl (Lax _ h3)
    · obtain rfl:=La1.1 h1
      rw[hD]at hE;cases hE;exact .inr (Lax _ hmm)
theorem FreshI.fin(h:FreshI X L dn ms l [])(hdn:∀k∈dn,∀D,Ao X.P k=some D→∀m∈Bk D,m∈dn)(k:List UInt8):k∈l↔X.Reach (-1) L k∧k∉dn:=by
  have key:∀k,X.Reach (-1) L k→k∉dn→k∈ms.map (·.1):=by
    intro k hr
    induction hr with
    | base h1 _ _=>
      intro _;rcases h.all _ h1 with h2|h2
      ·exact h2
      ·cases h2
    | @step a b A B h1 hP hn hE _ ih=>
      intro hd;have hb:a∉dn:=fun hb=>hd (hdn a hb A hP b hn);rcases h.par a (ih hb) hb A hP b hn with h2|h2
      ·exact h2
      ·cases h2
  exact⟨fun hk=>⟨h.met k ((h.lin k).1 hk).1,((h.lin k).1 hk).2⟩,fun⟨hr,hd⟩=>(h.lin k).2 ⟨key k hr hd,hd⟩⟩
end
variable{C:Cx}{L bf c ks l ls:List (List UInt8)}{X:PD}{bl hp:List Blk}{cs:List (List (List UInt8))}{f:List UInt8→Bool}{fs ms:List (List UInt8×Unit)}{i k:Nat}{n:List UInt8}{ps:List RV}{r:RV}{s:Sl}{w:World}{α:Type}{a:α}
theorem lost_1(n:List UInt8)(h32:n.length=32)(q m:Nat)(fs:List (List UInt8×Unit)):Mv 204 [agg (Aa n),ptr q 0] (fun W=>W.cell? ⟨q,0,none⟩=some (.map (some m))∧BlkOk W (A0 m (Al 32 evU) fs)) (.bool (Ao fs n).isNone):=by
 intro W hW;refine Ac func204 J 8 ntmps204 J (G3 ?_);intro n2 hn2 hf2;refine G5 ?_;refine .loadE J J J Y115 J sP (hW.1) (.lA J J J Y34.h J Sz34 Z0 (by(simp[h32];done)) ?_);refine .cV J J J J Body112 (lin_has m fs n h32) (fun w h2=>mblk_keep hW.2 h2) (G4 ?_);refine G2 ?_;refine Az (out:=[]) (Ah J J) Aj ?_;exact⟨congrArg Value.bool (by cases Ao fs n<;>rfl),rfl⟩
theorem index_lost(s:Sl)(ls:List (List UInt8))(q m:Nat)(fs:List (List UInt8×Unit)):Mv 150 [s.v, .func (.func 204) #[] #[ptr q 0]] (fun W=>RowsAt W s 32 ls∧W.cell? ⟨q,0,none⟩=some (.map (some m))∧BlkOk W (A0 m (Al 32 evU) fs)) (i64 (fstBad (fun n=>(Ao fs n).isNone) ls)):=by
 intro W hW;have hlen:=hW.1.len;have hrow:=hW.1.row;have hmax:=hW.1.max;simp only[maxLen]at hmax;have hcap:=hW.1.cap;refine Ac func150 J 19 ntmps150 J (G14 ?_);refine .loop (ι:=Nat) (fun k=>⟨[(0,s.v),(1, .func (.func 204) #[] #[ptr q 0]),(7,i64 (s.n:Int)),(8,i64 (k:Int))],[]⟩) (fun k=>k≤s.n∧∀j,j<k→(ls.map (fun n=>(Ao fs n).isNone))[j]? =some false) (fun k=>s.n-k) (0) ?_ ?_ ?_
 ·exact⟨by omega,fun j hj=>by omega⟩
 ·exact Ad wN wh0 nD
 rintro k ⟨hk,hg⟩;refine G6 ?_;refine .condP J (fun hc0=>?_) (fun hc0=>?_)
 ·
  have hk2:k<s.n:=by omega
  obtain⟨b,o,hbp,hbs⟩:=hW.1.see.at (by rw[Aw hrow];omega);have h32k:(ls.getD k []).length=32:=Bo hrow oM;have hd:ls[k]? =some (ls.getD k []):=by rw[La2,La6 (show k<ls.length by omega)];rfl
  refine G15 ?_;refine .idxSlP 32 J J J hbp J Y30.h Sz34 k oM oM (.loadEN (Aa (ls.getD k [])) J J J Y34.h J Sz34 sP (by rw[Aa,La0];exact h32k) (Bv hrow hbs oM) ?_);refine .callCV J J J J J Body204 (lost_1 (ls.getD k []) h32k q m fs) (fun w h2=>⟨h2.keeps.cell sP hW.2.1,mblk_keep hW.2.2 h2⟩) (G2 ?_);refine .cond J (fun hc1=>?_) (fun hc1=>?_)
  ·
   refine G6 ?_;refine G7 ?_;refine⟨_,[],Ah J J,sP,sP,?_,rfl⟩;exact congrArg i64 (fstBad_at hg (by rw[Lal,hd];simpa using hc1)).symm
  refine G8 ?_;exact⟨k+1,⟨by omega,fun j hj=>by rcases Lcg.1 hj with h|rfl;exact hg j h;rw[Lal,hd];simpa using hc1⟩,by omega,Ad wN wh0 nD⟩
 obtain rfl:k=s.n:=by omega
 refine G10 ?_;refine G2 ?_;refine⟨_,[],Ah J J,sP,sP,?_,rfl⟩;exact congrArg i64 (fstBad_none (by intro j hj;exact hg j (by rw[hlen]at hj;exact hj))).symm
theorem contains_lost(s:Sl)(ls:List (List UInt8))(q m:Nat)(fs:List (List UInt8×Unit)):Mv 115 [s.v, .func (.func 204) #[] #[ptr q 0]] (fun W=>RowsAt W s 32 ls∧W.cell? ⟨q,0,none⟩=some (.map (some m))∧BlkOk W (A0 m (Al 32 evU) fs)) (.bool (ls.any (fun n=>(Ao fs n).isNone))):=by
 intro W hW;refine Ac func115 J 9 ntmps115 J (G9 ?_);refine .cV J J J J Body150 (index_lost s ls q m fs) (fun w h2=>⟨Cp h2 J hW.1,h2.keeps.cell sP hW.2.1,mblk_keep hW.2.2 h2⟩) (G4 ?_);refine G2 ?_;refine⟨_,[],Ah J J,sP,sP,?_,rfl⟩;exact congrArg Value.bool (fstBad_ge _ _)
def FreshR(X:PD)(bs hs dn:List (List UInt8))(v:Value)(out:List Blk):Prop:=
  ((∃n∈hs,X.has n=false)∧v= .tuple #[.slice none 0 0,i64 6]∧out=[])
  ∨(∀n∈hs,X.has n=true)∧(∃n∈bs,¬X.Reach (-1) hs n)∧v= .tuple #[.slice none 0 0,i64 4]∧out=[]
  ∨(∀n∈hs,X.has n=true)∧(∀n∈bs,X.Reach (-1) hs n)∧∃(s:Sl) (l:List (List UInt8)),v= .tuple #[s.v,i64 0]∧Hw.Acc s out (Am l) 34 l.length 32∧l.Nodup∧∀n,n∈l↔X.Reach (-1) hs n∧n∉dn
theorem none_any(h:(ls.any fun n=>(Ao ms n).isNone)=false):∀n∈ls,n∈ms.map (·.1):=fun n hn=>by
  have h1:=List.any_eq_false.1 h n hn;cases hm:Ao ms n with
  |none=>rw[hm]at h1;exact absurd rfl h1
  |some u=>exact La8.2 ⟨(n,u),Bg hm,rfl⟩
theorem some_any(h:(ls.any fun n=>(Ao ms n).isNone)=true):∃n∈ls,n∉ms.map (·.1):=by
  obtain⟨n,hn,h1⟩:=Lc9.1 h;exact⟨n,hn,not_key (Option.isNone_iff_eq_none.1 h1)⟩
theorem setP_mem(ls:List (List UInt8))(n:List UInt8):n∈(setP ls).map (·.1)↔n∈ls:=by
  refine⟨?_,fun h=>(setP_keys ls).2 n h⟩;have key:∀(l:List (List UInt8)) (fs:List (List UInt8×Unit)),n∈(l.foldl (fun fs n=>Bd fs n ()) fs).map (·.1)→n∈l∨n∈fs.map (·.1):=by
    intro l
    induction l with
    |nil=>intro fs h;exact .inr h
    | cons a l ih=>
      intro fs h;rcases ih _ h with h1|h1
      ·exact .inl (Lae _ h1)
      · obtain⟨p,hp,rfl⟩:=La8.1 h1
        rcases mput_mem hp with h2|rfl
        ·exact .inr (La8.2 ⟨p,h2,rfl⟩)
        ·exact .inl La4
  intro h;rcases key ls [] h with h1|h1
  ·exact h1
  ·cases h1
theorem FreshI.small{x:DD}(hI:x.pl.Inv){L dn l st:List (List UInt8)}(h:FreshI x.pl L dn ms l st):l.length≤x.names.length:=
  nd_len (m:=x.pl.names) h.lnd fun n hn=>(names_mem hI n).2 (reach_P (h.met n ((h.lin n).1 hn).1))
theorem is_key(h:(Ao ms n).isSome=true):n∈ms.map (·.1):=by
  obtain⟨u,hu⟩:=Ldp.1 h;exact La8.2 ⟨(n,u),Bg hu,rfl⟩
theorem key_of(h:∃D,Ao X.P n=some D):n∈X.P.map (·.1):=by
  obtain⟨D,hD⟩:=h;exact keys_in hD
theorem flatB_one(l:List UInt8):Am [l]=Aa l:=by simp[Am]
theorem lin_fresh(x:DD)(hx:x.ok)(hI:x.pl.Inv)(p:Nat)(sb sh:Sl)(bs hs:List (List UInt8))(hsl:hs.length≤90000)(md:Nat)(ds:List (List UInt8×Unit))(hdn:∀k∈ds.map (·.1),∀D,Ao x.pl.P k=some D→∀m∈Bk D,m∈ds.map (·.1)):Meets prog 162 [ptr p 0,sb.v,sh.v, .map (some md)] [] (fun W=>Lies (x.blks p) W∧RowsAt W sb 32 bs∧RowsAt W sh 32 hs∧BlkOk W (A0 md (Al 32 evU) ds)) (FreshR x.pl bs hs (ds.map (·.1))):=by
 intro W hW;have h32k:True:=trivial;obtain⟨hlies,hrb,hrh,hmd⟩:=id hW;have hck:∀q∈x.P,q.2.check=0:=hI.ck;have h16:∀q∈x.P,q.2.ls.length≤16:=fun q hq=>(ck_small (hck q hq)).1;have hbig:=hx.big;have hlen:=hrh.len;have hrow:=hrh.row;refine Ac func162 J 88 ntmps162 J (.sr (.a J J J (.a J J J (.na (.seq (.sr (.m J J J (.lenSl J J J Y30.h (.m J J J (.na (.block (.loop (ι:=Nat) (fun k=>⟨[(0,ptr p 0),(1,sb.v),(2,sh.v),(3, .map (some md)),(8, .slice none 0 0),(9,i64 0),(21,sh.v),(22,i64 (sh.n:Int)),(23,i64 (k:Int))],[]⟩) (fun k=>k≤sh.n∧∀j,j<k→x.pl.has (hs.getD j [])=true) (fun k=>sh.n-k) (0) ?_ ?_ ?_))))))))))))
 ·exact⟨Lar _,fun j hj=>absurd hj (Lf1 _)⟩
 ·exact Aq wN Aj
 rintro k ⟨hk,hg⟩;refine .sr (.lss J J J J J (.na (.seq (.condP J (fun hc0=>?_) (fun hc0=>?_)))))
 ·
  have hk2:k<sh.n:=by omega
  obtain⟨b,o,hbp,hbs⟩:=hrh.see.at (by rw[Aw hrow];omega);have h32k:(hs.getD k []).length=32:=Bo hrow oM;refine .skip (Bx (.seq (.block (.sr (.idxSlP 32 J J J hbp J Y30.h Sz34 k J oM (.loadEN (Aa (hs.getD k [])) J J J Y34.h J Sz34 sP (by rw[Aa,La0];exact h32k) (Bv hrow hbs oM) ?_))))));refine .alloc (cs:=(Aa (List.replicate 32 0))) J B5 J ?_;intro n11 hn11 hf11;refine .sA J J J J zE Sz34 (by(rw[Aa,La0];assumption)) Z0 sP zU ?_;refine .nsr (.m J J J (.lA J J J Y34.h J Sz34 Z0 (by(rw[Aa,La0];assumption)) ?_));refine .cV J J J J Body79 (dag_hasP x hx p (hs.getD k []) h32k) (fun w h=>Bw hlies h) (.not J J J (.na (.cond J (fun hc1=>?_) (fun hc1=>?_))))
  ·
   refine .sr (.a J J J (.a J J J (.na ?_)));refine .ret (bl_r (at_r (at_r (bl_r (at_r (en_r (Az (out:=[]) (B6 J J J) Aj ?_)))))));exact .inl ⟨⟨_,getD_mem2 (show k<hs.length by omega),by simpa using hc1⟩,rfl,rfl⟩
  refine .skip (bl_n (Bx (.region (.aI J J J J oM (.m J J J (.na ?_))))));exact⟨k+1,⟨by omega,fun j hj=>by rcases Lcg.1 hj with h|rfl;exact hg j h;simpa using hc1⟩,by omega,Aq (wk1 rfl (wk1 rfl (wk1 rfl (wk1 rfl (wk1 rfl (wk1 rfl (wk1 rfl (wk1 rfl (wk1 (by rw[Lc1];rfl) wk0))))))))) Aj⟩
 obtain rfl:k=sh.n:=by omega
 have hall:∀n∈hs,x.pl.has n=true:=fun n hn=>by
  obtain⟨j,hj,e⟩:=Lcl hn;have h9:=hg j oM;rw[La2,La6 hj]at h9;rw[←e];exact h9
 refine .exit (at_x (at_x (bl_h (Bx (.sr (.a J J J (.nsr (.mkMap (Al 32 evU) J J ?_))))))));intro m32;refine .alloc (cs:=[.map none]) J Zr115 J ?_;intro n13 hn13 hf13;refine .s1 J J J J J Sz115 Z0 sP (by rfl) zU ?_;refine .nsr (.m J J J (.call4 J J J J J Body81 (cl_digs sh hs oM) (fun w h=>Cp h J hrh) ?_));rintro v34 out34 ⟨s34,rfl,hac34⟩;have hn34:=hac34.num;refine .a J J J (.na (.seq (.block (.loop (ι:=List (List UInt8×Unit)×List (List UInt8)×List (List UInt8)×Sl×List Blk×Sl×List Blk) (fun r=>⟨[(0,ptr p 0),(1,sb.v),(2,sh.v),(3, .map (some md)),(8, .slice none 0 0),(9,i64 0),(12,r.2.2.2.1.v),(13,ptr n13 0),(14,r.2.2.2.2.2.1.v)],(A0 m32 (Al 32 evU) r.1::(r.2.2.2.2.1++(r.2.2.2.2.2.2++(⟨n13,[.map (some m32)],115,1⟩::[]))))⟩) (fun r=>FreshI x.pl hs (ds.map (·.1)) r.1 r.2.1 r.2.2.1∧r.2.2.1.length≤hs.length+17*r.2.1.length∧Hw.Acc r.2.2.2.1 r.2.2.2.2.1 (Am (r.2.1)) 34 (r.2.1).length 32∧Hw.Acc r.2.2.2.2.2.1 r.2.2.2.2.2.2 (Am (r.2.2.1)) 34 (r.2.2.1).length 32) (fun r=>r.2.2.1.length+18*cntW x.pl.P r.1) (([],[],hs,Sl.nil,[],s34,out34)) ?_ ?_ ?_))))
 ·exact⟨FreshI.start hI _ hall,by simp only;omega,Acc.none,by simp only;rw[hlen];exact hac34⟩
 ·exact Aq wN (Ab rM (Ae sG (Ae sG (Ab rM Aj))))
 rintro⟨ms,l,st,sl,bl,ss,bst⟩ ⟨hF,hstn,hal,has⟩;simp only at hF hstn hal has ⊢;have hnl:=hal.num;have hns:=has.num;have hsm:=hF.small hI;refine .seq (.sr (.m J J J (.lenSl J J J Y30.h (.gtr J J J J J (.na (.condP J (fun hc2=>?_) (fun hc2=>?_)))))))
 ·
  have hpos:0<st.length:=by omega
  obtain⟨st2,kk,rfl⟩:=snoc_of hpos;have hst32:∀l∈st2++[kk],l.length=32:=fun l hl=>P32 hx (reach_P (hF.sub l hl));have h32k:kk.length=32:=hst32 kk sP;have hPk:∃D,Ao x.pl.P kk=some D:=reach_P (hF.sub kk sP);have hlen9:(st2++[kk]).length=st2.length+1:=by simp
  obtain⟨NN,hNN⟩:∃NN,NN=(st2++[kk]).length:=⟨_,rfl⟩;rw[←hNN]at has;have hlast:=fun(w:World) (b:Nat)=>sees_last (w:=w) (b:=b) hst32;rcases has with ⟨_,_,_,h0⟩|⟨qr,cr,rfl,hnc,hfl,rfl⟩
  ·exfalso;omega
  refine .skip (Bx (.block (.sr (.m J J J (.m J J J (.lenSl J J J Y30.h (.sub_i64 J J J J oM (.idxSlP 32 J J J J J Y30.h Sz34 st2.length (by show(NN:Int)-1=(st2.length:Int);omega) (by show st2.length<NN;omega) ?_))))))));refine .loadSN (n:=32) (Aa kk) J J J Y34.h J Sz34 (by rw[Aa,La0];exact h32k) (fun w h=>hlast w qr (Ap h mR)) ?_;refine .alloc (cs:=(Aa (List.replicate 32 0))) J B5 J ?_;intro n15 hn15 hf15;refine .sA J J J J zE Sz34 (by(simp[h32k];done)) Z0 sP zU ?_;refine .na (.seq ?_);rw[Co];refine .trunc (q:=qr) rM ?_;have hacn:Hw.Acc ⟨some ⟨qr,0,none⟩,st2.length,cr⟩ [⟨qr,Am st2,34,cr*32⟩] (Am st2) 34 st2.length 32:=Acc.some oM (Aw (fun l hl=>hst32 l (Lak _ hl)));refine .region (.m J J J (.m J J J (.lenSl J J J Y30.h (.sub_i64 J J J J oM (.sliceHiA ⟨some ⟨qr,0,none⟩,NN,cr⟩ st2.length J J J J (by show(NN:Int)-1=(st2.length:Int);omega) (by show st2.length≤cr;omega) Y30.h Sz34 ?_)))));refine .a J J J (.na (.seq (.sr (.load1 J J J Y115 J mR (by rfl) ?_))));refine .lA J J J Y34.h J Sz34 Z1 (by(simp[h32k];done)) ?_;refine .cV J J J J Body112 (lin_has m32 ms kk h32k) (fun w h=>Ca h Z2) ?_;refine .na (.cond J (fun hc3=>?_) (fun hc3=>?_))
  ·
   refine .exit (at_x (bl_h (Bx ?_)));refine⟨(ms,l,st2,sl,bl,⟨some ⟨qr,0,none⟩,st2.length,cr⟩,[⟨qr,Am st2,34,cr*32⟩]),⟨hF.seen (is_key hc3),by simp only;omega,hal,hacn⟩,by simp only[La3,Lat];omega,Aq wN (Ab rM (Ae sG (Ae (by repeat(exact sg_end)) (Ab rM Aj))))⟩
  have hmn:Ao ms kk=none:=by simpa using hc3
  refine .skip (Bx (.sr (.load1 J J J Y115 J mR (by rfl) ?_)));refine .lA J J J Y34.h J Sz34 Z1 (by(simp[h32k];done)) ?_;refine .build (cs:=[]) J J J (fun w=>by kernel_rfl) ?_;refine .mapPut (v:=()) MN J J J J J h32k rM ?_;refine .na (.seq (.sr (.m J J J (.lA J J J Y34.h J Sz34 Z2 (by(simp[h32k];done)) ?_))));refine .cV J J J J Body112 (lin_has md ds kk h32k) (fun w h=>mblk_keep hmd h) (.na (.cond J (fun hc4=>?_) (fun hc4=>?_)))
  ·
   refine .exit (at_x (bl_h (Bx ?_)));refine⟨(Bd ms kk (),l,st2,sl,bl,⟨some ⟨qr,0,none⟩,st2.length,cr⟩,[⟨qr,Am st2,34,cr*32⟩]),⟨hF.old hmn (is_key hc4),by simp only;omega,hal,hacn⟩,(by have:=cnt_put hmn x.pl.P (key_of hPk);simp only[La3,Lat];omega),Aq wN (Ab rM (Ae sG (Ae (by repeat(exact sg_end)) (Ab rM Aj))))⟩
  have hdk:kk∉ds.map (·.1):=not_key (by simpa using hc4);refine .skip (Bx (.sr (.m J J J (.lA J J J Y34.h J Sz34 Z2 (by(simp[h32k];done)) ?_))));refine .mkRow2 (z:=agg (Aa (List.replicate 32 0))) [agg (Aa kk)] (Aa kk) J J Y30.h Sz34 B5 J J (by intro v hv;rw[La1.1 hv];simp[Value.cells,Aa,h32k]) dE (by simp[Value.cells,agg]) ?_;intro q60;refine .appendAcc (n:=l.length) (z:=agg (Aa (List.replicate 32 0))) (by':=32) (Aa kk) J J J J J Y30.h Y30.h Sz34 B5 (by unfold By;kernel_rfl) J hal sG (fun w h=>SeesP.of (Ap h Z0)) (fun e=>by cases e) (A1 _) oM oM (by rw[Aa,La0,h32k]) ?_;intro s61 bl61 hac61;refine .a J J J (.nsr (.m J J J (.lA J J J Y34.h J Sz34 mR (by(simp[h32k];done)) ?_)));refine .call4 J J J J J Body114 (dag_get x hx hck p kk h32k) (fun w h=>Bw hlies h) ?_;rintro v65 out65 (⟨h0,_⟩|⟨D,B,hD,hB,rfl,hbi⟩)
  ·exfalso;obtain⟨D,hD⟩:=hPk;rw[h0]at hD;cases hD
  have hD16:D.ls.length≤16:=h16 _ (Bg hD);have hp17:(Bk D).length≤17:=by have:=parL_len D;omega
  have hprow:∀l∈Bk D,l.length=32:=parL_row (hB_ok hx hlies hD);refine .m J J J (.eX J J J J (.eX J J J J (.alloc (cs:=Block.zero.cells) J Block.zr J ?_)));intro n16 hn16 hf16;refine .sA J J J J (Block.isCell (by exact hB.ok)) Sz50 (Block.length (by exact hB.ok)) Z0 (Block.length (by exact Block.zero_ok)) zU ?_;refine .a J J J (.na (.region (.m J J J (.lA J J J Y50.h J Sz50 Z0 (Block.length (by exact hB.ok)) ?_))));refine .call4 J J J J J Body116 (db_parA B D oM) (fun w h=>hbi w (Lies.of h (by repeat(first|exact A4|refine A9 ?_)))) ?_;rintro v70 out70 ⟨⟨p70,n70,c70⟩,rfl,hac70⟩;have hn70:n70=(Bk D).length:=hac70.num;refine .appendAcc (n:=st2.length) (z:=agg (Aa (List.replicate 32 0))) (by':=32) (Am (Bk D)) J J J J J Y30.h Y30.h Sz34 B5 (by unfold By;kernel_rfl) J hacn rM (fun w h=>hac70.see (Lies.of h (by repeat(exact A4)))) (fun e=>hac70.nil e) (flatB_cell _) (by show st2.length+n70≤1000000;omega) (by show(st2.length+n70)*32≤140737488355328;omega) (by rw[Aw hprow,←hn70]) ?_;intro s71 bl71 hac71;refine .a J J J (.nil (bl_n (Bx ?_)));refine⟨(Bd ms kk (),l++[kk],st2++Bk D,s61,bl61,s71,bl71),⟨hF.meet hI hmn hdk hD,by simp only[La3,Lat];omega,by simp only;rw[Co,La3,flatB_one];exact hac61,by simp only;rw[Co,La3,←hn70];exact hac71⟩,(by have:=cnt_put hmn x.pl.P (key_of hPk);simp only[La3,Lat];omega),Aq wN (Ab rM (Ae sG (Ae sG (Ab rM Aj))))⟩
 obtain rfl:st=[]:=Lah oM;have hfin:=hF.fin hdn;refine .exit (at_x (at_x (bl_h (Bx (.sr (.makeFunc J J J J (.a J J J (.na (.seq (.sr (.m J J J (.m J J J (.cV J J J J Body115 (contains_lost sb bs n13 m32 ms) (fun w h=>⟨Cp h J hrb,(Ca (B:=⟨n13,[.map (some m32)],115,1⟩) h mR).cell (o:=0) J,Ca h Z0⟩) ?_)))))))))))));refine .na (.cond J (fun hc5=>?_) (fun hc5=>?_))
 ·
  refine .sr (.m J J J (.m J J J (.call4 J J J J J Body88 (dag_closure x hx h16 p sh hs oM) (fun w h=>⟨Bw hlies h,Cp h J hrh⟩) ?_)));rintro v79 out79 (⟨⟨n,hn,h0⟩,_⟩|⟨_,s79,k1,rfl,hac79,hso1,hnd1,hks1⟩)
  ·exfalso;have h9:=hall n hn;unfold PD.has at h9;rw[h0]at h9;cases h9
  have hn79:=hac79.num;have hk132:∀l∈k1,l.length=32:=fun l hl=>P32 hx (reach_P ((hks1 l).1 hl));have hk1b:k1.length≤400000:=by have h9:=reach_len hI hnd1 hks1;have h8:x.pl.names.length=x.names.length:=rfl;omega
  refine .m J J J (.eX J J J J (.eX J J J J (.a J J J (.a J J J (.nsr (.m J J J (.call4 J J J J J Body80 (lin_set s79 k1) (fun w h=>acc_rows hac79 (Lies.of h (by repeat(exact A4))) hk132 J oM) ?_)))))));rintro v83 out83 ⟨m83,rfl,rfl⟩;refine .s1 J J J J J Sz115 mR sP (by rfl) uU ?_;refine .nsr (.m J J J (.m J J J (.cV J J J J Body115 (contains_lost sb bs n13 m83 (setP k1)) (fun w h=>⟨Cp h J hrb,(Ca (B:=⟨n13,[.map (some m83)],115,1⟩) h mR).cell (o:=0) J,Ca h Z0⟩) ?_)));refine .na (.cond J (fun hc6=>?_) (fun hc6=>?_))
  ·
   refine .sr (.a J J J (.a J J J (.na ?_)));refine .ret (at_r (en_r (Az (out:=[]) (B6 J J J) Aj ?_)));obtain⟨n9,hn9,hno⟩:=some_any hc6;exact .inr (.inl ⟨hall,⟨n9,hn9,fun hr=>hno ((setP_mem k1 n9).2 ((hks1 n9).2 hr))⟩,rfl,rfl⟩)
  refine .skip (Bx (.sr (.m J J J (.a J J J (.a J J J (.na ?_))))));refine .ret (en_r (Az (out:=(bl++[])) (B6 J J J) (Ae sG Aj) ?_));exact .inr (.inr ⟨hall,fun n hn=>(hks1 n).1 ((setP_mem k1 n).1 (none_any hc6 n hn)),sl,l,rfl,by simpa using hal,hF.lnd,hfin⟩)
 refine .skip (Bx (.sr (.m J J J (.a J J J (.a J J J (.na ?_))))));refine .ret (en_r (Az (out:=(bl++[])) (B6 J J J) (Ae sG Aj) ?_));exact .inr (.inr ⟨hall,fun n hn=>hF.met n (none_any hc5 n hn),sl,l,rfl,by simpa using hal,hF.lnd,hfin⟩)
theorem lin_eq(p q:Option Addr)(n m c1 c2:Nat)(xs ys:List (List UInt8))(hx:∀l∈xs,l.length=32)(hy:∀l∈ys,l.length=32)(h1:xs.length=n)(h2:ys.length=m)(hn:n≤1000000):Mv 51 [.slice p n c1, .slice q m c2] (fun W=>SeesP W p (Am xs)∧SeesP W q (Am ys)) (.bool (decide (xs=ys))):=by
 intro W hW;refine Ac func51 J 8 ntmps51 J (G9 ?_);refine .cV J J J J Body118 (seq_any p q n m c1 c2 xs ys hx hy h1 h2 hn) (fun w h=>⟨A5 h J hW.1,A5 h J hW.2⟩) (G3 ?_);refine G2 ?_;refine⟨_,[],Ah J J,sP,sP,?_,rfl⟩;rfl
def slc(r:Sl):List Value:=[r.v]
def HdsIs(W:World)(r:Sl)(d:List (List UInt8)):Prop:=RowsAt W r 32 d
theorem slc_cell(r:Sl):∀v∈slc r,isCell v=true:=fun v hv=>by
  rw[La1.1 hv];obtain⟨p,n,c⟩:=r;cases p<;>rfl
theorem res_tmp3{fn:Func}{t t2 t3:Tmp}{s:St}{v v2 v3:Value}(hr:fn.results= #[.tmp t, .tmp t2, .tmp t3])(hv:Hw.look s.sl t=some v)(hv2:Hw.look s.sl t2=some v2)(hv3:Hw.look s.sl t3=some v3):Res C fn s (.tuple #[v,v2,v3]):=by
  intro a w r;have h1:=r.rs.slots t v hv;have h2:=r.rs.slots t2 v2 hv2;have h3:=r.rs.slots t3 v3 hv3;simp[results,hr,h1,h2,h3]
theorem Sat.perm{code:Code}{sl:List (Nat×Value)}{hp hp':List Blk}{Q:Exit→St→Prop}(h:hp.Perm hp')(k:Sat C code ⟨sl,hp'⟩ Q):Sat C code ⟨sl,hp⟩ Q:=fun a w x=>k a w ⟨x.rs,x.rh.perm h⟩
noncomputable def benE(X:PD):List (List UInt8)→List (List (List UInt8))→Int
  |_,[]=>0
  |bf,c::cs=>if(c.any fun n=> !X.has n)=true then 6 else if(bf.all fun n=>rB X (-1) c n)=false then 4 else benE X c cs
inductive PartsOk(X:PD):List (List UInt8)→List (List (List UInt8))→List (List (List UInt8))→Prop
  |nil {bf:List (List UInt8)}:PartsOk X bf [] []
  |cons {bf c l:List (List UInt8)} {cs ls:List (List (List UInt8))} (h1:l.Nodup) (h2:∀n,n∈l↔X.Reach (-1) c n∧¬X.Reach (-1) bf n) (h3:PartsOk X c cs ls):PartsOk X bf (c::cs) (l::ls)
theorem PartsOk.snoc:∀ {bf:List (List UInt8)} {cs ls:List (List (List UInt8))},PartsOk X bf cs ls→l.Nodup→(∀n,n∈l↔X.Reach (-1) c n∧¬X.Reach (-1) (cs.getLastD bf) n)→PartsOk X bf (cs++[c]) (ls++[l])
  |_,[],_,h,h1,h2=>by cases h;exact .cons h1 h2 .nil
  | bf,d::cs,_,h,h1,h2=>by
    cases h with
    |cons a b k=>exact .cons a b (k.snoc h1 (by intro n;rw[h2 n];cases cs<;>rfl))
structure BenG where
  k:Nat
  bf:List (List UInt8)
  sbf:Sl
  ps:List RV
  s7:Sl
  bl7:List Blk
  bl2:List Blk
  fs:List (List UInt8×Unit)
def psv(ps:List RV):List Value:=ps.map fun r=>r.s.v
def pbl(ps:List RV):List Blk:=(ps.map RV.bl).flatten
structure BenG.ok(g:BenG)(X:PD)(W:World)(cs:List (List (List UInt8))):Prop where
  err:benE X [] cs=benE X g.bf (cs.drop g.k)
  row:RowsAt W g.sbf 32 g.bf
  acc:Hw.Acc g.s7 g.bl7 (psv g.ps) 30 g.ps.length 1
  bls:g.bl2.Perm (pbl g.ps)
  oks:∀r∈g.ps,r.ok
  prt:PartsOk X [] (cs.take g.k) (g.ps.map (·.ks))
  fnd:(g.fs.map (·.1)).Nodup
  fsk:∀n,n∈g.fs.map (·.1)↔X.Reach (-1) g.bf n
  lst:g.bf=(cs.take g.k).getLastD []
def BenR(X:PD)(cs:List (List (List UInt8)))(v:Value)(out:List Blk):Prop:=
  (∃e,e≠0∧benE X [] cs=e∧v= .tuple #[.slice none 0 0, .map none,i64 e]∧out=[])
  ∨benE X [] cs=0∧∃(s:Sl) (bl bl2:List Blk) (ps:List RV) (m:Nat) (fs:List (List UInt8×Unit)),v= .tuple #[s.v, .map (some m),i64 0]∧out=A0 m (Al 32 evU) fs::(bl++bl2)∧Hw.Acc s bl (psv ps) 30 ps.length 1∧bl2.Perm (pbl ps)∧(∀r∈ps,r.ok)∧PartsOk X [] cs (ps.map (·.ks))∧(fs.map (·.1)).Nodup∧∀n,n∈fs.map (·.1)↔X.Reach (-1) (cs.getLastD []) n
theorem reach_closed(hI:X.Inv)(h:∀n,n∈ks↔X.Reach (-1) L n):∀k∈ks,∀D,Ao X.P k=some D→∀m∈Bk D,m∈ks:=fun k hk D hD m hm=>by
  obtain⟨⟨E,hE⟩,_⟩:=hI.par k D hD m hm;exact(h m).2 (.step ((h k).1 hk) hD hm hE (by have:=hI.d0 m E hE;omega))
theorem reach_subst{L M:List (List UInt8)}(h:∀n∈L,X.Reach (-1) M n)(hn:X.Reach (-1) L n):X.Reach (-1) M n:=by
  induction hn with
  |base h1 _ _=>exact h _ h1
  |step _ hP hn hE hd ih=>exact .step ih hP hn hE hd
theorem psv_snoc(ps:List RV)(r:RV):psv (ps++[r])=psv ps++[r.s.v]:=by simp[psv]
theorem pbl_snoc(ps:List RV)(r:RV):(pbl (ps++[r]))=pbl ps++r.bl:=by simp[pbl]
theorem drop_at{l:List α}(h:l[k]? =some a):l.drop k=a::l.drop (k+1):=by
  obtain⟨hk,e⟩:=Lad.1 h;rw[←e];exact Lby hk
theorem take_at{l:List α}(h:l[k]? =some a):l.take (k+1)=l.take k++[a]:=by
  obtain⟨hk,e⟩:=Lad.1 h;rw[←e];exact Laq hk
theorem BenG.next{W:World}{g:BenG}(h:g.ok X W cs){sc s28 s47:Sl}{out bl47:List Blk}(hc:cs[g.k]? =some c)(hrow:RowsAt W sc 32 c)(hall:∀n∈c,X.has n=true)(hbf:∀n∈g.bf,X.Reach (-1) c n)
    (hac:Hw.Acc s28 out (Am l) 34 l.length 32) (h32:∀k∈l,k.length=32) (hnd:l.Nodup) (hl:∀n,n∈l↔X.Reach (-1) c n∧n∉g.fs.map (·.1)) (hac2:Hw.Acc s47 bl47 (psv g.ps++slc s28) 30 (g.ps.length+1) 1) (hfn:(fs.map (·.1)).Nodup) (hfs:∀n,n∈fs.map (·.1)↔n∈g.fs.map (·.1)∨n∈l):
    (⟨g.k+1,c,sc,g.ps++[⟨s28,out,l⟩],s47,bl47,out++g.bl2,fs⟩:BenG).ok X W cs where
  err :=by
    show benE X [] cs=benE X c (cs.drop (g.k+1));have e1:¬(c.any fun n=> !X.has n)=true:=by
      intro h9;obtain⟨n,hn,h8⟩:=Lc9.1 h9;rw[hall n hn]at h8;cases h8
    have e2:¬(g.bf.all fun n=>rB X (-1) c n)=false:=by
      rw[Lbt.2 fun n hn=>rB_iff.2 (hbf n hn)];decide
    rw[h.err,drop_at hc,benE,if_neg e1,if_neg e2]
  row:=hrow
  acc:=by
    show Hw.Acc s47 bl47 (psv (g.ps++[⟨s28,out,l⟩])) 30 (g.ps++[(⟨s28,out,l⟩:RV)]).length 1;rw[psv_snoc,La3];exact hac2
  bls:=by
    show(out++g.bl2).Perm (pbl (g.ps++[⟨s28,out,l⟩]));rw[pbl_snoc];exact Ldj.trans (Lcc out h.bls)
  oks:=fun r hr=>by
    rcases Laa.1 hr with h1|h1
    ·exact h.oks r h1
    ·rw[La1.1 h1];exact⟨hac,h32⟩
  prt:=by
    show PartsOk X [] (cs.take (g.k+1)) ((g.ps++[(⟨s28,out,l⟩:RV)]).map (·.ks));rw[take_at hc,Laj];refine h.prt.snoc hnd fun n=>?_;rw[hl n,h.fsk n,←h.lst]
  fnd:=hfn
  fsk :=fun n=>by
    show n∈fs.map (·.1)↔X.Reach (-1) c n;rw[hfs n,hl n,h.fsk n];constructor
    · rintro(h1|h1)
      ·exact reach_subst hbf h1
      ·exact h1.1
    · intro h1
      by_cases h2:X.Reach (-1) g.bf n
      ·exact .inl h2
      ·exact .inr ⟨h1,h2⟩
  lst:=by
    show c=(cs.take (g.k+1)).getLastD [];rw[take_at hc];simp
theorem add_keys(h:(ms.map (·.1)).Nodup)(a:List UInt8):((Bd ms a ()).map (·.1)).Nodup∧∀n,n∈(Bd ms a ()).map (·.1)↔n∈ms.map (·.1)∨n=a:=by
  refine⟨mput_nodup h a (),fun n=>?_⟩;constructor
  · intro hn
    obtain⟨p,hp,rfl⟩:=La8.1 hn;rcases mput_mem hp with h2|rfl
    ·exact .inl (La8.2 ⟨p,h2,rfl⟩)
    ·exact .inr rfl
  · rintro(hn|rfl)
    · obtain⟨q,hq,rfl⟩:=La8.1 hn
      exact mput_in hq
    · cases hm:Ao ms n with
      |none=>exact La8.2 ⟨(n,()),Bg (mget_new hm ()),rfl⟩
      |some u=>exact mput_in (q:=(n,u)) (Bg hm)
theorem ben_6(h:∃n∈c,X.has n=false):benE X bf (c::cs)=6:=by
  obtain⟨n,hn,h1⟩:=h;rw[benE,if_pos (Lc9.2 ⟨n,hn,by rw[h1];rfl⟩)]
theorem ben_4(h:∀n∈c,X.has n=true)(h2:∃n∈bf,¬X.Reach (-1) c n):benE X bf (c::cs)=4:=by
  obtain⟨n,hn,h1⟩:=h2;have e1:¬(c.any fun n=> !X.has n)=true:=by
    intro h9;obtain⟨m,hm,h8⟩:=Lc9.1 h9;rw[h m hm]at h8;cases h8
  have e2:(bf.all fun n=>rB X (-1) c n)=false:=by
    cases h9:bf.all fun n=>rB X (-1) c n with
    |false=>rfl
    |true=>exact absurd (rB_iff.1 (Lbt.1 h9 n hn)) h1
  rw[benE,if_neg e1,if_pos e2]
theorem ben_start(X:PD)(W:World)(cs:List (List (List UInt8))):(⟨0,[],Sl.nil,[],Sl.nil,[],[],[]⟩:BenG).ok X W cs where
  err:=by rw[Let]
  row:=nil_rows W
  acc:=Acc.none
  bls:=Lch _
  oks:=fun r hr=>by cases hr
  prt:= .nil
  fnd:=Lcp
  fsk:=fun n=>⟨fun h=>(by cases h),fun h=>(reach_nil h).elim⟩
  lst:=rfl
theorem lin_beneath(x:DD)(hx:x.ok)(hI:x.pl.Inv)(p:Nat)(s:Sl)(rs:List Sl)(cs:List (List (List UInt8)))(hn:s.n≤1000)(hsm:∀c∈cs,c.length≤90000):Meets prog 109 [ptr p 0,s.v] [] (fun W=>Lies (x.blks p) W∧SeqIs slc 1 HdsIs W s rs cs) (BenR x.pl cs):=by
 intro W hW;have h32k:True:=trivial;have hbig:=hx.big;have hs:=hW.2;have hnd0:=hs.nd;refine Ac func109 J 52 ntmps109 J (G19 ?_);refine .mkMap (Al 32 evU) J J ?_;intro m16;refine G12 ?_;refine .loop (ι:=BenG) (fun g=>⟨[(0,ptr p 0),(1,s.v),(4, .slice none 0 0),(5, .map none),(6,i64 0),(7,g.s7.v),(8,g.sbf.v),(9, .map (some m16)),(17,s.v),(18,i64 (s.n:Int)),(19,i64 (g.k:Int))],(A0 m16 (Al 32 evU) g.fs::(g.bl7++(g.bl2++[])))⟩) (fun g=>g.k≤s.n∧g.ps.length=g.k∧g.ok x.pl W cs) (fun g=>s.n-g.k) (⟨0,[],Sl.nil,[],Sl.nil,[],[],[]⟩) ?_ ?_ ?_
 ·exact⟨Lar _,rfl,ben_start x.pl W cs⟩
 ·exact Aq wN (Ab rM (Ae (by repeat(exact sg_end)) (Ae (by repeat(exact sg_end)) Aj)))
 rintro⟨k,bf,sbf,ps,s7,bl7,bl2,fs⟩ ⟨hk,hpk,hG⟩;simp only at hk hpk ⊢;have hacc:Hw.Acc s7 bl7 (psv ps) 30 ps.length 1:=hG.acc;refine G6 ?_;refine .condP J (fun hc0=>?_) (fun hc0=>?_)
 ·
  have hk2:k<s.n:=by omega
  obtain⟨b,o,rr,d,hsp,hr,hd,his,hlen,hsee⟩:=hs.at dE hk2;refine G6 ?_;refine .idxSlP 1 J J J hsp J Y78.h Sz30 k J oM (.loadE J J J Y30.h J sP ((by have h9:=hsee 0 rr.v J;simpa using h9)) ?_);refine G9 ?_;refine .call4 J J J J J Body162 (lin_fresh x hx hI p sbf rr bf d (hsm d (Lcr hd)) m16 fs (reach_closed hI hG.fsk)) (fun w h=>⟨Bw hW.1 h,Cp h J hG.row,Cp h J his,Ca h Z0⟩) ?_;rintro v28 out28 (⟨hne,rfl,rfl⟩|⟨hall,hlost,rfl,rfl⟩|⟨hall,hbf,s28,l,rfl,hac28,hnd,hl⟩)
  ·
   skip;refine G14 ?_;refine .cond_t J J (G8 ?_);refine G8 ?_;refine Az (out:=[]) (res_tmp3 J J J J) Aj ?_;exact .inl ⟨6,by decide,by rw[hG.err,drop_at hd];exact ben_6 hne,rfl,rfl⟩
  ·
   skip;refine G14 ?_;refine .cond_t J J (G8 ?_);refine G8 ?_;refine Az (out:=[]) (res_tmp3 J J J J) Aj ?_;exact .inl ⟨4,by decide,by rw[hG.err,drop_at hd];exact ben_4 hall hlost,rfl,rfl⟩
  have hn28:=hac28.num;have hl32:∀q∈l,q.length=32:=fun q hq=>P32 hx (reach_P ((hl q).1 hq).1);have hlb:l.length≤x.names.length:=nd_len (m:=x.pl.names) hnd fun q hq=>(names_mem hI q).2 (reach_P ((hl q).1 hq).1);refine G14 ?_;refine .cond_f J J (G11 ?_);refine .loop (ι:=Nat×List (List UInt8×Unit)) (fun y=>⟨[(0,ptr p 0),(1,s.v),(4, .slice none 0 0),(5, .map none),(6,i64 0),(7,s7.v),(8,sbf.v),(9, .map (some m16)),(11,rr.v),(12,s28.v),(17,s.v),(18,i64 (s.n:Int)),(19,i64 (k:Int)),(34,s28.v),(35,i64 (s28.n:Int)),(36,i64 (y.1:Int))],(A0 m16 (Al 32 evU) y.2::(bl7++(bl2++(out28++[]))))⟩) (fun y=>y.1≤s28.n∧(y.2.map (·.1)).Nodup∧∀n,n∈y.2.map (·.1)↔n∈fs.map (·.1)∨n∈l.take y.1) (fun y=>s28.n-y.1) ((0,fs)) ?_ ?_ ?_
  ·exact⟨Lar _,hG.fnd,fun n=>by simp⟩
  ·exact Aq wN (Ab (by repeat(first|exact A3|apply B0)) (Ae (by repeat(first|exact sg_here|apply sg_seg)) (Ae (by repeat(first|exact sg_here|apply sg_seg)) (Ae sG Aj))))
  rintro⟨j,fs2⟩ ⟨hj,hfn,hfl⟩;simp only at hj hfn hfl ⊢;refine G6 ?_;refine .condP J (fun hc2=>?_) (fun hc2=>?_)
  ·
   have hj3:j<l.length:=by omega
   obtain⟨b28,o28,hp28,see28⟩:=par_open hac28 oM hl32;have h32k:(l.getD j []).length=32:=hl32 _ (getD_mem2 hj3);refine G6 ?_;refine .idxSlP 32 J J J hp28 J Y30.h Sz34 j J oM (.loadSN (n:=32) (Aa (l.getD j [])) J J J Y34.h J Sz34 (by rw[Aa,La0];exact h32k) (fun w h=>see28 w (Lies.of h (by repeat(first|exact A4|refine A9 ?_|refine in_seg ?_))) j hj3) ?_);refine .alloc (cs:=(Aa (List.replicate 32 0))) J B5 J ?_;intro n15 hn15 hf15;refine .sA J J J J zE Sz34 (by(rw[Aa,La0];assumption)) Z0 sP zU ?_;refine G4 ?_;refine .lA J J J Y34.h J Sz34 Z0 (by(rw[Aa,La0];assumption)) ?_;refine .build (cs:=[]) J J J (fun w=>by kernel_rfl) ?_;refine .mapPut (v:=()) MN J J J J J h32k rM ?_;refine G8 ?_;refine⟨(j+1,Bd fs2 (l.getD j []) ()),⟨by simp only;omega,(add_keys hfn _).1,fun n=>?_⟩,by simp only;omega,Aq (wk1 J (wk1 J (wk1 J (wk1 J (wk1 J (wk1 J (wk1 J (wk1 J (wk1 J (wk1 J (wk1 J (wk1 J (wk1 J (wk1 J (wk1 J (wk1 (by rw[Lc1];rfl) wk0)))))))))))))))) (Ab rM (Ae sG (Ae sG (Ae sG Aj))))⟩;simp only;rw[(add_keys hfn _).2 n,hfl n,take_succ_getD hj3,Laa,La1,or_assoc]
  obtain rfl:j=s28.n:=by omega
  rw[La5 oM]at hfl;refine G9 ?_;refine .mkRow2 (z:= .slice none 0 0) [s28.v] (slc s28) J J Y78.h Sz30 Zr30 J J (by intro v hv;rw[La1.1 hv];simp[Value.cells,Sl.v]) dE (by simp[Value.cells,slc,Sl.v]) ?_;intro q46;refine .appendAcc (z:= .slice none 0 0) (by':=24) (slc s28) J J J J J Y78.h Y78.h Sz30 Zr30 (by unfold By;kernel_rfl) J hacc sG (fun w h=>SeesP.of (Ap h Z0)) (fun e=>by cases e) (slc_cell s28) oM oM (by rfl) ?_;intro s47 bl47 hac47;refine G14 ?_;refine⟨⟨k+1,d,rr,ps++[⟨s28,out28,l⟩],s47,bl47,out28++bl2,fs2⟩,⟨by simp only;omega,by simp only[La3,Lat];omega,BenG.next hG hd his hall hbf hac28 hl32 hnd hl hac47 hfn hfl⟩,by simp only;omega,Aq (wk1 J (wk1 J (wk1 J (wk1 J (wk1 J (wk1 J (wk1 J (wk1 J (wk1 J (wk1 J (wk1 (by rw[Lc1];rfl) wk0))))))))))) (Ab rM (Ae sG (pm_two (Ae sG (Ae sG Aj)))))⟩
 obtain rfl:k=s.n:=by omega
 refine G14 ?_;refine G2 ?_;refine Az (out:=(A0 m16 (Al 32 evU) fs::(bl7++(bl2++[])))) (res_tmp3 J J J J) (Ab rM (Ae sG (Ae sG Aj))) ?_;have he:=hG.err;have hp9:=hG.prt;have hk9:=hG.fsk;rw[Lao (by simp only;omega)]at he;rw[La5 (by simp only;omega)]at hp9;rw[show bf=cs.getLastD []from by have h8:=hG.lst;rw[La5 (by simp only;omega)]at h8;exact h8]at hk9;exact .inr ⟨he,s7,bl7,bl2,ps,m16,fs,rfl,by simp,hG.acc,hG.bls,hG.oks,hp9,hG.fnd,hk9⟩
theorem take_drop_flat(L:List (List UInt8))(i:Nat):Am L=Am (L.take i)++Am (L.drop i):=by rw[←Co,Lct]
theorem flat_take_len(h32:∀l∈L,l.length=32)(hi:i≤L.length):(Am (L.take i)).length=i*32:=by rw[Aw (fun l hl=>h32 l (Leb hl)),Lam,Lcn hi]
theorem idx_lt(h:l.any f=true):l.findIdx f<l.length:=by
  obtain⟨x,hx,hf⟩:=Lc9.1 h;exact List.findIdx_lt_length_of_exists ⟨x,hx,hf⟩
theorem own_rows{q n c m:Nat}{T:TypeId}(h:HRep C hp w)(hb:(⟨q,Am L,T,m⟩:Blk)∈hp)(hr:∀l∈L,l.length=32)(hl:L.length=n)(hc:n≤c)(hm:n≤1000000):RowsAt w ⟨some ⟨q,0,none⟩,n,c⟩ 32 L:=
  ⟨hl,hr,hc,SeesP.of (Ap h hb),Lbp hm dE,fun e=>by cases e⟩
theorem upd_set:∀ {L:List (List UInt8)} {i:Nat} {v:List UInt8},(∀l∈L,l.length=32)→v.length=32→i<L.length→upd (Am L) (0+i*32) (Aa v)=Am (L.set i v):=fun {L i v} h hv hi=>by
  have e1:L=L.take i++L[i]::L.drop (i+1):=by rw[←Lby hi,Lct]
  have e2:L.set i v=L.take i++v::L.drop (i+1):=by rw[Ld8,if_pos hi]
  have l1:(Am (L.take i)).length=i*32:=flat_take_len h oM;have l2:(Aa L[i]).length=32:=by rw[Aa,La0];exact h _ (Lcf hi)
  have l3:(Aa v).length=32:=by rw[Aa,La0];exact hv
  have f:∀(a:List (List UInt8)) (b:List UInt8) (d:List (List UInt8)),Am (a++b::d)=Am a++(Aa b++Am d):=fun a b d=>by simp[Am]
  have e3:Am L=Am (L.take i)++(Aa L[i]++Am (L.drop (i+1))):=by rw[←f,←e1]
  rw[e2,f,e3,Lb3,←l1,upd];rw[List.take_left,l3,←Lfa,List.drop_left,←l2,List.drop_left,La9]
theorem filter_step{j:Nat}(hj:j<ks.length):(ks.take (j+1)).filter f=(ks.take j).filter f++(if f (ks.getD j [])=true then[ks.getD j []]else[]):=by
  rw[take_succ_getD hj,Lgd];congr 1;rw[Lc8,List.filter_nil]
theorem index_has(s:Sl)(ls:List (List UInt8))(m:Nat)(fs:List (List UInt8×Unit)):Mv 150 [s.v, .func (.func 112) #[.map (some m)] #[]] (fun W=>RowsAt W s 32 ls∧BlkOk W (A0 m (Al 32 evU) fs)) (i64 (fstBad (fun n=>(Ao fs n).isSome) ls)):=by
 intro W hW;have hlen:=hW.1.len;have hrow:=hW.1.row;have hmax:=hW.1.max;simp only[maxLen]at hmax;have hcap:=hW.1.cap;refine Ac func150 J 19 ntmps150 J (G14 ?_);refine .loop (ι:=Nat) (fun k=>⟨[(0,s.v),(1, .func (.func 112) #[.map (some m)] #[]),(7,i64 (s.n:Int)),(8,i64 (k:Int))],[]⟩) (fun k=>k≤s.n∧∀j,j<k→(ls.map (fun n=>(Ao fs n).isSome))[j]? =some false) (fun k=>s.n-k) (0) ?_ ?_ ?_
 ·exact⟨by omega,fun j hj=>by omega⟩
 ·exact Ad wN wh0 nD
 rintro k ⟨hk,hg⟩;refine G6 ?_;refine .condP J (fun hc0=>?_) (fun hc0=>?_)
 ·
  have hk2:k<s.n:=by omega
  obtain⟨b,o,hbp,hbs⟩:=hW.1.see.at (by rw[Aw hrow];omega);have h32k:(ls.getD k []).length=32:=Bo hrow oM;have hd:ls[k]? =some (ls.getD k []):=by rw[La2,La6 (show k<ls.length by omega)];rfl
  refine G15 ?_;refine .idxSlP 32 J J J hbp J Y30.h Sz34 k oM oM (.loadEN (Aa (ls.getD k [])) J J J Y34.h J Sz34 sP (by rw[Aa,La0];exact h32k) (Bv hrow hbs oM) ?_);refine .callCV J J J J J Body112 (lin_has m fs (ls.getD k []) h32k) (fun w h2=>mblk_keep hW.2 h2) (G2 ?_);refine .cond J (fun hc1=>?_) (fun hc1=>?_)
  ·
   refine G6 ?_;refine G7 ?_;refine⟨_,[],Ah J J,sP,sP,?_,rfl⟩;exact congrArg i64 (fstBad_at hg (by rw[Lal,hd];simpa using hc1)).symm
  refine G8 ?_;exact⟨k+1,⟨by omega,fun j hj=>by rcases Lcg.1 hj with h|rfl;exact hg j h;rw[Lal,hd];simpa using hc1⟩,by omega,Ad wN wh0 nD⟩
 obtain rfl:k=s.n:=by omega
 refine G10 ?_;refine G2 ?_;refine⟨_,[],Ah J J,sP,sP,?_,rfl⟩;exact congrArg i64 (fstBad_none (by intro j hj;exact hg j (by rw[hlen]at hj;exact hj))).symm
theorem set_take{v:List UInt8}(h:i<L.length):(L.set i v).take (i+1)=L.take i++[v]:=by
  rw[Ld8,if_pos h,Lbe,Lam,Lcn oM,show i+1-i=1 by omega,La5 (by rw[Lam];omega)];rfl
theorem filter_all(h:fstBad (fun n=>(Ao fs n).isSome) ks= -1):(ks.filter fun n=>(Ao fs n).isNone)=ks:=by
  rw[Lcm];intro n hn;unfold fstBad at h;split at h
  ·omega
  · rename_i h1
    cases hm:Ao fs n with
    |none=>rfl
    |some u=>exact absurd (Lc9.2 ⟨n,hn,by rw[hm];rfl⟩) h1
theorem bad_at(h:¬fstBad (fun n=>(Ao fs n).isSome) ks= -1):∃i,i<ks.length∧fstBad (fun n=>(Ao fs n).isSome) ks=(i:Int)∧(ks.take i).filter (fun n=>(Ao fs n).isNone)=ks.take i∧¬(Ao fs (ks.getD i [])).isNone=true:=by
  have ha:ks.any (fun n=>(Ao fs n).isSome)=true:=by
    cases h9:ks.any (fun n=>(Ao fs n).isSome)with
    |true=>rfl
    |false=>exact absurd (if_neg (by rw[h9];decide)) h
  have hi:=idx_lt ha;refine⟨_,hi,if_pos ha,?_,?_⟩
  · rw[Lcm]
    intro n hn;obtain⟨j,hj,e⟩:=Lcl hn;rw[Lam]at hj;rw[List.getElem_take]at e;have h1:=List.not_of_lt_findIdx (show j<ks.findIdx (fun n=>(Ao fs n).isSome) by omega);rw[e]at h1;cases hm:Ao fs n with
    |none=>rfl
    |some u=>rw[hm]at h1;simp at h1
  · have h2:=List.findIdx_getElem (p:=fun n=>(Ao fs n).isSome) (xs:=ks) (w:=hi)
    rw[La2,La6 hi,Lbi];intro h3;rw[Option.isNone_iff_eq_none]at h3;rw[h3]at h2;cases h2
theorem del_has(q n c m:Nat)(ks:List (List UInt8))(h32:∀l∈ks,l.length=32)(hn:ks.length=n)(hnc:n≤c)(hbig:n≤1000000)(fs:List (List UInt8×Unit)):Meets prog 111 [.slice (some ⟨q,0,none⟩) n c, .func (.func 112) #[.map (some m)] #[]] [q] (fun W=>Lent [⟨q,Am ks,34,c*32⟩] W∧BlkOk W (A0 m (Al 32 evU) fs)∧m≠q) (fun v out=>v= .slice (some ⟨q,0,none⟩) (ks.filter (fun n=>(Ao fs n).isNone)).length c∧out=[⟨q,Am (ks.filter (fun n=>(Ao fs n).isNone)),34,c*32⟩]):=by
  intro W hW;have h32j:True:=trivial;obtain⟨_,hmb,hmq⟩:=id hW;refine calls_of (hp0:=[⟨q,Am ks,34,c*32⟩]) func111 J 42 ntmps111 J hW.1.rep (G9 ?_);refine .cV J J J J Body150 (index_has ⟨some ⟨q,0,none⟩,n,c⟩ ks m fs) (fun w h=>⟨own_rows h Z0 h32 hn hnc hbig,hmb.of_heap (h.keeps.block m hmb.lt (by simpa using hmq))⟩) ?_;refine G10 ?_;refine .condP J (fun hc0=>?_) (fun hc0=>?_)
  ·
    refine G6 ?_;refine G3 ?_;refine Az (out:=(⟨q,Am ks,34,c*32⟩::[])) (Ah J J) (Ab rM Aj) ?_;rw[filter_all hc0,hn];exact⟨rfl,rfl⟩
  obtain⟨i0,hi0,hib,hfi,hf0⟩:=bad_at hc0;rw[hib];refine G11 ?_;refine .loop (ι:=Nat×Nat×List (List UInt8)) (fun r=>⟨[(0, .slice (some ⟨q,0,none⟩) n c),(1, .func (.func 112) #[.map (some m)] #[]),(5,i64 (r.1:Int)),(6,i64 (r.2.1:Int))],[⟨q,Am r.2.2,34,c*32⟩]⟩) (fun r=>r.1<r.2.1∧r.2.1≤n∧r.2.2.length=n∧(∀l∈r.2.2,l.length=32)∧r.2.2.take r.1=(ks.take r.2.1).filter (fun n=>(Ao fs n).isNone)∧r.2.2.drop r.2.1=ks.drop r.2.1) (fun r=>n-r.2.1) ((i0,i0+1,ks)) ?_ ?_ ?_
  ·exact⟨Nat.lt_succ_self _,by simp only;omega,hn,h32,by simp only;rw[filter_step oM,hfi,if_neg hf0,Lav],rfl⟩
  ·exact Aq wN (Ab rM Aj)
  rintro⟨i,j,L⟩ ⟨hij,hjn,hLn,hL32,hLt,hLd⟩;simp only at hij hjn hLn hL32 hLt hLd ⊢;refine G9 ?_;refine .condP J (fun hc1=>?_) (fun hc1=>?_)
  ·
    have hj2:j<n:=by omega
    have h32j:(ks.getD j []).length=32:=Bo h32 oM;have hLj:L.getD j []=ks.getD j []:=by rw[La2,La2,←Lbu j,←Lb6,←Lb6,hLd]
    refine G8 ?_;refine .idxSlP 32 J J J J J Y30.h Sz34 j J oM (.loadSN (n:=32) (Aa (ks.getD j [])) J J J Y34.h J Sz34 (by rw[Aa,La0];exact h32j) (fun w h=>by rw[←hLj];exact Bv hL32 (Ap h Z0) oM) ?_);refine .alloc (cs:=(Aa (List.replicate 32 0))) J B5 J ?_;intro n7 hn7 hf7;refine .sA J J J J zE Sz34 (by(rw[Aa,La0];assumption)) Z0 sP zU ?_;refine G5 ?_;refine .lA J J J Y34.h J Sz34 Z0 (by(rw[Aa,La0];assumption)) ?_;refine .callCV J J J J J Body112 (lin_has m fs (ks.getD j []) h32j) (fun w h=>hmb.of_heap (h.keeps.block m hmb.lt (by simpa using hmq))) ?_;refine G3 ?_;refine .cond J (fun hc2=>?_) (fun hc2=>?_)
    ·
      have hkeep:(Ao fs (ks.getD j [])).isNone=true:=by cases h9:Ao fs (ks.getD j [])<;>simp_all
      refine G4 ?_;refine .lA J J J Y34.h J Sz34 Z0 (by(rw[Aa,La0];assumption)) ?_;refine .idxSlP 32 J J J J J Y30.h Sz34 i J oM (.storeN (Aa (ks.getD j [])) (cs':=Am (L.set i (ks.getD j []))) J J J J J (A1 _) Sz34 (by rw[Aa,La0];exact h32j) Z1 (by rw[Aw hL32,Aa,La0,h32j];omega) (upd_set hL32 h32j oM) zV ?_);refine G15 ?_;refine⟨(i+1,j+1,L.set i (ks.getD j [])),⟨by simp only;omega,by simp only;omega,by simp only[Lbk];exact hLn,fun l hl=>?_,?_,?_⟩,by simp only;omega,Aq wN (Ab rM Aj)⟩
      · rcases Le8 hl with h9|rfl
        ·exact hL32 l h9
        ·exact h32j
      · simp only
        rw[filter_step oM,←hLt,if_pos hkeep,set_take oM]
      · simp only
        rw[List.drop_set_of_lt oM,←Lfa,hLd,Lfa]
    have hdrop:¬(Ao fs (ks.getD j [])).isNone=true:=by cases h9:Ao fs (ks.getD j [])<;>simp_all
    refine G9 ?_;refine⟨(i,j+1,L),⟨by simp only;omega,by simp only;omega,hLn,hL32,?_,?_⟩,by simp only;omega,Aq wN (Ab rM Aj)⟩
    · simp only
      rw[filter_step oM,if_neg hdrop,Lav];exact hLt
    · simp only
      rw[←Lfa,hLd,Lfa]
  have hjn2:j=n:=by omega
  refine G6 ?_;rw[take_drop_flat L i];refine .trunc (q:=q) rM ?_;refine G3 ?_;refine .sliceLoN i J J J J J oM hnc Y30.h Sz34 ?_;rw[if_neg (show ¬c=i by omega)];refine .clearB (size:=32) (z:=agg (Aa (List.replicate 32 0))) J J J Y30.h B5 J dE rM (by rw[flat_take_len hL32 oM];omega) oM ?_;refine G6 ?_;refine .sliceHiA ⟨some ⟨q,0,none⟩,n,c⟩ i J J J J J (by show i≤c;omega) Y30.h Sz34 ?_;dsimp only[Sl.v];refine G3 ?_;refine G2 ?_;refine Az (out:=(⟨q,Am (L.take i),34,c*32⟩::[])) (Ah J J) (Ab rM Aj) ?_;rw[La5 (show ks.length≤j by omega)]at hLt;rw[←hLt];exact⟨by rw[Lam,Lcn oM],rfl⟩
def leD(X:PD)(a b:List UInt8):Bool:=decide (X.dp a<X.dp b)||(decide (X.dp a=X.dp b)&&decide (cmpB a b≤0))
theorem leD_iff{a b:List UInt8}:leD X a b=true↔LeD X a b:=by unfold leD LeD;simp
def isortD(X:PD)(l:List (List UInt8)):List (List UInt8):=l.mergeSort (leD X)
theorem isortD_perm(X:PD)(l:List (List UInt8)):(isortD X l).Perm l:=List.mergeSort_perm l _
theorem isortD_sort(X:PD)(l:List (List UInt8)):SortD X (isortD X l):=by
  have h:=List.pairwise_mergeSort (le:=leD X) (fun a b c h1 h2=>by
    rw[leD_iff]at*;have:=cmpB_trans a b c;unfold LeD at*;omega) (fun a b=>by
    rw[Lc2,leD_iff,leD_iff];have:=cmpB_neg a b;unfold LeD;omega) l
  exact h.imp fun h=>leD_iff.1 h
theorem isortD_eq{a l:List (List UInt8)}(hp:a.Perm l)(hs:SortD X a):a=isortD X l:=sortD_unique (hp.trans (isortD_perm X l).symm) hs (isortD_sort X l)
noncomputable def partsD(X:PD):List (List UInt8)→List (List (List UInt8))→List (List (List UInt8))
  |_,[]=>[]
  |bf,c::cs=>isortD X (X.names.filter fun n=>rB X (-1) c n&& !rB X (-1) bf n)::partsD X c cs
noncomputable def restL(X:PD)(cs:List (List (List UInt8))):List (List UInt8):=X.names.filter fun n=> !rB X (-1) (cs.getLastD []) n
noncomputable def ordL(X:PD)(cs:List (List (List UInt8))):List (List UInt8):=(partsD X [] cs).flatten++isortD X (restL X cs)
theorem parts_sorted{X:PD}(hI:X.Inv):∀ {bf:List (List UInt8)} {cs ls:List (List (List UInt8))},PartsOk X bf cs ls→ls.map (isortD X)=partsD X bf cs
  |_,_,_, .nil=>rfl
  | bf,c::cs,l::ls, .cons h1 h2 h3=>by
    rw[Lap,partsD,parts_sorted hI h3];congr 1;refine isortD_eq ((isortD_perm X l).trans ((List.perm_ext_iff_of_nodup h1 ((hI.nn▸hI.nd:X.names.Nodup).filter _)).2 fun n=>?_)) (isortD_sort X l);rw[h2 n,Lc0,Lan,rB_iff,Lde,←Lgv,rB_iff,names_mem hI];exact⟨fun h=>⟨reach_P h.1,h⟩,fun h=>h.2⟩
theorem parts_len{X:PD}(hI:X.Inv):∀ {bf:List (List UInt8)} {cs ls:List (List (List UInt8))},PartsOk X bf cs ls→∀l∈ls,l.length≤X.names.length
  |_,_,_, .nil,l,hl=>by cases hl
  | _,_,_, .cons h1 h2 h3,l,hl=>by
    rcases Lab.1 hl with rfl|hl
    ·exact nd_len h1 fun n hn=>(names_mem hI n).2 (reach_P ((h2 n).1 hn).1)
    ·exact parts_len hI h3 l hl
def OrdR(X:PD)(cs:List (List (List UInt8)))(v:Value)(out:List Blk):Prop:=
  (∃e,e≠0∧benE X [] cs=e∧v= .tuple #[.slice none 0 0,i64 0,i64 e]∧out=[])
  ∨benE X [] cs=0∧∃s:Sl,v= .tuple #[s.v,i64 ((Cu X (cs.getLastD [])).length:Int),i64 0]∧Hw.Acc s out (Am (ordL X cs)) 34 (ordL X cs).length 32
theorem psv_at(h:Hw.Acc s bl (psv ps) 30 ps.length 1)(hr:ps[k]? =some r):∃q o,s.p=some ⟨q,o,none⟩∧∀w,Lies bl w→w.cell? ⟨q,o+k*1,none⟩=some r.s.v:=by
  have hk:=(Lad.1 hr).1;rcases h with ⟨_,_,_,e⟩|⟨q,c,rfl,h1,h2,rfl⟩
  ·omega
  · refine⟨q,0,rfl,fun w hw=>?_⟩
    have h3:=(hw _ La4).cell (o:=0+k*1) (v:=r.s.v) (by
      show(psv ps)[0+k*1]? =_;rw[Lb3,Lb5,psv,Lal,hr];rfl)
    exact h3
theorem perm_seg{hp A B C R:List Blk}(h:hp.Perm (A++R))(h2:A.Perm (B++C)):hp.Perm (B++(C++R)):=by
  rw[←La9];exact h.trans (Lcc R h2)
theorem pbl_drop(hr:ps[k]? =some r):pbl (ps.drop k)=r.bl++pbl (ps.drop (k+1)):=by
  rw[drop_at hr];rfl
theorem lent_pre{hp bl keep L:List Blk}(h:HRep C hp w)(hp1:hp.Perm (bl++keep))(hL:∀b∈L,b∈keep):Lent bl w∧Lies L w∧∀b∈L,∀b2∈bl,b.n≠b2.n:=by
  have h1:=h.perm hp1;refine⟨Lent.of h hp1,fun b hb=>h1.cells b (Lax _ (hL b hb)),fun b hb b2 hb2 e=>?_⟩;have h2:=h1.nodup;rw[Laj,Lb2]at h2;exact h2.2.2 _ (La8.2 ⟨b2,hb2,rfl⟩) _ (La8.2 ⟨b,hL b hb,rfl⟩) e.symm
theorem beneath_keys(hI:X.Inv)(hn:(fs.map (·.1)).Nodup)(h:∀n,n∈fs.map (·.1)↔X.Reach (-1) L n):fs.length=(Cu X L).length:=by
  rw[←clos_len hI hn h,La0]
theorem rest_filter(h:∀n,n∈fs.map (·.1)↔X.Reach (-1) (cs.getLastD []) n):(X.names.filter fun n=>(Ao fs n).isNone)=restL X cs:=by
  unfold restL;refine List.filter_congr fun n _=>?_;cases hm:Ao fs n with
  | none=>
    have:¬rB X (-1) (cs.getLastD []) n=true:=fun h2=>not_key hm ((h n).2 (rB_iff.1 h2));rw[Lgv]at this;rw[this];rfl
  | some u=>
    rw[rB_iff.2 ((h n).1 (La8.2 ⟨(n,u),Bg hm,rfl⟩))];rfl
theorem del_nil(m:Nat)(fs:List (List UInt8×Unit)):Mv 111 [.slice none 0 0, .func (.func 112) #[.map (some m)] #[]] (fun W=>BlkOk W (A0 m (Al 32 evU) fs)) (.slice none 0 0):=by
 intro W hW;refine Ac func111 J 42 ntmps111 J (G9 ?_);refine .cV J J J J Body150 (index_has Sl.nil [] m fs) (fun w h=>⟨nil_rows w,mblk_keep hW h⟩) (G7 ?_);refine .eqi J J J J (decide_eq_true (rfl)) (G2 ?_);refine .cond_t J J (G6 ?_);refine G3 ?_;refine⟨_,[],Ah J J,sP,sP,?_,rfl⟩;rfl
theorem del_acc(s:Sl)(bl:List Blk)(ks:List (List UInt8))(h32:∀l∈ks,l.length=32)(hbig:ks.length≤1000000)(hac:Hw.Acc s bl (Am ks) 34 ks.length 32)(m:Nat)(fs:List (List UInt8×Unit)):Meets prog 111 [s.v, .func (.func 112) #[.map (some m)] #[]] (bl.map (·.n)) (fun W=>Lent bl W∧Lies [A0 m (Al 32 evU) fs] W∧∀b∈ [A0 m (Al 32 evU) fs],∀b2∈bl,b.n≠b2.n)
    (fun v out=>∃s2:Sl,v=s2.v∧Hw.Acc s2 out (Am (ks.filter fun n=>(Ao fs n).isNone)) 34 (ks.filter fun n=>(Ao fs n).isNone).length 32):=fun W ⟨h1,h2,h3⟩=>by
  have hm:=h2 _ La4;rcases hac with ⟨rfl,rfl,hz,hn⟩|⟨q,c,rfl,hnc,hfl,rfl⟩
  · obtain rfl:=Lah hn
    exact(del_nil m fs W hm).mono fun e W' ⟨v,out,he,⟨hv,ho⟩,hr⟩=>⟨v,out,he,⟨Sl.nil,hv,by rw[ho];exact Acc.none⟩,hr⟩
  · refine(del_has q ks.length c m ks h32 rfl hnc hbig fs W ⟨h1,hm,h3 _ La4 _ La4⟩).mono fun e W' ⟨v,out,he,⟨hv,ho⟩,hr⟩=>⟨v,out,he,⟨⟨some ⟨q,0,none⟩,_,c⟩,hv,?_⟩,hr⟩
    rw[ho];exact Acc.some (Lbp (Lf3 _ _) hnc) (Aw fun l hl=>h32 l (Lc0.1 hl).1)
structure OrdG where
  k:Nat
  l:List (List UInt8)
  s:Sl
  bl:List Blk
  br:List Blk
structure OrdG.ok(g:OrdG)(X:PD)(ps:List RV):Prop where
  lst:g.l=((ps.take g.k).map fun r=>isortD X r.ks).flatten
  acc:Hw.Acc g.s g.bl (Am g.l) 34 g.l.length 32
  bls:g.br.Perm (pbl (ps.drop g.k))
  len:g.l.length≤g.k*20000
theorem OrdG.next{g:OrdG}(h:g.ok X ps)(hr:ps[g.k]? =some r)(hb:r.ks.length≤20000){ks2:List (List UInt8)}(hp:ks2.Perm r.ks)(hs:SortD X ks2)(hac:Hw.Acc s bl (Am g.l++Am ks2) 34 (g.l.length+r.ks.length) 32):(⟨g.k+1,g.l++ks2,s,bl,pbl (ps.drop (g.k+1))⟩:OrdG).ok X ps where
  lst:=by
    show g.l++ks2=((ps.take (g.k+1)).map fun r=>isortD X r.ks).flatten;rw[take_at hr,Laj,Ld2,←h.lst,isortD_eq hp hs];simp
  acc:=by
    show Hw.Acc s bl (Am (g.l++ks2)) 34 (g.l++ks2).length 32;rw[Co,La3,hp.length_eq];exact hac
  bls:=Lch _
  len:=by
    show(g.l++ks2).length≤(g.k+1)*20000;have h1:=h.len;rw[La3,hp.length_eq];omega
theorem ord_start(X:PD)(ps:List RV){bl br:List Blk}(h:Hw.Acc s bl (Am []) 34 0 32)(hb:br.Perm (pbl ps)):(⟨0,[],s,bl,br⟩:OrdG).ok X ps where
  lst:=rfl
  acc:=h
  bls:=hb
  len:=Lar _
theorem parts_count{X:PD}:∀ {bf:List (List UInt8)} {cs ls:List (List (List UInt8))},PartsOk X bf cs ls→ls.length=cs.length
  |_,_,_, .nil=>rfl
  |_,_,_, .cons _ _ h=>by rw[Lb0,Lb0,parts_count h]
theorem parts_sub{X:PD}(hI:X.Inv):∀ {bf:List (List UInt8)} {cs ls:List (List (List UInt8))},PartsOk X bf cs ls→∀l∈ls,∀n∈l,n∈X.names
  |_,_,_, .nil,l,hl=>by cases hl
  | _,_,_, .cons h1 h2 h3,l,hl=>by
    rcases Lab.1 hl with rfl|hl
    ·exact fun n hn=>(names_mem hI n).2 (reach_P ((h2 n).1 hn).1)
    ·exact parts_sub hI h3 l hl
theorem ord_all(hI:X.Inv)(h:PartsOk X [] cs (ps.map (·.ks))):((ps++[(⟨s,bl,restL X cs⟩:RV)]).map fun r=>isortD X r.ks).flatten=ordL X cs:=by
  have h1:=parts_sorted hI h;rw[Lgw]at h1;rw[Laj,Ld2,ordL,←h1];simp;rfl
theorem lin_ord(x:DD)(hx:x.ok)(hI:x.pl.Inv)(hO:x.pl.Ord)(p:Nat)(s:Sl)(rs:List Sl)(cs:List (List (List UInt8)))(hn:s.n≤16)(hsm:∀c∈cs,c.length≤90000):Meets prog 45 [ptr p 0,s.v] [] (fun W=>Lies (x.blks p) W∧SeqIs slc 1 HdsIs W s rs cs) (OrdR x.pl cs):=by
 intro W hW;have hbig:=hx.big;have hnln:x.pl.names.length=x.names.length:=rfl;have hck:∀q∈x.P,q.2.check=0:=hI.ck;have h16:∀q∈x.P,q.2.ls.length≤16:=fun q hq=>(ck_small (hck q hq)).1;have hnd0:=hW.2.nd;refine Ac func45 J 59 ntmps45 J (G11 ?_);refine .cV J J J J Body78 (lin_none x hx h16 p) (fun w h=>Bw hW.1 h) (G2 ?_);refine .cond_f J J (G6 ?_);refine .call4 J J J J J Body109 (lin_beneath x hx hI p s rs cs oM hsm) (fun w h=>⟨Bw hW.1 h,hW.2.ext h J fun r d hd=>Cp h J hd⟩) ?_;rintro v20 out20 (⟨e,he0,hbe,rfl,rfl⟩|⟨hbe,s20,bl20,br20,ps,m,fs,rfl,rfl,hac20,hbr,hoks,hprt,hfn,hfk⟩)
 ·
  skip;refine G13 ?_;refine .nei J J J J (show(!decide _)=true from congrArg not (decide_eq_false (he0))) (G2 ?_);refine .cond_t J J (G8 ?_);refine G3 ?_;refine Az (out:=[]) (res_tmp3 J J J J) Aj ?_;exact .inl ⟨e,he0,hbe,rfl,rfl⟩
 have hn20:=hac20.num;have hpl:ps.length≤16:=by have h9:=parts_count hprt;rw[La0]at h9;omega
 have hpk:∀r∈ps,r.ks.length≤x.names.length:=fun r hr=>parts_len hI hprt r.ks (La8.2 ⟨r,hr,rfl⟩);refine G13 ?_;refine .nei J J J J (show(!decide _)=false from congrArg not (decide_eq_true (rfl))) (G2 ?_);refine .cond_f J J (G5 ?_);refine .call4 J J J J J Body110 (dag_names x hx p) (fun w h=>Bw hW.1 h) ?_;rintro v28 out28 ⟨s28,rfl,hac28⟩;have hn28:=hac28.num;refine G7 ?_;refine .call4 J J J J J Body83 (lin_depths x hx hI hO p s28 x.pl.names) (fun w h=>⟨Bw hW.1 h,acc_rows hac28 (Lies.of h (by repeat(exact A4))) hx.n32 J oM⟩) ?_;rintro v31 out31 ⟨aD,bD,cD,mD,fsD,ksD,⟨rfl,rfl,hfsD⟩,hksD⟩;have hdep:∀n,n∈x.pl.names→Ao fsD n=some (x.pl.dp n):=fun n hn=>hfsD.all n (hksD n hn hn);simp only[Lag,Lac,La9];refine G7 ?_;refine .call4 J J J J J Body81 (cl_digs s28 x.pl.names oM) (fun w h=>acc_rows hac28 (Lies.of h (by repeat(first|exact A4|refine A9 ?_))) hx.n32 J oM) ?_;rintro v34 out34 ⟨s34,rfl,hac34⟩;rw[hn28]at hac34;refine G2 ?_;refine .callL (L:=out34) J J J J J Body111 (del_acc s34 out34 x.pl.names hx.n32 oM hac34 m fs) sG (lent_ok J) (fun w h=>by have h9:=lent_pre (L:=[A0 m (Al 32 evU) fs]) h sG (by intro b hb;simp only[Lab,Las,or_false]at hb;rcases hb with rfl;exact mR);exact h9) ?_;rintro v37 out37 ⟨s37,rfl,hac37⟩;rw[rest_filter hfk]at hac37;have hr37:(restL x.pl cs).length≤x.names.length:=by unfold restL;exact Lf3 _ _
 have hrok:(⟨s37,out37,restL x.pl cs⟩:RV).ok:=⟨hac37,fun l hl=>hx.n32 l (Lc0.1 hl).1⟩;refine .mkRow2 (z:= .slice none 0 0) [s37.v] (slc s37) J J Y78.h Sz30 Zr30 J J (by intro v hv;rw[La1.1 hv];simp[Value.cells,Sl.v]) dE (by simp[Value.cells,slc,Sl.v]) ?_;intro q38;refine .appendAcc (z:= .slice none 0 0) (by':=24) (slc s37) J J J J J Y78.h Y78.h Sz30 Zr30 (by unfold By;kernel_rfl) J hac20 sG (fun w h=>SeesP.of (Ap h Z0)) (fun e=>by cases e) (slc_cell s37) oM oM (by rfl) ?_;intro s39 bl39 hac39;have hac39b:Hw.Acc s39 bl39 (psv (ps++[(⟨s37,out37,restL x.pl cs⟩:RV)])) 30 (ps++[(⟨s37,out37,restL x.pl cs⟩:RV)]).length 1:=by rw[psv_snoc,La3];exact hac39
 have hn39:s39.n=ps.length+1:=hac39.num;refine G7 ?_;refine .mkRoomN (z:=agg (Aa (List.replicate 32 0))) (by':=32) s28.n J J J J J Y30.h Sz34 B5 (by unfold By;kernel_rfl) oM oM ?_;intro q42;refine G12 ?_;refine .loop (ι:=OrdG) (fun g=>⟨[(4, .slice none 0 0),(5,i64 0),(6,i64 0),(7,s39.v),(8, .map (some m)),(11, .func (.func 144) #[] #[ptr aD 0,ptr bD 0,ptr cD 0]),(12,g.s.v),(43,s39.v),(44,i64 (s39.n:Int)),(45,i64 (g.k:Int))],(g.bl++(g.br++(A0 m (Al 32 evU) fs::(bl39++(A0 mD (Al 32 evI) fsD::(⟨cD,[.func (.func 144) #[] #[ptr aD 0,ptr bD 0,ptr cD 0]],118,1⟩::(⟨aD,[.map (some mD)],32,1⟩::(⟨bD,[ptr p 0],26,1⟩::[]))))))))⟩) (fun g=>g.k≤s39.n∧g.ok x.pl (ps++[(⟨s37,out37,restL x.pl cs⟩:RV)])) (fun g=>s39.n-g.k) (⟨0,[],⟨some ⟨q42,0,none⟩,0,s28.n⟩,[⟨q42,[],34,s28.n*32⟩],out37++br20⟩) ?_ ?_ ?_
 ·exact⟨Lar _,ord_start _ _ (Acc.some (Lar _) sP) (by rw[pbl_snoc];exact Ldj.trans (Lcc _ hbr))⟩
 ·exact Aq wN (pm_in0 (Ab rM (pm_two (Ae sG (Ae sG (Ab rM (Ae sG (Ab rM (Ab rM (Ab rM (Ab rM Aj)))))))))))
 rintro⟨k,l,s12,bl12,br⟩ ⟨hk,hG⟩;simp only at hk ⊢;refine G6 ?_;refine .condP J (fun hc2=>?_) (fun hc2=>?_)
 ·
  have hk2:k<s39.n:=by omega
  obtain⟨r,hr9⟩:∃r,(ps++[(⟨s37,out37,restL x.pl cs⟩:RV)])[k]? =some r:=⟨_,La6 (by rw[La3,Lat];omega)⟩;obtain⟨y39,o39,hp39,hc39⟩:=psv_at hac39b hr9;have hrm:=Lcr hr9;have hro:r.ok:=by rcases Laa.1 hrm with h9|h9;exact hoks r h9;rw[La1.1 h9];exact hrok
  have hrb:r.ks.length≤x.names.length:=by rcases Laa.1 hrm with h9|h9;exact hpk r h9;rw[La1.1 h9];exact hr37
  have hrn:∀n∈r.ks,n∈x.pl.names:=by rcases Laa.1 hrm with h9|h9;exact parts_sub hI hprt r.ks (La8.2 ⟨r,h9,rfl⟩);rw[La1.1 h9];exact fun n hn=>(Lc0.1 hn).1
  have hrp:=hG.bls.trans (List.Perm.of_eq (pbl_drop hr9));refine G6 ?_;refine .idxSlP 1 J J J hp39 J Y78.h Sz30 k J oM (.loadS1 J J J Y30.h J (fun w h=>hc39 w (Lies.of h (by repeat(first|exact A4|refine A9 ?_|refine in_seg ?_)))) ?_);refine G4 ?_;refine Sat.perm (perm_seg (by repeat(first|exact sg_here|apply sg_seg)) hrp) ?_;refine G3 ?_;refine .callL (L:=r.bl) J J J J J Body82 (lin_order x.pl r.s r.bl r.ks hro.r32 oM hro.acc aD bD cD mD fsD (fun n hn=>hdep n (hrn n hn))) (show List.Perm _ (r.bl++_)from sG) (lent_ok J) (fun w h=>by have h9:=lent_pre (L:=[⟨aD,[.map (some mD)],32,1⟩,A0 mD (Al 32 evI) fsD]) h sG (by intro b hb;simp only[Lab,Las,or_false]at hb;rcases hb with rfl|rfl;exact mR;exact mR);exact h9) ?_;rintro v51 out51 ⟨rfl,ks2,hp2,hs2,hac51⟩;have hn51:=hac51.num;refine G5 ?_;refine .appendAcc (n:=l.length) (z:=agg (Aa (List.replicate 32 0))) (by':=32) (Am ks2) J J J J J Y30.h Y30.h Sz34 B5 (by unfold By;kernel_rfl) J hG.acc (by repeat(first|exact sg_here|apply sg_seg)) (fun w h=>hac51.see (Lies.of h (by repeat(exact A4)))) (fun e=>hac51.nil e) (flatB_cell _) (by have h9:l.length≤k*20000:=hG.len;rw[hn51];show l.length+r.ks.length≤1000000;omega) (by have h9:l.length≤k*20000:=hG.len;rw[hn51];show(l.length+r.ks.length)*32≤140737488355328;omega) (by rw[Aw (fun q hq=>hro.r32 q (hp2.mem_iff.1 hq)),hp2.length_eq,hn51]) ?_;intro s54 bl54 hac54;rw[hn51]at hac54;refine G9 ?_;refine⟨⟨k+1,l++ks2,s54,bl54,pbl ((ps++[(⟨s37,out37,restL x.pl cs⟩:RV)]).drop (k+1))⟩,⟨by simp only;omega,OrdG.next hG hr9 oM hp2 hs2 hac54⟩,by simp only;omega,Aq (wk1 J (wk1 J (wk1 J (wk1 J (wk1 J (wk1 J (wk1 J (wk1 J (wk1 J (wk1 (by rw[Lc1];rfl) wk0)))))))))) (Ae sG (Ae (by repeat(first|exact sg_here|apply sg_seg)) (Ab (by repeat(first|exact A3|apply B0)) (Ae (by repeat(first|exact sg_here|apply sg_seg)) (Ab (by repeat(first|exact A3|apply B0)) (Ab (by repeat(first|exact A3|apply B0)) (Ab (by repeat(first|exact A3|apply B0)) (Ab (by repeat(first|exact A3|apply B0)) Aj))))))))⟩
 have hkf:k=s39.n:=by omega
 refine G9 ?_;refine .lenMap Y115 J J J mR ?_;refine G5 ?_;refine G2 ?_;refine Az (out:=(bl12++[])) (res_tmp3 J J J J) (Ae sG Aj) ?_;have hl9:l=ordL x.pl cs:=by
  have h9:=hG.lst;simp only at h9;rw[h9,La5 (by rw[La3,Lat];omega),ord_all hI hprt]
 rw[beneath_keys hI hfn hfk];exact .inr ⟨hbe,s12,rfl,by rw[←hl9];simpa using hG.acc⟩
theorem digs_same(p q:Option Addr)(n m c1 c2:Nat)(xs:List (List UInt8))(hx:∀l∈xs,l.length=32)(h1:xs.length=n)(h2:xs.length=m)(hn:n≤1000000):Mv 23 [.slice p n c1, .slice q m c2] (fun W=>SeesP W p (Am xs)∧SeesP W q (Am xs)) (.bool true):=by
  have h:=digests_any2 p q n m c1 c2 xs xs hx hx h1 h2 hn;rwa[show decide (xs=xs)=true from decide_eq_true rfl]at h
open Ed
variable{L:List (List UInt8)}
theorem law17_signed(n:Int)(seed:List UInt8)(h32:seed.length=32)(B:Block)(hB:B.ok)(D D1:DB)(hD1:D1.ok)(cSeed:Mv 165 [i64 n] (fun _=>True) (agg (Aa seed)))(cS:∀B:Block,B.ok→Meets prog 164 [agg (Aa seed),agg B.cells] [] (fun W=>BlockIs W B D) (BlkR 0 D1)):Meets prog 125 [i64 n,agg B.cells] [] (fun W=>BlockIs W B D) (BlkV D1):=by
 intro W hW;refine Ac func125 J 15 ntmps125 J (G3 ?_);intro n3 hn3 hf3;refine .alloc (cs:=Block.zero.cells) J Block.zr J ?_;intro n4 hn4 hf4;refine G3 ?_;refine .draw (oP [0,102,301,303,4,5,6,207,408,9]) Au zK (G1 ?_);refine .lA J J J Y50.h J Sz50 Z1 (Block.length (by exact hB)) ?_;refine .cV J J J J Body165 (cSeed) tV (.call J J J J Body164 (cS B hB) (BlkR.loose 0 D1 hD1) (fun w h=>hW.ext h J) ?_);rintro v11 out11 ⟨B11,h11,rfl,ho11⟩;refine G3 ?_;refine .alloc (cs:=Block.zero.cells) J Block.zr J ?_;intro n5 hn5 hf5;refine .sA J J J J (Block.isCell (by exact h11.ok)) Sz50 (Block.length (by exact h11.ok)) Z0 (Block.length (by exact Block.zero_ok)) zU ?_;refine G5 ?_;refine .lA J J J Y50.h J Sz50 Z0 (Block.length (by exact h11.ok)) ?_;refine .sA J J J J (Block.isCell (by exact h11.ok)) Sz50 (Block.length (by exact h11.ok)) mR (Block.length (by exact Block.zero_ok)) uU ?_;refine G2 ?_;refine G2 ?_;refine Az (out:=(out11++[])) (As J J Y50.h J Sz50 mR (by exact Block.length (by exact h11.ok))) (Ae sG Aj) ?_;exact⟨B11,h11,rfl,by simpa using ho11⟩
theorem law17_filled(s:Sl)(ds:List DB)(hn:s.n≤1000)(hsm:∀d∈ds,d.ls.length≤500000∧d.ds.length≤500000):Meets prog 17 [s.v] [] (fun W=>BlocksAt W s ds) (fun v out=>∃(p:Nat) (x:DD),v=ptr p 0∧out=x.blks p∧x.ok∧x.pl=fillP PD.new ds∧x.names.length+x.orp.length≤ds.length):=by
 intro W hW;obtain⟨rs,hs⟩:=hW;have hnd:=hs.nd;refine Ac func17 J 20 ntmps17 J (G7 ?_);refine .call4 J J J J J Body77 (dag_new2) tV ?_;rintro v5 out5 ⟨p,x0,rfl,rfl,hx0,hplx0,hnx0⟩;refine G10 ?_;refine .loop (ι:=Nat×DD) (fun r=>⟨[(0,s.v),(3,ptr p 0),(4,i64 (r.1:Int))],(r.2.blks p++[])⟩) (fun r=>r.1≤s.n∧r.2.ok∧r.2.pl=fillP PD.new (ds.take r.1)∧r.2.names.length+r.2.orp.length≤r.1) (fun r=>s.n-r.1) ((0,x0)) ?_ ?_ ?_
 ·exact⟨Lar _,hx0,hplx0,Lg7 hnx0⟩
 ·exact Aq wN (Ae sG Aj)
 rintro⟨k,x⟩ ⟨hk,hx,hplx,hnx⟩;simp only at hk hx hplx hnx ⊢;refine G9 ?_;refine .condP J (fun hc0=>?_) (fun hc0=>?_)
 ·
  have hk2:k<s.n:=by omega
  obtain⟨b,o,r,d,hsp,hr,hd,his,hlen,hsee⟩:=hs.at dE hk2;refine G8 ?_;refine .idxSlP 131 J J J hsp J Y22.h Sz50 k J oM (.loadEN r.cells J J J Y50.h J Sz50 sP hlen hsee (.call4 J J J J J Body42 (db_own r d (hsm d (Lcr hd)).1 (hsm d (Lcr hd)).2) (fun w h=>his.ext h J) ?_));rintro v17 out17 ⟨B17,h17,rfl,hb17⟩;refine .callL (L:=(x.blks p++out17)) J J J J J Body41 (dag_add x hx p B17 d out17 ⟨h17,hb17⟩ oM) (sg_two (by repeat(first|exact sg_here|apply sg_seg)) sG) (lent_ok J) (fun w h=>Lent.of h (sg_two (by repeat(first|exact sg_here|apply sg_seg)) sG)) ?_;rintro v18 out18 ⟨x1,⟨p18,n18,c18⟩,bl18,rfl,rfl,hx1,hac18,h3218,hplx1,hnx1⟩;simp only[La9];refine G9 ?_;exact⟨(k+1,x1),⟨by simp only;omega,hx1,by show x1.pl=_;rw[hplx1,hplx,take_snoc hd,fillP_snoc],by simp only;omega⟩,by simp only;omega,Aq wN (Ae sG Aj)⟩
 have hke:k=s.n:=by omega
 refine G11 ?_;refine G2 ?_;refine Az (out:=(x.blks p++[])) (Ah J J) (Ae sG Aj) ?_;refine⟨p,x,rfl,by simp,hx,?_,by omega⟩;rw[hke,La5 oM]at hplx;exact hplx
theorem law17_chain(Da Db Dc:DB)(na:List UInt8)(hDa:Da.ok)(hDb:Db.ok)(hDc:Dc.ok)(lna:na.length=32)(hna:Bh Da=na)(cSa:∀B:Block,B.ok→Meets prog 164 [agg (Aa s1B),agg B.cells] [] (fun W=>BlockIs W B DB.zero) (BlkR 0 Da))(cSb:∀B:Block,B.ok→Meets prog 164 [agg (Aa s1B),agg B.cells] [] (fun W=>BlockIs W B { DB.zero with seq:=1,prev:=na }) (BlkR 0 Db))(cSc:∀B:Block,B.ok→Meets prog 164 [agg (Aa s2B),agg B.cells] [] (fun W=>BlockIs W B { DB.zero with ls:=[na] }) (BlkR 0 Dc)):Meets prog 58 [] [] (fun _=>True) (ChainS Da Db Dc):=by
 intro W hW;refine Ac func58 J 16 ntmps58 J (G7 ?_);refine .build (cs:=Block.zero.cells) J J J (fun w=>by kernel_rfl) ?_;refine .call4 J J J J J Body125 (law17_signed 1 s1B J Block.zero Block.zero_ok DB.zero Da hDa kitS1 cSa) (fun w h=>zero_is w) ?_;rintro v4 out4 ⟨Ba,ha,rfl,hoa⟩;have cNa:=r15_Name Ba Da ha.ok;rw[hna]at cNa;refine .alloc (cs:=Block.zero.cells) J Block.zr J ?_;intro n1 hn1 hf1;refine .sA J J J J (Block.isCell (by exact ha.ok)) Sz50 (Block.length (by exact ha.ok)) Z0 (Block.length (by exact Block.zero_ok)) zU ?_;refine G4 ?_;refine .lA J J J Y50.h J Sz50 Z0 (Block.length (by exact ha.ok)) ?_;refine .cV J J J J Body54 (cNa) (fun w h=>hoa w (Lies.of h (by repeat(first|exact A4|refine A9 ?_)))) ?_;refine .alloc (cs:=(Aa (List.replicate 32 0))) J B5 J ?_;intro n2 hn2 hf2;refine .sA J J J J zE Sz34 (by(simp[lna];done)) Z0 sP zU ?_;refine G3 ?_;refine .drawZ (oP [100,101,2,104,303,205,6,307,208,9]) Au zK (.lA J J J Y50.h J Sz50 Z1 (Block.length (by exact ha.ok)) ?_);refine .lA J J J Y34.h J Sz34 Z0 (by(simp[lna];done)) ?_;refine .build (cs:=({ Block.zero with fSeq:=1,fPrev:=na }:Block).cells) J J J (fun w=>build_sp 1 na lna w) (.lA J J J Y34.h J Sz34 Z0 (by(simp[lna];done)) ?_);refine .call J J J J Body125 (law17_signed 1 s1B J _ (sp_ok 1 lna) _ Db hDb kitS1 cSb) (BlkV.loose Db hDb) (fun w h=>sp_is w 1 lna) ?_;rintro v10 out10 ⟨Bb,hb,rfl,hob⟩;refine .mkRow2 (z:=agg (Aa (List.replicate 32 0))) [agg (Aa na)] (Aa na) J J Y30.h Sz34 B5 J J (by intro v hv;rw[La1.1 hv];simp[Value.cells,Aa,lna]) dE (by simp[Value.cells,agg]) ?_;intro q12;refine .build (cs:=(bl1 q12).cells) J J J (fun w=>by kernel_rfl) ?_;refine .call J J J J Body125 (law17_signed 2 s2B J (bl1 q12) (bl1_ok q12) _ Dc hDc kitS2 cSc) (BlkV.loose Dc hDc) (fun w h=>bl1_is lna (Ap h Z0)) ?_;rintro v14 out14 ⟨Bc,hc,rfl,hoc⟩;refine .mkRow2 (z:=agg Block.zero.cells) [agg Ba.cells,agg Bb.cells,agg Bc.cells] (tri Ba Bb Bc) J J Y22.h Sz50 Block.zr J J (by intro v hv;simp only[Lab,Las,or_false]at hv;rcases hv with rfl|rfl|rfl;exact Block.length ha.ok;exact Block.length hb.ok;exact Block.length hc.ok) dE (by simp[Value.cells,agg,tri]) ?_;intro q15;refine G3 ?_;refine G2 ?_;refine Az (out:=(⟨q15,tri Ba Bb Bc,50,(tri Ba Bb Bc).length⟩::(out14++(out10++(out4++[]))))) (Ah J J) (Ab rM (Ae sG (Ae sG (Ae sG Aj)))) ?_;exact⟨q15,Ba,Bb,Bc,_,ha,hb,hc,rfl,rfl,fun W2 hl=>⟨hoa W2 (hl.sub (by repeat(first|exact A4|refine in_seg ?_))),hob W2 (hl.sub (by repeat(first|exact A4|refine in_seg ?_))),hoc W2 (hl.sub (by repeat(exact A4)))⟩⟩
theorem three_32{a b c:List UInt8}(ha:a.length=32)(hb:b.length=32)(hc:c.length=32):∀l∈ [a,b,c],l.length=32:=fun l hl=>by
  simp only[Lab,Las,or_false]at hl;rcases hl with rfl|rfl|rfl<;>assumption
theorem hds_one{w:World}{q:Nat}{r:Sl}{d:List (List UInt8)}(hs:Sees w q 0 (slc r))(h:RowsAt w r 32 d):SeqIs slc 1 HdsIs w ⟨some ⟨q,0,none⟩,1,1⟩ [r] [d]:=by
  refine⟨rfl,rfl,fun i r2 d2 hr hd=>?_,fun r2 hr=>?_,Lai 1,SeesP.of (by simpa using hs),(by show 1≤maxLen;decide),fun e=>by cases e⟩
  · rcases i with _|i
    ·cases hr;cases hd;exact h
    ·cases hr
  ·rw[La1.1 hr];rfl
theorem lin_depth_at(x:DD)(hx:x.ok)(hI:x.pl.Inv)(hO:x.pl.Ord)(p:Nat)(n:List UInt8)(h32:n.length=32){v:Value}(h:x.pl.depthR n=v):Mv 24 [ptr p 0,agg (Aa n)] (fun W=>Lies (x.blks p) W) v:=by
  rw[←h];exact lin_depth x hx hI hO p n h32
theorem lin_ord_at(x:DD)(hx:x.ok)(hI:x.pl.Inv)(hO:x.pl.Ord)(p:Nat)(s:Sl)(cs:List (List (List UInt8)))(hn:s.n≤16)(hsm:∀c∈cs,c.length≤90000)(he:benE x.pl [] cs=0){k:Nat}(hk:(Cu x.pl (cs.getLastD [])).length=k)(hl:ordL x.pl cs=L):Meets prog 45 [ptr p 0,s.v] [] (fun W=>Lies (x.blks p) W∧∃rs,SeqIs slc 1 HdsIs W s rs cs)
    (fun v out=>∃s2:Sl,v= .tuple #[s2.v,i64 (k:Int),i64 0]∧Hw.Acc s2 out (Am L) 34 L.length 32):=fun W hW=>by
  obtain⟨h1,rs,h2⟩:=hW;refine(lin_ord x hx hI hO p s rs cs hn hsm W ⟨h1,h2⟩).mono fun e W' ⟨v,out,h3,h4,h5⟩=>⟨v,out,h3,?_,h5⟩;rcases h4 with ⟨e,he0,hbe,_⟩|⟨_,s2,hv,hac⟩
  ·exact absurd (hbe.symm.trans he) he0
  · rw[hk]at hv;rw[hl]at hac
    exact⟨s2,hv,hac⟩
theorem d_nm:cX3.names=[mAN,mBN,mLN]:=by kernel_rfl
theorem d_pk:cX3.P.map (·.1)=[mAN,mBN,mLN]:=by kernel_rfl
theorem dAN:cX3.dp mAN=0:=by kernel_rfl
theorem dBN:cX3.dp mBN=1:=by kernel_rfl
theorem dLN:cX3.dp mLN=1:=by kernel_rfl
theorem d_hA:Ao cX3.P mAN=some mAD:=by kernel_rfl
theorem d_hB:Ao cX3.P mBN=some mBD:=by kernel_rfl
theorem d_hL:Ao cX3.P mLN=some mLD:=by kernel_rfl
theorem d_lb:cmpB mLN mBN<0:=of_decide_eq_true zK
theorem d_pB:Bk mBD=[mAN]:=by kernel_rfl
theorem d_pA:Bk mAD=[]:=by kernel_rfl
theorem d_sub{X:PD}{a:Int}{L S:List (List UInt8)}(hL:∀n∈L,n∈S)(hp:∀n∈S,∀D,Ao X.P n=some D→∀m∈Bk D,m∈S){n:List UInt8}(h:X.Reach a L n):n∈S:=by
  induction h with
  |base h1 _ _=>exact hL _ h1
  |step _ hP hn _ _ ih=>exact hp _ ih _ hP _ hn
theorem d_rA:rB cX3 (-1) [mBN] mAN=true:=rB_iff.2 (.step (reach_in c_inv La4 d_hB) d_hB (by rw[d_pB];exact La4) d_hA (by have:=c_inv.d0 _ _ d_hA;omega))
theorem d_rB:rB cX3 (-1) [mBN] mBN=true:=rB_iff.2 (reach_in c_inv La4 d_hB)
theorem d_rL:rB cX3 (-1) [mBN] mLN=false:=by
  cases h:rB cX3 (-1) [mBN] mLN with
  |false=>rfl
  | true=>
    exfalso;have h1:=d_sub (S:=[mBN,mAN]) (fun n hn=>by rw[La1.1 hn];exact La4) (fun n hn D hD m hm=>by
      rcases Lab.1 hn with rfl|hn
      ·rw[d_hB]at hD;cases hD;rw[d_pB]at hm;exact Lae _ hm
      ·rw[La1.1 hn,d_hA]at hD;cases hD;rw[d_pA]at hm;cases hm) (rB_iff.1 h)
    exact absurd h1 (of_decide_eq_true zK)
theorem d_dpA:cX3.depthR mAN= .tuple #[i64 0,i64 0]:=by
  unfold PD.depthR;rw[if_pos (show cX3.has mAN=true by unfold PD.has;rw[d_hA];rfl),dAN]
theorem d_dpL:cX3.depthR mLN= .tuple #[i64 1,i64 0]:=by
  unfold PD.depthR;rw[if_pos (show cX3.has mLN=true by unfold PD.has;rw[d_hL];rfl),dLN]
theorem d_s3:isortD cX3 [mAN,mBN,mLN]=[mAN,mLN,mBN]:=by
  have h:=d_lb;refine(isortD_eq (List.Perm.cons _ (List.Perm.swap _ _ _)) ?_).symm;unfold SortD LeD;simp only[Ldq,Lab,Las,or_false,forall_eq_or_imp,forall_eq,dAN,dBN,dLN];refine⟨⟨.inl dE, .inl dE⟩, .inr ⟨trivial,by omega⟩,fun a ha=>(by cases ha),List.Pairwise.nil⟩
theorem d_s2:isortD cX3 [mAN,mBN]=[mAN,mBN]:=by
  refine(isortD_eq (Lch _) ?_).symm;unfold SortD LeD;simp only[Ldq,Lab,Las,or_false,forall_eq,dAN,dBN];exact⟨.inl dE,fun a ha=>(by cases ha),List.Pairwise.nil⟩
theorem d_s1:isortD cX3 [mLN]=[mLN]:=(isortD_eq (Lch _) (List.pairwise_singleton _ _)).symm
theorem d_o0:ordL cX3 []=[mAN,mLN,mBN]:=by
  have e:restL cX3 []=[mAN,mBN,mLN]:=by
    unfold restL;rw[d_nm,Lcm];intro n _;show(!rB cX3 (-1) [] n)=true;rw[rB_nil];rfl
  show isortD cX3 (restL cX3 [])=_;rw[e,d_s3]
theorem d_o1:ordL cX3 [[mBN]]=[mAN,mBN,mLN]:=by
  have e1:restL cX3 [[mBN]]=[mLN]:=by
    unfold restL;show(cX3.names.filter fun n=> !rB cX3 (-1) [mBN] n)=_;rw[d_nm];simp[Lc8,d_rA,d_rB,d_rL]
  have e2:(cX3.names.filter fun n=>rB cX3 (-1) [mBN] n&& !rB cX3 (-1) [] n)=[mAN,mBN]:=by
    rw[d_nm];simp[Lc8,d_rA,d_rB,d_rL,rB_nil]
  unfold ordL;rw[e1,d_s1,partsD,e2,d_s2];rfl
theorem d_b1:(Cu cX3 [mBN]).length=2:=by
  unfold Cu;rw[d_pk];simp[Lc8,d_rA,d_rB,d_rL]
theorem d_e1:benE cX3 [] [[mBN]]=0:=by
  have h:cX3.has mBN=true:=by unfold PD.has;rw[d_hB];rfl
  rw[benE,if_neg (by simp[h]),if_neg sP,benE]
theorem chain17_facts:∃(Da Db Dc:DB) (na nb nc:List UInt8) (X:PD),(Da.ok∧Db.ok∧Dc.ok)∧(na.length=32∧nb.length=32∧nc.length=32)∧(Bh Da=na∧Bh Db=nb∧Bh Dc=nc)
    ∧(∀B:Block,B.ok→Meets prog 164 [agg (Aa s1B),agg B.cells] [] (fun W=>BlockIs W B DB.zero) (BlkR 0 Da))∧(∀B:Block,B.ok→Meets prog 164 [agg (Aa s1B),agg B.cells] [] (fun W=>BlockIs W B { DB.zero with seq:=1,prev:=na }) (BlkR 0 Db))∧(∀B:Block,B.ok→Meets prog 164 [agg (Aa s2B),agg B.cells] [] (fun W=>BlockIs W B { DB.zero with ls:=[na] }) (BlkR 0 Dc))∧(∀d∈ [Da,Db,Dc],d.ls.length≤500000∧d.ds.length≤500000)
    ∧fillP PD.new [Da,Db,Dc]=X∧X.depthR na= .tuple #[i64 0,i64 0]∧X.depthR nc= .tuple #[i64 1,i64 0]∧(Cu X []).length=0∧(Cu X [nb]).length=2∧benE X [] [[nb]]=0∧ordL X []=[na,nc,nb]∧ordL X [[nb]]=[na,nb,nc]∧cmpB nc nb<0:=
  ⟨mAD,mBD,mLD,mAN,mBN,mLN,cX3,⟨mA_f.1,mB_f.1,mL_f.1⟩,⟨mA_len,mB_len,mL_len⟩,⟨mA_nm,mB_nm,mL_nm⟩,mA_f.2.2.2,mB_f.2.2.2,mL_f.2.2.2,
    (fun d hd=>by simp only[Lab,Las,or_false]at hd;rcases hd with rfl|rfl|rfl<;>exact of_decide_eq_true zK),c_fill,d_dpA,d_dpL,beneath_nil cX3,d_b1,d_e1,d_o0,d_o1,d_lb⟩
theorem law17_lives  :Mv 15 [] (fun _=>True) (.bool true):=by
 intro W hW;obtain⟨Da,Db,Dc,na,nb,nc,X,⟨hDa,hDb,hDc⟩,⟨lna,lnb,lnc⟩,⟨hna,hnb,hnc⟩,cSa,cSb,cSc,hsm,hfill,hd0,hd1,hb0,hb1,he1,ho0,ho1,hcb⟩:=chain17_facts;refine Ac func15 J 116 ntmps15 J (G7 ?_);refine .call4 J J J J J Body58 (law17_chain Da Db Dc na hDa hDb hDc lna hna cSa cSb cSc) tV ?_;rintro v9 out9 ⟨q,Ba,Bb,Bc,bl,ha,hb,hc,rfl,rfl,hch⟩;have cNa:=r15_Name Ba Da ha.ok;have cNb:=r15_Name Bb Db hb.ok;have cNc:=r15_Name Bc Dc hc.ok;rw[hna]at cNa;rw[hnb]at cNb;rw[hnc]at cNc;refine G6 ?_;refine .call4 J J J J J Body17 (law17_filled ⟨some ⟨q,0,none⟩,3,3⟩ [Da,Db,Dc] (by show 3≤1000;omega) hsm) (fun w h=>tri_blocks (Ca (B:=⟨q,tri Ba Bb Bc,50,(tri Ba Bb Bc).length⟩) h Z0) (hch w (Lies.of h (by repeat(first|exact A4|refine A9 ?_))))) ?_;rintro v11 out11 ⟨p,x,rfl,rfl,hx,hplx,hnx2⟩;have hI:x.pl.Inv:=by rw[hplx];exact PD.Inv.fill _ PD.Inv.new
 have hO:x.pl.Ord:=by rw[hplx];exact PD.Ord.fill _ PD.Inv.new PD.Ord.new
 rw[hfill]at hplx;rw[←hplx]at hd0 hd1 hb0 hb1 he1 ho0 ho1;refine G4 ?_
 try simp only[Lag,Lac,La9]
 refine .withK (sp_x (sp_k (sp_x sp_n))) J (.draw (oP [0,1,2,4,5,6,8,9,10,303,307,311,212,213,214,415,416,417]) Au zK ?_)
 try simp only[Lag,Lac,La9]
 refine G1 ?_;refine .idxSlP 131 J J J J J Y22.h Sz50 0 J dE (.kloadSN (n:=131) Ba.cells J J J Y50.h J Sz50 (Block.length ha.ok) (fun w h=>(tri_sees ha.ok hb.ok hc.ok (h ⟨q,tri Ba Bb Bc,50,(tri Ba Bb Bc).length⟩ (by simp[Cx.with]))).1) ?_);refine G1 ?_;refine .idxSlP 131 J J J J J Y22.h Sz50 1 J dE (.kloadSN (n:=131) Bb.cells J J J Y50.h J Sz50 (Block.length hb.ok) (fun w h=>(tri_sees ha.ok hb.ok hc.ok (h ⟨q,tri Ba Bb Bc,50,(tri Ba Bb Bc).length⟩ (by simp[Cx.with]))).2.1) ?_);refine G1 ?_;refine .idxSlP 131 J J J J J Y22.h Sz50 2 J dE (.kloadSN (n:=131) Bc.cells J J J Y50.h J Sz50 (Block.length hc.ok) (fun w h=>(tri_sees ha.ok hb.ok hc.ok (h ⟨q,tri Ba Bb Bc,50,(tri Ba Bb Bc).length⟩ (by simp[Cx.with]))).2.2) ?_);refine .cV J J J J Body54 (cNa) (fun w h=>(hch w (Lies.of h (by repeat(first|exact A4|refine A9 ?_|refine in_seg ?_)))).1) ?_;refine .cV J J J J Body54 (cNb) (fun w h=>(hch w (Lies.of h (by repeat(first|exact A4|refine A9 ?_|refine in_seg ?_)))).2.1) ?_;refine .cV J J J J Body54 (cNc) (fun w h=>(hch w (Lies.of h (by repeat(first|exact A4|refine A9 ?_|refine in_seg ?_)))).2.2) ?_;refine .alloc (cs:=(Aa (List.replicate 32 0))) J B5 J ?_;intro n3 hn3 hf3;refine .alloc (cs:=(Aa (List.replicate 32 0))) J B5 J ?_;intro n4 hn4 hf4;refine .alloc (cs:=(Aa (List.replicate 32 0))) J B5 J ?_;intro n5 hn5 hf5;refine .sA J J J J zE Sz34 (by(simp[lna];done)) Z2 sP (by exact upd2) ?_;refine .sA J J J J zE Sz34 (by(simp[lnb];done)) Z1 sP zV ?_;refine .sA J J J J zE Sz34 (by(simp[lnc];done)) Z0 sP zU ?_;refine G4 ?_
 try simp only[Lag,Lac,La9]
 refine G1 ?_;refine .lA J J J Y34.h J Sz34 Z2 (by(simp[lna];done)) ?_;refine .cV J J J J Body24 (lin_depth_at x hx hI hO p na lna hd0) (fun w h=>Lies.of h (by repeat(first|exact A4|refine A9 ?_))) ?_;refine G9 ?_
 try simp only[Lag,Lac,La9]
 refine G1 ?_;refine .lA J J J Y34.h J Sz34 Z0 (by(simp[lnc];done)) ?_;refine .cV J J J J Body24 (lin_depth_at x hx hI hO p nc lnc hd1) (fun w h=>Lies.of h (by repeat(first|exact A4|refine A9 ?_))) ?_;refine G9 ?_
 try simp only[Lag,Lac,La9]
 refine G1 ?_;refine .call4 J J J J J Body45 (lin_ord_at x hx hI hO p Sl.nil [] (Lar _) (fun c hc=>by cases hc) J hb0 ho0) (fun w h=>⟨Lies.of h (by repeat(first|exact A4|refine A9 ?_)),[],SeqIs.none⟩) ?_;rintro v45 out45 ⟨s45,rfl,hac45⟩;have hn45:s45.n=3:=hac45.num;obtain⟨b45,o45,hp45,see45⟩:=par_open hac45 sP (three_32 lna lnc lnb);refine G11 ?_
 try simp only[Lag,Lac,La9]
 refine G1 ?_;refine .lA J J J Y34.h J Sz34 mR (by(simp[lnb];done)) ?_;refine .mkRow (z:=agg (Aa (List.replicate 32 0))) [agg (Aa nb)] (Am [nb]) J J J Y30.h Sz34 B5 J J (by intro v hv;simp only[Lab,Las,or_false]at hv;rcases hv with rfl<;>simp[Value.cells,Aa,lnb]) dE (by simp[Value.cells,agg,Am]) ?_;intro q52;refine .mkRow2 (z:= .slice none 0 0) [Sl.v (⟨some ⟨q52,0,none⟩,1,1⟩:Sl)] (slc (⟨some ⟨q52,0,none⟩,1,1⟩:Sl)) J J Y78.h Sz30 Zr30 J J (by intro v hv;rw[La1.1 hv];simp[Value.cells,Sl.v]) dE (by simp[Value.cells,slc,Sl.v]) ?_;intro q53;refine .call4 J J J J J Body45 (lin_ord_at x hx hI hO p ⟨some ⟨q53,0,none⟩,1,1⟩ [[nb]] (by show 1≤16;decide) (fun c hc=>by rw[La1.1 hc];show 1≤90000;decide) he1 hb1 ho1) (fun w h=>⟨Lies.of h (by repeat(first|exact A4|refine A9 ?_|refine in_seg ?_)),_,hds_one (Ap h Z0) (row_one lnb (by have h9:=Ap (cs:=Am [nb]) h Z1;simpa[Am]using h9))⟩) ?_;rintro v54 out54 ⟨s54,rfl,hac54⟩;have hn54:s54.n=3:=hac54.num;refine G12 ?_
 try simp only[Lag,Lac,La9]
 refine G1 ?_;refine .nei J J J J (show(!decide _)=false from congrArg not (decide_eq_true (rfl))) (G2 ?_);refine .nei J J J J (show(!decide _)=false from congrArg not (decide_eq_true (rfl))) (G3 ?_);refine .nei J J J J (show(!decide _)=false from congrArg not (decide_eq_true (rfl))) (G3 ?_);refine .nei J J J J (show(!decide _)=false from congrArg not (decide_eq_true (rfl))) (G3 ?_);refine .nei J J J J (show(!decide _)=false from congrArg not (decide_eq_true (rfl))) (G3 ?_);refine .nei J J J J (show(!decide _)=false from congrArg not (decide_eq_true (rfl))) (G3 ?_);refine .nei J J J J (show(!decide _)=false from congrArg not (decide_eq_true (rfl))) (G3 ?_);refine .nei J J J J (show(!decide _)=false from congrArg not (decide_eq_true (rfl))) (G4 ?_);refine .nei J J J J (show(!decide _)=false from congrArg not (decide_eq_true oM)) (G3 ?_);refine .cond_f J J (G3 ?_);refine .draw (oP [0,1,102,103,4,5,6,7,108,9,10,111,312,13,14,15,16,117,118,119,420,321,22,23]) Au zK ?_
 try simp only[Lag,Lac,La9]
 refine G1 ?_;refine .idxSlP 32 J J J hp45 J Y30.h Sz34 0 J oM (.loadSN (n:=32) (Aa na) J J J Y34.h J Sz34 (by rw[Aa,La0];exact lna) (fun w h=>see45 w (Lies.of h (by repeat(first|exact A4|refine A9 ?_|refine in_seg ?_))) 0 sP) ?_);refine .lA J J J Y34.h J Sz34 mR (by(simp[lna];done)) ?_;refine .eql_bytes J J J J eqGuardType34 Y34.h Y5.h Sz5 (by(simp[lna];done)) (by(simp[lna];done)) (decide_eq_true (rfl)) ?_;refine G2 ?_;refine .idxSlP 32 J J J hp45 J Y30.h Sz34 1 J oM (.loadSN (n:=32) (Aa nc) J J J Y34.h J Sz34 (by rw[Aa,La0];exact lnc) (fun w h=>see45 w (Lies.of h (by repeat(first|exact A4|refine A9 ?_|refine in_seg ?_))) 1 sP) ?_);refine G1 ?_;refine .idxSlP 32 J J J hp45 J Y30.h Sz34 2 J oM (.loadSN (n:=32) (Aa nb) J J J Y34.h J Sz34 (by rw[Aa,La0];exact lnb) (fun w h=>see45 w (Lies.of h (by repeat(first|exact A4|refine A9 ?_|refine in_seg ?_))) 2 sP) ?_);refine .cV J J J J Body25 (r15_cmp nc nb lnc lnb) tV (.lss J J J J (decide_eq_true (hcb)) (G3 ?_));refine .lA J J J Y34.h J Sz34 mR (by(simp[lna];done)) ?_;refine .lA J J J Y34.h J Sz34 mR (by(simp[lnb];done)) ?_;refine .lA J J J Y34.h J Sz34 mR (by(simp[lnc];done)) ?_;refine .mkRow (z:=agg (Aa (List.replicate 32 0))) [agg (Aa na),agg (Aa nb),agg (Aa nc)] (Am [na,nb,nc]) J J J Y30.h Sz34 B5 J J (by intro v hv;simp only[Lab,Las,or_false]at hv;rcases hv with rfl|rfl|rfl<;>simp[Value.cells,Aa,lna,lnb,lnc]) dE (by simp[Value.cells,agg,Am]) ?_;intro q113;refine .cV J J J J Body23 (digs_same s54.p (some ⟨q113,0,none⟩) s54.n 3 s54.c 3 [na,nb,nc] (three_32 lna lnb lnc) hn54.symm J oM) (fun w h=>⟨hac54.see (Lies.of h (by repeat(first|exact A4|refine A9 ?_))),SeesP.of (Ap h Z0)⟩) ?_;refine G4 ?_;refine G2 ?_;refine Az (out:=[]) (Ah J J) Aj ?_;exact⟨rfl,rfl⟩
end Go.Proofs.YtpogmfngccolbaaGreat
namespace Go.Proofs.YtpogmfngccolbaaGreat
open Go Hw _root_.Go.Proofs.Tryz
variable{D:DB}{X:PD}{a b c n:List UInt8}{bf ls:List (List UInt8)}{cs:List (List (List UInt8))}{e:Int}
theorem setP_len:∀(l:List (List UInt8)) (fs:List (List UInt8×Unit)),(l.foldl (fun fs n=>Bd fs n ()) fs).length≤fs.length+l.length∧((l.foldl (fun fs n=>Bd fs n ()) fs).length=fs.length+l.length↔l.Nodup∧∀n∈l,n∉fs.map (·.1))
  | [],fs=>⟨Lai _,⟨fun _=>⟨Lcp,fun n hn=>by cases hn⟩,fun _=>rfl⟩⟩
  | a ::l,fs=>by
    obtain⟨h1,h2⟩:=setP_len l (Bd fs a ());rw[Ldk,Lb0,Lay];cases hm:Ao fs a with
    | none=>
      have hl:(Bd fs a ()).length=fs.length+1:=by rw[mput_app hm];simp
      have hk:=keysP_put hm;refine⟨by omega,⟨fun h=>?_,fun h=>?_⟩⟩
      · obtain⟨h3,h4⟩:=h2.1 oM
        refine⟨⟨fun ha=>h4 a ha (by rw[hk];exact Lax _ La4),h3⟩,fun n hn=>?_⟩;rcases Lab.1 hn with rfl|hn
        ·exact not_key hm
        ·exact fun hf=>h4 n hn (by rw[hk];exact Lak _ hf)
      · have h5:=h2.2 ⟨h.1.2,fun n hn hf=>by
          rw[hk]at hf;rcases Laa.1 hf with h6|h6
          ·exact h.2 n (Lae _ hn) h6
          ·rw[La1.1 h6]at hn;exact h.1.1 hn⟩
        omega
    | some u=>
      have ha:a∈fs.map (·.1):=La8.2 ⟨(a,u),Bg hm,rfl⟩;have hl:(Bd fs a ()).length=fs.length:=by
        unfold Bd;cases hi:midx fs a with
        | none=>
          exfalso;unfold midx at hi;rw[Ldf]at hi;have h9:=hi _ (Bg hm);simp at h9
        |some j=>simp only[Lbk]
      exact⟨by omega,⟨fun h=>by omega,fun h=>absurd ha (h.2 a La4)⟩⟩
theorem setP_full(ls:List (List UInt8)):(setP ls).length=ls.length↔ls.Nodup:=by
  have h:=(setP_len ls []).2;rw[Lef,Lb3]at h;exact⟨fun h1=>(h.1 h1).1,fun h1=>h.2 ⟨h1,fun n _ hn=>by cases hn⟩⟩
def SortR(X:PD)(ls:List (List UInt8))(v:Value)(out:List Blk):Prop:=
  ((∃n∈ls,X.has n=false)∧v= .tuple #[.slice none 0 0,i64 6]∧out=[])
  ∨ (∀n∈ls,X.has n=true)∧(¬ls.Nodup∧v= .tuple #[.slice none 0 0,i64 2]∧out=[]
    ∨ls.Nodup∧∃s:Sl,v= .tuple #[s.v,i64 0]∧Hw.Acc s out (Am (isortD X ls)) 34 ls.length 32)
def BenthR(X:PD)(cs:List (List (List UInt8)))(v:Value)(out:List Blk):Prop:=
  (∃e,e≠0∧benE X [] cs=e∧v= .tuple #[.slice none 0 0,i64 e]∧out=[])
  ∨benE X [] cs=0∧∃s:Sl,v= .tuple #[s.v,i64 0]∧Hw.Acc s out (Am ((ordL X cs).take (Cu X (cs.getLastD [])).length)) 34 (Cu X (cs.getLastD [])).length 32
theorem parts_names{X:PD}:∀(cs:List (List (List UInt8))) (bf:List (List UInt8)),∀l∈partsD X bf cs,∀n∈l,n∈X.names
  | [],_,l,hl=>by cases hl
  | c::cs,bf,l,hl=>fun n hn=>by
    rcases Lab.1 hl with rfl|hl
    ·exact(Lc0.1 ((isortD_perm X _).mem_iff.1 hn)).1
    ·exact parts_names cs c l hl n hn
theorem ordL_names:∀n∈ordL X cs,n∈X.names:=fun n hn=>by
  rcases Laa.1 hn with h|h
  · obtain⟨l,hl,h2⟩:=List.mem_flatten.1 h
    exact parts_names cs [] l hl n h2
  ·exact(Lc0.1 ((isortD_perm X _).mem_iff.1 h)).1
theorem ben_acc{X:PD}(hI:X.Inv):∀ {cs:List (List (List UInt8))} {bf:List (List UInt8)},benE X bf cs=0→(Cu X bf).length+(partsD X bf cs).flatten.length=(Cu X (cs.getLastD bf)).length
  | [],bf,_=>by rw[partsD];simp
  | c ::cs,bf,h=>by
    rw[benE]at h;split at h
    ·cases h
    · split at h
      ·cases h
      · rename_i h1 h2
        have h3:=ben_acc hI h;rw[partsD,Lcw,La3,(isortD_perm X _).length_eq];have hsub:∀n∈bf,X.Reach (-1) c n:=fun n hn=>by
          rw[Bool.not_eq_false]at h2;exact rB_iff.1 (Lbt.1 h2 n hn)
        have e:(X.names.filter fun n=>rB X (-1) c n&& !rB X (-1) bf n).length+(Cu X bf).length=(Cu X c).length:=by
          have e1:X.names=X.P.map (·.1):=hI.nn;unfold Cu;rw[e1];have hi:∀n,rB X (-1) bf n=true→rB X (-1) c n=true:=fun n hn=>rB_iff.2 (reach_subst hsub (rB_iff.1 hn));generalize X.P.map (·.1)=L
          induction L with
          |nil=>rfl
          | cons a L ih=>
            have h9:=hi a;cases ha:rB X (-1) c a<;>cases hb:rB X (-1) bf a<;>simp[Lc8,ha,hb]at h9 ih ⊢ <;>omega
        have e9:cs.getLastD c=(c::cs).getLastD bf:=by cases cs<;>rfl
        rw[←e9];omega
theorem ben_ord(hI:X.Inv)(h:benE X [] cs=0):(Cu X (cs.getLastD [])).length≤(ordL X cs).length:=by
  have h1:=ben_acc hI h;rw[beneath_nil X]at h1;rw[ordL,La3];omega
theorem lin_sort(x:DD)(hx:x.ok)(hI:x.pl.Inv)(hO:x.pl.Ord)(p:Nat)(s:Sl)(ls:List (List UInt8))(hls:ls.length≤90000):Meets prog 21 [ptr p 0,s.v] [] (fun W=>Lies (x.blks p) W∧RowsAt W s 32 ls) (SortR x.pl ls):=by
 intro W hW;have h32k:True:=trivial;obtain⟨hlies,hrh⟩:=id hW;have hck:∀q∈x.P,q.2.check=0:=hI.ck;have h16:∀q∈x.P,q.2.ls.length≤16:=fun q hq=>(ck_small (hck q hq)).1;have hlen:=hrh.len;have hrow:=hrh.row;refine Ac func21 J 35 ntmps21 J (G10 ?_);refine .cV J J J J Body78 (lin_none x hx h16 p) (fun w h=>Bw hlies h) (G2 ?_);refine .cond_f J J (G11 ?_);refine .loop (ι:=Nat) (fun k=>⟨[(0,ptr p 0),(1,s.v),(4, .slice none 0 0),(5,i64 0),(10,s.v),(11,i64 (s.n:Int)),(12,i64 (k:Int))],[]⟩) (fun k=>k≤s.n∧∀j,j<k→x.pl.has (ls.getD j [])=true) (fun k=>s.n-k) (0) ?_ ?_ ?_
 ·exact⟨Lar _,fun j hj=>absurd hj (Lf1 _)⟩
 ·exact Aq wN Aj
 rintro k ⟨hk,hg⟩;refine G6 ?_;refine .condP J (fun hc1=>?_) (fun hc1=>?_)
 ·
  have hk2:k<s.n:=by omega
  obtain⟨b,o,hbp,hbs⟩:=hrh.see.at (by rw[Aw hrow];omega);have h32k:(ls.getD k []).length=32:=Bo hrow oM;refine G6 ?_;refine .idxSlP 32 J J J hbp J Y30.h Sz34 k J oM (.loadEN (Aa (ls.getD k [])) J J J Y34.h J Sz34 sP (by rw[Aa,La0];exact h32k) (Bv hrow hbs oM) ?_);refine .alloc (cs:=(Aa (List.replicate 32 0))) J B5 J ?_;intro n7 hn7 hf7;refine .sA J J J J zE Sz34 (by(rw[Aa,La0];assumption)) Z0 sP zU ?_;refine G5 ?_;refine .lA J J J Y34.h J Sz34 Z0 (by(rw[Aa,La0];assumption)) ?_;refine .cV J J J J Body79 (dag_hasP x hx p (ls.getD k []) h32k) (fun w h=>Bw hlies h) (G3 ?_);refine .cond J (fun hc2=>?_) (fun hc2=>?_)
  ·
   refine G6 ?_;refine G7 ?_;refine Az (out:=[]) (B6 J J J) Aj ?_;exact .inl ⟨⟨_,getD_mem2 (show k<ls.length by omega),by simpa using hc2⟩,rfl,rfl⟩
  refine G8 ?_;exact⟨k+1,⟨by omega,fun j hj=>by rcases Lcg.1 hj with h|rfl;exact hg j h;simpa using hc2⟩,by omega,Aq (wk1 rfl (wk1 rfl (wk1 rfl (wk1 rfl (wk1 rfl (wk1 rfl (wk1 (by rw[Lc1];rfl) wk0))))))) Aj⟩
 obtain rfl:k=s.n:=by omega
 have hall:∀n∈ls,x.pl.has n=true:=fun n hn=>by
  obtain⟨j,hj,e⟩:=Lcl hn;have h9:=hg j oM;rw[La2,La6 hj]at h9;rw[←e];exact h9
 refine G9 ?_;refine .call4 J J J J J Body80 (lin_set s ls) (fun w h=>Cp h J hrh) ?_;rintro v22 out22 ⟨m22,rfl,rfl⟩;refine .lenMap Y115 J J J Z0 ?_;refine G5 ?_;refine .condNP J (fun hc3=>?_) (fun hc3=>?_)
 ·
  have hnd:¬ls.Nodup:=fun h9=>by have h8:=(setP_full ls).2 h9;omega
  refine G6 ?_;refine G3 ?_;refine Az (out:=[]) (B6 J J J) Aj ?_;exact .inr ⟨hall, .inl ⟨hnd,rfl,rfl⟩⟩
 have hnd:ls.Nodup:=(setP_full ls).1 oM;refine G5 ?_;refine .call4 J J J J J Body81 (cl_digs s ls oM) (fun w h=>Cp h J hrh) ?_;rintro v28 out28 ⟨s28,rfl,hac28⟩;rw[←hlen]at hac28;refine G8 ?_;refine .call4 J J J J J Body83 (lin_depths x hx hI hO p s28 ls) (fun w h=>⟨Bw hlies h,acc_rows hac28 (Lies.of h (by repeat(exact A4))) hrow J oM⟩) ?_;rintro v32 out32 ⟨aD,bD,cD,mD,fsD,ksD,⟨rfl,rfl,hfsD⟩,hksD⟩;have hdep:∀n∈ls,Ao fsD n=some (x.pl.dp n):=fun n hn=>hfsD.all n (hksD n hn (has_names hI (hall n hn)));simp only[Lag,Lac,La9];refine .callL (L:=out28) J J J J J Body82 (lin_order x.pl s28 out28 ls hrow oM hac28 aD bD cD mD fsD hdep) sG (lent_ok J) (fun w h=>by have h9:=lent_pre (bl:=out28) (L:=[⟨aD,[.map (some mD)],32,1⟩,A0 mD (Al 32 evI) fsD]) h sG (by intro b hb;simp only[Lab,Las,or_false]at hb;rcases hb with rfl|rfl;exact Z2;exact Z0);exact h9) ?_;rintro v33 out33 ⟨rfl,ks2,hp2,hs2,hac33⟩;refine G9 ?_;refine G2 ?_;refine Az (out:=(out33++[])) (B6 J J J) (Ae sG Aj) ?_;exact .inr ⟨hall, .inr ⟨hnd,s28,rfl,by rw[←isortD_eq hp2 hs2];simpa using hac33⟩⟩
theorem lin_ben(x:DD)(hx:x.ok)(hI:x.pl.Inv)(hO:x.pl.Ord)(p:Nat)(s:Sl)(rs:List Sl)(cs:List (List (List UInt8)))(hn:s.n≤16)(hsm:∀c∈cs,c.length≤90000):Meets prog 46 [ptr p 0,s.v] [] (fun W=>Lies (x.blks p) W∧SeqIs slc 1 HdsIs W s rs cs) (BenthR x.pl cs):=by
 intro W hW;have hbig:=hx.big;have hnln:x.pl.names.length=x.names.length:=rfl;have hnd0:=hW.2.nd;have ho32:∀l∈ordL x.pl cs,l.length=32:=fun l hl=>hx.n32 l (ordL_names l hl);refine Ac func46 J 23 ntmps46 J (G10 ?_);refine .call4 J J J J J Body45 (lin_ord x hx hI hO p s rs cs hn hsm) (fun w h=>⟨Bw hW.1 h,hW.2.ext h J fun r d hd=>Cp h J hd⟩) ?_;rintro v12 out12 (⟨e,he0,hbe,rfl,rfl⟩|⟨hbe,s12,rfl,hac12⟩)
 ·
  skip;refine G13 ?_;refine .nei J J J J (show(!decide _)=true from congrArg not (decide_eq_false (he0))) (G2 ?_);refine .cond_t J J (G7 ?_);refine G3 ?_;refine Az (out:=[]) (B6 J J J) Aj ?_;exact .inl ⟨e,he0,hbe,rfl,rfl⟩
 have hko:=ben_ord hI hbe;have hn12:=hac12.num;have hc12:=hac12.cap;have hbl:(Cu x.pl (cs.getLastD [])).length≤x.names.length:=by have h9:=Lf3 (fun n=>rB x.pl (-1) (cs.getLastD []) n) (x.pl.P.map (·.1));rw[←hI.nn]at h9;unfold Cu;rw[←hI.nn];exact h9
 obtain⟨kb,hkb⟩:∃kb,kb=(Cu x.pl (cs.getLastD [])).length:=⟨_,rfl⟩;rw[←hkb]at hko hbl ⊢;refine G13 ?_;refine .nei J J J J (show(!decide _)=false from congrArg not (decide_eq_true (rfl))) (G2 ?_);refine .cond_f J J (G6 ?_);refine .sliceHiA s12 kb J J J J J oM Y30.h Sz34 (.call4 J J J J J Body81 (cl_digs ⟨s12.p,kb,s12.c⟩ ((ordL x.pl cs).take kb) (by show kb≤90000;omega)) (fun w h=>⟨by rw[Lam];show min kb _=kb;omega,fun l hl=>ho32 l (Leb hl),by show kb≤s12.c;omega,rows_take (hac12.see (Lies.of h (by repeat(exact A4)))) ho32,by show kb≤maxLen;unfold maxLen;omega,hac12.nilc⟩) ?_);rintro v22 out22 ⟨s22,rfl,hac22⟩;refine G4 ?_;refine G2 ?_;refine Az (out:=(out22++[])) (B6 J J J) (Ae sG Aj) ?_;exact .inr ⟨hbe,s22,rfl,by rw[←hkb];simpa using hac22⟩
def chkE(X:PD):List (List UInt8)→List (List UInt8)→Int
  |_,[]=>0
  | bf,n::ls=>match Ao X.P n with
    |none=>6
    |some D=>if n∈bf then 2 else if((Bk D).any fun m=>decide (m∉bf))=true then 4 else chkE X (bf++[n]) ls
theorem chk_6(h:Ao X.P n=none):chkE X bf (n::ls)=6:=by rw[chkE,h]
theorem chk_2(h:Ao X.P n=some D)(h2:n∈bf):chkE X bf (n::ls)=2:=by rw[chkE,h];exact if_pos h2
theorem chk_4(h:Ao X.P n=some D)(h2:n∉bf)(h3:∃m∈Bk D,m∉bf):chkE X bf (n::ls)=4:=by
  obtain⟨m,hm,h4⟩:=h3;rw[chkE,h];exact(if_neg h2).trans (if_pos (Lc9.2 ⟨m,hm,decide_eq_true h4⟩))
theorem chk_0(h:Ao X.P n=some D)(h2:n∉bf)(h3:∀m∈Bk D,m∈bf):chkE X bf (n::ls)=chkE X (bf++[n]) ls:=by
  rw[chkE,h];refine(if_neg h2).trans (if_neg fun h4=>?_);obtain⟨m,hm,h5⟩:=Lc9.1 h4;exact of_decide_eq_true h5 (h3 m hm)
def comL:List (List UInt8)→List (List UInt8)→Nat
  |a::l,b::m=>if a=b then comL l m+1 else 0
  |_,_=>0
theorem com_at:∀ {l m:List (List UInt8)} {k:Nat},l.take k=m.take k→k<l.length→k<m.length→l.getD k []≠m.getD k []→comL l m=k
  | a::l,b::m,0,_,_,_,h=>by
    rw[comL];exact if_neg h
  | a::l,b::m,k+1,ht,h1,h2,h=>by
    rw[Len,Len]at ht;obtain⟨h3,h4⟩:=List.cons.inj ht;rw[comL];exact(if_pos h3).trans (congrArg (· +1) (com_at h4 (by simpa using h1) (by simpa using h2) (by simpa using h)))
  | [],_,_,_,h,_,_=>absurd h (Lf1 _)
  |_::_,[],_,_,_,h,_=>absurd h (Lf1 _)
theorem com_all:∀ {l m:List (List UInt8)},l.take (min l.length m.length)=m.take (min l.length m.length)→comL l m=min l.length m.length
  | a::l,b::m,h=>by
    rw[Lb0,Lb0,Nat.add_min_add_right,Len,Len]at h;obtain⟨h3,h4⟩:=List.cons.inj h;rw[comL,Lb0,Lb0,Nat.add_min_add_right];exact(if_pos h3).trans (congrArg (· +1) (com_all h4))
  | [],m,_=>by rw[Lef,Nat.zero_min];rfl
  |_::_,[],_=>rfl
theorem miss_1(n:List UInt8)(h32:n.length=32)(q m:Nat)(fs:List (List UInt8×Unit)):Mv 113 [agg (Aa n),ptr q 0] (fun W=>W.cell? ⟨q,0,none⟩=some (.map (some m))∧BlkOk W (A0 m (Al 32 evU) fs)) (.bool (Ao fs n).isNone):=by
 intro W hW;refine Ac func113 J 8 ntmps113 J (G3 ?_);intro n2 hn2 hf2;refine G5 ?_;refine .loadE J J J Y115 J sP (hW.1) (.lA J J J Y34.h J Sz34 Z0 (by(simp[h32];done)) ?_);refine .cV J J J J Body112 (lin_has m fs n h32) (fun w h2=>mblk_keep hW.2 h2) (G4 ?_);refine G2 ?_;refine Az (out:=[]) (Ah J J) Aj ?_;exact⟨congrArg Value.bool (by cases Ao fs n<;>rfl),rfl⟩
theorem index_miss(s:Sl)(ls:List (List UInt8))(q m:Nat)(fs:List (List UInt8×Unit)):Mv 150 [s.v, .func (.func 113) #[] #[ptr q 0]] (fun W=>RowsAt W s 32 ls∧W.cell? ⟨q,0,none⟩=some (.map (some m))∧BlkOk W (A0 m (Al 32 evU) fs)) (i64 (fstBad (fun n=>(Ao fs n).isNone) ls)):=by
 intro W hW;have hlen:=hW.1.len;have hrow:=hW.1.row;have hmax:=hW.1.max;simp only[maxLen]at hmax;have hcap:=hW.1.cap;refine Ac func150 J 19 ntmps150 J (G14 ?_);refine .loop (ι:=Nat) (fun k=>⟨[(0,s.v),(1, .func (.func 113) #[] #[ptr q 0]),(7,i64 (s.n:Int)),(8,i64 (k:Int))],[]⟩) (fun k=>k≤s.n∧∀j,j<k→(ls.map (fun n=>(Ao fs n).isNone))[j]? =some false) (fun k=>s.n-k) (0) ?_ ?_ ?_
 ·exact⟨by omega,fun j hj=>by omega⟩
 ·exact Ad wN wh0 nD
 rintro k ⟨hk,hg⟩;refine G6 ?_;refine .condP J (fun hc0=>?_) (fun hc0=>?_)
 ·
  have hk2:k<s.n:=by omega
  obtain⟨b,o,hbp,hbs⟩:=hW.1.see.at (by rw[Aw hrow];omega);have h32k:(ls.getD k []).length=32:=Bo hrow oM;have hd:ls[k]? =some (ls.getD k []):=by rw[La2,La6 (show k<ls.length by omega)];rfl
  refine G15 ?_;refine .idxSlP 32 J J J hbp J Y30.h Sz34 k oM oM (.loadEN (Aa (ls.getD k [])) J J J Y34.h J Sz34 sP (by rw[Aa,La0];exact h32k) (Bv hrow hbs oM) ?_);refine .callCV J J J J J Body113 (miss_1 (ls.getD k []) h32k q m fs) (fun w h2=>⟨h2.keeps.cell sP hW.2.1,mblk_keep hW.2.2 h2⟩) (G2 ?_);refine .cond J (fun hc1=>?_) (fun hc1=>?_)
  ·
   refine G6 ?_;refine G7 ?_;refine⟨_,[],Ah J J,sP,sP,?_,rfl⟩;exact congrArg i64 (fstBad_at hg (by rw[Lal,hd];simpa using hc1)).symm
  refine G8 ?_;exact⟨k+1,⟨by omega,fun j hj=>by rcases Lcg.1 hj with h|rfl;exact hg j h;rw[Lal,hd];simpa using hc1⟩,by omega,Ad wN wh0 nD⟩
 obtain rfl:k=s.n:=by omega
 refine G10 ?_;refine G2 ?_;refine⟨_,[],Ah J J,sP,sP,?_,rfl⟩;exact congrArg i64 (fstBad_none (by intro j hj;exact hg j (by rw[hlen]at hj;exact hj))).symm
theorem contains_miss(s:Sl)(ls:List (List UInt8))(q m:Nat)(fs:List (List UInt8×Unit)):Mv 115 [s.v, .func (.func 113) #[] #[ptr q 0]] (fun W=>RowsAt W s 32 ls∧W.cell? ⟨q,0,none⟩=some (.map (some m))∧BlkOk W (A0 m (Al 32 evU) fs)) (.bool (ls.any (fun n=>(Ao fs n).isNone))):=by
 intro W hW;refine Ac func115 J 9 ntmps115 J (G9 ?_);refine .cV J J J J Body150 (index_miss s ls q m fs) (fun w h2=>⟨Cp h2 J hW.1,h2.keeps.cell sP hW.2.1,mblk_keep hW.2.2 h2⟩) (G4 ?_);refine G2 ?_;refine⟨_,[],Ah J J,sP,sP,?_,rfl⟩;exact congrArg Value.bool (fstBad_ge _ _)
theorem lin_check(x:DD)(hx:x.ok)(hI:x.pl.Inv)(p:Nat)(s:Sl)(ls:List (List UInt8)):Mv 47 [ptr p 0,s.v] (fun W=>Lies (x.blks p) W∧RowsAt W s 32 ls) (i64 (chkE x.pl [] ls)):=by
 intro W hW;have h32k:True:=trivial;obtain⟨hlies,hrh⟩:=id hW;have hck:∀q∈x.P,q.2.check=0:=hI.ck;have h16:∀q∈x.P,q.2.ls.length≤16:=fun q hq=>(ck_small (hck q hq)).1;have hlen:=hrh.len;have hrow:=hrh.row;have hmax:=hrh.max;simp only[maxLen]at hmax;refine Ac func47 J 43 ntmps47 J (.sr (.a J J J (.na (.seq (.sr (.m J J J (.cV J J J J Body78 (lin_none x hx h16 p) (fun w h=>Bw hlies h) (.na (.cond_f J J (.skip (Bx (.sr (.mkMap (Al 32 evU) J J ?_)))))))))))));intro m13;refine .alloc (cs:=[.map none]) J Zr115 J ?_;intro n5 hn5 hf5;refine .s1 J J J J J Sz115 Z0 sP (by rfl) zU ?_;refine .nsr (.makeFunc J J J J (.a J J J (.na (.seq (.sr (.m J J J (.lenSl J J J Y30.h (.m J J J (.na (.block (.loop (ι:=Nat×List (List UInt8×Unit)) (fun r=>⟨[(0,ptr p 0),(4,i64 0),(5,ptr n5 0),(6, .func (.func 113) #[] #[ptr n5 0]),(15,s.v),(16,i64 (s.n:Int)),(17,i64 (r.1:Int))],[A0 m13 (Al 32 evU) r.2,⟨n5,[.map (some m13)],115,1⟩]⟩) (fun r=>r.1≤s.n∧(∀n,n∈r.2.map (·.1)↔n∈ls.take r.1)∧chkE x.pl [] ls=chkE x.pl (ls.take r.1) (ls.drop r.1)) (fun r=>s.n-r.1) ((0,[])) ?_ ?_ ?_)))))))))))
 ·exact⟨Lar _,fun n=>by simp,rfl⟩
 ·exact Aq wN (Ab rM (Ab rM Aj))
 rintro⟨k,fs⟩ ⟨hk,hkeys,hce⟩;simp only at hk hkeys hce ⊢;refine .sr (.lss J J J J J (.na (.seq (.condP J (fun hc1=>?_) (fun hc1=>?_)))))
 ·
  have hk2:k<s.n:=by omega
  have hk3:k<ls.length:=by omega
  obtain⟨b,o,hbp,hbs⟩:=hrh.see.at (by rw[Aw hrow];omega);have h32k:(ls.getD k []).length=32:=Bo hrow oM;have hdk:ls.drop k=ls.getD k []::ls.drop (k+1):=drop_at (by rw[La2,La6 hk3];rfl);refine .skip (Bx (.seq (.block (.sr (.idxSlP 32 J J J hbp J Y30.h Sz34 k J oM (.loadEN (Aa (ls.getD k [])) J J J Y34.h J Sz34 sP (by rw[Aa,La0];exact h32k) (Bv hrow hbs oM) ?_))))));refine .alloc (cs:=(Aa (List.replicate 32 0))) J B5 J ?_;intro n8 hn8 hf8;refine .sA J J J J zE Sz34 (by(rw[Aa,La0];assumption)) Z0 sP zU ?_;refine .nsr (.m J J J (.lA J J J Y34.h J Sz34 Z0 (by(rw[Aa,La0];assumption)) ?_));refine .call4 J J J J J Body114 (dag_get x hx hck p (ls.getD k []) h32k) (fun w h=>Bw hlies h) ?_;rintro v24 out24 (⟨h0,rfl,rfl⟩|⟨D,B,hD,hB,rfl,hbi⟩)
  ·
   skip;refine .m J J J (.eX J J J J (.eX J J J J (.alloc (cs:=Block.zero.cells) J Block.zr J ?_)));intro n9 hn9 hf9;refine .sA J J J J (Block.isCell (by exact Block.zero_ok)) Sz50 (Block.length (by exact Block.zero_ok)) Z0 (Block.length (by exact Block.zero_ok)) zU ?_;refine .a J J J (.na (.seq (.block (.sr (.m J J J (.nei J J J J (show(!decide _)=true from congrArg not (decide_eq_false dE)) (.a J J J (.na (.cond_t J J (.sr (.a J J J (.na ?_))))))))))));refine .ret (bl_r (at_r (bl_r (at_r (at_r (bl_r (at_r (en_r ?_))))))));refine⟨_,[],Ah J J,sP,sP,?_,rfl⟩;rw[hce,hdk,chk_6 h0]
  have hD16:D.ls.length≤16:=h16 _ (Bg hD);have hp17:(Bk D).length≤17:=by have:=parL_len D;omega
  have hprow:∀l∈Bk D,l.length=32:=parL_row (hB_ok hx hlies hD);refine .m J J J (.eX J J J J (.eX J J J J (.alloc (cs:=Block.zero.cells) J Block.zr J ?_)));intro n9 hn9 hf9;refine .sA J J J J (Block.isCell (by exact hB.ok)) Sz50 (Block.length (by exact hB.ok)) Z0 (Block.length (by exact Block.zero_ok)) zU ?_;refine .a J J J (.na (.seq (.block (.sr (.m J J J (.nei J J J J (show(!decide _)=false from congrArg not (decide_eq_true (rfl))) (.a J J J (.na (.cond_f J J (.sr (.load1 J J J Y115 J mR (by rfl) ?_)))))))))));refine .lA J J J Y34.h J Sz34 mR (by(rw[Aa,La0];assumption)) ?_;refine .cV J J J J Body112 (lin_has m13 fs (ls.getD k []) h32k) (fun w h=>Ca h mR) ?_;refine .a J J J (.na (.cond J (fun hc3=>?_) (fun hc3=>?_)))
  ·
   refine .sr (.a J J J (.na ?_));refine .ret (bl_r (at_r (bl_r (at_r (at_r (bl_r (at_r (en_r ?_))))))));refine⟨_,[],Ah J J,sP,sP,?_,rfl⟩;rw[hce,hdk,chk_2 hD ((hkeys _).1 (is_key hc3))]
  refine .sr (.lA J J J Y50.h J Sz50 Z0 (Block.length (by exact hB.ok)) ?_);refine .call4 J J J J J Body116 (db_parA B D oM) (fun w h=>hbi w (Lies.of h (by repeat(first|exact A4|refine A9 ?_)))) ?_;rintro v36 out36 ⟨⟨p36,n36,c36⟩,rfl,hac36⟩;have hn36:n36=(Bk D).length:=hac36.num;refine .m J J J (.cV J J J J Body115 (contains_miss ⟨p36,n36,c36⟩ (Bk D) n5 m13 fs) (fun w h=>⟨acc_rows hac36 (Lies.of h (by repeat(exact A4))) hprow J oM,(Ca (B:=⟨n5,[.map (some m13)],115,1⟩) h mR).cell (o:=0) J,Ca h mR⟩) ?_);refine .a J J J (.na (.cond J (fun hc4=>?_) (fun hc4=>?_)))
  ·
   refine .sr (.a J J J (.na ?_));refine .ret (bl_r (at_r (bl_r (at_r (at_r (bl_r (at_r (en_r ?_))))))));refine⟨_,[],Ah J J,sP,sP,?_,rfl⟩;obtain⟨m9,hm9,hno⟩:=some_any hc4;rw[hce,hdk,chk_4 hD (fun h9=>not_key (by simpa using hc3) ((hkeys _).2 h9)) ⟨m9,hm9,fun h9=>hno ((hkeys _).2 h9)⟩]
  refine .skip (bl_n (Bx (.region (.load1 J J J Y115 J mR (by rfl) ?_))));refine .lA J J J Y34.h J Sz34 mR (by(rw[Aa,La0];assumption)) ?_;refine .build (cs:=[]) J J J (fun w=>by kernel_rfl) ?_;refine .mapPut (v:=()) MN J J J J J h32k rM ?_;refine .nil (bl_n (Bx (.region (.aI J J J J oM (.m J J J (.na ?_))))));refine⟨(k+1,Bd fs (ls.getD k []) ()),⟨by simp only;omega,fun n=>?_,?_⟩,by simp only;omega,Aq (wk1 J (wk1 J (wk1 J (wk1 J (wk1 J (wk1 J (wk1 (by rw[Lc1];rfl) wk0))))))) (Ab rM (Ab rM Aj))⟩
  ·simp only;rw[keysP_put (by simpa using hc3),take_succ_getD hk3,Laa,Laa,hkeys n]
  ·simp only;rw[hce,hdk,chk_0 hD (fun h9=>not_key (by simpa using hc3) ((hkeys _).2 h9)) (fun m hm=>(hkeys m).1 (none_any hc4 m hm)),take_succ_getD hk3]
 rw[Lao oM]at hce;refine .exit (at_x (at_x (bl_h (Bx (.sr (.a J J J (.na ?_)))))));refine .ret (en_r ?_);refine⟨_,[],Ah J J,sP,sP,?_,rfl⟩;rw[hce];rfl
theorem lin_common(s t:Sl)(xs ys:List (List UInt8)):Mv 50 [s.v,t.v] (fun W=>RowsAt W s 32 xs∧RowsAt W t 32 ys) (i64 (comL xs ys:Int)):=by
 intro W hW;have hra:=hW.1.row;have hrb:=hW.2.row;have hla:=hW.1.len;have hlb:=hW.2.len;have hmax:=hW.1.max;simp only[maxLen]at hmax;refine Ac func50 J 30 ntmps50 J (G12 ?_);refine .min2 J J J J (congrArg i64 (show(if(t.n:Int)<(s.n:Int)then(t.n:Int)else(s.n:Int))=((min s.n t.n:Nat):Int)from(by split<;>omega))) ?_;refine G4 ?_;refine .loop (ι:=Nat) (fun k=>⟨[(0,s.v),(1,t.v),(4,i64 0),(10,i64 ((min s.n t.n:Nat):Int)),(11,i64 (k:Int))],[]⟩) (fun k=>k≤min s.n t.n∧xs.take k=ys.take k) (fun k=>min s.n t.n-k) (0) ?_ ?_ ?_
 ·exact⟨Lar _,rfl⟩
 ·exact Ad wN wh0 nD
 rintro k ⟨hk,hg⟩;refine G6 ?_;refine .condP J (fun hc0=>?_) (fun hc0=>?_)
 ·
  have hk2:k<min s.n t.n:=by omega
  obtain⟨b1,o1,hp1,hs1⟩:=hW.1.see.at (by rw[Aw hra];omega);obtain⟨b2,o2,hp2,hs2⟩:=hW.2.see.at (by rw[Aw hrb];omega);have r1:(xs.getD k []).length=32:=Bo hra oM;have r2:(ys.getD k []).length=32:=Bo hrb oM;refine G11 ?_;refine .draw (oP [0,1,2,103,4,5,6,107,8]) Au zK (G2 ?_);refine .idxSlP 32 J J J hp1 J Y30.h Sz34 k J oM (.loadEN (Aa (xs.getD k [])) J J J Y34.h J Sz34 sP (by rw[Aa,La0];exact r1) (Bv hra hs1 oM) ?_);refine G2 ?_;refine .idxSlP 32 J J J hp2 J Y30.h Sz34 k J oM (.loadEN (Aa (ys.getD k [])) J J J Y34.h J Sz34 sP (by rw[Aa,La0];exact r2) (Bv hrb hs2 oM) ?_);refine .neq_bytes J J J J eqGuardType34 Y34.h Y5.h Sz5 zA zA J ?_;refine G2 ?_;refine .condNP J (fun hc1=>?_) (fun hc1=>?_)
  ·
   refine G6 ?_;refine G7 ?_;refine⟨_,[],Ah J J,sP,sP,?_,rfl⟩;rw[com_at hg oM oM hc1]
  refine G8 ?_;exact⟨k+1,⟨by omega,take_step [] oM oM hg hc1⟩,by omega,Ad wN wh0 nD⟩
 obtain rfl:k=min s.n t.n:=by omega
 refine G11 ?_;refine .min2 J J J J (congrArg i64 (show(if(t.n:Int)<(s.n:Int)then(t.n:Int)else(s.n:Int))=((min s.n t.n:Nat):Int)from(by split<;>omega))) ?_;refine G3 ?_;refine G2 ?_;refine⟨_,[],Ah J J,sP,sP,?_,rfl⟩;rw[com_all (by rw[hla,hlb];exact hg),hla,hlb]
theorem index_dig(s:Sl)(ls:List (List UInt8))(n:List UInt8)(h32:n.length=32):Mv 119 [s.v,agg (Aa n)] (fun W=>RowsAt W s 32 ls) (i64 (fstBad (fun m=>decide (n=m)) ls)):=by
 intro W hW;have h32k:True:=trivial;have hlen:=hW.len;have hrow:=hW.row;have hmax:=hW.max;simp only[maxLen]at hmax;refine Ac func119 J 19 ntmps119 J (G3 ?_);intro n3 hn3 hf3;refine G12 ?_;refine .loop (ι:=Nat) (fun k=>⟨[(0,s.v),(3,ptr n3 0),(7,i64 (s.n:Int)),(8,i64 (k:Int))],[⟨n3,Aa n,34,(Aa n).length⟩]⟩) (fun k=>k≤s.n∧∀j,j<k→(ls.map (fun m=>decide (n=m)))[j]? =some false) (fun k=>s.n-k) (0) ?_ ?_ ?_
 ·exact⟨by omega,fun j hj=>by omega⟩
 ·exact Ad wN (wh1 Z0 wh0) nD
 rintro k ⟨hk,hg⟩;refine G6 ?_;refine .condP J (fun hc0=>?_) (fun hc0=>?_)
 ·
  have hk2:k<s.n:=by omega
  obtain⟨b,o,hbp,hbs⟩:=hW.see.at (by rw[Aw hrow];omega);have h32k:(ls.getD k []).length=32:=Bo hrow oM;have hd:ls[k]? =some (ls.getD k []):=by rw[La2,La6 (show k<ls.length by omega)];rfl
  refine G11 ?_;refine .draw (oP [100,1,2,3,104,5]) Au zK (.lA J J J Y34.h J Sz34 Z0 (by(simp[h32];done)) ?_);refine G2 ?_;refine .idxSlP 32 J J J hbp J Y30.h Sz34 k J oM (.loadEN (Aa (ls.getD k [])) J J J Y34.h J Sz34 sP (by rw[Aa,La0];exact h32k) (Bv hrow hbs oM) ?_);refine .eql_bytes J J J J eqGuardType34 Y34.h Y5.h Sz5 (by(simp[h32];done)) zA J ?_;refine G2 ?_;refine .condP J (fun hc1=>?_) (fun hc1=>?_)
  ·
   refine G6 ?_;refine G7 ?_;refine⟨_,[],Ah J J,sP,sP,?_,rfl⟩;exact congrArg i64 (fstBad_at hg (by rw[Lal,hd];simpa using hc1)).symm
  refine G8 ?_;exact⟨k+1,⟨by omega,fun j hj=>by rcases Lcg.1 hj with h|rfl;exact hg j h;rw[Lal,hd];simpa using hc1⟩,by omega,Ad wN (wh1 Z0 wh0) nD⟩
 obtain rfl:k=s.n:=by omega
 refine G10 ?_;refine G2 ?_;refine⟨_,[],Ah J J,sP,sP,?_,rfl⟩;exact congrArg i64 (fstBad_none (by intro j hj;exact hg j (by rw[hlen]at hj;exact hj))).symm
theorem lin_place(s:Sl)(ls:List (List UInt8))(n:List UInt8)(h32:n.length=32):Mv 52 [s.v,agg (Aa n)] (fun W=>RowsAt W s 32 ls) (i64 (fstBad (fun m=>decide (n=m)) ls)):=by
 intro W hW;refine Ac func52 J 8 ntmps52 J (G3 ?_);intro n3 hn3 hf3;refine G6 ?_;refine .lA J J J Y34.h J Sz34 Z0 (by(simp[h32];done)) ?_;refine .cV J J J J Body119 (index_dig s ls n h32) (fun w h=>Cp h J hW) (G3 ?_);refine G2 ?_;refine⟨_,[],Ah J J,sP,sP,?_,rfl⟩;rfl
theorem hds_two{w:World}{q:Nat}{r s:Sl}{d e:List (List UInt8)}(hs:Sees w q 0 (slc r++slc s))(h1:RowsAt w r 32 d)(h2:RowsAt w s 32 e):SeqIs slc 1 HdsIs w ⟨some ⟨q,0,none⟩,2,2⟩ [r,s] [d,e]:=by
  refine⟨rfl,rfl,fun i r2 d2 hr hd=>?_,fun r2 hr=>?_,Lai 2,SeesP.of (by simpa using hs),(by show 2≤maxLen;decide),fun e=>by cases e⟩
  · rcases i with _|_|i
    ·cases hr;cases hd;exact h1
    ·cases hr;cases hd;exact h2
    ·cases hr
  · rcases Lab.1 hr with rfl|hr
    ·rfl
    ·rw[La1.1 hr];rfl
theorem lin_ord_err(x:DD)(hx:x.ok)(hI:x.pl.Inv)(hO:x.pl.Ord)(p:Nat)(s:Sl)(cs:List (List (List UInt8)))(hn:s.n≤16)(hsm:∀c∈cs,c.length≤90000)(he:benE x.pl [] cs=e)(h0:e≠0):Mv 45 [ptr p 0,s.v] (fun W=>Lies (x.blks p) W∧∃rs,SeqIs slc 1 HdsIs W s rs cs) (.tuple #[.slice none 0 0,i64 0,i64 e]):=fun W hW=>by
  obtain⟨h1,rs,h2⟩:=hW;refine(lin_ord x hx hI hO p s rs cs hn hsm W ⟨h1,h2⟩).mono fun e' W' ⟨v,out,h3,h4,h5⟩=>⟨v,out,h3,?_,h5⟩;rcases h4 with ⟨e2,_,hbe,hv⟩|⟨hbe,_⟩
  ·rw[←hbe,he]at hv;exact hv
  ·exact absurd (he.symm.trans hbe) h0
theorem lin_ben_at(x:DD)(hx:x.ok)(hI:x.pl.Inv)(hO:x.pl.Ord)(p:Nat)(s:Sl)(cs:List (List (List UInt8)))(hn:s.n≤16)(hsm:∀c∈cs,c.length≤90000)(he:benE x.pl [] cs=0){k:Nat}(hk:(Cu x.pl (cs.getLastD [])).length=k){L:List (List UInt8)}(hl:ordL x.pl cs=L):Meets prog 46 [ptr p 0,s.v] [] (fun W=>Lies (x.blks p) W∧∃rs,SeqIs slc 1 HdsIs W s rs cs)
    (fun v out=>∃s2:Sl,v= .tuple #[s2.v,i64 0]∧Hw.Acc s2 out (Am (L.take k)) 34 k 32):=fun W hW=>by
  obtain⟨h1,rs,h2⟩:=hW;refine(lin_ben x hx hI hO p s rs cs hn hsm W ⟨h1,h2⟩).mono fun e W' ⟨v,out,h3,h4,h5⟩=>⟨v,out,h3,?_,h5⟩;rcases h4 with ⟨e,he0,hbe,_⟩|⟨_,s2,hv,hac⟩
  ·exact absurd (hbe.symm.trans he) he0
  · rw[hk,hl]at hac
    exact⟨s2,hv,hac⟩
theorem lin_sort_dup(x:DD)(hx:x.ok)(hI:x.pl.Inv)(hO:x.pl.Ord)(p:Nat)(s:Sl)(n:List UInt8)(h:x.pl.has n=true):Mv 21 [ptr p 0,s.v] (fun W=>Lies (x.blks p) W∧RowsAt W s 32 [n,n]) (.tuple #[.slice none 0 0,i64 2]):=
  (lin_sort x hx hI hO p s [n,n] (by show 2≤90000;decide)).imp (fun w h=>h) fun v out h2=>by
    rcases h2 with ⟨⟨m,hm,h3⟩,_⟩|⟨_,⟨_,h3⟩|⟨h3,_⟩⟩
    · have e:m=n:=by simpa using hm
      rw[e,h]at h3;cases h3
    ·exact h3
    ·exact absurd La4 (Lay.1 h3).1
theorem lin_check_at(x:DD)(hx:x.ok)(hI:x.pl.Inv)(p:Nat)(s:Sl)(ls:List (List UInt8))(h:chkE x.pl [] ls=e):Mv 47 [ptr p 0,s.v] (fun W=>Lies (x.blks p) W∧RowsAt W s 32 ls) (i64 e):=by
  rw[←h];exact lin_check x hx hI p s ls
theorem com_1(h:b≠c):comL [a,b] [a,c]=1:=by
  rw[comL,if_pos rfl,comL,if_neg h]
theorem idx_no(h1:c≠a)(h2:c≠b):fstBad (fun m=>decide (c=m)) [a,b]= -1:=by
  unfold fstBad;rw[if_neg (by simp[h1,h2])]
theorem lin_common1(s t:Sl)(h:b≠c):Mv 50 [s.v,t.v] (fun W=>RowsAt W s 32 [a,b]∧RowsAt W t 32 [a,c]) (i64 1):=by
  have h2:=lin_common s t [a,b] [a,c];rw[com_1 h]at h2;exact h2
theorem lin_place_no(s:Sl)(h32:c.length=32)(h1:c≠a)(h2:c≠b):Mv 52 [s.v,agg (Aa c)] (fun W=>RowsAt W s 32 [a,b]) (i64 (-1)):=by
  have h3:=lin_place s [a,b] c h32;rw[idx_no h1 h2]at h3;exact h3
theorem lin_eq_self(p q:Option Addr)(n c1 c2:Nat)(xs:List (List UInt8))(hx:∀l∈xs,l.length=32)(h1:xs.length=n)(hn:n≤1000000):Mv 51 [.slice p n c1, .slice q n c2] (fun W=>SeesP W p (Am xs)∧SeesP W q (Am xs)) (.bool true):=by
  have h:=lin_eq p q n n c1 c2 xs xs hx hx h1 h1 hn;rwa[show decide (xs=xs)=true from decide_eq_true rfl]at h
theorem d_zN:Ao cX3.P (List.replicate 32 0)=none:=by kernel_rfl
theorem d_hz:cX3.has (List.replicate 32 0)=false:=by unfold PD.has;rw[d_zN];rfl
theorem d_dpZ:cX3.depthR (List.replicate 32 0)= .tuple #[i64 0,i64 6]:=by
  unfold PD.depthR;rw[if_neg (by rw[d_hz];decide)]
theorem d_hasA:cX3.has mAN=true:=by unfold PD.has;rw[d_hA];rfl
theorem d_hasB:cX3.has mBN=true:=by unfold PD.has;rw[d_hB];rfl
theorem d_hasL:cX3.has mLN=true:=by unfold PD.has;rw[d_hL];rfl
theorem d_pL:Bk mLD=[mAN]:=by kernel_rfl
theorem d_nAL:mLN≠mAN:=of_decide_eq_true zK
theorem d_nBL:mLN≠mBN:=of_decide_eq_true zK
theorem d_lB:¬cX3.Reach (-1) [mLN] mBN:=fun h=>by
  have h1:=d_sub (S:=[mLN,mAN]) (fun n hn=>by rw[La1.1 hn];exact La4) (fun n hn D hD m hm=>by
    rcases Lab.1 hn with rfl|hn
    ·rw[d_hL]at hD;cases hD;rw[d_pL]at hm;exact Lae _ hm
    ·rw[La1.1 hn,d_hA]at hD;cases hD;rw[d_pA]at hm;cases hm) h
  exact absurd h1 (of_decide_eq_true zK)
theorem ben_ok{bf c:List (List UInt8)}(h:∀n∈c,X.has n=true)(h2:∀n∈bf,X.Reach (-1) c n):benE X bf (c::cs)=benE X c cs:=by
  have e1:¬(c.any fun n=> !X.has n)=true:=fun h9=>by
    obtain⟨m,hm,h8⟩:=Lc9.1 h9;rw[h m hm]at h8;cases h8
  have e2:(bf.all fun n=>rB X (-1) c n)=true:=Lbt.2 fun n hn=>rB_iff.2 (h2 n hn);rw[benE,if_neg e1,if_neg (by rw[e2];decide)]
theorem d_one(h:cX3.has n=true):∀m∈ [n],cX3.has m=true:=fun m hm=>by rw[La1.1 hm];exact h
theorem d_two:∀m∈ [mBN,mLN],cX3.has m=true:=fun m hm=>by
  rcases Lab.1 hm with rfl|hm
  ·exact d_hasB
  ·rw[La1.1 hm];exact d_hasL
theorem d_e4:benE cX3 [] [[mBN],[mLN]]=4:=by
  rw[ben_ok (d_one d_hasB) (fun n hn=>by cases hn),ben_4 (d_one d_hasL) ⟨mBN,La4,d_lB⟩]
theorem d_e6:benE cX3 [] [[(List.replicate 32 0)]]=6:=ben_6 ⟨_,La4,d_hz⟩
theorem d_e0:benE cX3 [] [[mBN],[mBN,mLN]]=0:=by
  rw[ben_ok (d_one d_hasB) (fun n hn=>by cases hn),ben_ok d_two (fun n hn=>by rw[La1.1 hn];exact reach_in c_inv La4 d_hB),benE]
theorem d_2A:rB cX3 (-1) [mBN,mLN] mAN=true:=rB_iff.2 (.step (reach_in c_inv La4 d_hB) d_hB (by rw[d_pB];exact La4) d_hA (by have:=c_inv.d0 _ _ d_hA;omega))
theorem d_2B:rB cX3 (-1) [mBN,mLN] mBN=true:=rB_iff.2 (reach_in c_inv La4 d_hB)
theorem d_2L:rB cX3 (-1) [mBN,mLN] mLN=true:=rB_iff.2 (reach_in c_inv (Lae _ La4) d_hL)
theorem d_b3:(Cu cX3 [mBN,mLN]).length=3:=by
  unfold Cu;rw[d_pk];simp[Lc8,d_2A,d_2B,d_2L]
theorem d_o2:ordL cX3 [[mBN],[mBN,mLN]]=[mAN,mBN,mLN]:=by
  have e1:restL cX3 [[mBN],[mBN,mLN]]=[]:=by
    unfold restL;show(cX3.names.filter fun n=> !rB cX3 (-1) [mBN,mLN] n)=_;rw[d_nm];simp[Lc8,d_2A,d_2B,d_2L]
  have e2:(cX3.names.filter fun n=>rB cX3 (-1) [mBN] n&& !rB cX3 (-1) [] n)=[mAN,mBN]:=by
    rw[d_nm];simp[Lc8,d_rA,d_rB,d_rL,rB_nil]
  have e3:(cX3.names.filter fun n=>rB cX3 (-1) [mBN,mLN] n&& !rB cX3 (-1) [mBN] n)=[mLN]:=by
    rw[d_nm];simp[Lc8,d_rA,d_rB,d_rL,d_2A,d_2B,d_2L]
  unfold ordL;rw[e1,(isortD_perm cX3 []).eq_nil,partsD,e2,d_s2,partsD,e3,d_s1];rfl
theorem d_c4:chkE cX3 [] [mBN,mAN]=4:=chk_4 d_hB sP ⟨mAN,by rw[d_pB];exact La4,by simp⟩
theorem d_c0:chkE cX3 [] [mAN,mLN]=0:=by
  rw[chk_0 d_hA sP (fun m hm=>by rw[d_pA]at hm;cases hm),chk_0 d_hL (fun h=>d_nAL (by simpa using h)) (fun m hm=>by rw[d_pL]at hm;exact hm),chkE]
theorem chain17n_facts:∃(Da Db Dc:DB) (na nb nc:List UInt8) (X:PD),(Da.ok∧Db.ok∧Dc.ok)∧(na.length=32∧nb.length=32∧nc.length=32)∧(Bh Da=na∧Bh Db=nb∧Bh Dc=nc)
    ∧(∀B:Block,B.ok→Meets prog 164 [agg (Aa s1B),agg B.cells] [] (fun W=>BlockIs W B DB.zero) (BlkR 0 Da))∧(∀B:Block,B.ok→Meets prog 164 [agg (Aa s1B),agg B.cells] [] (fun W=>BlockIs W B { DB.zero with seq:=1,prev:=na }) (BlkR 0 Db))∧(∀B:Block,B.ok→Meets prog 164 [agg (Aa s2B),agg B.cells] [] (fun W=>BlockIs W B { DB.zero with ls:=[na] }) (BlkR 0 Dc))∧(∀d∈ [Da,Db,Dc],d.ls.length≤500000∧d.ds.length≤500000)
    ∧fillP PD.new [Da,Db,Dc]=X∧X.depthR (List.replicate 32 0)= .tuple #[i64 0,i64 6]∧X.has na=true∧benE X [] [[nb],[nc]]=4∧benE X [] [[(List.replicate 32 0)]]=6∧benE X [] [[nb],[nb,nc]]=0∧(Cu X [nb,nc]).length=3∧ordL X [[nb],[nb,nc]]=[na,nb,nc]∧chkE X [] [nb,na]=4∧chkE X [] [na,nc]=0∧nc≠na∧nc≠nb:=
  ⟨mAD,mBD,mLD,mAN,mBN,mLN,cX3,⟨mA_f.1,mB_f.1,mL_f.1⟩,⟨mA_len,mB_len,mL_len⟩,⟨mA_nm,mB_nm,mL_nm⟩,mA_f.2.2.2,mB_f.2.2.2,mL_f.2.2.2,
    (fun d hd=>by simp only[Lab,Las,or_false]at hd;rcases hd with rfl|rfl|rfl<;>exact of_decide_eq_true zK),c_fill,d_dpZ,d_hasA,d_e4,d_e6,d_e0,d_b3,d_o2,d_c4,d_c0,d_nAL,d_nBL⟩
theorem law_linearnames  :Mv 11 [] (fun _=>True) (.bool true):=by
 intro W hW;obtain⟨Da,Db,Dc,na,nb,nc,X,⟨hDa,hDb,hDc⟩,⟨lna,lnb,lnc⟩,⟨hna,hnb,hnc⟩,cSa,cSb,cSc,hsm,hfill,hdz,hasA,he4,he6,he0,hb3,ho2,hc4,hc0,hnac,hnbc⟩:=chain17n_facts;refine Ac func11 J 148 ntmps11 J (G7 ?_);refine .call4 J J J J J Body58 (law17_chain Da Db Dc na hDa hDb hDc lna hna cSa cSb cSc) tV ?_;rintro v9 out9 ⟨q,Ba,Bb,Bc,bl,ha,hb,hc,rfl,rfl,hch⟩;have cNa:=r15_Name Ba Da ha.ok;have cNb:=r15_Name Bb Db hb.ok;have cNc:=r15_Name Bc Dc hc.ok;rw[hna]at cNa;rw[hnb]at cNb;rw[hnc]at cNc;refine G6 ?_;refine .call4 J J J J J Body17 (law17_filled ⟨some ⟨q,0,none⟩,3,3⟩ [Da,Db,Dc] (by show 3≤1000;omega) hsm) (fun w h=>tri_blocks (Ca (B:=⟨q,tri Ba Bb Bc,50,(tri Ba Bb Bc).length⟩) h Z0) (hch w (Lies.of h (by repeat(first|exact A4|refine A9 ?_))))) ?_;rintro v11 out11 ⟨p,x,rfl,rfl,hx,hplx,hnx2⟩;have hI:x.pl.Inv:=by rw[hplx];exact PD.Inv.fill _ PD.Inv.new
 have hO:x.pl.Ord:=by rw[hplx];exact PD.Ord.fill _ PD.Inv.new PD.Ord.new
 rw[hfill]at hplx;rw[←hplx]at hdz hasA he4 he6 he0 hb3 ho2 hc4 hc0;refine G4 ?_
 try simp only[Lag,Lac,La9]
 refine .withK (sp_x (sp_k (sp_x sp_n))) J (.draw (oP [0,1,2,4,5,6,8,9,10,303,307,311,212,213,214,415,416,417]) Au zK ?_)
 try simp only[Lag,Lac,La9]
 refine G1 ?_;refine .idxSlP 131 J J J J J Y22.h Sz50 0 J dE (.kloadSN (n:=131) Ba.cells J J J Y50.h J Sz50 (Block.length ha.ok) (fun w h=>(tri_sees ha.ok hb.ok hc.ok (h ⟨q,tri Ba Bb Bc,50,(tri Ba Bb Bc).length⟩ (by simp[Cx.with]))).1) ?_);refine G1 ?_;refine .idxSlP 131 J J J J J Y22.h Sz50 1 J dE (.kloadSN (n:=131) Bb.cells J J J Y50.h J Sz50 (Block.length hb.ok) (fun w h=>(tri_sees ha.ok hb.ok hc.ok (h ⟨q,tri Ba Bb Bc,50,(tri Ba Bb Bc).length⟩ (by simp[Cx.with]))).2.1) ?_);refine G1 ?_;refine .idxSlP 131 J J J J J Y22.h Sz50 2 J dE (.kloadSN (n:=131) Bc.cells J J J Y50.h J Sz50 (Block.length hc.ok) (fun w h=>(tri_sees ha.ok hb.ok hc.ok (h ⟨q,tri Ba Bb Bc,50,(tri Ba Bb Bc).length⟩ (by simp[Cx.with]))).2.2) ?_);refine .cV J J J J Body54 (cNa) (fun w h=>(hch w (Lies.of h (by repeat(first|exact A4|refine A9 ?_|refine in_seg ?_)))).1) ?_;refine .cV J J J J Body54 (cNb) (fun w h=>(hch w (Lies.of h (by repeat(first|exact A4|refine A9 ?_|refine in_seg ?_)))).2.1) ?_;refine .cV J J J J Body54 (cNc) (fun w h=>(hch w (Lies.of h (by repeat(first|exact A4|refine A9 ?_|refine in_seg ?_)))).2.2) ?_;refine .alloc (cs:=(Aa (List.replicate 32 0))) J B5 J ?_;intro n3 hn3 hf3;refine .alloc (cs:=(Aa (List.replicate 32 0))) J B5 J ?_;intro n4 hn4 hf4;refine .alloc (cs:=(Aa (List.replicate 32 0))) J B5 J ?_;intro n5 hn5 hf5;refine .sA J J J J zE Sz34 (by(simp[lna];done)) Z2 sP (by exact upd2) ?_;refine .sA J J J J zE Sz34 (by(simp[lnb];done)) Z1 sP zV ?_;refine .sA J J J J zE Sz34 (by(simp[lnc];done)) Z0 sP zU ?_;refine G4 ?_
 try simp only[Lag,Lac,La9]
 refine G1 ?_;refine .build (cs:=Aa (List.replicate 32 0)) J J J (fun w=>by kernel_rfl) ?_;refine .cV J J J J Body24 (lin_depth_at x hx hI hO p (List.replicate 32 0) J hdz) (fun w h=>Lies.of h (by repeat(first|exact A4|refine A9 ?_))) ?_;refine G9 ?_
 try simp only[Lag,Lac,La9]
 refine G1 ?_;refine .lA J J J Y34.h J Sz34 Z2 (by(simp[lna];done)) ?_;refine .lA J J J Y34.h J Sz34 Z2 (by(simp[lna];done)) ?_;refine .mkRow (z:=agg (Aa (List.replicate 32 0))) [agg (Aa na),agg (Aa na)] (Am [na,na]) J J J Y30.h Sz34 B5 J J (by intro v hv;simp only[Lab,Las,or_false]at hv;rcases hv with rfl|rfl<;>simp[Value.cells,Aa,lna]) dE (by simp[Value.cells,agg,Am]) ?_;intro q43;refine .cV J J J J Body21 (lin_sort_dup x hx hI hO p ⟨some ⟨q43,0,none⟩,2,2⟩ na hasA) (fun w h=>⟨Lies.of h (by repeat(first|exact A4|refine A9 ?_)),(row_two lna lna (Ap (cs:=Am [na,na]) h Z0))⟩) ?_;refine G9 ?_
 try simp only[Lag,Lac,La9]
 refine G1 ?_;refine .lA J J J Y34.h J Sz34 Z2 (by(simp[lnb];done)) ?_;refine .mkRow (z:=agg (Aa (List.replicate 32 0))) [agg (Aa nb)] (Am [nb]) J J J Y30.h Sz34 B5 J J (by intro v hv;simp only[Lab,Las,or_false]at hv;rcases hv with rfl<;>simp[Value.cells,Aa,lnb]) dE (by simp[Value.cells,agg,Am]) ?_;intro q50;refine .lA J J J Y34.h J Sz34 Z2 (by(simp[lnc];done)) ?_;refine .mkRow (z:=agg (Aa (List.replicate 32 0))) [agg (Aa nc)] (Am [nc]) J J J Y30.h Sz34 B5 J J (by intro v hv;simp only[Lab,Las,or_false]at hv;rcases hv with rfl<;>simp[Value.cells,Aa,lnc]) dE (by simp[Value.cells,agg,Am]) ?_;intro q52;refine .mkRow2 (z:= .slice none 0 0) [Sl.v (⟨some ⟨q50,0,none⟩,1,1⟩:Sl),Sl.v (⟨some ⟨q52,0,none⟩,1,1⟩:Sl)] (slc (⟨some ⟨q50,0,none⟩,1,1⟩:Sl)++slc (⟨some ⟨q52,0,none⟩,1,1⟩:Sl)) J J Y78.h Sz30 Zr30 J J (by intro v hv;rcases Lab.1 hv with e|e;(rw[e];simp[Value.cells,Sl.v]);(rw[La1.1 e];simp[Value.cells,Sl.v])) dE (by simp[Value.cells,slc,Sl.v]) ?_;intro q53;refine .cV J J J J Body45 (lin_ord_err x hx hI hO p ⟨some ⟨q53,0,none⟩,2,2⟩ [[nb],[nc]] (by show 2≤16;decide) (fun c hc=>by simp only[Lab,Las,or_false]at hc;rcases hc with rfl|rfl;(show 1≤90000;decide);(show 1≤90000;decide)) he4 dE) (fun w h=>⟨Lies.of h (by repeat(first|exact A4|refine A9 ?_)),_,hds_two (Ap h Z0) (row_one lnb (by have h9:=Ap (cs:=Am [nb]) h Z2;simpa[Am]using h9)) (row_one lnc (by have h9:=Ap (cs:=Am [nc]) h Z1;simpa[Am]using h9))⟩) ?_;refine G11 ?_
 try simp only[Lag,Lac,La9]
 refine G1 ?_;refine .build (cs:=Aa (List.replicate 32 0)) J J J (fun w=>by kernel_rfl) ?_;refine .mkRow (z:=agg (Aa (List.replicate 32 0))) [agg (Aa (List.replicate 32 0))] (Am [(List.replicate 32 0)]) J J J Y30.h Sz34 B5 J J (by intro v hv;simp only[Lab,Las,or_false]at hv;rcases hv with rfl<;>simp[Value.cells,Aa]) dE (by simp[Value.cells,agg,Am]) ?_;intro q61;refine .mkRow2 (z:= .slice none 0 0) [Sl.v (⟨some ⟨q61,0,none⟩,1,1⟩:Sl)] (slc (⟨some ⟨q61,0,none⟩,1,1⟩:Sl)) J J Y78.h Sz30 Zr30 J J (by intro v hv;rw[La1.1 hv];simp[Value.cells,Sl.v]) dE (by simp[Value.cells,slc,Sl.v]) ?_;intro q62;refine .cV J J J J Body45 (lin_ord_err x hx hI hO p ⟨some ⟨q62,0,none⟩,1,1⟩ [[(List.replicate 32 0)]] (by show 1≤16;decide) (fun c hc=>by rw[La1.1 hc];show 1≤90000;decide) he6 dE) (fun w h=>⟨Lies.of h (by repeat(first|exact A4|refine A9 ?_)),_,hds_one (Ap h Z0) (row_one J (by have h9:=Ap (cs:=Am [(List.replicate 32 0)]) h Z1;simpa[Am]using h9))⟩) ?_;refine G11 ?_
 try simp only[Lag,Lac,La9]
 refine G1 ?_;refine .lA J J J Y34.h J Sz34 (by exact mem7) (by(simp[lnb];done)) ?_;refine .mkRow (z:=agg (Aa (List.replicate 32 0))) [agg (Aa nb)] (Am [nb]) J J J Y30.h Sz34 B5 J J (by intro v hv;simp only[Lab,Las,or_false]at hv;rcases hv with rfl<;>simp[Value.cells,Aa,lnb]) dE (by simp[Value.cells,agg,Am]) ?_;intro q70;refine .lA J J J Y34.h J Sz34 mR (by(simp[lnb];done)) ?_;refine .lA J J J Y34.h J Sz34 (by exact mem7) (by(simp[lnc];done)) ?_;refine .mkRow (z:=agg (Aa (List.replicate 32 0))) [agg (Aa nb),agg (Aa nc)] (Am [nb,nc]) J J J Y30.h Sz34 B5 J J (by intro v hv;simp only[Lab,Las,or_false]at hv;rcases hv with rfl|rfl<;>simp[Value.cells,Aa,lnb,lnc]) dE (by simp[Value.cells,agg,Am]) ?_;intro q73;refine .mkRow2 (z:= .slice none 0 0) [Sl.v (⟨some ⟨q70,0,none⟩,1,1⟩:Sl),Sl.v (⟨some ⟨q73,0,none⟩,2,2⟩:Sl)] (slc (⟨some ⟨q70,0,none⟩,1,1⟩:Sl)++slc (⟨some ⟨q73,0,none⟩,2,2⟩:Sl)) J J Y78.h Sz30 Zr30 J J (by intro v hv;rcases Lab.1 hv with e|e;(rw[e];simp[Value.cells,Sl.v]);(rw[La1.1 e];simp[Value.cells,Sl.v])) dE (by simp[Value.cells,slc,Sl.v]) ?_;intro q74;refine .call4 J J J J J Body46 (lin_ben_at x hx hI hO p ⟨some ⟨q74,0,none⟩,2,2⟩ [[nb],[nb,nc]] (by show 2≤16;decide) (fun c hc=>by simp only[Lab,Las,or_false]at hc;rcases hc with rfl|rfl;(show 1≤90000;decide);(show 2≤90000;decide)) he0 hb3 ho2) (fun w h=>⟨Lies.of h (by repeat(first|exact A4|refine A9 ?_)),_,hds_two (Ap h Z0) (row_one lnb (by have h9:=Ap (cs:=Am [nb]) h Z2;simpa[Am]using h9)) (row_two lnb lnc (Ap (cs:=Am [nb,nc]) h Z1))⟩) ?_;rintro v75 out75 ⟨s75,rfl,hac75⟩;have hn75:s75.n=3:=hac75.num;rw[show[na,nb,nc].take 3=[na,nb,nc]from rfl]at hac75;refine G9 ?_
 try simp only[Lag,Lac,La9]
 refine .cV J J J J Body15 (law17_lives) tV (G2 ?_);refine .eqi J J J J (decide_eq_true (rfl)) (G3 ?_);refine .eqi J J J J (decide_eq_true (rfl)) (G3 ?_);refine .eqi J J J J (decide_eq_true (rfl)) (G3 ?_);refine .eqi J J J J (decide_eq_true (rfl)) (G3 ?_);refine .eqi J J J J (decide_eq_true (rfl)) (G3 ?_);refine .lA J J J Y34.h J Sz34 mR (by(simp[lna];done)) ?_;refine .lA J J J Y34.h J Sz34 mR (by(simp[lnb];done)) ?_;refine .lA J J J Y34.h J Sz34 mR (by(simp[lnc];done)) ?_;refine .mkRow (z:=agg (Aa (List.replicate 32 0))) [agg (Aa na),agg (Aa nb),agg (Aa nc)] (Am [na,nb,nc]) J J J Y30.h Sz34 B5 J J (by intro v hv;simp only[Lab,Las,or_false]at hv;rcases hv with rfl|rfl|rfl<;>simp[Value.cells,Aa,lna,lnb,lnc]) dE (by simp[Value.cells,agg,Am]) ?_;intro q104;refine .cV J J J J Body23 (digs_same s75.p (some ⟨q104,0,none⟩) s75.n 3 s75.c 3 [na,nb,nc] (three_32 lna lnb lnc) hn75.symm J oM) (fun w h=>⟨hac75.see (Lies.of h (by repeat(first|exact A4|refine A9 ?_))),SeesP.of (Ap h Z0)⟩) ?_;refine G3 ?_;refine .lA J J J Y34.h J Sz34 mR (by(simp[lnb];done)) ?_;refine .lA J J J Y34.h J Sz34 mR (by(simp[lna];done)) ?_;refine .mkRow (z:=agg (Aa (List.replicate 32 0))) [agg (Aa nb),agg (Aa na)] (Am [nb,na]) J J J Y30.h Sz34 B5 J J (by intro v hv;simp only[Lab,Las,or_false]at hv;rcases hv with rfl|rfl<;>simp[Value.cells,Aa,lnb,lna]) dE (by simp[Value.cells,agg,Am]) ?_;intro q111;refine .cV J J J J Body47 (lin_check_at x hx hI p ⟨some ⟨q111,0,none⟩,2,2⟩ [nb,na] hc4) (fun w h=>⟨Lies.of h (by repeat(first|exact A4|refine A9 ?_|refine in_seg ?_)),(row_two lnb lna (Ap (cs:=Am [nb,na]) h Z0))⟩) ?_;refine .eqi J J J J (decide_eq_true (rfl)) (G3 ?_);refine .lA J J J Y34.h J Sz34 mR (by(simp[lna];done)) ?_;refine .lA J J J Y34.h J Sz34 mR (by(simp[lnc];done)) ?_;refine .mkRow (z:=agg (Aa (List.replicate 32 0))) [agg (Aa na),agg (Aa nc)] (Am [na,nc]) J J J Y30.h Sz34 B5 J J (by intro v hv;simp only[Lab,Las,or_false]at hv;rcases hv with rfl|rfl<;>simp[Value.cells,Aa,lna,lnc]) dE (by simp[Value.cells,agg,Am]) ?_;intro q119;refine .cV J J J J Body47 (lin_check_at x hx hI p ⟨some ⟨q119,0,none⟩,2,2⟩ [na,nc] hc0) (fun w h=>⟨Lies.of h (by repeat(first|exact A4|refine A9 ?_|refine in_seg ?_)),(row_two lna lnc (Ap (cs:=Am [na,nc]) h Z0))⟩) ?_;refine .eqi J J J J (decide_eq_true (rfl)) (G2 ?_);refine .lA J J J Y34.h J Sz34 mR (by(simp[lna];done)) ?_;refine .lA J J J Y34.h J Sz34 mR (by(simp[lnb];done)) ?_;refine .mkRow (z:=agg (Aa (List.replicate 32 0))) [agg (Aa na),agg (Aa nb)] (Am [na,nb]) J J J Y30.h Sz34 B5 J J (by intro v hv;simp only[Lab,Las,or_false]at hv;rcases hv with rfl|rfl<;>simp[Value.cells,Aa,lna,lnb]) dE (by simp[Value.cells,agg,Am]) ?_;intro q126;refine .lA J J J Y34.h J Sz34 mR (by(simp[lna];done)) ?_
 refine .lA J J J Y34.h J Sz34 mR (by(simp[lnc];done)) ?_;refine .mkRow (z:=agg (Aa (List.replicate 32 0))) [agg (Aa na),agg (Aa nc)] (Am [na,nc]) J J J Y30.h Sz34 B5 J J (by intro v hv;simp only[Lab,Las,or_false]at hv;rcases hv with rfl|rfl<;>simp[Value.cells,Aa,lna,lnc]) dE (by simp[Value.cells,agg,Am]) ?_;intro q129;refine .cV J J J J Body50 (lin_common1 ⟨some ⟨q126,0,none⟩,2,2⟩ ⟨some ⟨q129,0,none⟩,2,2⟩ (a:=na) (Ne.symm hnbc)) (fun w h=>⟨(row_two lna lnb (Ap (cs:=Am [na,nb]) h Z1)),(row_two lna lnc (Ap (cs:=Am [na,nc]) h Z0))⟩) ?_;refine .eqi J J J J (decide_eq_true (rfl)) (G2 ?_);refine .lA J J J Y34.h J Sz34 mR (by(simp[lna];done)) ?_;refine .lA J J J Y34.h J Sz34 mR (by(simp[lnb];done)) ?_;refine .mkRow (z:=agg (Aa (List.replicate 32 0))) [agg (Aa na),agg (Aa nb)] (Am [na,nb]) J J J Y30.h Sz34 B5 J J (by intro v hv;simp only[Lab,Las,or_false]at hv;rcases hv with rfl|rfl<;>simp[Value.cells,Aa,lna,lnb]) dE (by simp[Value.cells,agg,Am]) ?_;intro q136;refine .lA J J J Y34.h J Sz34 mR (by(simp[lnc];done)) ?_;refine .cV J J J J Body52 (lin_place_no ⟨some ⟨q136,0,none⟩,2,2⟩ lnc hnac hnbc) (fun w h=>(row_two lna lnb (Ap (cs:=Am [na,nb]) h Z0))) ?_;refine .eqi J J J J (decide_eq_true (rfl)) (G2 ?_);refine .lA J J J Y34.h J Sz34 mR (by(simp[lna];done)) ?_;refine .mkRow (z:=agg (Aa (List.replicate 32 0))) [agg (Aa na)] (Am [na]) J J J Y30.h Sz34 B5 J J (by intro v hv;simp only[Lab,Las,or_false]at hv;rcases hv with rfl<;>simp[Value.cells,Aa,lna]) dE (by simp[Value.cells,agg,Am]) ?_;intro q143;refine .lA J J J Y34.h J Sz34 mR (by(simp[lna];done)) ?_;refine .mkRow (z:=agg (Aa (List.replicate 32 0))) [agg (Aa na)] (Am [na]) J J J Y30.h Sz34 B5 J J (by intro v hv;simp only[Lab,Las,or_false]at hv;rcases hv with rfl<;>simp[Value.cells,Aa,lna]) dE (by simp[Value.cells,agg,Am]) ?_;intro q145;refine .cV J J J J Body51 (lin_eq_self (some ⟨q143,0,none⟩) (some ⟨q145,0,none⟩) 1 1 1 [na] (fun l hl=>by rw[La1.1 hl];exact lna) J dE) (fun w h=>⟨SeesP.of (Ap h Z1),SeesP.of (Ap h Z0)⟩) ?_;refine G4 ?_;refine G2 ?_;refine Az (out:=[]) (Ah J J) Aj ?_;exact⟨rfl,rfl⟩
end Go.Proofs.YtpogmfngccolbaaGreat
namespace Go.Proofs.YtpogmfngccolbaaGreat
open Go Go.ChangeShapes Go.WideShapes Go.ChangeAt Go.RowKit
theorem ownLNams:ownKnob Tryz.prog.godebug=none:=by kernel_rfl
theorem walkLNam(w:World):Calls Tryz.prog 11 #[] w fun e w'=>e= .returned (.bool true)∧Below w.heap.size w w':=
  (law_linearnames w trivial).mono fun e w' ⟨v,out,he,⟨hv,ho⟩,hr⟩=>⟨by rw[he,hv],Hw.Keeps.below hr.keeps⟩
theorem liftedLNam(os:Os)(started:os.Started)(H:Type)(enc:TypeId×Value→H):
    ReturnsInHanded {} Tryz.checked os 11 .any (Rows.linearNamesSpec.pre6 enc Tryz.prog Tryz.f11 Rows.linearNamesRow.domain false) (Rows.linearNamesSpec.post enc Tryz.prog Tryz.f11 false true false false):=by
  refine returnsInHanded_of_change (C:=Tryz.checked) ownLNams started (by kernel_rfl) Tryz.func11
    (ChangeSpec.witness6 (enc:=enc) (C:=Tryz.checked) false ⟨#[], #[],[]⟩ 8 (by kernel_rfl) (by kernel_rfl) (by kernel_rfl) (by kernel_rfl)) ?_
  intro W base args ds gs before hval0 hW hcnd _;have hW':=hW;obtain⟨p,q,hA0,hV,rfl,hfz,hnd⟩:=hW;have hA:DataW.TrodAll enc Tryz.prog W 0 (fun _=>true) true Tryz.f11.params.toList args.toList ds p:=hA0;rw[Tryz.params11]at hA;obtain⟨hargs,rfl,rfl⟩:=trodAll_nil hA;obtain rfl:args= #[]:=by cases args;simp_all
  obtain⟨rfl,rfl⟩:=trodVars_none hV;clear hA0 hval0;refine(walkLNam W).mono fun e W' ⟨he,bel⟩=>?_;subst he;exact⟨_,rfl,_,_,_,[],_,[],hW',trodAll_mk1 (shut_bool Tryz.underlying4 _),trodAll_mk0,rfl,bel.frame _,fun h=>by cases h⟩
theorem linearNames_holds:Rows.LinearNamesSaid:=
  OpenClaim.holds_of_wide 11 Tryz.f11 rfl rfl rfl rfl rfl rfl rfl ⟨rfl,rfl,rfl,rfl,rfl⟩ rfl rfl rfl rfl rfl (by kernel_rfl) Tryz.func11 closedLNam
    (of_decide_eq_true (by kernel_rfl)) (by unfold Func.isWrapper;first|(rw[if_pos (by decide+kernel)];kernel_rfl)|(rw[if_neg (by decide+kernel)];exact⟨rfl,rfl⟩))
    (fun os started H enc _=>liftedLNam os started H enc)
end Go.Proofs.YtpogmfngccolbaaGreat
end
