/- Contracts of functions of the loaded program, and the lemmas that they need (part 6). It proves no statement by itself; it has no conditions. -/
import Derived.WalkKit
import Derived.Orders
import Derived.Deep.LoopGhost
import Derived.IntWalk
import Derived.Laws.StructEq
import Derived.ArgAppend
import Derived.Deep.AppendSrc
import Derived.Lib.Bytealg
import Derived.Lib.BytesEntry
import Derived.Laws.IdiomStrings
import Derived.WideKeyArr2
import Derived.ProofKit
import Derived.OpenShut
import Derived.Deep.Slices
import Derived.Laws.Pointers
import Derived.Laws.Cover3
import Derived.LaidEqlPtr
import Derived.LoopN
import Derived.RangeFuncLeaves
import Derived.RangeFuncSeq
import Derived.OrdersIn
import Derived.Maps.Keyed
import Derived.Maps.RangeRun
import Derived.DeepKeys4
import Derived.Below
import Derived.Test.YtpogmfngccolbaaGreatRows
import Derived.KernelRfl
import Derived.Laws.Externs
import Derived.Defers
import Derived.Laws.MathBits
import Derived.Shelf.SlSortCmp.WholeK
import Derived.Shelf.SlGeneric
import Derived.Test.YtpogmfngccolbaaGreatProg
import Derived.Shelf.SlSortCmp.NoneTotal
import Derived.Deep.QuietTactic
import Derived.BigQuiet
import Derived.ScopeJumps
import Derived.DeepKeys3
import Derived.ChangeOld
import Derived.JoinedOf
import Derived.Test.YtpogmfngccolbaaGreatLChX5
set_option maxRecDepth 100000
set_option maxHeartbeats 8000000
set_option linter.unusedVariables false
set_option linter.unusedSimpArgs false
set_option linter.unusedSectionVars false
set_option linter.unnecessarySimpa false
section
namespace Go.Proofs.YtpogmfngccolbaaGreat
open Go Hw _root_.Go.Proofs.Tryz
noncomputable def PD.add(X:PD)(D:DB):PD×List (List UInt8)×Int:=
  if dgood D=0 then
    (if((Am X.orp (A2 D)).isSome||(Am X.P (A2 D)).isSome)=true then(X,[],8)
     else if Bq X.P D=2 then(X,[],4)
     else if Bq X.P D=0 then(if 64≤X.orp.length then(X,[],7)else({ X with orp:=Bh X.orp (A2 D) D },[],0))
     else((PD.settle (X.adm (A2 D) D).orp.length (X.adm (A2 D) D)).1,A2 D::(PD.settle (X.adm (A2 D) D).orp.length (X.adm (A2 D) D)).2,0))
  else(X,[],dgood D)
variable{B:Block}{D:DB}{X:PD}{al o:List Blk}{p:Nat}{w:World}{x:DD}
theorem add_bad(h:¬dgood D=0):X.add D=(X,[],dgood D):=if_neg h
theorem add_there(h:dgood D=0)(h2:((Am X.orp (A2 D)).isSome||(Am X.P (A2 D)).isSome)=true):X.add D=(X,[],8):=by unfold PD.add;rw[if_pos h,if_pos h2]
theorem add_wrong(h:dgood D=0)(h2:((Am X.orp (A2 D)).isSome||(Am X.P (A2 D)).isSome)=false)(h3:Bq X.P D=2):X.add D=(X,[],4):=by unfold PD.add;rw[if_pos h,if_neg (by rw[h2];decide),if_pos h3]
theorem add_full(h:dgood D=0)(h2:((Am X.orp (A2 D)).isSome||(Am X.P (A2 D)).isSome)=false)(h3:Bq X.P D=0)(h4:64≤X.orp.length):X.add D=(X,[],7):=by unfold PD.add;rw[if_pos h,if_neg (by rw[h2];decide),if_neg oM,if_pos h3,if_pos h4]
theorem add_keep(h:dgood D=0)(h2:((Am X.orp (A2 D)).isSome||(Am X.P (A2 D)).isSome)=false)(h3:Bq X.P D=0)(h4:¬64≤X.orp.length):X.add D=({ X with orp:=Bh X.orp (A2 D) D },[],0):=by unfold PD.add;rw[if_pos h,if_neg (by rw[h2];decide),if_neg oM,if_pos h3,if_neg h4]
theorem add_fits(h:dgood D=0)(h2:((Am X.orp (A2 D)).isSome||(Am X.P (A2 D)).isSome)=false)(h3:Bq X.P D=1):
    X.add D=((PD.settle (X.adm (A2 D) D).orp.length (X.adm (A2 D) D)).1,A2 D::(PD.settle (X.adm (A2 D) D).orp.length (X.adm (A2 D) D)).2,0):=by unfold PD.add;rw[if_pos h,if_neg (by rw[h2];decide),if_neg oM,if_neg oM]
theorem good_check(h:dgood D=0):D.check=0:=by
  unfold dgood at h;split at h
  ·assumption
  ·exact h
def DD.hold(x:DD)(o:List Blk):DD:={ x with cb:=x.cb++o }
theorem DD.ok.hold(h:x.ok)(o:List Blk):(x.hold o).ok:={ h with
  ent:=fun p hp=>⟨(h.ent p hp).1,(h.ent p hp).2.1.more fun b hb=>Lak _ hb,(h.ent p hp).2.2⟩
  orp:=fun p hp=>⟨(h.orp p hp).1,(h.orp p hp).2.1.more fun b hb=>Lak _ hb,(h.orp p hp).2.2⟩ }
def DD.wait(x:DD)(n:List UInt8)(B:Block)(D:DB)(o:List Blk):DD:={ x with orp:=Bh x.orp n (B,D),cb:=x.cb++o }
theorem DD.ok.wait(h:x.ok){n:List UInt8}(h32:n.length=32)(hB:SameB B D)(hi:∀W2,Lies o W2→BlockIs W2 B D)(hl:D.ls.length≤16)(hroom:x.names.length+x.orp.length<20000)(hfew:¬64≤x.orp.length):(x.wait n B D o).ok:={ h with
  orpn:=by
    have:=mput_len x.orp n (B,D);show(Bh x.orp n (B,D)).length≤64;omega
  big:=by
    have:=mput_len x.orp n (B,D);show x.names.length+(Bh x.orp n (B,D)).length≤20000;omega
  ent:=fun p hp=>⟨(h.ent p hp).1,(h.ent p hp).2.1.more fun b hb=>Lak _ hb,(h.ent p hp).2.2⟩
  orp:=fun p hp=>by
    rcases mput_mem hp with hp|rfl
    ·exact⟨(h.orp p hp).1,(h.orp p hp).2.1.more fun b hb=>Lak _ hb,(h.orp p hp).2.2⟩
    ·exact⟨h32,⟨hB,fun W hW=>hi W (hW.sub fun b hb=>Lav _ hb)⟩,hl⟩ }
theorem wait_pl(x:DD)(n:List UInt8)(B:Block)(D:DB)(o:List Blk):(x.wait n B D o).pl= { x.pl with orp:=Bh x.pl.orp n D }:=by
  unfold DD.pl DD.wait;simp only;rw[mput_map (fun b:BV=>b.2)];rfl
def AddR(x:DD)(p:Nat)(D:DB)(al:List Blk)(v:Value)(out:List Blk):Prop:=∃(x':DD) (s:Sl) (bl:List Blk),v= .tuple #[s.v,i64 (x.pl.add D).2.2]∧out=x'.blks p++(bl++al)∧x'.ok∧Hw.Acc s bl (As (x.pl.add D).2.1) 34 (x.pl.add D).2.1.length 32∧(∀n∈(x.pl.add D).2.1,n.length=32)∧x'.pl=(x.pl.add D).1∧x'.names.length+x'.orp.length≤x.names.length+x.orp.length+1
def SetF(x0:DD)(p:Nat)(s:Sl)(out:List Blk):Prop:=∃(x:DD) (bl:List Blk),out=x.blks p++bl∧x.ok∧Hw.Acc s bl (As (PD.settle x0.orp.length x0.pl).2) 34 (PD.settle x0.orp.length x0.pl).2.length 32∧x.names.length+x.orp.length≤x0.names.length+x0.orp.length∧x.pl=(PD.settle x0.orp.length x0.pl).1
def SetL(x0:DD)(p:Nat)(v:Value)(out:List Blk):Prop:=∃s:Sl,v=s.v∧s.n=(PD.settle x0.orp.length x0.pl).2.length∧(s.p=none→s.n=0)∧(PD.settle x0.orp.length x0.pl).2.length≤20000∧(∀n∈(PD.settle x0.orp.length x0.pl).2,n.length=32)∧∀W2,Lies out W2→SetF x0 p s out
theorem settle_len:∀(f:Nat) (X:PD),(PD.settle f X).2.length≤f
  |0,X=>Lah _
  | f +1,X=>by
    unfold PD.settle;cases X.first with
    |none=>exact Laq _
    | some n=>
      simp only;split
      ·simpa using settle_len f _
      ·exact Nat.le_succ_of_le (settle_len f _)
theorem settle_32:∀(f:Nat) (X:PD),(∀p∈X.orp,p.1.length=32)→∀n∈(PD.settle f X).2,n.length=32
  |0,X,_,n,h=>by cases h
  | f + 1,X,hX,n,h=>by
    unfold PD.settle at h;cases hf:X.first with
    |none=>rw[hf]at h;cases h
    | some m=>
      have hd:∀p∈(X.drop1 m).orp,p.1.length=32:=fun p hp=>hX p (mdel_mem hp);rw[hf]at h;simp only at h;split at h
      · rcases Lan.1 h with rfl|h
        · have:=Lfr hf
          obtain⟨q,hq,e⟩:=La6.1 ((isort_perm _).mem_iff.1 this);rw[←e];exact hX q hq
        ·exact settle_32 f _ (by exact hd) n h
      ·exact settle_32 f _ hd n h
theorem there_eq(x:DD)(n:List UInt8):((Am x.pl.orp n).isSome||(Am x.pl.P n).isSome)=((Am x.orp n).isSome||(Am x.ent n).isSome):=by
  rw[x.getO,show x.pl.P=x.P from rfl,x.getP,Lfk,Lfk]
theorem addR_err{e:Int}(hx:x.ok)(h:x.pl.add D=(x.pl,[],e)):AddR x p D al (.tuple #[.slice none 0 0,i64 e]) (x.blks p++al):=by
  unfold AddR;rw[h];exact⟨x,Sl.nil,[],rfl,rfl,hx,Acc.none,(fun n (h:n∈([]:List (List UInt8)))=>(by cases h)),rfl,Nat.le_succ _⟩
theorem addR_keep(hx:x.ok)(hB:SameB B D)(hi:∀W2,Lies o W2→BlockIs W2 B D)(hl:D.ls.length≤16)(hroom:x.names.length+x.orp.length<20000)(hfew:¬64≤x.orp.length)
    (h:x.pl.add D=({ x.pl with orp:=Bh x.pl.orp (A2 D) D },[],0)):AddR x p D al (.tuple #[.slice none 0 0,i64 0]) ((x.wait (A2 D) B D o).blks p++al):=by
  unfold AddR;rw[h];refine⟨x.wait (A2 D) B D o,Sl.nil,[],rfl,rfl,hx.wait (nameD_length D) hB hi hl hroom hfew,Acc.none,(fun n (h:n∈([]:List (List UInt8)))=>(by cases h)),wait_pl ..,?_⟩;have:=mput_len x.orp (A2 D) (B,D);show x.names.length+(Bh x.orp (A2 D) (B,D)).length≤_;omega
theorem addR_fits{x x2 x3:DD}{al bl3 bl:List Blk}{s:Sl}(hplx:x2.pl=x.pl.adm (A2 D) D)(hol:x2.names.length+x2.orp.length=x.names.length+x.orp.length+1)(hx2:x2.ok)(hx3:x3.ok)(hn3:x3.names.length+x3.orp.length≤x2.names.length+x2.orp.length)(hpl3:x3.pl=(PD.settle x2.orp.length x2.pl).1)
    (h32:∀n∈(PD.settle x2.orp.length x2.pl).2,n.length=32) (hac:Hw.Acc s bl (Aa (A2 D)++As (PD.settle x2.orp.length x2.pl).2) 34 (1+(PD.settle x2.orp.length x2.pl).2.length) 32)
    (h:x.pl.add D=((PD.settle (x.pl.adm (A2 D) D).orp.length (x.pl.adm (A2 D) D)).1,A2 D::(PD.settle (x.pl.adm (A2 D) D).orp.length (x.pl.adm (A2 D) D)).2,0)):AddR x p D al (.tuple #[s.v,i64 0]) (x3.blks p++(bl++al)):=by
  have e:(x.pl.adm (A2 D) D).orp.length=x2.orp.length:=by rw[←hplx];show(x2.orp.map _).length=_;rw[La0]
  rw[e,←hplx]at h;unfold AddR;rw[h];refine⟨x3,s,bl,rfl,rfl,hx3,?_,?_,hpl3,by omega⟩
  · show Hw.Acc s bl (As (A2 D::_)) 34 (A2 D::_).length 32
    rw[Lax,Led];have e2:∀l:List (List UInt8),As (A2 D::l)=Aa (A2 D)++As l:=fun l=>by simp[As]
    rw[e2];exact hac
  · intro n hn
    rcases Lan.1 hn with rfl|hn
    ·exact nameD_length D
    ·exact h32 n hn
theorem dag_settleL(x0:DD)(hx0:x0.ok)(p:Nat):Meets prog 102 [ptr p 0] ((x0.blks p).map (·.n)) (fun W=>Lent (x0.blks p) W) (SetL x0 p):=
  (dag_settle x0 hx0 p).imp (fun w h=>h) fun v out ⟨x,s,bl,l,h1,h2,h3,h4,h5,h6,h7,h8,h9⟩=>by
    subst h9;exact⟨s,h1,h4.num,h4.nil,by have:=hx0.big;omega,h5,fun W2 _=>⟨x,bl,h2,h3,h4,h6,h8⟩⟩
theorem no_lieU{n:Nat}(h:Lies [⟨n,[undef],0,0⟩] w):False:=by
  exact lie_none h
theorem SetL.loose(x0:DD)(hx0:x0.ok)(p:Nat)(lent:List Nat):LooseL lent (SetL x0 p):=fun l hl _=>by
  obtain⟨n,_,hn⟩:=fresh_is 0 l;have h32:∀q∈x0.pl.orp,q.1.length=32:=fun q hq=>by
    obtain⟨r,hr,rfl⟩:=La6.1 hq;exact(hx0.orp r hr).1
  refine⟨_,[⟨n,[undef],0,0⟩],⟨⟨some ⟨0,0,none⟩,(PD.settle x0.orp.length x0.pl).2.length,0⟩,rfl,rfl,(fun e=>by cases e),by have:=settle_len x0.orp.length x0.pl;have:=hx0.big;omega,settle_32 _ _ h32,fun W2 h=>(no_lieU h).elim⟩,?_⟩;simp only[Lch,Las,Lb6];exact⟨fun h=>by obtain⟨b,hb,e⟩:=La6.1 h;exact hn b hb e,hl⟩
theorem dag_add(x:DD)(hx:x.ok)(p:Nat)(B:Block)(D:DB)(al:List Blk)(hB:Held al B D)(hroom:x.names.length+x.orp.length<20000):Meets prog 41 [ptr p 0,agg B.cells] ((x.blks p++al).map (·.n)) (fun W=>Lent (x.blks p++al) W) (AddR x p D al):=by
 intro W hW;have hbig:=hx.big;have hbd:=hB.2 W (hW.1.sub (fun b hb=>Lav _ hb));have hn32:=nameD_length D;generalize hlt:(x.blks p++al).map (·.n)=lt;have AGR:AddR x p D al=AddR x p D al:=rfl;refine calls_of (hp0:=(x.blks p++al)) func41 J 65 ntmps41 J (hlt▸hW.rep) (G2 ?_);simp only[DD.blks,Lam,Lad,Lab];refine G1 ?_;intro n3 hn3 hf3;refine G8 ?_;refine .cV J J J J Body96 (dag_valid x p) (fun w h=>DagSee.of h Z1 Z2) ?_;refine G3 ?_;refine .cond_f J J (G5 ?_);refine .lA J J J Y50.h J Sz50 Z0 (Block.length (by exact hB.1.ok)) ?_;refine .cV J J J J Body97 (db_good B D hB.1.ok) (fun w h=>hB.2 w (Lies.of h (by repeat(first|exact in_all|refine A4 ?_|refine Be ?_)))) ?_;refine G9 ?_;refine .condNP J (fun hc1=>?_) (fun hc1=>?_)
 ·
  refine G7 ?_;skip;refine G3 ?_;refine Ay (out:=(⟨p,[ptr p 0,x.nm.v, .map (some x.bE), .map (some x.bH), .map (some x.bO), .map (some x.bP), .map (some x.bW)],136,7⟩::(A3 x.bE (Ao 32 evE) x.ent::(A3 x.bH (Ao 32 evU) x.hds::(A3 x.bO (Ao 32 evB) x.orp::(A3 x.bP (placeT 32 evR) x.pls::(A3 x.bW (Ao 32 evR) x.wrs::(x.nb++(x.cb++(rbl x.pls++(rbl x.wrs++(al++[])))))))))))) (B5 J J J) (Ab rM (Ab rM (Ab rM (Ab rM (Ab rM (Ab rM (Ac sG (Ac sG (Ac sG (Ac sG (Ac (by repeat(first|exact sg_end|apply sg_there)) Ae))))))))))) ?_;have h9:=addR_err (p:=p) (al:=al) hx (add_bad hc1);simp only[DD.blks,DD.wait,Lam,Lad,Lau,Lab]at h9 ⊢;exact h9
 have hgd:dgood D=0:=by omega
 have hck:=good_check hgd;obtain⟨hs1,hs2⟩:=D.head_small hck;refine G4 ?_;refine .lA J J J Y50.h J Sz50 Z0 (Block.length (by exact hB.1.ok)) ?_;refine .cV J J J J Body98 (db_name B D) (fun w h=>hB.2 w (Lies.of h (by repeat(first|exact in_all|refine A4 ?_|refine Be ?_)))) ?_;refine .alloc (cs:=(Aa (List.replicate 32 0))) J Cc J ?_;intro n7 hn7 hf7;refine .sA J J J J zE Sz34 (by(rw[Aa,La0];assumption)) Z0 sP zU ?_;refine G4 ?_;refine .draw (oP [0,1,2,103,104,105,6,7,8,209,410,11]) Ar zK (G4 ?_);refine .lA J J J Y34.h J Sz34 Z0 (by(rw[Aa,La0];assumption)) ?_;refine .lookF evB MO J J J J hn32 (by exact mem5) (fun hg=>?_) (fun e hg=>?_)
 ·
  skip;refine G3 ?_;refine .alloc (cs:=Block.zero.cells) J Block.zr J ?_;intro n8 hn8 hf8;refine G9 ?_;refine .lA J J J Y34.h J Sz34 Z1 (by(rw[Aa,La0];assumption)) ?_;refine .cV J J J J Body79 (dag_has x hx p (A2 D) hn32) (fun w h=>DagSee.of h Z3 Z4) ?_;refine G3 ?_;refine .cond J (fun hc2=>?_) (fun hc2=>?_)
  ·
   refine G6 ?_;skip;refine G3 ?_;refine Ay (out:=(⟨p,[ptr p 0,x.nm.v, .map (some x.bE), .map (some x.bH), .map (some x.bO), .map (some x.bP), .map (some x.bW)],136,7⟩::(A3 x.bE (Ao 32 evE) x.ent::(A3 x.bH (Ao 32 evU) x.hds::(A3 x.bO (Ao 32 evB) x.orp::(A3 x.bP (placeT 32 evR) x.pls::(A3 x.bW (Ao 32 evR) x.wrs::(x.nb++(x.cb++(rbl x.pls++(rbl x.wrs++(al++[])))))))))))) (B5 J J J) (Ab rM (Ab rM (Ab rM (Ab rM (Ab rM (Ab rM (Ac sG (Ac sG (Ac sG (Ac sG (Ac (by repeat(first|exact sg_end|apply sg_there)) Ae))))))))))) ?_;have h9:=addR_err (p:=p) (al:=al) hx (add_there hgd (by rw[there_eq,hg,hc2];rfl));simp only[DD.blks,DD.wait,Lam,Lad,Lau,Lab]at h9 ⊢;exact h9
  refine G6 ?_;refine .lA J J J Y50.h J Sz50 Z2 (Block.length (by exact hB.1.ok)) ?_;refine .cV J J J J Body99 (dag_judge x hx p B D hB.1 oM) (fun w h=>⟨DagSee.of h Z3 Z4,hB.2 w (Lies.of h (by repeat(first|exact in_all|refine A4 ?_|refine Be ?_)))⟩) ?_;refine G9 ?_;refine .condP J (fun hc3=>?_) (fun hc3=>?_)
  ·
   refine G6 ?_;skip;refine G4 ?_;refine Ay (out:=(⟨p,[ptr p 0,x.nm.v, .map (some x.bE), .map (some x.bH), .map (some x.bO), .map (some x.bP), .map (some x.bW)],136,7⟩::(A3 x.bE (Ao 32 evE) x.ent::(A3 x.bH (Ao 32 evU) x.hds::(A3 x.bO (Ao 32 evB) x.orp::(A3 x.bP (placeT 32 evR) x.pls::(A3 x.bW (Ao 32 evR) x.wrs::(x.nb++(x.cb++(rbl x.pls++(rbl x.wrs++(al++[])))))))))))) (B5 J J J) (Ab rM (Ab rM (Ab rM (Ab rM (Ab rM (Ab rM (Ac sG (Ac sG (Ac sG (Ac sG (Ac (by repeat(first|exact sg_end|apply sg_there)) Ae))))))))))) ?_;have h9:=addR_err (p:=p) (al:=al) hx (add_wrong hgd (by rw[there_eq,hg,hc2];rfl) hc3);simp only[DD.blks,DD.wait,Lam,Lad,Lau,Lab]at h9 ⊢;exact h9
  refine G6 ?_;refine .condP J (fun hc4=>?_) (fun hc4=>?_)
  ·
   refine G7 ?_;refine .lenMap Y132.h J J J (by exact mem6) ?_;refine G3 ?_;refine .condP J (fun hc5=>?_) (fun hc5=>?_)
   ·
    refine G6 ?_;skip;refine G5 ?_;refine Ay (out:=(⟨p,[ptr p 0,x.nm.v, .map (some x.bE), .map (some x.bH), .map (some x.bO), .map (some x.bP), .map (some x.bW)],136,7⟩::(A3 x.bE (Ao 32 evE) x.ent::(A3 x.bH (Ao 32 evU) x.hds::(A3 x.bO (Ao 32 evB) x.orp::(A3 x.bP (placeT 32 evR) x.pls::(A3 x.bW (Ao 32 evR) x.wrs::(x.nb++(x.cb++(rbl x.pls++(rbl x.wrs++(al++[])))))))))))) (B5 J J J) (Ab rM (Ab rM (Ab rM (Ab rM (Ab rM (Ab rM (Ac sG (Ac sG (Ac sG (Ac sG (Ac (by repeat(first|exact sg_end|apply sg_there)) Ae))))))))))) ?_;have h9:=addR_err (p:=p) (al:=al) hx (add_full hgd (by rw[there_eq,hg,hc2];rfl) hc4 (by show 64≤(x.orp.map _).length;rw[La0];omega));simp only[DD.blks,DD.wait,Lam,Lad,Lau,Lab]at h9 ⊢;exact h9
   refine G3 ?_;refine .draw (oP [0,1,2,103,104,105,306,407]) Ar zK (G4 ?_);refine .lA J J J Y34.h J Sz34 Z1 (by(rw[Aa,La0];assumption)) ?_;refine .lA J J J Y50.h J Sz50 Z2 (Block.length (by exact hB.1.ok)) ?_;refine .call J J J J Body100 (dag_clone B D hB.1 oM oM) (BlkV.loose D hbd.dok) (fun w h=>hB.2 w (Lies.of h (by repeat(first|exact in_all|refine A4 ?_|refine Be ?_)))) ?_;rintro v54 out54 ⟨B2,hB2,rfl,hbi⟩;refine .mapPut (v:=((B2,D):BV)) MO J J J J J hn32 rM ?_;refine G8 ?_;skip;refine G4 ?_;refine Ay (out:=(⟨p,[ptr p 0,x.nm.v, .map (some x.bE), .map (some x.bH), .map (some x.bO), .map (some x.bP), .map (some x.bW)],136,7⟩::(A3 x.bE (Ao 32 evE) x.ent::(A3 x.bH (Ao 32 evU) x.hds::(A3 x.bO (Ao 32 evB) (Bh x.orp (A2 D) (B2,D))::(A3 x.bP (placeT 32 evR) x.pls::(A3 x.bW (Ao 32 evR) x.wrs::(x.nb++(x.cb++(out54++(rbl x.pls++(rbl x.wrs++(al++[]))))))))))))) (B5 J J J) (Ab rM (Ab rM (Ab rM (Ab rM (Ab rM (Ab rM (Ac sG (Ac sG (Ac sG (Ac sG (Ac sG (Ac (by repeat(first|exact sg_end|apply sg_there)) Ae)))))))))))) ?_;have h9:=addR_keep (p:=p) (al:=al) hx hB2 hbi oM hroom oM (add_keep hgd (by rw[there_eq,hg,hc2];rfl) hc4 (by show ¬64≤(x.orp.map _).length;rw[La0];omega));simp only[DD.blks,DD.wait,Lam,Lad,Lau,Lab]at h9 ⊢;exact h9
  refine G3 ?_;refine .join (ι:=Unit×DD) (fun j=>⟨[(0,ptr p 0),(7,ptr n7 0)],(⟨n7,Aa (A2 D),34,32⟩::(⟨p,[ptr p 0,j.2.nm.v, .map (some j.2.bE), .map (some j.2.bH), .map (some j.2.bO), .map (some j.2.bP), .map (some j.2.bW)],136,7⟩::(A3 j.2.bE (Ao 32 evE) j.2.ent::(A3 j.2.bH (Ao 32 evU) j.2.hds::(A3 j.2.bO (Ao 32 evB) j.2.orp::(A3 j.2.bP (placeT 32 evR) j.2.pls::(A3 j.2.bW (Ao 32 evR) j.2.wrs::(j.2.nb++(j.2.cb++(rbl j.2.pls++(rbl j.2.wrs++(al++[]))))))))))))⟩) (fun j=>j.2.ok∧j.2.pl=x.pl.adm (A2 D) D∧j.2.names.length=x.names.length+1∧j.2.orp.length=x.orp.length) ?_ ?_
  ·
   refine .draw (oP [0,101,102,303,404]) Ar zK (G1 ?_);refine .lA J J J Y34.h J Sz34 Z1 (by(rw[Aa,La0];assumption)) ?_;refine .lA J J J Y50.h J Sz50 Z2 (Block.length (by exact hB.1.ok)) ?_;refine .call J J J J Body100 (dag_clone B D hB.1 oM oM) (BlkV.loose D hbd.dok) (fun w h=>hB.2 w (Lies.of h (by repeat(first|exact in_all|refine A4 ?_|refine Be ?_)))) ?_;rintro v58 out58 ⟨B2,hB2,rfl,hbi⟩;refine .callL (L:=((x.hold out58).blks p)) J J J J J Body101 (dag_admit2 (x.hold out58) (hx.hold out58) p (A2 D) hn32 B2 D ⟨hB2,fun W hW=>hbi W (hW.sub fun b hb=>Lav _ hb)⟩ oM hroom) (Ab rM (Ab rM (Ab rM (Ab rM (Ab rM (Ab rM (Ac sG (pm_two (Ac sG (Ac sG (Ac sG (Ac sG Ae)))))))))))) (lent_ok J) (fun w h=>Lent.of h (Ab rM (Ab rM (Ab rM (Ab rM (Ab rM (Ab rM (Ac sG (pm_two (Ac sG (Ac sG (Ac sG (Ac sG Ae))))))))))))) ?_;rintro v59 out59 ⟨rfl,x2,rfl,hx2,hplx,hnlx,holx⟩;simp only[DD.blks,Lam,Lad,Lab];refine G2 ?_;exact⟨((),x2),⟨hx2,hplx,hnlx,holx⟩,Ah wN (Ab rM (Ab rM (Ab rM (Ab rM (Ab rM (Ab rM (Ab rM (Ac sG (Ac sG (Ac sG (Ac sG (Ac (by repeat(first|exact sg_end|apply sg_there)) Ae))))))))))))⟩
  intro j hj;obtain⟨j0,x2⟩:=j;simp only at hj ⊢;obtain⟨hx2,hplx,hnlx,holx⟩:=hj;refine .seq (.withK (sp_k (sp_v (sp_v (sp_v (sp_v (sp_v (sp_v (sp_x (sp_x (sp_x (sp_x (sp_x sp_n)))))))))))) J (.draw (oP [0,2,503,201,404,5,6]) Ar zK (.kloadAll J J J Y34.h J Sz34 Z0 (by(rw[Aa,La0];assumption)) ?_)));refine G1 ?_;refine .callL5 (L:=(x2.blks p)) J J J J J Body102 (dag_settleL x2 hx2 p) (SetL.loose x2 hx2 p _) (Ab rM (Ab rM (Ab rM (Ab rM (Ab rM (Ab rM (Ac sG (Ac sG (Ac sG (Ac sG Ae)))))))))) (lent_ok J) (fun w h=>Lent.of h (Ab rM (Ab rM (Ab rM (Ab rM (Ab rM (Ab rM (Ac sG (Ac sG (Ac sG (Ac sG Ae))))))))))) ?_;rintro v63 out63 ⟨⟨p63,n63,c63⟩,rfl,hn63,hnil63,hle63,h3263,hsf⟩;refine .mkRow2 (z:=agg (Aa (List.replicate 32 0))) [agg (Aa (A2 D))] (Aa (A2 D)) J J Y30.h Sz34 Cc J J (by intro v hv;rw[La1.1 hv];simp[Value.cells,Aa,hn32]) dE (by simp[Value.cells,agg]) ?_;intro q61;refine .appendAcc (n:=1) (z:=agg (Aa (List.replicate 32 0))) (by':=32) (As (PD.settle x2.orp.length x2.pl).2) J J J J J Y30.h Y30.h Sz34 Cc (by unfold By;kernel_rfl) J (Acc.some (cells:=Aa (A2 D)) (Lah 1) (by rw[Aa,La0,hn32])) (pm_consE rM J (by rw[Aa,La0,hn32]) Ae) (fun w h=>by have hL:Lies out63 w:=Lies.of h (by repeat(first|exact An|refine A4 ?_));obtain⟨x3,bl3,e3,hx3,hac3,hr3⟩:=hsf w hL;exact hac3.see (hL.sub (fun b hb=>by rw[e3];exact Lav _ hb))) hnil63 (flatB_cell _) oM oM (by rw[Aw h3263,←hn63]) ?_;intro s64 bl64 hac64;refine G4 ?_;simp only[Lam,Lad,Lau,Lab];refine .know (fun w h=>hsf w (Lies.of h (by repeat(first|exact An|refine Be ?_)))) (fun hF=>?_);obtain⟨x3,bl3,rfl,hx3,hac3,hr3,hpl3⟩:=hF;simp only[DD.blks,Lam,Lad,Lab];refine G2 ?_;refine Ay (out:=(⟨p,[ptr p 0,x3.nm.v, .map (some x3.bE), .map (some x3.bH), .map (some x3.bO), .map (some x3.bP), .map (some x3.bW)],136,7⟩::(A3 x3.bE (Ao 32 evE) x3.ent::(A3 x3.bH (Ao 32 evU) x3.hds::(A3 x3.bO (Ao 32 evB) x3.orp::(A3 x3.bP (placeT 32 evR) x3.pls::(A3 x3.bW (Ao 32 evR) x3.wrs::(x3.nb++(x3.cb++(rbl x3.pls++(rbl x3.wrs++(bl64++(al++[]))))))))))))) (B5 J J J) (Ab (by repeat(first|exact A5|apply Bu)) (Ab (by repeat(first|exact A5|apply Bu)) (Ab (by repeat(first|exact A5|apply Bu)) (Ab (by repeat(first|exact A5|apply Bu)) (Ab (by repeat(first|exact A5|apply Bu)) (Ab (by repeat(first|exact A5|apply Bu)) (Ac (by repeat(first|exact B4|apply Cf)) (Ac (by repeat(first|exact B4|apply Cf)) (Ac (by repeat(first|exact B4|apply Cf)) (Ac (by repeat(first|exact B4|apply Cf)) (Ac sG (Ac (by repeat(first|exact B4|apply Cf)) Ae)))))))))))) ?_
  have h9:=addR_fits (p:=p) (al:=al) (bl3:=bl3) hplx oM hx2 hx3 hr3 hpl3 h3263 (by rw[←hn63];exact hac64) (add_fits hgd (by rw[there_eq,hg,hc2];rfl) (by rcases judge_cases x.P D with h8|h8|h8<;>first|exact h8|exact absurd h8 zA));simp only[DD.blks,DD.wait,Lam,Lad,Lau,Lab]at h9 ⊢;exact h9
 skip;refine G3 ?_;refine .alloc (cs:=Block.zero.cells) J Block.zr J ?_;intro n8 hn8 hf8;refine .sA J J J J (Block.isCell (by exact hx.orpOk hg)) Sz50 (Block.length (by exact hx.orpOk hg)) Z0 (Block.length (by exact Block.zero_ok)) zU ?_;refine G13 ?_;refine .cond_t J J (G6 ?_);skip;refine G3 ?_;refine Ay (out:=(⟨p,[ptr p 0,x.nm.v, .map (some x.bE), .map (some x.bH), .map (some x.bO), .map (some x.bP), .map (some x.bW)],136,7⟩::(A3 x.bE (Ao 32 evE) x.ent::(A3 x.bH (Ao 32 evU) x.hds::(A3 x.bO (Ao 32 evB) x.orp::(A3 x.bP (placeT 32 evR) x.pls::(A3 x.bW (Ao 32 evR) x.wrs::(x.nb++(x.cb++(rbl x.pls++(rbl x.wrs++(al++[])))))))))))) (B5 J J J) (Ab rM (Ab rM (Ab rM (Ab rM (Ab rM (Ab rM (Ac sG (Ac sG (Ac sG (Ac sG (Ac (by repeat(first|exact sg_end|apply sg_there)) Ae))))))))))) ?_;have h9:=addR_err (p:=p) (al:=al) hx (add_there hgd (by rw[there_eq,hg];rfl));simp only[DD.blks,DD.wait,Lam,Lad,Lau,Lab]at h9 ⊢;exact h9
theorem DD.m0(x:DD)(p:Nat):(⟨p,[ptr p 0,x.nm.v, .map (some x.bE), .map (some x.bH), .map (some x.bO), .map (some x.bP), .map (some x.bW)],136,7⟩:Blk)∈x.blks p:=by unfold DD.blks;exact La8
theorem DD.mE(x:DD)(p:Nat):A3 x.bE (Ao 32 evE) x.ent∈x.blks p:=by unfold DD.blks;exact mem1
theorem DD.mcb(x:DD)(p:Nat):∀b∈x.cb,b∈x.blks p:=by unfold DD.blks;exact(by repeat(first|exact An|refine A4 ?_|refine Be ?_))
theorem DD.mnb(x:DD)(p:Nat):∀b∈x.nb,b∈x.blks p:=by unfold DD.blks;exact(by repeat(first|exact An|refine A4 ?_))
theorem DagSee.lies{W:World}(h:Lies (x.blks p) W):DagSee x p W:=⟨h _ (x.m0 p),h _ (x.mE p)⟩
theorem Ce{C:Cx}{hp L:List Blk}(h:Lies L C.W0)(hh:HRep C hp w)(hl:C.lent=[]:=by rfl):Lies L w:=fun b hb=>mblk_keep (h b hb) hh hl
theorem keys_put{ν:Type}(fs:List (List UInt8×ν))(k:List UInt8)(v:ν)(n:List UInt8):n∈(Bh fs k v).map (·.1)↔n∈fs.map (·.1)∨n=k:=by
  have key:∀j,midx fs k=some j→(fs.set j (k,v)).map (·.1)=fs.map (·.1)∧k∈fs.map (·.1):=fun j h=>by
    unfold midx at h;rw[Lbq]at h;obtain⟨hl,he,_⟩:=h;have e:fs[j].1=k:=by simpa using he
    refine⟨?_,La6.2 ⟨fs[j],Lce hl,e⟩⟩;rw[Lee];refine Lcz fun i=>?_;rw[Ld4];split
    · rename_i hij
      subst hij;rw[if_pos (by simpa using hl),Laf,La3 hl];simp[e]
    ·rfl
  unfold Bh;cases h:midx fs k with
  | some j=>
    simp only;rw[(key j h).1];exact⟨.inl,fun h2=>by rcases h2 with h2|rfl;exact h2;exact(key j h).2⟩
  |none=>simp only[Lae,Las,Lej,La9,La1]
end Go.Proofs.YtpogmfngccolbaaGreat
namespace Go.Proofs.YtpogmfngccolbaaGreat
open Go Hw Ed
def affX(n:Nat):Nat:=force (fastN n) fun s=>ux s*pwm PF 256 (uz s%PF) (PF-2)%PF
def affY(n:Nat):Nat:=force (fastN n) fun s=>uy s*pwm PF 256 (uz s%PF) (PF-2)%PF
theorem fast_at{n X Y:Nat}(hn:n<2^256)(hx:affX n=X)(hy:affY n=Y):cv.mul n bP=⟨fe X,fe Y⟩:=by
  refine fastN_pt hn ?_ ?_
  ·rw[←hx,affX,force_eq,fe_mod,fe_mul];rfl
  ·rw[←hy,affY,force_eq,fe_mod,fe_mul];rfl
end Go.Proofs.YtpogmfngccolbaaGreat
namespace Go.Proofs.YtpogmfngccolbaaGreat
open Go Hw _root_.Go.Proofs.Tryz
open Ed
def PD.new:PD:=⟨[],[],[],[],[],[],[]⟩
end Go.Proofs.YtpogmfngccolbaaGreat
namespace Go.Proofs.YtpogmfngccolbaaGreat
open Go Hw _root_.Go.Proofs.Tryz
section
variable{κ ν:Type}[DecidableEq κ]
variable{fs:List (κ×ν)}{k:κ}
theorem mget_cons(k:κ)(v:ν)(fs:List (κ×ν))(n:κ):Am ((k,v)::fs) n=if k=n then some v else Am fs n:=by
  unfold Am;rw[List.find?_cons];by_cases h:k=n<;>simp[h]
theorem mget_no(h:Am fs k=none):∀p∈fs,p.1≠k:=fun p hp e=>by
  obtain⟨v,hv⟩:=C5 (fs:=fs) (La6.2 ⟨p,hp,e⟩);rw[h]at hv;cases hv
theorem mput_app(h:Am fs k=none)(v:ν):Bh fs k v=fs++[(k,v)]:=by
  unfold Bh;rw[midx_none (mget_no h)]
theorem mget_app(fs:List (κ×ν))(k:κ)(v:ν)(n:κ):Am (fs++[(k,v)]) n=if(Am fs n).isSome then Am fs n else if k=n then some v else none:=by
  induction fs with
  |nil=>rw[Lad,mget_cons];rfl
  | cons p fs ih=>
    obtain⟨a,b⟩:=p;rw[Lam,mget_cons,mget_cons,ih];by_cases h:a=n<;>simp[h]
theorem mget_new(h:Am fs k=none)(v:ν):Am (Bh fs k v) k=some v:=by rw[mput_app h,mget_app,h];simp
theorem mget_old(h:Am fs k=none)(v:ν){n:κ}(hn:k≠n):Am (Bh fs k v) n=Am fs n:=by
  rw[mput_app h,mget_app];cases Am fs n<;>simp[hn]
theorem mdel_head(k:κ)(v:ν)(fs:List (κ×ν)):mdel ((k,v)::fs) k=fs:=by
  have h:midx ((k,v)::fs) k=some 0:=by unfold midx;rw[List.findIdx?_cons];simp
  unfold mdel;rw[h];rfl
end
section
theorem ofNat_ne{i:Nat}(h:i<66):UInt64.ofNat (i+1)≠0:=fun e=>by
  have:=congrArg UInt64.toNat e;simp at this;omega
end
variable{D:DB}{L st:List (List UInt8)}{X:PD}{a b c:Block}{above:Int}{ms:List (List UInt8×Unit)}{n prev:List UInt8}{x:DD}{α κ ν:Type}{fs:List (κ×ν)}{l:List α}
theorem cons_of{n:Nat}(h:l.length=n+1):∃a t,l=a::t∧t.length=n:=by
  cases l with
  |nil=>cases h
  |cons a t=>exact⟨a,t,rfl,by simpa using h⟩
theorem build_sp(s:UInt64)(prev:List UInt8)(h:prev.length=32)(w:World):(Instr.build 50 #[(1,u64 s),(2,agg (Aa prev))]).run prog w= .ok (agg ({ Block.zero with fSeq:=s,fPrev:=prev }:Block).cells) w:=by
  iterate 32 (obtain⟨a,l,e,h2⟩:=cons_of h;clear h;subst e;have h:=h2;clear h2)
  obtain rfl:=Lag h
  (refine Eq.trans ?_ rfl;kernel_rfl)
def tri(a b c:Block):List Value:=a.cells++(b.cells++(c.cells++[]))
theorem tri_0(ha:a.ok):((tri a b c).drop 0).take 131=a.cells:=by
  rw[tri,Lep,Lcd (by rw[Block.length ha];omega),La5 (by rw[Block.length ha];omega)]
theorem tri_1(ha:a.ok)(hb:b.ok):((tri a b c).drop 131).take 131=b.cells:=by
  have h1:=Block.length ha;rw[tri,Ldf oM,Lai oM,Lad,Lcd (by rw[Block.length hb];omega),La5 (by rw[Block.length hb];omega)]
theorem tri_2(ha:a.ok)(hb:b.ok)(hc:c.ok):((tri a b c).drop 262).take 131=c.cells:=by
  have h1:=Block.length ha;have h2:=Block.length hb;have e:(tri a b c)=(a.cells++b.cells)++(c.cells++[]):=by rw[tri,Lab]
  rw[e,Ldf (by rw[La2];omega),Lai (by rw[La2];omega),Lad,Lau,La5 (by rw[Block.length hc];omega)]
theorem sp_is(W:World)(s:UInt64)(h:prev.length=32):BlockIs W ({ Block.zero with fSeq:=s,fPrev:=prev }:Block) { DB.zero with seq:=s,prev:=prev }:=⟨⟨rfl,h,rfl⟩,rfl,rfl,rfl,(zero_is W).ls,(zero_is W).ds,rfl⟩
theorem sp_ok(s:UInt64)(h:prev.length=32):({ Block.zero with fSeq:=s,fPrev:=prev }:Block).ok:=⟨rfl,h,rfl⟩
theorem new_ok(bE bH bO bP bW:Nat):(⟨Sl.nil,[],[],[],[],[],[],[],[],bE,bH,bO,bP,bW⟩:DD).ok:=⟨Acc.none,fun l h=>(by cases h),Laq _,Laq _,fun p h=>(by cases h),Laq _,fun p h=>(by cases h),Laq _,fun p h=>(by cases h),fun p h=>(by cases h),fun p h=>(by cases h)⟩
theorem dag_new2:Meets prog 77 [] [] (fun _=>True) (fun v out=>∃(p:Nat) (x:DD),v=ptr p 0∧out=x.blks p∧x.ok∧x.pl=PD.new∧x.names.length+x.orp.length=0):=
  dag_new.imp (fun w h=>h) fun v out ⟨p,bE,bH,bO,bP,bW,h1,h2⟩=>⟨p,_,h1,h2,new_ok ..,rfl,rfl⟩
theorem Held.at{B:Block}(h:Held [] B D)(W:World):BlockIs W B D:=h.2 W (fun b hb=>by cases hb)
theorem pm_in0{hp l R:List Blk}{x:Blk}(h:hp.Perm ((x::l)++R)):hp.Perm (([x]++l)++R):=h
theorem dag_names(x:DD)(hx:x.ok)(p:Nat):Meets prog 110 [ptr p 0] [] (fun W=>Lies (x.blks p) W) (RowA x.pl.names):=by
 intro W hW;refine Ad func110 J 11 ntmps110 J (G9 ?_);refine .cV J J J J Body96 (dag_valid x p) (fun w h=>DagSee.ext h (DagSee.lies hW)) (G3 ?_);refine .cond_f J J (G7 ?_);refine .loadE J J J Y30.h J sP ((DagSee.lies hW).at (o:=1) J) (.call4 J J J J J Body81 (cl_digs x.nm x.names (by have:=hx.nm.num;have:=hx.big;omega)) (fun w h=>acc_rows hx.nm ((Ce hW h).sub (x.mnb p)) hx.n32 J (by have:=hx.nm.num;have:=hx.big;omega)) ?_);rintro v10 out10 ⟨s10,rfl,hac⟩;have hn10:=hx.nm.num;rw[hn10]at hac;refine G3 ?_;refine G2 ?_;refine Ay (out:=(out10++[])) (Af J J) (Ac sG Ae) ?_;refine⟨s10,rfl,?_⟩;rw[Lau];exact hac
inductive PD.Reach(X:PD)(above:Int)(L:List (List UInt8)):List UInt8→Prop
  |base {n:List UInt8} {D:DB} (h:n∈L) (hP:Am X.P n=some D) (hd:above<(Am X.dep n).getD 0):Reach X above L n
  |step {m n:List UInt8} {D E:DB} (h:Reach X above L m) (hP:Am X.P m=some D) (hn:n∈Bi D) (hE:Am X.P n=some E) (hd:above<(Am X.dep n).getD 0):Reach X above L n
def PD.Edge(X:PD)(L:List (List UInt8))(ms:List (List UInt8×Unit))(n:List UInt8):Prop:=n∈L∨∃m D,m∈ms.map (·.1)∧Am X.P m=some D∧n∈Bi D
def cntW:List (List UInt8×DB)→List (List UInt8×Unit)→Nat
  | [],_=>0
  |p::P,ms=>(if(Am ms p.1).isSome=true then 0 else 1)+cntW P ms
theorem put_some(h:Am ms n=none)(k:List UInt8):(Am (Bh ms n ()) k).isSome=(decide (n=k)||(Am ms k).isSome):=by
  by_cases e:n=k
  ·subst e;rw[mget_new h];simp
  ·rw[mget_old h _ e];simp[e]
theorem cnt_le{ms:List (List UInt8×Unit)}{n:List UInt8}(h:Am ms n=none):∀P:List (List UInt8×DB),cntW P (Bh ms n ())≤cntW P ms
  | []=>Lah _
  | p ::P=>by
    have ih:=cnt_le h P;have h1:(if(decide (n=p.1)||(Am ms p.1).isSome)=true then 0 else 1)≤(if(Am ms p.1).isSome=true then 0 else 1):=by
      cases(Am ms p.1).isSome<;>cases decide (n=p.1)<;>decide
    rw[cntW,cntW,put_some h];omega
theorem cnt_put{ms:List (List UInt8×Unit)}{n:List UInt8}(h:Am ms n=none):∀P:List (List UInt8×DB),n∈P.map (·.1)→cntW P (Bh ms n ())+1≤cntW P ms
  | [],hn=>by cases hn
  | p ::P,hn=>by
    have hle:=cnt_le h P;rw[cntW,cntW,put_some h];by_cases e:n=p.1
    · rw[←e,h,decide_eq_true rfl,if_pos (by rfl),if_neg sP]
      omega
    · have hn2:n∈P.map (·.1):=by
        rcases Lan.1 hn with h3|h3
        ·exact absurd h3 e
        ·exact h3
      have ih:=cnt_put h P hn2;rw[decide_eq_false e,Lh7];omega
theorem cnt_nil:∀P:List (List UInt8×DB),cntW P []=P.length
  | []=>rfl
  | p::P=>by
    have h:Am ([]:List (List UInt8×Unit)) p.1=none:=rfl;rw[cntW,cnt_nil P,h,Lax];simp;omega
structure WalkI(X:PD)(above:Int)(L:List (List UInt8))(ms:List (List UInt8×Unit))(st:List (List UInt8)):Prop where
  r32:∀q∈ms,q.1.length=32
  s32:∀n∈st,n.length=32
  nd:(ms.map (·.1)).Nodup
  snd:∀n∈ms.map (·.1),X.Reach above L n
  sub:∀n∈st,X.Edge L ms n
  cov:∀n,X.Edge L ms n→n∈st∨n∈ms.map (·.1)∨Am X.P n=none∨(Am X.dep n).getD 0≤above
  cnt:ms.length+cntW X.P ms≤X.P.length
  len:st.length+17*cntW X.P ms≤L.length+17*X.P.length
theorem WalkI.start(X:PD)(above:Int)(h:∀n∈L,n.length=32):WalkI X above L [] L where
  r32:=fun q hq=>by cases hq
  s32:=h
  nd:=Ld3
  snd:=fun n hn=>by cases hn
  sub:=fun n hn=> .inl hn
  cov:=fun n hn=>by
    rcases hn with hn|⟨m,D,hm,_⟩
    ·exact .inl hn
    ·cases hm
  cnt:=by rw[cnt_nil];exact Ld9 (Lb0 _)
  len:=by rw[cnt_nil];exact Lah _
theorem WalkI.pass(h:WalkI X above L ms (st++[n]))(hn:n∈ms.map (·.1)∨Am X.P n=none∨(Am X.dep n).getD 0≤above):WalkI X above L ms st:={ h with
  s32:=fun m hm=>h.s32 m (Lak _ hm)
  sub:=fun m hm=>h.sub m (Lak _ hm)
  cov :=fun m hm=>by
    rcases h.cov m hm with h1|h1
    · rcases La9.1 h1 with h2|h2
      ·exact .inl h2
      ·rw[La1.1 h2];exact .inr hn
    ·exact .inr h1
  len:=by have:=h.len;rw[La2,Lap]at this;omega }
theorem keys_in(h:Am X.P n=some D):n∈X.P.map (·.1):=La6.2 ⟨(n,D),Bk h,rfl⟩
theorem WalkI.meet(h:WalkI X above L ms (st++[n]))(hm:Am ms n=none)(hP:Am X.P n=some D)(hd:above<(Am X.dep n).getD 0)(hpar:∀l∈Bi D,l.length=32)(h17:(Bi D).length≤17):WalkI X above L (Bh ms n ()) (st++Bi D) where
  r32:=fun q hq=>by
    rcases mput_mem hq with hq|rfl
    ·exact h.r32 q hq
    ·exact h.s32 n (Lav _ (La1.2 rfl))
  s32:=fun m hm2=>by
    rcases La9.1 hm2 with h1|h1
    ·exact h.s32 m (Lak _ h1)
    ·exact hpar m h1
  nd:=mput_nodup h.nd n ()
  snd :=fun m hm2=>by
    rcases(keys_put ms n () m).1 hm2 with h1|rfl
    ·exact h.snd m h1
    · rcases h.sub m (Lav _ (La1.2 rfl))with h1|⟨k,E,hk,hE,hn⟩
      ·exact .base h1 hP hd
      ·exact .step (h.snd k hk) hE hn hP hd
  sub :=fun m hm2=>by
    rcases La9.1 hm2 with h1|h1
    · rcases h.sub m (Lak _ h1)with h2|⟨k,E,hk,hE,hn⟩
      ·exact .inl h2
      ·exact .inr ⟨k,E,(keys_put ms n () k).2 (.inl hk),hE,hn⟩
    ·exact .inr ⟨n,D,(keys_put ms n () n).2 (.inr rfl),hP,h1⟩
  cov :=fun m hm2=>by
    have old:X.Edge L ms m→m∈st++Bi D∨m∈(Bh ms n ()).map (·.1)∨Am X.P m=none∨(Am X.dep m).getD 0≤above:=fun he=>by
      rcases h.cov m he with h1|h1|h1
      · rcases La9.1 h1 with h2|h2
        ·exact .inl (Lak _ h2)
        ·exact .inr (.inl ((keys_put ms n () m).2 (.inr (La1.1 h2))))
      ·exact .inr (.inl ((keys_put ms n () m).2 (.inl h1)))
      ·exact .inr (.inr h1)
    rcases hm2 with h1|⟨k,E,hk,hE,hn⟩
    ·exact old (.inl h1)
    · rcases(keys_put ms n () k).1 hk with h1|rfl
      ·exact old (.inr ⟨k,E,h1,hE,hn⟩)
      · rw[hP]at hE
        rw[←Lev hE]at hn;exact .inl (Lav _ hn)
  cnt:=by
    have h1:=h.cnt;have h2:=cnt_put hm X.P (keys_in hP);have h3:=mput_len ms n ();omega
  len:=by
    have h1:=h.len;have h2:=cnt_put hm X.P (keys_in hP);rw[La2,Lap]at h1;rw[La2];omega
theorem WalkI.fin(h:WalkI X above L ms [])(n:List UInt8):n∈ms.map (·.1)↔X.Reach above L n:=by
  refine⟨h.snd n,fun hr=>?_⟩;have key:∀ {n D},X.Edge L ms n→Am X.P n=some D→above<(Am X.dep n).getD 0→n∈ms.map (·.1):=fun {n D} he hP hd=>by
    rcases h.cov n he with h1|h1|h1|h1
    ·cases h1
    ·exact h1
    ·rw[hP]at h1;cases h1
    ·omega
  induction hr with
  |base h1 hP hd=>exact key (.inl h1) hP hd
  |step h1 hP hn hE hd ih=>exact key (.inr ⟨_,_,ih,hP,hn⟩) hE hd
theorem DD.getDep(x:DD)(k:List UInt8):Am x.pl.dep k=(Am x.ent k).map (fun e=>e.1.fDepth):=mget_map (fun e:EV=>e.1.fDepth) x.ent k
theorem DD.atP{e:EV}(h:Am x.ent n=some e):Am x.pl.P n=some e.2∧(Am x.pl.dep n).getD 0=e.1.fDepth:=⟨by rw[show x.pl.P=x.P from rfl,x.getP,h];rfl,by rw[x.getDep,h];rfl⟩
theorem DD.noP(h:Am x.ent n=none):Am x.pl.P n=none:=by rw[show x.pl.P=x.P from rfl,x.getP,h];rfl
theorem mget_keys(h:Am ms n=some ()):n∈ms.map (·.1):=La6.2 ⟨(n,()),Bk h,rfl⟩
def WalkR(X:PD)(above:Int)(L:List (List UInt8))(v:Value)(out:List Blk):Prop:=∃(m:Nat) (ms:List (List UInt8×Unit)),v= .map (some m)∧out=[A3 m (Ao 32 evU) ms]∧WalkI X above L ms []
theorem sees_last{w:World}{b:Nat}{kk:List UInt8}(h:∀l∈st++[kk],l.length=32)(hs:C6 w b 0 (As (st++[kk]))):C6 w b (0+st.length*32) (Aa kk):=by
  have:=B3 h hs (k:=st.length) sP;simpa[La4]using this
theorem dag_walk(x:DD)(hx:x.ok)(h16:∀p∈x.P,p.2.ls.length≤16)(p:Nat)(s0:Sl)(L:List (List UInt8))(hL:s0.n≤90000)(above:Int):Meets prog 146 [ptr p 0,s0.v,i64 above] [] (fun W=>Lies (x.blks p) W∧RowsAt W s0 32 L) (WalkR x.pl above L):=by
 intro W hW;have hlies:=hW.1;have hd:=DagSee.lies hW.1;have hbig:=hx.big;have hen:=hx.entn;have hPl:x.pl.P.length=x.ent.length:=by show(x.ent.map _).length=_;rw[La0]
 have hL2:=hW.2.len;refine Ad func146 J 66 ntmps146 J (G7 ?_);refine .mkMap (Ao 32 evU) J J ?_;intro m14;refine G6 ?_;refine .call4 J J J J J Body81 (cl_digs s0 L hL) (fun w h=>rows_ext h J hW.2) ?_;rintro v16 out16 ⟨s16,rfl,hac16⟩;have hn16:=hac16.num;refine G5 ?_;refine .loop (ι:=List (List UInt8×Unit)×List (List UInt8)×Sl×List Blk) (fun r=>⟨[(0,ptr p 0),(2,i64 above),(7, .map (some m14)),(8,r.2.2.1.v)],(A3 m14 (Ao 32 evU) r.1::(r.2.2.2++[]))⟩) (fun r=>WalkI x.pl above L r.1 r.2.1∧Hw.Acc r.2.2.1 r.2.2.2 (As r.2.1) 34 r.2.1.length 32) (fun r=>r.2.1.length+18*cntW x.pl.P r.1) (([],L,s16,out16)) ?_ ?_ ?_
 ·exact⟨WalkI.start x.pl above hW.2.row,(by simp only;rw[hL2];exact hac16)⟩
 ·exact Ah wN (Ab (by repeat(first|exact A5|apply Bu)) (Ac sG Ae))
 rintro⟨ms,st,sl,bl⟩ ⟨hI,hac⟩;simp only at hI hac ⊢;have hsn:=hac.num;refine G8 ?_;refine .condP J (fun hc0=>?_) (fun hc0=>?_)
 ·
  have hpos:0<st.length:=by omega
  obtain⟨st2,kk,rfl⟩:=snoc_of hpos;have hlen:(st2++[kk]).length=st2.length+1:=by simp
  have hmx:=hI.len;obtain⟨NN,hNN⟩:∃NN,NN=(st2++[kk]).length:=⟨_,rfl⟩;rw[←hNN]at hac;have h32k:kk.length=32:=hI.s32 kk sP;have hlast:=fun(w:World) (b:Nat)=>sees_last (w:=w) (b:=b) hI.s32;rcases hac with ⟨_,_,_,h0⟩|⟨qr,cr,rfl,hnc,hfl,rfl⟩
  ·exfalso;omega
  refine G9 ?_;refine .idxSlP 32 J J J J J Y30.h Sz34 st2.length (by show(NN:Int)-1=(st2.length:Int);omega) (by show st2.length<NN;omega) ?_;refine .loadSN (n:=32) (Aa kk) J J J Y34.h J Sz34 (by rw[Aa,La0];exact h32k) (fun w h=>hlast w qr (Ap h Z1)) ?_;refine .alloc (cs:=(Aa (List.replicate 32 0))) J Cc J ?_;intro n9 hn9 hf9;refine .sA J J J J zE Sz34 (by(simp[h32k];done)) Z0 sP zU ?_;refine G8 ?_;refine .sliceHiA ⟨some ⟨qr,0,none⟩,NN,cr⟩ st2.length J J J J (by show(NN:Int)-1=(st2.length:Int);omega) (by show st2.length≤cr;omega) Y30.h Sz34 ?_;refine G4 ?_;rw[Bo];refine .trunc (q:=qr) rM ?_;have hacn:Hw.Acc ⟨some ⟨qr,0,none⟩,st2.length,cr⟩ [⟨qr,As st2,34,cr*32⟩] (As st2) 34 st2.length 32:=Acc.some oM (Aw (fun l hl=>hI.s32 l (Lak _ hl)));refine .draw (oP [0,1,2,103,104,105,6,7,8,209,410,11]) Ar zK (G3 ?_);refine .loadE J J J Y131.h J sP (hd.at (o:=2) J) (.lA J J J Y34.h J Sz34 Z1 (by(simp[h32k];done)) ?_);refine .lookFC evE ME hd.2 sP J J J J h32k (fun hg=>?_) (fun e hg=>?_)
  ·
   skip;refine G3 ?_;refine .alloc (cs:=DEnt.zero.cells) J DEnt.zr J ?_;intro n10 hn10 hf10;refine G8 ?_;refine .lA J J J Y34.h J Sz34 Z2 (by(simp[h32k];done)) ?_;refine .lookF evU MH J J J J h32k Z3 (fun hg2=>?_) (fun e2 hg2=>?_)
   ·
    skip;refine G3 ?_;refine .alloc (cs:=[]) J Zr145 J ?_;intro n12 hn12 hf12;refine .sA J J J J zB Sz145 sP Z0 sP zU ?_;refine G18 ?_;refine .cond_t J J (G4 ?_)
    (refine⟨(ms,st2,⟨some ⟨qr,0,none⟩,st2.length,cr⟩,[⟨qr,As st2,34,cr*32⟩]),⟨hI.pass (by exact .inr (.inl (DD.noP hg))),hacn⟩,(by simp only[La2,Lap];omega),?_⟩;exact Ah wN (Ab rM (pm_in0 (Ab rM Ae))))
   skip;refine G3 ?_;refine .alloc (cs:=[]) J Zr145 J ?_;intro n12 hn12 hf12;refine .sA J J J J zB Sz145 sP Z0 sP zU ?_;refine G18 ?_;refine .cond_t J J (G4 ?_)
   (refine⟨(ms,st2,⟨some ⟨qr,0,none⟩,st2.length,cr⟩,[⟨qr,As st2,34,cr*32⟩]),⟨hI.pass (by exact .inl (mget_keys hg2)),hacn⟩,(by simp only[La2,Lap];omega),?_⟩;exact Ah wN (Ab rM (pm_in0 (Ab rM Ae))))
  have hP:=(DD.atP hg).1;have hdp:=(DD.atP hg).2;have h16e:e.2.ls.length≤16:=h16 _ (La6.2 ⟨_,Bk hg,rfl⟩);have h17:(Bi e.2).length≤17:=by have:=parL_len e.2;omega
  have hprow:=parL_row ((hx.ent _ (Bk hg)).2.1.2 W (hlies.sub (x.mcb p))).dok;refine G3 ?_;refine .alloc (cs:=DEnt.zero.cells) J DEnt.zr J ?_;intro n10 hn10 hf10;refine .sA J J J J (DEnt.isCell (by exact hx.entOk hg)) Sz164 (DEnt.length (by exact hx.entOk hg)) Z0 (DEnt.length (by exact DEnt.zero_ok)) zU ?_;refine G7 ?_;refine .lA J J J Y34.h J Sz34 Z2 (by(simp[h32k];done)) ?_;refine .lookF evU MH J J J J h32k Z3 (fun hg2=>?_) (fun e2 hg2=>?_)
  ·
   skip;refine G3 ?_;refine .alloc (cs:=[]) J Zr145 J ?_;intro n12 hn12 hf12;refine .sA J J J J zB Sz145 sP Z0 sP zU ?_;refine G12 ?_;refine .load1 J J J Y3.h J Z1 (DEnt.get_fDepth (hx.entOk hg)) ?_;refine G5 ?_;refine .condP J (fun hc1=>?_) (fun hc1=>?_)
   ·
    refine G4 ?_
    (refine⟨(ms,st2,⟨some ⟨qr,0,none⟩,st2.length,cr⟩,[⟨qr,As st2,34,cr*32⟩]),⟨hI.pass (by exact .inr (.inr (by rw[(DD.atP hg).2];omega))),hacn⟩,(by simp only[La2,Lap];omega),?_⟩;exact Ah wN (Ab rM (pm_in0 (Ab rM Ae))))
   refine G5 ?_;refine .lA J J J Y34.h J Sz34 Z3 (by(simp[h32k];done)) ?_;refine .build (cs:=[]) J J J (fun w=>by kernel_rfl) ?_;refine .mapPut (v:=()) MH J J J J J h32k rM ?_;refine G5 ?_;refine .lN (Block.cells _) J J J Y50.h J Sz50 Z2 (DEnt.row_fBlock (by exact hx.entOk hg)) (DEnt.rl_fBlock (by exact hx.entOk hg)) ?_;refine .call4 J J J J J Body116 (db_parA e.1.fBlock e.2 oM) (fun w h=>(hx.ent _ (Bk hg)).2.1.2 w ((Ce hlies h).sub (x.mcb p))) ?_;rintro v63 out63 ⟨⟨p63,n63,c63⟩,rfl,hac63⟩;have hn63:n63=(Bi e.2).length:=hac63.num;refine .appendAcc (n:=st2.length) (z:=agg (Aa (List.replicate 32 0))) (by':=32) (As (Bi e.2)) J J J J J Y30.h Y30.h Sz34 Cc (by unfold By;kernel_rfl) J hacn rM (fun w h=>hac63.see (Lies.of h (by repeat(exact An)))) (fun e=>hac63.nil e) (flatB_cell _) (by show st2.length+n63≤1000000;omega) (by show(st2.length+n63)*32≤140737488355328;omega) (by rw[Aw hprow,←hn63]) ?_;intro s64 bl64 hac64;refine G4 ?_
   (refine⟨(Bh ms kk (),st2++Bi e.2,s64,bl64),⟨hI.meet hg2 hP (by rw[hdp];omega) hprow h17,by simp only;rw[Bo,La2,←hn63];exact hac64⟩,(by have:=cnt_put hg2 x.pl.P (keys_in hP);simp only[La2,Lap];omega),?_⟩;exact Ah wN (Ab (by repeat(first|exact A5|apply Bu)) (Ac sG Ae)))
  skip;refine G3 ?_;refine .alloc (cs:=[]) J Zr145 J ?_;intro n12 hn12 hf12;refine .sA J J J J zB Sz145 sP Z0 sP zU ?_;refine G18 ?_;refine .cond_t J J (G4 ?_)
  (refine⟨(ms,st2,⟨some ⟨qr,0,none⟩,st2.length,cr⟩,[⟨qr,As st2,34,cr*32⟩]),⟨hI.pass (by exact .inl (mget_keys hg2)),hacn⟩,(by simp only[La2,Lap];omega),?_⟩;exact Ah wN (Ab rM (pm_in0 (Ab rM Ae))))
 obtain rfl:st=[]:=Lag oM;refine G11 ?_;refine G2 ?_;refine Ay (out:=(A3 m14 (Ao 32 evU) ms::[])) (Af J J) (Ab rM Ae) ?_;exact⟨m14,ms,rfl,rfl,hI⟩
theorem WalkR.keys{ks:List (List UInt8)}(h:WalkI X above L ms [])(hp:ks.Perm (ms.map (·.1))):ks.Nodup∧∀n,n∈ks↔X.Reach above L n:=⟨hp.nodup_iff.2 h.nd,fun n=>hp.mem_iff.trans (h.fin n)⟩
def ClosR(X:PD)(L:List (List UInt8))(v:Value)(out:List Blk):Prop:=
  (∃n∈L,Am X.P n=none)∧v= .tuple #[.slice none 0 0,i64 6]∧out=[]
  ∨(∀n∈L,(Am X.P n).isSome=true)∧∃(s:Sl) (ks:List (List UInt8)),v= .tuple #[s.v,i64 0]∧Hw.Acc s out (As ks) 34 ks.length 32∧SortB ks∧ks.Nodup∧∀n,n∈ks↔X.Reach (-1) L n
theorem has_P(x:DD)(n:List UInt8):(Am x.pl.P n).isSome=(Am x.ent n).isSome:=by rw[show x.pl.P=x.P from rfl,x.getP,Lfk]
theorem dag_closure(x:DD)(hx:x.ok)(h16:∀p∈x.P,p.2.ls.length≤16)(p:Nat)(s0:Sl)(L:List (List UInt8))(hL:s0.n≤90000):Meets prog 88 [ptr p 0,s0.v] [] (fun W=>Lies (x.blks p) W∧RowsAt W s0 32 L) (ClosR x.pl L):=by
  intro W hW;have hlies:=hW.1;have hd:=DagSee.lies hW.1;have hbig:=hx.big;have hen:=hx.entn;have hPl:x.pl.P.length=x.ent.length:=by show(x.ent.map _).length=_;rw[La0]
  have hL2:=hW.2.len;refine Ad func88 J 26 ntmps88 J (G10 ?_);refine .cV J J J J Body96 (dag_valid x p) (fun w h=>hd.ext h) (G3 ?_);refine .cond_f J J (G11 ?_);refine .loop (ι:=Nat) (fun k=>⟨[(0,ptr p 0),(1,s0.v),(11,s0.v),(12,i64 (s0.n:Int)),(13,i64 (k:Int))],[]⟩) (fun k=>k≤s0.n∧∀j,j<k→(Am x.pl.P (L.getD j [])).isSome=true) (fun k=>s0.n-k) (0) ?_ ?_ ?_
  ·exact⟨Laq _,fun j hj=>by omega⟩
  ·exact Ah wN Ae
  rintro k ⟨hk,hall⟩;refine G6 ?_;refine .condP J (fun hc1=>?_) (fun hc1=>?_)
  ·
    have hk2:k<s0.n:=by omega
    refine G6 ?_;obtain⟨kk,hkk⟩:∃kk,kk=L.getD k []:=⟨_,rfl⟩;have h32k:kk.length=32:=by rw[hkk,La4,La3 oM];exact hW.2.row _ (Lce oM)
    obtain⟨b0,o0,hs0,hsee0⟩:=hW.2.see.at (by rw[show(L.map Aa).flatten=As L from rfl,Aw hW.2.row];omega);refine .idxSlP 32 J J J hs0 J Y30.h Sz34 k J oM (.loadSN (n:=32) (Aa kk) J J J Y34.h J Sz34 (by rw[Aa,La0];exact h32k) (fun w h=>by rw[hkk];exact B3 hW.2.row (fun j v hj=>h.keeps.cell (p:=⟨b0,o0+j,none⟩) sP (hsee0 j v hj)) oM) ?_);refine .alloc (cs:=(Aa (List.replicate 32 0))) J Cc J ?_;intro n7 hn7 hf7;refine .sA J J J J zE Sz34 (by(simp[h32k];done)) Z0 sP zU ?_;refine G5 ?_;refine .lA J J J Y34.h J Sz34 Z0 (by(simp[h32k];done)) ?_;refine .cV J J J J Body79 (dag_has x hx p kk h32k) (fun w h=>hd.ext h) (G3 ?_);refine .cond J (fun hc2=>?_) (fun hc2=>?_)
    ·
      refine G6 ?_;refine G7 ?_;refine Ay (out:=[]) (B5 J J J) Ae (.inl ⟨⟨kk,?_,?_⟩,rfl,rfl⟩)
      · rw[hkk,La4,La3 oM]
        exact Lce oM
      · cases h9:Am x.ent kk with
        |none=>exact DD.noP h9
        |some e=>rw[h9]at hc2;simp at hc2
    refine G8 ?_;exact⟨k+1,⟨by omega,fun j hj=>by rcases Lgr (Lgw hj)with h|h;exact hall j h;rw[h,←hkk,has_P];simpa using hc2⟩,by omega,Ah wN Ae⟩
  have hke:k=s0.n:=by omega
  refine G9 ?_;refine .call4 J J J J J Body146 (dag_walk x hx h16 p s0 L hL (-1)) (fun w h=>⟨Ce hlies h,rows_ext h J hW.2⟩) ?_;rintro v24 out24 ⟨m24,ms,rfl,rfl,hI⟩;have hmc:=hI.cnt;refine .call4 J J J J J Body145 (dag_sortedU MH m24 ms hI.r32 oM) (fun w h=>h.cells _ Z0) ?_;rintro v25 out25 ⟨s25,ks,hkp,hks,rfl,hac⟩;have hwk:=WalkR.keys hI hkp;refine G4 ?_;refine G2 ?_;refine Ay (out:=(out25++[])) (B5 J J J) (Ac sG Ae) ?_;refine .inr ⟨fun n hn=>?_,s25,ks,rfl,by simpa using hac,hks,hwk.1,hwk.2⟩;obtain⟨j,hj,rfl⟩:=Lb7 hn;have h9:=hall j oM;rwa[La4,La3 hj]at h9
theorem mem_erase_nd(h:l.Nodup){j:Nat}(hj:j<l.length)(n:α):n∈l.eraseIdx j↔n≠l[j]∧n∈l:=by
  rw[Ld6,La9];have e:l=l.take j++l[j]::l.drop (j+1):=by rw[←Lbj hj,Lc0]
  generalize hx:l[j]=x at*;have h2:=h;rw[e]at h2;obtain⟨h3,h4,h5⟩:=Lay.1 h2;have h6:=(Lb6.1 h4).1;constructor
  · rintro(h1|h1)
    ·exact⟨fun e2=>h5 n h1 x La8 e2,Lb9 h1⟩
    ·exact⟨fun e2=>h6 (e2▸h1),Lcn h1⟩
  · rintro⟨h1,h7⟩
    rw[e,La9,Lan]at h7;rcases h7 with h7|h7|h7
    ·exact .inl h7
    ·exact absurd h7 h1
    ·exact .inr h7
theorem map_erase{α β:Type}(f:α→β)(l:List α)(j:Nat):(l.eraseIdx j).map f=(l.map f).eraseIdx j:=by
  rw[Ld6,Ld6,Lae,Lbp,Lek]
theorem mdel_keys[DecidableEq κ](hn:(fs.map (·.1)).Nodup)(k n:κ):n∈(mdel fs k).map (·.1)↔n∈fs.map (·.1)∧n≠k:=by
  unfold mdel;cases h:midx fs k with
  | none=>
    refine⟨fun h1=>⟨h1,fun e=>?_⟩,fun h1=>h1.1⟩;unfold midx at h;rw[Ldy]at h;obtain⟨p,hp,e2⟩:=La6.1 h1;have:=h p hp;simp[e2,e]at this
  | some j=>
    unfold midx at h;rw[Lbq]at h;obtain⟨hj,he,_⟩:=h;have e:fs[j].1=k:=by simpa using he
    have hj2:j<(fs.map (·.1)).length:=by rw[La0];exact hj
    have e2:(fs.map (·.1))[j]=k:=by rw[Lfu];exact e
    show n∈(fs.eraseIdx j).map (·.1)↔_;rw[map_erase,mem_erase_nd hn hj2,e2];exact⟨fun h=>⟨h.2,h.1⟩,fun h=>⟨h.2,h.1⟩⟩
theorem delL_keys:∀(L:List (List UInt8)) {hds:List (List UInt8×Unit)},(hds.map (·.1)).Nodup→((delL hds L).map (·.1)).Nodup∧∀n,n∈(delL hds L).map (·.1)↔n∈hds.map (·.1)∧n∉L
  | [],hds,hn=>⟨hn,fun n=>by simp[delL]⟩
  | k ::L,hds,hn=>by
    have ih:=delL_keys L (mdel_nodup hn k);have e:delL hds (k::L)=delL (mdel hds k) L:=rfl;rw[e];refine⟨ih.1,fun n=>?_⟩;rw[ih.2,mdel_keys hn,Lan];constructor
    · rintro⟨⟨h1,h2⟩,h3⟩
      exact⟨h1,fun h=>by rcases h with h|h;exact h2 h;exact h3 h⟩
    · rintro⟨h1,h2⟩
      exact⟨⟨h1,fun h=>h2 (.inl h)⟩,fun h=>h2 (.inr h)⟩
theorem key_some[DecidableEq κ]{n:κ}:n∈fs.map (·.1)↔∃v,Am fs n=some v:=⟨C5,fun⟨v,h⟩=>La6.2 ⟨(n,v),Bk h,rfl⟩⟩
theorem key_none[DecidableEq κ]{n:κ}(h:n∉fs.map (·.1)):Am fs n=none:=by
  cases h2:Am fs n with
  |none=>rfl
  |some v=>exact absurd (key_some.2 ⟨v,h2⟩) h
theorem foldP_ge(dep:List (List UInt8×Int)):∀(L:List (List UInt8)) (d:Int),d≤L.foldl (stepP dep) d∧∀m∈L,(Am dep m).getD 0<L.foldl (stepP dep) d
  | [],d=>⟨Int.le_refl d,fun m hm=>by cases hm⟩
  | k::L,d=>by
    have ih:=foldP_ge dep L (stepP dep d k);have h1:d≤stepP dep d k∧(Am dep k).getD 0<stepP dep d k:=by unfold stepP;split<;>omega
    refine⟨Int.le_trans h1.1 ih.1,fun m hm=>?_⟩;rcases Lan.1 hm with rfl|hm
    ·exact Int.lt_of_lt_of_le h1.2 ih.1
    ·exact ih.2 m hm
theorem judge_ready{P:List (List UInt8×DB)}(h:Bq P D=1):readyB P D=true:=by
  unfold Bq at h;split at h
  ·omega
  · split at h
    ·assumption
    ·omega
structure PD.Inv(X:PD):Prop where
  nn:X.names=X.P.map (·.1)
  dk:X.dep.map (·.1)=X.P.map (·.1)
  nd:(X.P.map (·.1)).Nodup
  ck:∀p∈X.P,p.2.check=0
  par:∀n D,Am X.P n=some D→∀m∈Bi D,(∃E,Am X.P m=some E)∧(Am X.dep m).getD 0<(Am X.dep n).getD 0
  d0:∀n D,Am X.P n=some D→0≤(Am X.dep n).getD 0
  hn:(X.hds.map (·.1)).Nodup
  hd:∀n,n∈X.hds.map (·.1)↔(∃D,Am X.P n=some D)∧∀m D,Am X.P m=some D→n∉Bi D
  od:(X.orp.map (·.1)).Nodup
  oc:∀p∈X.orp,p.2.check=0∧p.1∉X.P.map (·.1)
theorem PD.Inv.new:PD.new.Inv where
  nn:=rfl
  dk:=rfl
  nd:=Ld3
  ck:=fun p hp=>by cases hp
  par:=fun n D h=>by cases h
  d0:=fun n D h=>by cases h
  hn:=Ld3
  hd:=fun n=>⟨fun h=>(by cases h),fun⟨⟨D,h⟩,_⟩=>(by cases h)⟩
  od:=Ld3
  oc:=fun p hp=>by cases hp
theorem PD.Inv.drop(h:X.Inv)(n:List UInt8):(X.drop1 n).Inv:={ h with
  od:=mdel_nodup h.od n
  oc:=fun p hp=>h.oc p (mdel_mem hp) }
theorem PD.Inv.adm(h:X.Inv)(hnP:n∉X.P.map (·.1))(hno:n∉X.orp.map (·.1))(hc:D.check=0)(hr:readyB X.P D=true):(X.adm n D).Inv:=by
  have hP0:=key_none hnP;have hD0:Am X.dep n=none:=key_none (by rw[h.dk];exact hnP);have eP:(X.adm n D).P=X.P++[(n,D)]:=mput_app hP0 D;have eD:(X.adm n D).dep=X.dep++[(n,(Bi D).foldl (stepP X.dep) 0)]:=mput_app hD0 _;have gP:∀m,m≠n→Am (X.adm n D).P m=Am X.P m:=fun m hm=>mget_old hP0 D (fun e=>hm e.symm);have gPn:Am (X.adm n D).P n=some D:=mget_new hP0 D;have gD:∀m,m≠n→Am (X.adm n D).dep m=Am X.dep m:=fun m hm=>mget_old hD0 _ (fun e=>hm e.symm);have gDn:Am (X.adm n D).dep n=some ((Bi D).foldl (stepP X.dep) 0):=mget_new hD0 _;have rdy:∀m∈Bi D,∃E,Am X.P m=some E:=fun m hm=>by
    have:=Lbn.1 hr m hm;exact Le4.1 this
  have ne:∀ {m E},Am X.P m=some E→m≠n:=fun {m E} hm e=>by rw[e,hP0]at hm;cases hm
  have old:∀ {m E},Am (X.adm n D).P m=some E→m=n∧E=D∨m≠n∧Am X.P m=some E:=fun {m E} hm=>by
    by_cases e:m=n
    · rw[e,gPn]at hm
      exact .inl ⟨e,(Lev hm).symm⟩
    · rw[gP m e]at hm
      exact .inr ⟨e,hm⟩
  have hk:=delL_keys (Bi D) h.hn;refine⟨?_,?_,?_,?_,?_,?_,?_,?_,h.od,?_⟩
  · show X.names++[n]=_
    rw[eP,Lae,h.nn];rfl
  ·rw[eP,eD,Lae,Lae,h.dk];rfl
  · rw[eP,Lae]
    refine Lay.2 ⟨h.nd,by simp,fun a ha b hb e=>?_⟩;rw[Las,Lej,La1]at hb;rw[e,hb]at ha;exact hnP ha
  · intro p hp
    rw[eP]at hp;rcases La9.1 hp with hp|hp
    ·exact h.ck p hp
    ·rw[La1.1 hp];exact hc
  · intro m E hm k hk2
    rcases old hm with ⟨rfl,rfl⟩|⟨e,hm⟩
    · obtain⟨F,hF⟩:=rdy k hk2
      refine⟨⟨F,by rw[gP k (ne hF)];exact hF⟩,?_⟩;rw[gD k (ne hF),gDn];exact(foldP_ge X.dep (Bi E) 0).2 k hk2
    · obtain⟨⟨F,hF⟩,hlt⟩:=h.par m E hm k hk2
      refine⟨⟨F,by rw[gP k (ne hF)];exact hF⟩,?_⟩;rw[gD k (ne hF),gD m e];exact hlt
  · intro m E hm
    rcases old hm with ⟨rfl,rfl⟩|⟨e,hm⟩
    · rw[gDn]
      exact(foldP_ge X.dep (Bi E) 0).1
    ·rw[gD m e];exact h.d0 m E hm
  ·exact mput_nodup hk.1 n ()
  · intro k
    show k∈(Bh (delL X.hds (Bi D)) n ()).map (·.1)↔_;rw[keys_put,hk.2,h.hd];constructor
    · rintro(⟨⟨⟨E,hE⟩,h1⟩,h2⟩|rfl)
      · refine⟨⟨E,by rw[gP k (ne hE)];exact hE⟩,fun m F hm=>?_⟩
        rcases old hm with ⟨rfl,rfl⟩|⟨e,hm⟩
        ·exact h2
        ·exact h1 m F hm
      · refine⟨⟨D,gPn⟩,fun m F hm hk2=>?_⟩
        rcases old hm with ⟨rfl,rfl⟩|⟨e,hm⟩
        · obtain⟨G,hG⟩:=rdy _ hk2
          exact ne hG rfl
        · obtain⟨⟨G,hG⟩,_⟩:=h.par m F hm _ hk2
          exact ne hG rfl
    · rintro⟨⟨E,hE⟩,h1⟩
      rcases old hE with ⟨rfl,rfl⟩|⟨e,hE⟩
      ·exact .inr rfl
      ·exact .inl ⟨⟨⟨E,hE⟩,fun m F hm=>h1 m F (by rw[gP m (ne hm)];exact hm)⟩,h1 n D gPn⟩
  · intro p hp
    have:=h.oc p hp;refine⟨this.1,fun hm=>?_⟩;rw[eP,Lae]at hm;rcases La9.1 hm with hm|hm
    ·exact this.2 hm
    · rw[Las,Lej,La1]at hm
      have e9:p.1=n:=hm;exact hno (by rw[←e9];exact La6.2 ⟨p,hp,rfl⟩)
theorem first_key(h:X.first=some n):∃D,Am X.orp n=some D∧Bq X.P D≠0:=by
  have h1:=Lfr h;have h2:=List.find?_some h;obtain⟨D,hD⟩:=C5 ((isort_perm _).mem_iff.1 h1);refine⟨D,hD,?_⟩;rw[hD,Lbu]at h2;simpa using h2
theorem PD.Inv.settle:∀(f:Nat) {X:PD},X.Inv→(PD.settle f X).1.Inv
  |0,X,h=>h
  | f + 1,X,h=>by
    cases hf:X.first with
    |none=>rw[settle_done hf];exact h
    | some n=>
      obtain⟨D,hD,hj⟩:=first_key hf;have hm:=h.oc _ (Bk hD);by_cases h1:Bq X.P D=1
      · rw[settle_fit hf hD h1]
        exact PD.Inv.settle f ((h.drop n).adm hm.2 (fun h2=>((mdel_keys h.od n n).1 h2).2 rfl) hm.1 (judge_ready h1))
      · rw[settle_wrong hf hD h1]
        exact PD.Inv.settle f (h.drop n)
theorem PD.Inv.add(h:X.Inv)(D:DB):(X.add D).1.Inv:=by
  by_cases hg:dgood D=0
  · cases ht:((Am X.orp (A2 D)).isSome||(Am X.P (A2 D)).isSome)with
    |true=>rw[add_there hg ht];exact h
    | false =>
      rw[Bool.or_eq_false_iff]at ht;have n1:A2 D∉X.orp.map (·.1):=fun hm=>by
        obtain⟨v,hv⟩:=C5 hm;rw[hv]at ht;cases ht.1
      have n2:A2 D∉X.P.map (·.1):=fun hm=>by
        obtain⟨v,hv⟩:=C5 hm;rw[hv]at ht;cases ht.2
      have hf:((Am X.orp (A2 D)).isSome||(Am X.P (A2 D)).isSome)=false:=by rw[ht.1,ht.2];rfl
      rcases judge_cases X.P D with hj|hj|hj
      · by_cases h64:64≤X.orp.length
        ·rw[add_full hg hf hj h64];exact h
        · rw [add_keep hg hf hj h64]
          exact{ h with
            od:=mput_nodup h.od _ _
            oc:=fun p hp=>by
              rcases mput_mem hp with hp|rfl
              ·exact h.oc p hp
              ·exact⟨good_check hg,n2⟩ }
      · rw[add_fits hg hf hj]
        exact PD.Inv.settle _ (h.adm n2 n1 (good_check hg) (judge_ready hj))
      ·rw[add_wrong hg hf hj];exact h
  ·rw[add_bad hg];exact h
noncomputable def fillP(X:PD)(ds:List DB):PD:=ds.foldl (fun X D=>(X.add D).1) X
theorem PD.Inv.fill:∀(ds:List DB) {X:PD},X.Inv→(fillP X ds).Inv
  | [],X,h=>h
  |D::ds,X,h=>PD.Inv.fill ds (h.add D)
section
variable{X:PD}
theorem reach_P{a:Int}{L:List (List UInt8)}{n:List UInt8}(h:X.Reach a L n):∃D,Am X.P n=some D:=by
  cases h with
  |base _ hP _=>exact⟨_,hP⟩
  |step _ _ _ hE _=>exact⟨_,hE⟩
end
variable{a:Int}{n:Nat}
theorem tmod_lo(a:Int)(h:0<n): -(n:Int)<a.tmod n∧a.tmod n<n:=⟨Int.lt_tmod_of_pos a oM,Int.tmod_lt_of_pos a oM⟩
def pickN(a:Int)(n:Nat):Nat:=if a.tmod n<0 then(a.tmod n+n).toNat else(a.tmod n).toNat
theorem pickN_lt(a:Int)(h:0<n):pickN a n<n:=by
  have:=tmod_lo a h;unfold pickN;split<;>omega
theorem pickN_neg(h:0<n)(hc:a.tmod n<0):a.tmod n+(n:Int)=((pickN a n:Nat):Int):=by
  have:=tmod_lo a h;rw[pickN,if_pos hc];omega
theorem pickN_pos(h:0<n)(hc:¬a.tmod n<0):a.tmod n=((pickN a n:Nat):Int):=by
  rw[pickN,if_neg hc];omega
section
variable{C:Cx}{ops:Array Oper}{rest:List (Nat×Oper)}{sl:List (Nat×Value)}{hp:List Blk}{Q:St→Prop}{c d:Nat}{ty:TypeId}{pos:String}{af:Array Edge}{g:Option (Nat×Bool)}
variable{xT yT:TypeId}{x y:Operand}{a b:Int}
theorem Tr.rem_i64t(hg:Ak ops sl g=true)(hk:okD c d C.N=true)(hx:Ai sl x=some (i64 a))(hy:Ai sl y=some (i64 b))(hr:1≤b)
    (k:Tr C ops rest ⟨(d,i64 (a.tmod b))::sl,hp⟩ Q):Tr C ops ((c,⟨some d, .binOp .rem xT x y yT,ty,pos,af,g⟩)::rest) ⟨sl,hp⟩ Q:=
  .bin hg hk hx hy (fun w=>by simp[binOp,Op.intDiv,show b≠0 by omega]) k
end
def GetR(X:PD)(n:List UInt8)(v:Value)(out:List Blk):Prop:=
  Am X.P n=none∧v= .tuple #[agg Block.zero.cells,i64 6]∧out=[]
  ∨∃D B,Am X.P n=some D∧SameB B D∧v= .tuple #[agg B.cells,i64 0]∧∀W2,Lies out W2→BlockIs W2 B D
theorem ck_small{D:DB}(h:D.check=0):D.ls.length≤16∧D.ds.length≤90000:=by
  obtain⟨h1,h2⟩:=D.head_small h;exact⟨by omega,by omega⟩
theorem kit_pickN(g:Int)(n:Nat)(hn:0<n)(hn2:n≤1000000):Mv 20 [i64 g,i64 (n:Int)] (fun _=>True) (i64 ((pickN g n:Nat):Int)):=by
 intro W hW;have htm:=tmod_lo g hn;refine Ad func20 J 16 ntmps20 J (G9 ?_);refine .lss J J J J (decide_eq_false oM) (G2 ?_);refine .cond_f J (rfl) (G6 ?_);refine Tr.rem_i64t J J J J oM (G10 ?_);refine .condP J (fun hc1=>?_) (fun hc1=>?_)
 ·
  refine G13 ?_;refine G2 ?_;refine⟨_,[],Af J J,sP,sP,?_,rfl⟩;rw[pickN_neg hn hc1]
 refine G8 ?_;refine G2 ?_;refine⟨_,[],Af J J,sP,sP,?_,rfl⟩;rw[pickN_pos hn hc1]
theorem dag_get(x:DD)(hx:x.ok)(hck:∀p∈x.P,p.2.check=0)(p:Nat)(n:List UInt8)(h32:n.length=32):Meets prog 114 [ptr p 0,agg (Aa n)] [] (fun W=>Lies (x.blks p) W) (GetR x.pl n):=by
 intro W hW;have hlies:=hW;have hd:=DagSee.lies hW;refine Ad func114 J 27 ntmps114 J (G3 ?_);intro n3 hn3 hf3;refine .alloc (cs:=Block.zero.cells) J Block.zr J ?_;intro n4 hn4 hf4;refine G7 ?_;refine .cV J J J J Body96 (dag_valid x p) (fun w h=>hd.ext h) (G3 ?_);refine .cond_f J J (G3 ?_);refine .draw (oP [0,1,2,103,104,105,6,7,8,209,410,11]) Ar zK (G3 ?_);refine .loadE J J J Y131.h J sP (hd.at (o:=2) J) (.lA J J J Y34.h J Sz34 Z1 (by(simp[h32];done)) ?_);refine .lookFC evE ME hd.2 sP J J J J h32 (fun hg=>?_) (fun e hg=>?_)
 ·
  skip;refine G3 ?_;refine .alloc (cs:=DEnt.zero.cells) J DEnt.zr J ?_;intro n6 hn6 hf6;refine G11 ?_;refine .cond_t J J (G2 ?_);refine .build (cs:=Block.zero.cells) J J J (fun w=>by kernel_rfl) ?_;refine G4 ?_;refine G3 ?_;refine Ay (out:=[]) (Bf J J J Y50.h J Sz50 Z1 (by exact Block.length (by exact Block.zero_ok))) Ae ?_;exact .inl ⟨DD.noP hg,rfl,rfl⟩
 obtain⟨hs1,hs2⟩:=ck_small (hck _ (La6.2 ⟨_,Bk hg,rfl⟩));simp only at hs1 hs2;refine G3 ?_;refine .alloc (cs:=DEnt.zero.cells) J DEnt.zr J ?_;intro n6 hn6 hf6;refine .sA J J J J (DEnt.isCell (by exact hx.entOk hg)) Sz164 (DEnt.length (by exact hx.entOk hg)) Z0 (DEnt.length (by exact DEnt.zero_ok)) zU ?_;refine G10 ?_;refine .cond_f J J (G5 ?_);refine .lN (Block.cells _) J J J Y50.h J Sz50 Z0 (DEnt.row_fBlock (by exact hx.entOk hg)) (DEnt.rl_fBlock (by exact hx.entOk hg)) ?_;refine .call4 J J J J J Body100 (dag_clone e.1.fBlock e.2 (hx.ent _ (Bk hg)).2.1.1 oM oM) (fun w h=>(hx.ent _ (Bk hg)).2.1.2 w ((Ce hlies h).sub (x.mcb p))) ?_;rintro v26 out26 ⟨B26,h26,rfl,hb26⟩;refine .sA J J J J (Block.isCell (by exact h26.ok)) Sz50 (Block.length (by exact h26.ok)) mR (Block.length (by exact Block.zero_ok)) uU ?_;refine G3 ?_;refine G2 ?_;refine Ay (out:=(out26++[])) (Bf J J J Y50.h J Sz50 mR (by exact Block.length (by exact h26.ok))) (Ac sG Ae) ?_;exact .inr ⟨e.2,B26,(DD.atP hg).1,h26,rfl,fun W2 hl=>hb26 W2 (by simpa using hl)⟩
theorem row_one{q:Nat}{w:World}{a:List UInt8}(ha:a.length=32)(h:C6 w q 0 (Aa a)):RowsAt w ⟨some ⟨q,0,none⟩,1,1⟩ 32 [a]:=⟨rfl,fun l hl=>by rw[La1.1 hl];exact ha,Lah 1,SeesP.of (by simpa using h),(by show 1≤maxLen;decide),fun e=>by cases e⟩
open Classical in
noncomputable def rB(X:PD)(above:Int)(L:List (List UInt8))(n:List UInt8):Bool:=decide (X.Reach above L n)
theorem rB_iff{X:PD}{above:Int}{L:List (List UInt8)}{n:List UInt8}:rB X above L n=true↔X.Reach above L n:=by unfold rB;simp
theorem fillP_snoc(X:PD)(l:List DB)(d:DB):fillP X (l++[d])=((fillP X l).add d).1:=by unfold fillP;rw[Ldx];rfl
end Go.Proofs.YtpogmfngccolbaaGreat
namespace Go.Proofs.YtpogmfngccolbaaGreat
open Go Hw _root_.Go.Proofs.Tryz
variable{B:Blk}{C:Cx}{D:DB}{L ks:List (List UInt8)}{X:PD}{hp:List Blk}{k:Nat}{n:List UInt8}{w:World}{x:DD}
theorem nil_rows(W:World):RowsAt W Sl.nil 32 []:=rows_none
theorem getD_mem2(h:k<L.length):L.getD k []∈L:=by
  rw[La4,La3 h];exact Lce h
theorem P32(hx:x.ok)(h:∃D,Am x.pl.P n=some D):n.length=32:=by
  obtain⟨D,hD⟩:=h;obtain⟨p,hp,e⟩:=La6.1 (Bk (show Am x.P n=some D from hD));rw[←(Prod.mk.inj e).1];exact(hx.ent p hp).1
theorem names_mem(hI:X.Inv)(n:List UInt8):n∈X.names↔∃D,Am X.P n=some D:=by rw[hI.nn];exact key_some
theorem nd_len:∀ {l m:List (List UInt8)},l.Nodup→(∀n∈l,n∈m)→l.length≤m.length
  | [],m,_,_=>Laq _
  | a::l,m,h,hs=>by
    obtain⟨h1,h2⟩:=Lb6.1 h;have ha:=hs a La8;have ih:=nd_len (l:=l) (m:=m.erase a) h2 (fun n hn=>(List.mem_erase_of_ne (fun e=>h1 (by rw[←e];exact hn))).2 (hs n (Laj _ hn)));have hl:=List.length_erase_of_mem ha;have hp:=List.length_pos_of_mem ha;rw[Lax];omega
theorem reach_len(hI:X.Inv)(hnd:ks.Nodup)(hks:∀n,n∈ks↔X.Reach (-1) L n):ks.length≤X.names.length:=nd_len hnd fun n hn=>(names_mem hI n).2 (reach_P ((hks n).1 hn))
theorem hB_ok(hx:x.ok){q:Nat}{W:World}(hl:Lies (x.blks q) W)(h:Am x.pl.P n=some D):D.ok:=by
  obtain⟨p,hp,e⟩:=La6.1 (Bk (show Am x.P n=some D from h));have:=((hx.ent p hp).2.1.2 W (hl.sub (x.mcb q))).dok;rw[←(Prod.mk.inj e).2];exact this
structure PD.Ord(X:PD):Prop where
  par:∀k p,X.P[k]? =some p→∀m∈Bi p.2,m∈(X.P.take k).map (·.1)
  dep:∀n D,Am X.P n=some D→(Am X.dep n).getD 0=(Bi D).foldl (stepP X.dep) 0
theorem step_congr{d1 d2:List (List UInt8×Int)}:∀(l:List (List UInt8)) (a:Int),(∀n∈l,Am d1 n=Am d2 n)→l.foldl (stepP d1) a=l.foldl (stepP d2) a
  | [],_,_=>rfl
  | n::l,a,h=>by
    rw[Lef,Lef,show stepP d1 a n=stepP d2 a n from by unfold stepP;rw[h n La8]];exact step_congr l _ fun m hm=>h m (Laj _ hm)
theorem PD.Ord.new:PD.new.Ord where
  par:=fun k p h=>by
    have h2:([]:List (List UInt8×DB))[k]? =some p:=h;simp at h2
  dep:=fun n D h=>by cases h
theorem PD.Ord.drop(h:X.Ord)(n:List UInt8):(X.drop1 n).Ord:={ h with }
theorem PD.Ord.adm(hO:X.Ord)(hI:X.Inv)(hnP:n∉X.P.map (·.1))(hr:readyB X.P D=true):(X.adm n D).Ord:=by
  have hP0:Am X.P n=none:=by
    cases h:Am X.P n with
    |none=>rfl
    |some E=>exact absurd (La6.2 ⟨(n,E),Bk h,rfl⟩) hnP
  have hPe:(X.adm n D).P=X.P++[(n,D)]:=mput_app hP0 D;have hrd:∀m∈Bi D,m∈X.P.map (·.1):=fun m hm=>by
    have:=Lbn.1 hr m hm;obtain⟨E,hE⟩:=Le4.1 this;exact La6.2 ⟨(m,E),Bk hE,rfl⟩
  have hd0:Am X.dep n=none:=by
    cases h:Am X.dep n with
    |none=>rfl
    |some E=>exact absurd (by rw[←hI.dk];exact La6.2 ⟨(n,E),Bk h,rfl⟩) hnP
  have hde:∀m,m≠n→Am (X.adm n D).dep m=Am X.dep m:=fun m hm=>mget_old hd0 _ (Ne.symm hm);constructor
  · intro k p hk m hm
    rw[hPe]at hk ⊢;rcases Lb2 k X.P.length with h1|h1
    · rw[Lb3 h1]at hk
      rw[Lcd oM];exact hO.par k p hk m hm
    · have hke:k=X.P.length:=by
        have:=(Lac.1 hk).1;simp at this;omega
      subst hke;rw[Lb4 (Lah _),Lez]at hk;cases hk;rw[Lcd (Lah _),Ldt];exact hrd m hm
  · intro q E hq
    have hq2:Am (Bh X.P n D) q=some E:=hq;have hnn:∀m∈X.P.map (·.1),m≠n:=fun m hm e=>hnP (e▸hm);by_cases hqn:q=n
    · subst hqn
      rw[mget_new hP0]at hq2;cases hq2;have e1:Am (X.adm q D).dep q=some ((Bi D).foldl (stepP X.dep) 0):=mget_new hd0 _;rw[e1,Lbu];exact step_congr _ _ fun m hm=>(hde m (hnn m (hrd m hm))).symm
    · rw[mget_old hP0 _ (Ne.symm hqn)]at hq2
      rw[hde q hqn,hO.dep q E hq2];exact step_congr _ _ fun m hm=>(hde m (hnn m (by
        obtain⟨F,hF⟩:=(hI.par q E hq2 m hm).1;exact La6.2 ⟨(m,F),Bk hF,rfl⟩))).symm
theorem PD.Ord.settle:∀(f:Nat) {X:PD},X.Inv→X.Ord→(PD.settle f X).1.Ord
  |0,X,_,h=>h
  | f + 1,X,hI,h=>by
    cases hf:X.first with
    |none=>rw[settle_done hf];exact h
    | some n=>
      obtain⟨D,hD,hj⟩:=first_key hf;have hm:=hI.oc _ (Bk hD);by_cases h1:Bq X.P D=1
      · rw[settle_fit hf hD h1]
        exact PD.Ord.settle f ((hI.drop n).adm hm.2 (fun h2=>((mdel_keys hI.od n n).1 h2).2 rfl) hm.1 (judge_ready h1)) ((h.drop n).adm (hI.drop n) hm.2 (judge_ready h1))
      · rw[settle_wrong hf hD h1]
        exact PD.Ord.settle f (hI.drop n) (h.drop n)
theorem PD.Ord.add(hI:X.Inv)(h:X.Ord)(D:DB):(X.add D).1.Ord:=by
  by_cases hg:dgood D=0
  · cases ht:((Am X.orp (A2 D)).isSome||(Am X.P (A2 D)).isSome)with
    |true=>rw[add_there hg ht];exact h
    | false=>
      have ht2:=ht;rw[Bool.or_eq_false_iff]at ht2;have n1:A2 D∉X.orp.map (·.1):=fun hm=>by
        obtain⟨v,hv⟩:=C5 hm;rw[hv]at ht2;cases ht2.1
      have n2:A2 D∉X.P.map (·.1):=fun hm=>by
        obtain⟨v,hv⟩:=C5 hm;rw[hv]at ht2;cases ht2.2
      rcases judge_cases X.P D with hj|hj|hj
      · by_cases h64:64≤X.orp.length
        ·rw[add_full hg ht hj h64];exact h
        ·rw[add_keep hg ht hj h64];exact{ h with }
      · rw[add_fits hg ht hj]
        exact PD.Ord.settle _ (hI.adm n2 n1 (good_check hg) (judge_ready hj)) (h.adm hI n2 (judge_ready hj))
      ·rw[add_wrong hg ht hj];exact h
  ·rw[add_bad hg];exact h
theorem PD.Ord.fill:∀(ds:List DB) {X:PD},X.Inv→X.Ord→(fillP X ds).Ord
  | [],X,_,h=>h
  |D::ds,X,hI,h=>PD.Ord.fill ds (hI.add D) (PD.Ord.add hI h D)
def PD.dp(X:PD)(n:List UInt8):Int:=(Am X.dep n).getD 0
theorem PD.Ord.before(hI:X.Inv)(hO:X.Ord)(hk:X.names[k]? =some n):∃D,Am X.P n=some D∧(∀m∈Bi D,m∈X.names.take k)∧X.dp n=(Bi D).foldl (stepP X.dep) 0:=by
  rw[hI.nn,Laf]at hk;obtain⟨p,hp,rfl⟩:=Leh.1 hk;have hm:=mget_some hI.nd hp;refine⟨p.2,hm,fun m hm2=>?_,hO.dep _ _ hm⟩;rw[hI.nn,←Lbp];exact hO.par k p hp m hm2
abbrev evI(x:Int):Value:=i64 x
theorem MI:MOk prog 32 34 3 (Ao 32 evI) (i64 0):=bytesT_ok _ underlying32 A25 Y5.h size_pos K25 (zr_run Zr3)
theorem MN:MOk prog 115 34 145 (Ao 32 evU) (agg []):=bytesT_ok _ Y115 A25 Y5.h size_pos K25 (zr_run Zr145)
def setP(ls:List (List UInt8)):List (List UInt8×Unit):=ls.foldl (fun fs n=>Bh fs n ()) []
theorem setP_step{ls:List (List UInt8)}(hk:k<ls.length):setP (ls.take (k+1))=Bh (setP (ls.take k)) (ls.getD k []) ():=by
  unfold setP;have e:ls.getD k []=ls[k]:=by rw[La4,La3 hk];rfl
  rw[Lar hk,Ldx,e];rfl
def NSetR(ls:List (List UInt8))(v:Value)(out:List Blk):Prop:=∃m,v= .map (some m)∧out=[A3 m (Ao 32 evU) (setP ls)]
theorem lin_none(x:DD)(hx:x.ok)(h16:∀p∈x.P,p.2.ls.length≤16)(p:Nat):Mv 78 [ptr p 0] (fun W=>Lies (x.blks p) W) (.bool false):=by
 intro W hW;refine Ad func78 J 12 ntmps78 J (G8 ?_);refine .call4 J J J J J Body88 (dag_closure x hx h16 p Sl.nil [] (Laq _)) (fun w h=>⟨Ce hW h,nil_rows w⟩) ?_;rintro v7 out7 (⟨⟨n,hn,_⟩,_⟩|⟨_,s7,ks,rfl,_⟩)
 ·cases hn
 refine G10 ?_;refine .nei J J J J (show(!decide _)=false from congrArg not (decide_eq_true (rfl))) (G3 ?_);refine G2 ?_;refine Ay (out:=[]) (Af J J) Ae ?_;exact⟨rfl,rfl⟩
theorem lin_set(s:Sl)(ls:List (List UInt8)):Meets prog 80 [s.v] [] (fun W=>RowsAt W s 32 ls) (NSetR ls):=by
 intro W hW;have hlen:=hW.len;have hrow:=hW.row;have hmax:=hW.max;simp only[maxLen]at hmax;refine Ad func80 J 18 ntmps80 J (G7 ?_);refine .mkMap (Ao 32 evU) J J ?_;intro m6;refine G12 ?_;refine .loop (ι:=Nat×List (List UInt8×Unit)) (fun r=>⟨[(2, .map none),(3, .map (some m6)),(7,s.v),(8,i64 (s.n:Int)),(9,i64 (r.1:Int))],[A3 m6 (Ao 32 evU) r.2]⟩) (fun r=>r.1≤s.n∧r.2=setP (ls.take r.1)) (fun r=>s.n-r.1) ((0,[])) ?_ ?_ ?_
 ·exact⟨Laq _,rfl⟩
 ·exact Ah wN (Ab rM Ae)
 rintro⟨k,fs⟩ ⟨hk,hfs⟩;simp only at hk hfs ⊢;refine G6 ?_;refine .condP J (fun hc0=>?_) (fun hc0=>?_)
 ·
  have hk2:k<s.n:=by omega
  obtain⟨b,o,hbp,hbs⟩:=hW.see.at (by rw[Aw hrow];omega);have h32k:(ls.getD k []).length=32:=Bs hrow oM;refine G6 ?_;refine .idxSlP 32 J J J hbp J Y30.h Sz34 k J oM (.loadEN (Aa (ls.getD k [])) J J J Y34.h J Sz34 sP (by rw[Aa,La0];exact h32k) (B3 hrow hbs oM) ?_);refine .alloc (cs:=(Aa (List.replicate 32 0))) J Cc J ?_;intro n5 hn5 hf5;refine .sA J J J J zE Sz34 (by(rw[Aa,La0];assumption)) Z0 sP zU ?_;refine G4 ?_;refine .lA J J J Y34.h J Sz34 Z0 (by(rw[Aa,La0];assumption)) ?_;refine .build (cs:=[]) J J J (fun w=>by kernel_rfl) ?_;refine .mapPut (v:=()) MN J J J J J h32k rM ?_;refine G8 ?_;exact⟨(k+1,Bh fs (ls.getD k []) ()),⟨by simp only;omega,by simp only;rw[setP_step oM,hfs]⟩,by simp only;omega,Ah (wk1 rfl (wk1 rfl (wk1 rfl (wk1 rfl (wk1 (by rw[Lcc];rfl) wk0))))) (Ab rM Ae)⟩
 obtain rfl:k=s.n:=by omega
 refine G11 ?_;refine G2 ?_;refine Ay (out:=(A3 m6 (Ao 32 evU) fs::[])) (Af J J) (Ab rM Ae) ?_;exact⟨m6,rfl,by rw[hfs,La5 oM]⟩
theorem lin_has(m:Nat)(fs:List (List UInt8×Unit))(n:List UInt8)(h32:n.length=32):Mv 112 [.map (some m),agg (Aa n)] (fun W=>BlkOk W (A3 m (Ao 32 evU) fs)) (.bool (Am fs n).isSome):=by
 intro W hW;refine Ad func112 J 14 ntmps112 J (G3 ?_);intro n3 hn3 hf3;refine G6 ?_;refine .lA J J J Y34.h J Sz34 Z0 (by(simp[h32];done)) ?_;refine .lookFC evU MN hW sP J J J J h32 (fun hg=>?_) (fun e hg=>?_)
 ·
  skip;refine G3 ?_;refine .alloc (cs:=[]) J Zr145 J ?_;intro n5 hn5 hf5;refine .sA J J J J zB Sz145 sP Z0 sP zU ?_;refine G9 ?_;refine G2 ?_;refine⟨_,[],Af J J,sP,sP,?_,rfl⟩;rw[hg];rfl
 skip;refine G3 ?_;refine .alloc (cs:=[]) J Zr145 J ?_;intro n5 hn5 hf5;refine .sA J J J J zB Sz145 sP Z0 sP zU ?_;refine G9 ?_;refine G2 ?_;refine⟨_,[],Af J J,sP,sP,?_,rfl⟩;rw[hg];rfl
structure DMap(X:PD)(fs:List (List UInt8×Int))(ks:List (List UInt8)):Prop where
  all:∀n∈ks,Am fs n=some (X.dp n)
  only:∀n v,Am fs n=some v→n∈ks
theorem DMap.none(X:PD):DMap X [] []:=⟨fun n hn=>(by cases hn),fun n v h=>(by cases h)⟩
theorem DMap.put{fs:List (List UInt8×Int)}(h:DMap X fs ks)(hn:n∉ks):DMap X (Bh fs n (X.dp n)) (ks++[n]):=by
  have h0:Am fs n=Option.none:=by
    cases hm:Am fs n with
    |none=>rfl
    |some v=>exact absurd (h.only n v hm) hn
  constructor
  · intro m hm
    rcases La9.1 hm with h1|h1
    ·rw[mget_old h0 _ (fun e=>hn (e▸h1))];exact h.all m h1
    ·rw[La1.1 h1];exact mget_new h0 _
  · intro m v hm
    by_cases e:n=m
    ·rw[←e];exact Lav _ La8
    · rw[mget_old h0 _ e]at hm
      exact Lak _ (h.only m v hm)
theorem dp_le(hI:X.Inv)(n:List UInt8):0≤X.dp n:=by
  unfold PD.dp;cases h:Am X.P n with
  |some D=>exact hI.d0 n D h
  | none=>
    cases h2:Am X.dep n with
    |none=>exact Int.le_refl _
    | some v=>
      exfalso;have h3:n∈X.P.map (·.1):=by rw[←hI.dk];exact La6.2 ⟨(n,v),Bk h2,rfl⟩
      obtain⟨D,hD⟩:=C5 h3;rw[h]at hD;cases hD
theorem dp_big(hx:x.ok)(n:List UInt8):x.pl.dp n≤x.names.length:=by
  unfold PD.dp;have e:Am x.pl.dep n=(Am x.ent n).map fun e=>e.1.fDepth:=mget_map (fun e:EV=>e.1.fDepth) x.ent n;rw[e];cases h:Am x.ent n with
  |none=>simp
  |some e=>exact(hx.ent _ (Bk h)).2.2.2
theorem step_take(hk:k<L.length):(L.take (k+1)).foldl (stepP X.dep) 0=if X.dp (L.getD k [])+1>(L.take k).foldl (stepP X.dep) 0 then X.dp (L.getD k [])+1 else(L.take k).foldl (stepP X.dep) 0:=by
  have e:L.getD k []=L[k]:=by rw[La4,La3 hk];rfl
  rw[Lar hk,Ldx,e];rfl
theorem step_bound{x:DD}(hx:x.ok)(hI:x.pl.Inv):∀(L:List (List UInt8)) (d:Int),0≤d→d≤20001→0≤L.foldl (stepP x.pl.dep) d∧L.foldl (stepP x.pl.dep) d≤20001
  | [],d,h0,h1=>⟨h0,h1⟩
  | a::L,d,h0,h1=>by
    have h2:=dp_big hx a;have h3:=dp_le hI a;have h4:=hx.big;unfold PD.dp at h2 h3;refine step_bound hx hI L _ ?_ ?_<;>unfold stepP<;>split<;>omega
theorem par_open{s:Sl}{bl:List Blk}(h:Hw.Acc s bl (As L) 34 L.length 32)(h0:0<L.length)(h32:∀l∈L,l.length=32):∃b o,s.p=some ⟨b,o,none⟩∧∀w,Lies bl w→∀k,k<L.length→C6 w b (o+k*32) (Aa (L.getD k [])):=by
  rcases h with ⟨_,_,_,e⟩|⟨q,c,rfl,h1,h2,rfl⟩
  ·omega
  ·exact⟨q,0,rfl,fun w hw k hk=>B3 h32 (sees_kok (hw _ La8) fun j v hj=>by rw[Lb0];exact hj) hk⟩
theorem depth_known(n:List UInt8)(h32:n.length=32)(a b c m:Nat)(fs:List (List UInt8×Int))(k:Int)(hk:Am fs n=some k):Mv 144 [agg (Aa n),ptr a 0,ptr b 0,ptr c 0] (fun W=>W.cell? ⟨a,0,none⟩=some (.map (some m))∧BlkOk W (A3 m (Ao 32 evI) fs)) (i64 k):=by
 intro W hW;refine Ad func144 J 45 ntmps144 J (G3 ?_);intro n4 hn4 hf4;refine G6 ?_;refine .loadE J J J underlying32 J sP (hW.1) (.lA J J J Y34.h J Sz34 Z0 (by(simp[h32];done)) ?_);refine .lookFC evI MI hW.2 sP J J J J h32 (fun hg=>?_) (fun v hg=>?_)
 ·
  exfalso;rw[hk]at hg;cases hg
 obtain rfl:v=k:=by rw[hk]at hg;exact(Lev hg).symm
 refine G12 ?_;refine .cond_t J J (G6 ?_);refine G3 ?_;refine⟨_,[],Af J J,sP,sP,?_,rfl⟩;rfl
theorem depth_next(x:DD)(hx:x.ok)(hI:x.pl.Inv)(p:Nat)(n:List UInt8)(h32:n.length=32)(D:DB)(hD:Am x.pl.P n=some D)(a b c m:Nat)(fs:List (List UInt8×Int))(hno:Am fs n=none)(hpar:∀q∈Bi D,Am fs q=some (x.pl.dp q))(hdp:x.pl.dp n=(Bi D).foldl (stepP x.pl.dep) 0):Meets prog 144 [agg (Aa n),ptr a 0,ptr b 0,ptr c 0] [m] (fun W=>Lent [A3 m (Ao 32 evI) fs] W∧Lies (x.blks p) W∧(∀b∈x.blks p,b.n≠m)∧(W.cell? ⟨a,0,none⟩=some (.map (some m))∧a≠m)∧(W.cell? ⟨b,0,none⟩=some (ptr p 0)∧b≠m)∧W.cell? ⟨c,0,none⟩=some (.func (.func 144) #[] #[ptr a 0,ptr b 0,ptr c 0])∧c≠m) (fun v out=>v=i64 (x.pl.dp n)∧out=[A3 m (Ao 32 evI) (Bh fs n (x.pl.dp n))]):=by
 intro W hW;have h32q:True:=trivial;obtain⟨_,hlies,hxm,⟨hca,ham⟩,⟨hcb,hbm⟩,hcc,hcm⟩:=id hW;have hck:∀q∈x.P,q.2.check=0:=hI.ck;have h16:D.ls.length≤16:=(ck_small (hck _ (Bk hD))).1;have h17:(Bi D).length≤17:=by have:=parL_len D;omega
 have hdk:∀k,0≤((Bi D).take k).foldl (stepP x.pl.dep) 0∧((Bi D).take k).foldl (stepP x.pl.dep) 0≤20001:=fun k=>step_bound hx hI _ 0 (Int.le_refl _) dE;have hbig:=hx.big;refine calls_of (hp0:=[A3 m (Ao 32 evI) fs]) func144 J 45 ntmps144 J hW.1.rep (G3 ?_);intro n4 hn4 hf4;refine G6 ?_;refine .loadE J J J underlying32 J (by(simp;omega)) (hca) ?_;refine .lA J J J Y34.h J Sz34 Z0 (by(simp[h32];done)) ?_;refine .lookF evI MI J J J J h32 Z1 (fun hg=>?_) (fun v hg=>?_)
 ·
  skip;refine G12 ?_;refine .cond_f J J (G4 ?_);refine .loadE J J J Y26.h J (by(simp;omega)) (hcb) ?_;refine .lA J J J Y34.h J Sz34 Z0 (by(simp[h32];done)) ?_;refine .call4 J J J J J Body114 (dag_get x hx hck p n h32) (fun w h=>Lies.keep hlies h.keeps (fun b hb=>by simpa using hxm b hb)) ?_;rintro v24 out24 (⟨h0,_⟩|⟨D2,B,hD2,hB,rfl,hbi⟩)
  ·exfalso;rw[h0]at hD;cases hD
  obtain rfl:D2=D:=by rw[hD]at hD2;exact(Lev hD2).symm
  refine G3 ?_;refine .alloc (cs:=Block.zero.cells) J Block.zr J ?_;intro n8 hn8 hf8;refine .sA J J J J (Block.isCell (by exact hB.ok)) Sz50 (Block.length (by exact hB.ok)) Z0 (Block.length (by exact Block.zero_ok)) zU ?_;refine G11 ?_;refine .lA J J J Y50.h J Sz50 Z0 (Block.length (by exact hB.ok)) ?_;refine .call4 J J J J J Body116 (db_parA B D2 oM) (fun w h=>hbi w (Lies.of h (by repeat(first|exact An|refine A4 ?_)))) ?_;rintro v28 out28 ⟨⟨p28,n28,c28⟩,rfl,hac28⟩;have hn28:n28=(Bi D2).length:=hac28.num;have hprow2:∀l∈Bi D2,l.length=32:=parL_row (hB_ok hx hlies hD2);refine G5 ?_;refine .loop (ι:=Nat×Int) (fun r=>⟨[(1,ptr a 0),(2,ptr b 0),(3,ptr c 0),(4,ptr n4 0),(5,i64 0),(10,i64 r.2),(28, .slice p28 n28 c28),(29,i64 (n28:Int)),(30,i64 (r.1:Int))],(out28++(out24++(⟨n4,Aa n,34,(Aa n).length⟩::(A3 m (Ao 32 evI) fs::[]))))⟩) (fun r=>r.1≤n28∧r.2=((Bi D2).take r.1).foldl (stepP x.pl.dep) 0) (fun r=>n28-r.1) ((0,0)) ?_ ?_ ?_
  ·exact⟨Laq _,rfl⟩
  ·exact Ah wN (Ac sG (Ac sG (Ab rM (Ab rM Ae))))
  rintro⟨k,dv⟩ ⟨hk,hdv⟩;simp only at hk hdv ⊢;have hdb:=hdk k;rw[←hdv]at hdb;have hdb2:=dp_le hI ((Bi D2).getD k []);have hdb3:=dp_big hx ((Bi D2).getD k []);refine .seq ?_;skip;refine G5 ?_;refine .condP J (fun hc1=>?_) (fun hc1=>?_)
  ·
   have hk3:k<(Bi D2).length:=by omega
   obtain⟨b28,o28,hp28,see28⟩:∃b o,p28=some ⟨b,o,none⟩∧∀w,Lies out28 w→∀k,k<(Bi D2).length→C6 w b (o+k*32) (Aa ((Bi D2).getD k [])):=par_open hac28 oM hprow2;have h32q:((Bi D2).getD k []).length=32:=hprow2 _ (getD_mem2 hk3);refine G6 ?_;refine .idxSlP 32 J J J hp28 J Y30.h Sz34 k J oM (.loadSN (n:=32) (Aa ((Bi D2).getD k [])) J J J Y34.h J Sz34 (by rw[Aa,La0];exact h32q) (fun w h=>see28 w (Lies.of h (by repeat(exact An))) k hk3) ?_);refine .alloc (cs:=(Aa (List.replicate 32 0))) J Cc J ?_;intro n12 hn12 hf12;refine .sA J J J J zE Sz34 (by(rw[Aa,La0];assumption)) Z0 sP zU ?_;refine G4 ?_;refine .loadE J J J underlying118 J (by(simp;omega)) (hcc) ?_;refine .lA J J J Y34.h J Sz34 Z0 (by(rw[Aa,La0];assumption)) ?_;refine .callCV J J J J J Body144 (depth_known ((Bi D2).getD k []) h32q a b c m fs (x.pl.dp ((Bi D2).getD k [])) (hpar _ (getD_mem2 hk3))) (fun w h=>⟨h.keeps.cell (by simpa using ham) hca,Ci h mR⟩) ?_;refine G1 ?_;refine .max2 J J J J (rfl) (G9 ?_);refine⟨(k+1,_),⟨by simp only;omega,?_⟩,by simp only;omega,Ah wN (Ac sG (Ac sG (Ab rM (Ab rM Ae))))⟩;simp only;rw[step_take hk3,←hdv];rfl
  obtain rfl:k=n28:=by omega
  obtain rfl:dv=x.pl.dp n:=by rw[hdv,hdp,La5 oM]
  refine G7 ?_;refine .loadE J J J underlying32 J (by(simp;omega)) (hca) ?_;refine .lA J J J Y34.h J Sz34 mR (by(simp[h32];done)) ?_;refine G1 ?_;refine .mapPut (v:=x.pl.dp n) MI J J J J J h32 rM ?_;refine G8 ?_;refine G2 ?_;refine Ay (out:=(A3 m (Ao 32 evI) (Bh fs n (x.pl.dp n))::[])) (Af J J) (Ab rM Ae) ?_;exact⟨rfl,rfl⟩
 exfalso;rw[hno]at hg;cases hg
theorem nodup_inj{α β:Type}{f:α→β}{l:List α}(h:(l.map f).Nodup)(a:α)(ha:a∈l)(b:α)(hb:b∈l)(e:f a=f b):a=b:=by
  obtain⟨i,hi,rfl⟩:=Lb7 ha;obtain⟨j,hj,rfl⟩:=Lb7 hb;have h2:=Lco.1 h;rcases Lew i j with h3|h3|h3
  ·exact absurd (by rw[Lfu,Lfu];exact e) (h2 i j (by simpa using hi) (by simpa using hj) h3)
  ·subst h3;rfl
  ·exact absurd (by rw[Lfu,Lfu];exact e.symm) (h2 j i (by simpa using hj) (by simpa using hi) h3)
theorem names_apart{A B:Blk}(h:HRep C hp w)(hA:A∈hp)(hB:B∈hp)(hc:¬A.cs.length=B.cs.length):A.n≠B.n:=fun e=>hc (by rw[nodup_inj h.nodup A hA B hB e])
theorem own_apart{hp L:List Blk}(h:HRep C hp w)(hB:B∈hp)(hL:Lies L C.W0)(hl:C.lent=[]:=by rfl):∀b∈L,b.n≠B.n:=fun b hb e=>by
  have h1:=(hL b hb).lt;rcases h.own B hB with h2|h2
  ·omega
  ·rw[hl]at h2;cases h2
def DepV(X:PD)(p a b c m:Nat)(fs:List (List UInt8×Int))(ks:List (List UInt8))(v:Value)(bl:List Blk):Prop:=
  v= .func (.func 144) #[] #[ptr a 0,ptr b 0,ptr c 0]∧bl=[A3 m (Ao 32 evI) fs,⟨c,[.func (.func 144) #[] #[ptr a 0,ptr b 0,ptr c 0]],118,1⟩,⟨a,[.map (some m)],32,1⟩,⟨b,[ptr p 0],26,1⟩]∧DMap X fs ks
def DepR(X:PD)(p:Nat)(ls:List (List UInt8))(v:Value)(out:List Blk):Prop:=∃a b c m fs ks,DepV X p a b c m fs ks v out∧∀n∈ls,n∈X.names→n∈ks
theorem mput_in{κ ν:Type}[DecidableEq κ]{fs:List (κ×ν)}{q:κ×ν}{a:κ}{v:ν}(hq:q∈fs):q.1∈(Bh fs a v).map (·.1):=by
  unfold Bh;cases h:midx fs a with
  |none=>exact La6.2 ⟨q,Lak _ hq,rfl⟩
  | some j=>
    simp only;obtain⟨i,hi,e⟩:=Lb7 hq;unfold midx at h;rw[Lbq]at h;obtain⟨hl,he,_⟩:=h;by_cases hij:j=i
    · subst hij
      rw[e]at he;exact La6.2 ⟨(a,v),List.mem_set hl _,by rw[←of_decide_eq_true he]⟩
    · refine La6.2 ⟨q,?_,rfl⟩
      rw[←e];exact Ld8.2 ⟨i,by rw[Lc5];exact hi,List.getElem_set_ne hij _⟩
theorem setP_keys(ls:List (List UInt8)):((setP ls).map (·.1)).Nodup∧∀n∈ls,n∈(setP ls).map (·.1):=by
  have key:∀(l:List (List UInt8)) (fs:List (List UInt8×Unit)),(fs.map (·.1)).Nodup→((l.foldl (fun fs n=>Bh fs n ()) fs).map (·.1)).Nodup∧∀n,(n∈l∨n∈fs.map (·.1))→n∈(l.foldl (fun fs n=>Bh fs n ()) fs).map (·.1):=by
    intro l
    induction l with
    |nil=>intro fs h;exact⟨h,fun n hn=>by rcases hn with h1|h1;cases h1;exact h1⟩
    | cons a l ih=>
      intro fs h;obtain⟨h1,h2⟩:=ih (Bh fs a ()) (mput_nodup h a ());refine⟨h1,fun n hn=>h2 n ?_⟩;by_cases e:n=a
      · right
        rw[e];cases hm:Am fs a with
        |none=>exact La6.2 ⟨(a,()),Bk (mget_new hm ()),rfl⟩
        |some u=>exact mput_in (q:=(a,u)) (Bk hm)
      · rcases hn with hn|hn
        · rcases Lan.1 hn with hn|hn
          ·exact absurd hn e
          ·exact .inl hn
        · obtain⟨q,hq,rfl⟩:=La6.1 hn
          exact .inr (mput_in hq)
  obtain⟨h1,h2⟩:=key ls [] Ld3;exact⟨h1,fun n hn=>h2 n (.inl hn)⟩
theorem take_succ_getD(hk:k<L.length):L.take (k+1)=L.take k++[L.getD k []]:=by
  rw[Lar hk,La4,La3 hk];rfl
theorem not_before(h:L.Nodup)(hk:k<L.length):L.getD k []∉L.take k:=by
  have h2:(L.take (k+1)).Nodup:=h.sublist (List.take_sublist _ _);rw[take_succ_getD hk,Lay]at h2;exact fun hm=>h2.2.2 _ hm _ La8 rfl
theorem lin_depths(x:DD)(hx:x.ok)(hI:x.pl.Inv)(hO:x.pl.Ord)(p:Nat)(s:Sl)(ls:List (List UInt8)):Meets prog 83 [ptr p 0,s.v] [] (fun W=>Lies (x.blks p) W∧RowsAt W s 32 ls) (DepR x.pl p ls):=by
  intro W hW;have h32k:True:=trivial;have hbig:=hx.big;have hnln:x.pl.names.length=x.names.length:=rfl;have hnd:x.pl.names.Nodup:=by rw[hI.nn];exact hI.nd
  refine Ad func83 J 31 ntmps83 J (.sr (.box1 J J J ?_));intro n2 hn2 hf2;refine .a J J J (.nsr (.mkMap (Ao 32 evI) J J ?_));intro m10;refine .alloc (cs:=[.map none]) J Zr32 J ?_;intro n5 hn5 hf5;refine .s1 J J J J J Sz32 Z0 sP (by rfl) zU ?_;refine .nsr (.alloc (cs:=[.nilFunc]) J Zr118 J ?_);intro n6 hn6 hf6;refine .nsr (.makeFunc J J J J (.s1 J J J J J Sz118 Z0 sP (by rfl) zU ?_));refine .nsr (.m J J J (.call4 J J J J J Body80 (lin_set s ls) (fun w h=>rows_ext h J hW.2) ?_));rintro v13 out13 ⟨m13,rfl,rfl⟩;refine .a J J J (.na (.seq (.sr (.load1 J J J Y26.h J Z4 (by rfl) ?_))));refine .call4 J J J J J Body110 (dag_names x hx p) (fun w h=>Ce hW.1 h) ?_;rintro v15 out15 ⟨s15,rfl,hac15⟩;have hn15:=hac15.num;refine .lenSl J J J Y30.h (.m J J J (.na (.block (.loop (ι:=Nat×List (List UInt8×Int)×List (List UInt8×Unit)) (fun r=>⟨[(2,ptr n2 0),(4, .nilFunc),(5,ptr n5 0),(6,ptr n6 0),(7, .map (some m13)),(15,s15.v),(16,i64 (s15.n:Int)),(17,i64 (r.1:Int))],(A3 m10 (Ao 32 evI) r.2.1::(A3 m13 (Ao 32 evU) r.2.2::(out15++(⟨n6,[.func (.func 144) #[] #[ptr n5 0,ptr n2 0,ptr n6 0]],118,1⟩::(⟨n5,[.map (some m10)],32,1⟩::(⟨n2,[ptr p 0],26,1⟩::[]))))))⟩) (fun r=>r.1≤s15.n∧DMap x.pl r.2.1 (x.pl.names.take r.1)∧(r.2.2.map (·.1)).Nodup∧∀n∈ls,n∈x.pl.names.take r.1∨n∈r.2.2.map (·.1)) (fun r=>s15.n-r.1) ((0,[],setP ls)) ?_ ?_ ?_))))
  ·exact⟨Laq _,DMap.none _,(setP_keys ls).1,fun n hn=> .inr ((setP_keys ls).2 n hn)⟩
  ·exact Ah wN (Ab rM (Ab (by repeat(first|exact A5|apply Bu)) (Ac sG (Ab rM (Ab rM (Ab rM Ae))))))
  rintro⟨k,fs,rs⟩ ⟨hk,hfs,hrn,hrs⟩;simp only at hk hfs hrn hrs ⊢;refine .sr (.lss J J J J J (.na (.seq (.condP J (fun hc0=>?_) (fun hc0=>?_)))))
  ·
    have hk3:k<x.pl.names.length:=by omega
    obtain⟨b15,o15,hp15,see15⟩:=par_open hac15 oM hx.n32;have h32k:(x.pl.names.getD k []).length=32:=hx.n32 _ (getD_mem2 hk3);obtain⟨D,hD,hbef,hdp⟩:=hO.before hI (k:=k) (n:=(x.pl.names.getD k [])) (by rw[La4,La3 hk3];rfl);have hno:Am fs (x.pl.names.getD k [])=none:=by
      cases h9:Am fs (x.pl.names.getD k [])with
      |none=>rfl
      |some v9=>exact absurd (hfs.only _ _ h9) (not_before hnd hk3)
    have hpar:∀q∈Bi D,Am fs q=some (x.pl.dp q):=fun q hq=>hfs.all q (hbef q hq);refine .skip (Bm (.seq (.block (.sr (.idxSlP 32 J J J hp15 J Y30.h Sz34 k J oM (.loadSN (n:=32) (Aa (x.pl.names.getD k [])) J J J Y34.h J Sz34 (by rw[Aa,La0];exact h32k) (fun w h=>see15 w (Lies.of h (by repeat(first|exact An|refine A4 ?_))) k hk3) ?_))))));refine .alloc (cs:=(Aa (List.replicate 32 0))) J Cc J ?_;intro n9 hn9 hf9;refine .sA J J J J zE Sz34 (by(rw[Aa,La0];assumption)) Z0 sP zU ?_;refine .na (.seq (.sr (.m J J J (.lenMap Y115 J J J Z2 ?_))));refine .eqi J J J J J (.na (.condP J (fun hc1=>?_) (fun hc1=>?_)))
    ·
      have hfin:∀n∈ls,n∈x.pl.names→n∈x.pl.names.take k:=fun n hn _=>by
        rcases hrs n hn with h9|h9
        ·exact h9
        · have hz:rs=[]:=Lag oM
          rw[hz]at h9;cases h9
      refine .exit (at_x (bl_x J (at_x (at_x (bl_h (Bm (.sr (.load1 J J J underlying118 J mR (by rfl) ?_))))))));refine .a J J J (.na ?_);refine .ret (C2 (Ay (out:=(A3 m10 (Ao 32 evI) fs::(⟨n6,[.func (.func 144) #[] #[ptr n5 0,ptr n2 0,ptr n6 0]],118,1⟩::(⟨n5,[.map (some m10)],32,1⟩::(⟨n2,[ptr p 0],26,1⟩::[]))))) (Af J J) (Ab rM (Ab rM (Ab rM (Ab rM Ae)))) ?_));exact⟨n5,n2,n6,m10,fs,_,⟨rfl,rfl,hfs⟩,hfin⟩
    refine .skip (Bm (.sr (.load1 J J J underlying118 J mR (by rfl) ?_)));refine .lA J J J Y34.h J Sz34 Z0 (by(rw[Aa,La0];assumption)) ?_;refine .callCL (L:=[A3 m10 (Ao 32 evI) fs]) J J J J J J Body144 (depth_next x hx hI p (x.pl.names.getD k []) h32k D hD n5 n2 n6 m10 fs hno hpar hdp) (show List.Perm _ (A3 m10 (Ao 32 evI) fs::_)from rM) (lent_ok J) (fun w h=>⟨Lent.of h (by repeat(first|exact sg_end|apply sg_there)),Ce hW.1 h,own_apart (B:=A3 m10 (Ao 32 evI) fs) h Z1 hW.1,⟨(Ci (B:=⟨n5,[.map (some m10)],32,1⟩) h mR).cell (o:=0) J,names_apart (A:=⟨n5,[.map (some m10)],32,1⟩) (B:=A3 m10 (Ao 32 evI) fs) h mR Z1 (by show ¬(1:Nat)=0;decide)⟩,⟨(Ci (B:=⟨n2,[ptr p 0],26,1⟩) h mR).cell (o:=0) J,names_apart (A:=⟨n2,[ptr p 0],26,1⟩) (B:=A3 m10 (Ao 32 evI) fs) h mR Z1 (by show ¬(1:Nat)=0;decide)⟩,(Ci (B:=⟨n6,[.func (.func 144) #[] #[ptr n5 0,ptr n2 0,ptr n6 0]],118,1⟩) h mR).cell (o:=0) J,names_apart (A:=⟨n6,[.func (.func 144) #[] #[ptr n5 0,ptr n2 0,ptr n6 0]],118,1⟩) (B:=A3 m10 (Ao 32 evI) fs) h mR Z1 (by show ¬(1:Nat)=0;decide)⟩) ?_;rintro v26 out26 ⟨rfl,rfl⟩;refine .na (.region (.m J J J (.lA J J J Y34.h J Sz34 Z1 (by(rw[Aa,La0];assumption)) ?_)));refine .mapDel MN J J J J h32k rM ?_;refine .nil (bl_n (Bm (.region (.aI J J J J oM (.m J J J (.na ?_))))));refine⟨(k+1,Bh fs (x.pl.names.getD k []) (x.pl.dp (x.pl.names.getD k [])),mdel rs (x.pl.names.getD k [])),⟨by simp only;omega,?_,mdel_nodup hrn _,fun n hn=>?_⟩,by simp only;omega,Ah wN (Ab rM (Ab rM (Ac sG (Ab rM (Ab rM (Ab rM Ae))))))⟩
    ·simp only;rw[take_succ_getD hk3];exact hfs.put (not_before hnd hk3)
    · simp only
      by_cases e:n=(x.pl.names.getD k [])
      ·left;rw[take_succ_getD hk3,e];exact Lav _ La8
      · rcases hrs n hn with h9|h9
        ·left;rw[take_succ_getD hk3];exact Lak _ h9
        ·right;exact(mdel_keys hrn _ _).2 ⟨h9,e⟩
  have hfin:∀n∈ls,n∈x.pl.names→n∈x.pl.names.take k:=fun n _ hn=>by rw[La5 oM];exact hn
  refine .exit (at_x (at_x (bl_h (Bm (.sr (.load1 J J J underlying118 J mR (by rfl) ?_))))));refine .a J J J (.na ?_);refine .ret (C2 (Ay (out:=(A3 m10 (Ao 32 evI) fs::(⟨n6,[.func (.func 144) #[] #[ptr n5 0,ptr n2 0,ptr n6 0]],118,1⟩::(⟨n5,[.map (some m10)],32,1⟩::(⟨n2,[ptr p 0],26,1⟩::[]))))) (Af J J) (Ab rM (Ab rM (Ab rM (Ab rM Ae)))) ?_));exact⟨n5,n2,n6,m10,fs,_,⟨rfl,rfl,hfs⟩,hfin⟩
open Go.RowKit Go.Shelf Go.Lib Go.Sort
set_option maxHeartbeats 2000000
variable{W w:World}{α:Type}
theorem ret_grow{W W':World}{out:List Blk}(h:Ret [] out W W'):∃q os',W'=grow (W.drewN q) os':=by
  have k:=h.keeps;refine⟨W'.drawn-W.drawn,W'.heap.extract W.heap.size W'.heap.size,?_⟩;have hd:W.drawn+(W'.drawn-W.drawn)=W'.drawn:=by have:=k.drawn;omega
  have hh:W.heap++W'.heap.extract W.heap.size W'.heap.size=W'.heap:=by
    refine Len fun i=>?_;rcases Lb2 i W.heap.size with h1|h1
    ·rw[Ldv h1];exact(k.block i h1 sP).symm
    · rw[Array.getElem?_append_right h1,Array.getElem?_extract]
      have:=k.size;split
      ·rw[show W.heap.size+(i-W.heap.size)=i by omega]
      ·rw[Lcr oM]
  obtain⟨hp,tp,dr,os,ot⟩:=W';obtain⟨hp0,tp0,dr0,os0,ot0⟩:=W;have e1:=k.os;have e2:=k.tape;have e3:=k.output;simp only at e1 e2 e3 hd hh;subst e1;subst e2;subst e3;simp only[grow,World.drewN,hd,hh]
theorem sort_keep[Inhabited α]{enc:α→List Value}{k q m:Nat}{dk:Array α}{os:Array Obj}{i:Nat}(hi:i<W.heap.size)(hne:i≠q):(sortWorldK enc k W q 0 m dk os).heap[i]? =W.heap[i]? :=by
  simp only[sortWorldK,grow,putRowK,putRow,mapBlock];rw[Ldv (by simpa using hi),Le3,if_neg (fun e:q=i=>hne e.symm)];rfl
theorem flatK_any[Inhabited α](g:α→List UInt8)(hg:∀x,(g x).length=32)(d:Array α):∀(j:Nat) (v:Value),(As (d.toList.map g))[j]? =some v→j<d.size*32∧(flatK (fun x=>Aa (g x)) 32 d)[j]! =v:=fun j v hj=>by
  have h32:∀l∈d.toList.map g,l.length=32:=fun l hl=>by obtain⟨x,_,rfl⟩:=La6.1 hl;exact hg x
  have hlen:=Aw h32;have hlt:=(Lac.1 hj).1;rw[hlen]at hlt;have hlt2:j<d.size*32:=by simpa using hlt
  refine⟨hlt2,?_⟩;rw[get_flatK _ _ _ _ hlt2];have hi:j/32<d.size:=by omega
  have hc:((d.toList.map g).map Aa)[j/32]? =some (Aa (g d[j/32]!)):=by
    rw[Laf,Laf];have:d.toList[j/32]? =some d[j/32]! :=by simp[hi]
    rw[this];rfl
  have hm:j%32<(Aa (g d[j/32]!)).length:=by rw[Aa,La0,hg];omega
  have:=flat_get (m:=32) (fun l hl=>flatB_all h32 l hl) hc hm;have e:j/32*32+j%32=j:=by omega
  rw[e]at this;have hj2:((d.toList.map g).map Aa).flatten[j]? =some v:=hj;rw[hj2]at this;rw[Lgh,←this];rfl
theorem sort_by(q n c m:Nat)(ks:List (List UInt8))(h32:∀l∈ks,l.length=32)(hl:ks.length=n)(h0:0<n)(hbig:n≤1000000)(hm:n*32≤m)(f:Nat)(caps:List Value)(cf:List UInt8→List UInt8→Int)(swo:SWO (ltOf fun x y: {l:List UInt8//l∈ks}=>cf x.1 y.1))(bl:List Blk)
    (eg:∀args w,(callFunc f args).run prog w= .ok (.enter f args) w) (hcm:∀x∈ks,∀y∈ks,Meets prog f ([agg (Aa x),agg (Aa y)]++caps) [] (Lies bl) (fun v out=>v=i64 (cf x y)∧out=[])):
    Meets prog 140 [.slice (some ⟨q,0,none⟩) n c, .func (.func f) #[] caps.toArray] [q] (fun W=>BlkOk W ⟨q,As ks,34,m⟩∧Lies bl W∧∀b∈bl,b.n≠q)
    (fun v out=>v= .tuple #[]∧∃ks':List (List UInt8),ks'.Perm ks∧ks'.Pairwise (fun a b=>¬cf b a<0)∧out=[⟨q,As ks',34,m⟩]):=fun W ⟨hb,hbl,hbq⟩=>by
  haveI:Inhabited {l:List UInt8//l∈ks}:=⟨⟨ks[0]'oM,Lce _⟩⟩
  obtain⟨d,hd⟩:∃d:Array {l:List UInt8//l∈ks},d=ks.attach.toArray:=⟨_,rfl⟩;have hdl:d.toList.map (·.1)=ks:=by rw[hd];simp
  have hds:d.size=n:=by rw[hd,←hl];simp
  have hg:∀x: {l:List UInt8//l∈ks},x.1.length=32:=fun x=>h32 x.1 x.2;have hb0:∃full fr,BlkAt W ⟨q,As ks,34,m⟩ full fr:=hb;obtain⟨full,fr,hbk⟩:=hb0;have hfl:=Aw h32;have hH:HoldsK (fun x: {l:List UInt8//l∈ks}=>Aa x.1) 32 W q 0 d:=fun j hj=>by
    rw[size_flatK]at hj;have hj2:j<(As ks).length:=by rw[hfl,hl,←hds];exact hj
    have h1:=La3 hj2;have h2:=(flatK_any (fun x: {l:List UInt8//l∈ks}=>x.1) hg d j _ (by rw[hdl];exact h1)).2;rw[h2];exact⟨hb.cell (b:=⟨q,As ks,34,m⟩) (by rw[Lb0];exact h1),hbk.unfrozen (by show 0+j<m;omega)⟩
  have hcmp:CmpLays prog f caps.toArray (fun x: {l:List UInt8//l∈ks}=>Aa x.1) 32 (fun x y=>cf x.1 y.1) q 0 d.size W:=fun k os dk hk x y=>by
    have hl2:Lies bl (sortWorldK (fun x: {l:List UInt8//l∈ks}=>Aa x.1) 32 W q 0 k dk os):=fun b hb2=>(hbl b hb2).of_heap (sort_keep (hbl b hb2).lt (hbq b hb2));have h3:=hcm x.1 x.2 y.1 y.2 _ hl2;have e:([agg (Aa x.1),agg (Aa y.1)]++caps).toArray= #[.agg (Aa x.1).toArray, .agg (Aa y.1).toArray]++caps.toArray:=by simp[agg]
    rw[e]at h3;exact h3.mono fun e' W' ⟨v,out,he,⟨hv,_⟩,hr⟩=>⟨by rw[he,hv],ret_grow hr⟩
  have hz25:∀w,(Go.sizeOf (sortD_ren.t 24)).run prog w= .ok 32 w:=by
    intro w;have e:sortD_ren.t 24=34:=by rfl
    rw[e];exact Cg Sz34 w
  have hcon:=AnyQ.slices_SortFunc sortD 32 (fun w=>run_isAgg_arr Y34.h rfl w) (fun w=>hz25 w) (fun x: {l:List UInt8//l∈ks}=>Aa x.1) (fun x=>by rw[Aa,La0,hg x]) (fun x v hv=>by obtain⟨u,_,rfl⟩:=La6.1 hv;rfl) (fun x y=>cf x.1 y.1) swo f caps.toArray q 0 c d W eg hcmp hH hb.lt oM;have hcon2:Calls prog 140 #[.slice (some ⟨q,0,none⟩) d.size c, .func (.func f) #[] caps.toArray] W _:=hcon;rw[hds]at hcon2;refine hcon2.mono fun e W' ⟨he,d',k,os,hp,hs,hw⟩=>?_;subst hw;have hsz':d'.size=d.size:=hp.1;obtain⟨ks',hk'⟩:∃ks',ks'=d'.toList.map (·.1):=⟨_,rfl⟩;have h32':∀l∈ks',l.length=32:=fun l hl=>by rw[hk']at hl;obtain⟨x,_,rfl⟩:=La6.1 hl;exact hg x
  have hlen':ks'.length=n:=by rw[hk'];simp[hsz',hds]
  have hperm:ks'.Perm ks:=by
    have h4:(d'.toList.map (·.1)).Perm (d.toList.map (·.1)):=by
      refine List.Perm.map _ ?_;have h3:=hp.2.2;have e1:d.extract 0 d.size=d:=by simp
      have e2:d'.extract 0 d.size=d':=by rw[←hsz'];simp
      rw[←hds]at h3;rwa[e1,e2]at h3
    rw[hk'];rw[hdl]at h4;exact h4
  have hsort:ks'.Pairwise (fun a b=>¬cf b a<0):=by
    rw[hk'];refine Lgy.2 (Lco.2 fun i j hi hj hij=>?_);have h4:=hs i j (Laq _) hij (by rw[←hds,←hsz'];simpa using hj);have h5:decide (cf d'[j]!.1 d'[i]!.1<0)=false:=h4;rw[decide_eq_false_iff_not]at h5;have hi2:i<d'.size:=by simpa using hi
    have hj2:j<d'.size:=by simpa using hj
    rw[getElem!_pos d' j hj2,getElem!_pos d' i hi2]at h5;simpa using h5
  refine⟨_,_,he,⟨rfl,ks',hperm,hsort,rfl⟩,⟨⟨rfl,rfl,rfl,?_,Lhb W.drawn k,fun i hi hn=>?_⟩,fun b hb2=>?_,by simp,fun b hb2=>?_⟩⟩
  ·simp[sortWorldK,grow,putRowK]
  ·exact sort_keep hi (by simpa using hn)
  · rw[La1.1 hb2]
    have hq:W.heap[q]? =some (.cells full 34 fr):=hbk.heap;have hql:q<W.heap.size:=hb.lt;refine⟨putCells id 0 (flatK (fun x: {l:List UInt8//l∈ks}=>Aa x.1) 32 d') full,fr,?_,by simpa[putCells]using hbk.size,?_,hbk.free⟩
    · simp only[sortWorldK,grow,putRowK,putRow,mapBlock]
      rw[Ldv (by simpa using hql),Le3,if_pos rfl,show(Go.Sort.ahead W k).heap[q]? =some (Obj.cells full 34 fr)from hq];rfl
    · have hms:=hbk.size
      simp only at hms;rw[prefix_iff];intro j v hj;simp only at hj;have hf:=flatK_any (fun x: {l:List UInt8//l∈ks}=>x.1) hg d' j v (by rw[←hk'];exact hj);simp only[putCells,Le2,Array.getElem?_mapIdx];have hjf:j<full.size:=by rw[hms];have:=hf.1;omega
      rw[Ld0 hjf];simp only[Lbe,La7,Laq,true_and,Lb0,size_flatK,Lgf];rw[if_pos hf.1,hf.2];rfl
  ·rw[La1.1 hb2];exact .inr sP
theorem sort_none_f(p:Option Addr)(c:Nat)(f:Value):Mv 140 [.slice p 0 c,f] (fun _=>True) (.tuple #[]):=fun W _=>by
  have hcon:=AnyF.slices_SortFunc_none sortD p c f W;have hcon2:Calls prog 140 #[.slice p 0 c,f] W _:=hcon;refine hcon2.mono fun e W' h=>?_;obtain⟨he,hw⟩:=h;subst hw;exact⟨_,[],he,⟨rfl,rfl⟩,⟨Keeps.refl _ _,fun b hb=>(by cases hb),Ld3,fun b hb=>(by cases hb)⟩⟩
def or2(x y:Int):Int:=if x≠0 then x else y
theorem cmp_or2(q:Nat)(x y:Int):Mv 142 [.slice (some ⟨q,0,none⟩) 2 2] (fun W=>C6 W q 0 [i64 x,i64 y]) (i64 (or2 x y)):=by
  intro W hW;refine Ad func142 J 18 ntmps142 J (G19 ?_);refine .loop (ι:=Nat) (fun k=>⟨[(0, .slice (some ⟨q,0,none⟩) 2 2),(3,i64 0),(6, .slice (some ⟨q,0,none⟩) 2 2),(7,i64 2),(8,i64 (k:Int))],[]⟩) (fun k=>k≤2∧(0<k→x=0)∧(1<k→y=0)) (fun k=>2-k) (0) ?_ ?_ ?_
  ·exact⟨by decide,fun h=>by omega,fun h=>by omega⟩
  ·exact Ag wN wh0 nD
  rintro k ⟨hk,hx,hy⟩;refine G6 ?_;refine .condP J (fun hc0=>?_) (fun hc0=>?_)
  ·
    have hk2:k<2:=by omega
    obtain⟨z,hz⟩:∃z,[x,y][k]? =some z:=⟨_,La3 (by simpa using hk2)⟩;have hzz:z=[x,y].getD k 0:=by rw[La4,hz];rfl
    have hzc:[i64 x,i64 y][k]? =some (i64 z):=by rcases(show k=0∨k=1 by omega)with rfl|rfl<;>(simp at hz;simp[hz])
    refine G6 ?_;refine .idxSlP 1 J J J J J Y23.h Sz3 k J oM (.loadE J J J Y3.h J sP ((by have:=hW k _ hzc;simpa using this)) ?_);refine G10 ?_;refine .condNP J (fun hc1=>?_) (fun hc1=>?_)
    ·
      refine G6 ?_;refine G7 ?_;refine⟨_,[],Af J J,sP,sP,?_,rfl⟩;first
        | (rcases(show k=0∨k=1 by omega)with rfl|rfl
           · obtain rfl:z=x:=by rw[hzz];rfl
             rw[or2,if_pos oM]
           · obtain rfl:z=y:=by rw[hzz];rfl
             rw[or2,if_neg (by have:=hx oM;omega)])
        |rw[or2,hx oM,hy oM];rfl
    refine G8 ?_;refine⟨k+1,⟨by omega,fun _=>?_,fun _=>?_⟩,by omega,Ag wN wh0 nD⟩
    · rcases(show k=0∨k=1 by omega)with rfl|rfl
      ·rw[hzz]at hc1;simpa using hc1
      ·exact hx oM
    · obtain rfl:k=1:=by omega
      rw[hzz]at hc1;simpa using hc1
  have hke:k=2:=by omega
  refine G11 ?_;refine G2 ?_;refine⟨_,[],Af J J,sP,sP,?_,rfl⟩;first
    | (rcases(show k=0∨k=1 by omega)with rfl|rfl
       · obtain rfl:z=x:=by rw[hzz];rfl
         rw[or2,if_pos oM]
       · obtain rfl:z=y:=by rw[hzz];rfl
         rw[or2,if_neg (by have:=hx oM;omega)])
    |rw[or2,hx oM,hy oM];rfl
def cmpD(X:PD)(a b:List UInt8):Int:=or2 (cmpI (X.dp a) (X.dp b)) (C3 a b)
def LeD(X:PD)(a b:List UInt8):Prop:=X.dp a<X.dp b∨X.dp a=X.dp b∧C3 a b≤0
theorem cmpD_neg(X:PD)(a b:List UInt8):cmpD X a b<0↔X.dp a<X.dp b∨X.dp a=X.dp b∧C3 a b<0:=by
  unfold cmpD or2 cmpI;split<;>(repeat split)<;>omega
theorem cmpD_le(X:PD)(a b:List UInt8):¬cmpD X b a<0↔LeD X a b:=by
  have:=cmpB_neg a b;rw[cmpD_neg];unfold LeD;omega
theorem swoD(X:PD)(ks:List (List UInt8)):SWO (ltOf fun x y: {l:List UInt8//l∈ks}=>cmpD X x.1 y.1):=by
  have e:∀x y: {l:List UInt8//l∈ks},ltOf (fun x y: {l:List UInt8//l∈ks}=>cmpD X x.1 y.1) x y=decide (cmpD X x.1 y.1<0):=fun _ _=>rfl;constructor
  · intro x
    rw[e,decide_eq_false_iff_not,cmpD_neg,cmpB_self];omega
  · intro x y z h1 h2
    rw[e,decide_eq_true_eq,cmpD_neg]at*;have:=cmpB_trans x.1 y.1 z.1;omega
  · intro x y z h1 h2
    rw[e,decide_eq_false_iff_not,cmpD_le]at*;have:=cmpB_trans z.1 y.1 x.1;unfold LeD at*;omega
def SortD(X:PD)(ks:List (List UInt8)):Prop:=ks.Pairwise (LeD X)
theorem sortD_unique{X:PD}{a b:List (List UInt8)}(hp:a.Perm b)(ha:SortD X a)(hb:SortD X b):a=b:=
  hp.eq_of_pairwise (fun x y _ _ h1 h2=>by
    have h3:=cmpB_neg x y;unfold LeD at h1 h2;exact(cmpB_zero x y).1 oM) ha hb
theorem Lies.app{a b:List Blk}(h1:Lies a w)(h2:Lies b w):Lies (a++b) w:=fun x hx=>by
  rcases La9.1 hx with h|h
  ·exact h1 x h
  ·exact h2 x h
theorem sort_acc_by(s:Sl)(bl:List Blk)(ks:List (List UInt8))(h32:∀l∈ks,l.length=32)(hbig:ks.length≤1000000)(hac:Hw.Acc s bl (As ks) 34 ks.length 32)(f:Nat)(caps:List Value)(cf:List UInt8→List UInt8→Int)(swo:SWO (ltOf fun x y: {l:List UInt8//l∈ks}=>cf x.1 y.1))(bl2:List Blk)
    (eg:∀args w,(callFunc f args).run prog w= .ok (.enter f args) w) (hcm:∀x∈ks,∀y∈ks,Meets prog f ([agg (Aa x),agg (Aa y)]++caps) [] (Lies bl2) (fun v out=>v=i64 (cf x y)∧out=[])):
    Meets prog 140 [s.v, .func (.func f) #[] caps.toArray] (bl.map (·.n)) (fun W=>Lies bl W∧Lies bl2 W∧∀b∈bl2,∀b'∈bl,b.n≠b'.n)
    (fun v out=>v= .tuple #[]∧∃ks':List (List UInt8),ks'.Perm ks∧ks'.Pairwise (fun a b=>¬cf b a<0)∧Hw.Acc s out (As ks') 34 ks.length 32):=fun W ⟨h1,h2,h3⟩=>by
  rcases hac with ⟨rfl,rfl,hz,hn⟩|⟨q,c,rfl,hnc,hfl,rfl⟩
  · obtain rfl:=Lag hn
    exact(sort_none_f none 0 _ W trivial).mono fun e W' ⟨v,out,he,⟨hv,ho⟩,hr⟩=>⟨v,out,he,⟨hv,[],Lcq _,List.Pairwise.nil, .inl ⟨rfl,ho,rfl,rfl⟩⟩,hr⟩
  · have hb:BlkOk W ⟨q,As ks,34,c*32⟩:=h1 _ (La1.2 rfl)
    by_cases h0:ks.length=0
    · obtain rfl:=Lag h0
      refine(sort_none_f (some ⟨q,0,none⟩) c _ W trivial).mono fun e W' ⟨v,out,he,⟨hv,ho⟩,hr⟩=>⟨v,[⟨q,As [],34,c*32⟩],he,⟨hv,[],Lcq _,List.Pairwise.nil, .inr ⟨q,c,rfl,hnc,hfl,rfl⟩⟩,⟨hr.keeps.mono sP,fun b hb2=>?_,by simp,fun b hb2=>?_⟩⟩
      · rw[La1.1 hb2]
        exact hb.of_heap (hr.keeps.block q hb.lt sP)
      ·rw[La1.1 hb2];exact .inr sP
    · refine(sort_by q ks.length c (c*32) ks h32 rfl oM hbig (Ler 32 hnc) f caps cf swo bl2 eg hcm W ⟨hb,h2,fun b hb2=>h3 b hb2 _ (La1.2 rfl)⟩).mono fun e W' ⟨v,out,he,⟨hv,ks',hp,hs,ho⟩,hr⟩=>⟨v,out,he,⟨hv,ks',hp,hs,?_⟩,hr⟩
      have h32':∀l∈ks',l.length=32:=fun l hl=>h32 l (hp.mem_iff.1 hl);exact .inr ⟨q,c,rfl,hnc,by rw[Aw h32',hp.length_eq],ho⟩
theorem order_cmp(x:PD)(a b:List UInt8)(ha:a.length=32)(hb:b.length=32)(qf na nb nc m:Nat)(fs:List (List UInt8×Int))(hda:Am fs a=some (x.dp a))(hdb:Am fs b=some (x.dp b)):Mv 141 [agg (Aa a),agg (Aa b),ptr qf 0] (fun W=>W.cell? ⟨qf,0,none⟩=some (.func (.func 144) #[] #[ptr na 0,ptr nb 0,ptr nc 0])∧W.cell? ⟨na,0,none⟩=some (.map (some m))∧BlkOk W (A3 m (Ao 32 evI) fs)) (i64 (cmpD x a b)):=by
 intro W hW;refine Ad func141 J 18 ntmps141 J (G3 ?_);intro n3 hn3 hf3;refine G1 ?_;intro n4 hn4 hf4;refine G4 ?_;refine .draw (oP [100,101,103,104,107,108,302,305,306,309,210,311,12]) Ar zK (.loadE J J J underlying118 J sP (hW.1) (.lA J J J Y34.h J Sz34 Z1 (by(simp[ha];done)) ?_));refine .loadE J J J underlying118 J sP (hW.1) (.lA J J J Y34.h J Sz34 Z0 (by(simp[hb];done)) ?_);refine .lA J J J Y34.h J Sz34 Z1 (by(simp[ha];done)) ?_;refine .lA J J J Y34.h J Sz34 Z0 (by(simp[hb];done)) ?_;refine .callCV J J J J J Body144 (depth_known a ha na nb nc m fs (x.dp a) hda) (fun w h=>⟨h.keeps.cell sP hW.2.1,mblk_keep hW.2.2 h⟩) (.callCV J J J J J Body144 (depth_known b hb na nb nc m fs (x.dp b) hdb) (fun w h=>⟨h.keeps.cell sP hW.2.1,mblk_keep hW.2.2 h⟩) (.cV J J J J Body143 (cmp_int (x.dp a) (x.dp b)) tV (.cV J J J J Body95 (block_cmp a b ha hb) tV (.mkRow2 (z:=i64 0) [i64 (cmpI (x.dp a) (x.dp b)),i64 (C3 a b)] [i64 (cmpI (x.dp a) (x.dp b)),i64 (C3 a b)] rfl J Y23.h Sz3 Zr3 J J (by intro v hv;simp only[Lan,Lc6,or_false]at hv;rcases hv with rfl|rfl<;>simp[Value.cells]) dE (by simp[Value.cells]) ?_))));intro q16;refine .cV J J J J Body142 (cmp_or2 q16 (cmpI (x.dp a) (x.dp b)) (C3 a b)) (fun w h=>Ap h Z0) ?_;refine G3 ?_;refine G2 ?_;refine Ay (out:=[]) (Af J J) Ae ?_;exact⟨rfl,rfl⟩
theorem order_pre{C:Cx}{hp bl keep L:List Blk}{B:Blk}(h:HRep C hp w)(hp1:hp.Perm (bl++keep))(hB:B∈hp)(hL:Lies L C.W0)(hd:∀b∈L,∀b2∈bl,b.n≠b2.n)(hl:C.lent=bl.map (·.n):=by rfl)(hBb:∀b2∈bl,B.n≠b2.n):Lies bl w∧Lies (B::L) w∧∀b∈B::L,∀b2∈bl,b.n≠b2.n:=by
  refine⟨fun b hb=>h.cells b (hp1.mem_iff.2 (Lak _ hb)),fun b hb=>?_,fun b hb=>?_⟩
  · rcases Lan.1 hb with rfl|hb
    ·exact h.cells _ hB
    · refine(hL b hb).of_heap (h.keeps.block b.n (hL b hb).lt fun hm=>?_)
      rw[hl]at hm;obtain⟨b2,h2,e⟩:=La6.1 hm;exact hd b hb b2 h2 e.symm
  · rcases Lan.1 hb with rfl|hb
    ·exact hBb
    ·exact hd b hb
theorem lin_order(x:PD)(s:Sl)(bl:List Blk)(ks:List (List UInt8))(h32:∀l∈ks,l.length=32)(hbig:ks.length≤1000000)(hac:Hw.Acc s bl (As ks) 34 ks.length 32)(na nb nc m:Nat)(fs:List (List UInt8×Int))(hfs:∀n∈ks,Am fs n=some (x.dp n)):Meets prog 82 [s.v, .func (.func 144) #[] #[ptr na 0,ptr nb 0,ptr nc 0]] (bl.map (·.n)) (fun W=>Lent bl W∧Lies [⟨na,[.map (some m)],32,1⟩,A3 m (Ao 32 evI) fs] W∧∀b∈ [⟨na,[.map (some m)],32,1⟩,A3 m (Ao 32 evI) fs],∀b2∈bl,b.n≠b2.n) (fun v out=>v= .tuple #[]∧∃ks2:List (List UInt8),ks2.Perm ks∧SortD x ks2∧Hw.Acc s out (As ks2) 34 ks.length 32):=by
 intro W hW;have eg:∀args w,(callFunc 141 args).run prog w= .ok (.enter 141 args) w:=enters_of func141 zK rfl;refine calls_of (hp0:=bl) func82 J 7 ntmps82 J hW.1.rep (G2 ?_);refine .box1 J J J ?_;intro n3 hn3 hf3;refine G5 ?_;refine .callL (L:=bl) J J J J J Body140 (sort_acc_by s bl ks h32 hbig hac 141 [ptr n3 0] (cmpD x) (swoD x ks) (⟨n3,[.func (.func 144) #[] #[ptr na 0,ptr nb 0,ptr nc 0]],118,1⟩::[⟨na,[.map (some m)],32,1⟩,A3 m (Ao 32 evI) fs]) eg (fun a ha b hb=>(order_cmp x a b (h32 a ha) (h32 b hb) n3 na nb nc m fs (hfs a ha) (hfs b hb)).imp (fun w hl=>⟨(hl _ La8).cell (o:=0) J,(hl _ (Laj _ La8)).cell (o:=0) J,hl _ (Laj _ (Laj _ La8))⟩) fun v out h=>h)) (by repeat(first|exact sg_end|apply sg_there)) (lent_ok J) (fun w h=>order_pre (B:=⟨n3,[.func (.func 144) #[] #[ptr na 0,ptr nb 0,ptr nc 0]],118,1⟩) h (by repeat(first|exact sg_end|apply sg_there)) Z0 hW.2.1 hW.2.2 J (fun b2 h2 e=>hf3 b2 h2 e.symm)) ?_;rintro v6 out6 ⟨rfl,ks2,hp2,hs2,hac2⟩;refine G2 ?_;refine Ay (out:=(out6++[])) (res_none J) (Ac sG Ae) ?_;exact⟨rfl,ks2,hp2,hs2.imp fun h=>(cmpD_le x _ _).1 h,by simpa using hac2⟩
end Go.Proofs.YtpogmfngccolbaaGreat
namespace Go.Proofs.YtpogmfngccolbaaGreat
open Go Hw _root_.Go.Proofs.Tryz
noncomputable def beneath(X:PD)(L:List (List UInt8)):List (List UInt8):=(X.P.map (·.1)).filter fun n=>rB X (-1) L n
variable{W:World}{X:PD}
theorem clos_len(hI:X.Inv){L ks:List (List UInt8)}(hnd:ks.Nodup)(hks:∀n,n∈ks↔X.Reach (-1) L n):ks.length=(beneath X L).length:=by
  refine((List.perm_ext_iff_of_nodup hnd (hI.nd.filter _)).2 fun n=>?_).length_eq;rw[hks,Lbt,rB_iff];refine⟨fun h=>⟨?_,h⟩,fun h=>h.2⟩;obtain⟨D,hD⟩:=reach_P h;exact La6.2 ⟨(n,D),Bk hD,rfl⟩
theorem seesP_left{p:Option Addr}{a b:List Value}(h:SeesP W p (a++b)):SeesP W p a:=fun j v hj=>h j v (by rw[Lb3 (Lac.1 hj).1];exact hj)
theorem rows_take{s:Sl}{ls:List (List UInt8)}{m:Nat}(h:SeesP W s.p (As ls))(hr:∀l∈ls,l.length=32):SeesP W s.p (As (ls.take m)):=by
  have e:As ls=As (ls.take m)++As (ls.drop m):=by rw[←Bo,Lc0]
  rw[e]at h;exact seesP_left h
theorem reach_nil{a:Int}{n:List UInt8}(h:X.Reach a [] n):False:=by
  induction h with
  |base h1 _ _=>cases h1
  |step _ _ _ _ _ ih=>exact ih
end Go.Proofs.YtpogmfngccolbaaGreat
namespace Go.Proofs.YtpogmfngccolbaaGreat
open Go Hw Ed
variable{j n:Nat}{k st w:List UInt64}{p:List UInt8}{α:Type}{l:List α}
theorem cons_of8(h:l.length=n+1):∃a t,l=a::t∧t.length=n:=by
  cases l with
  |nil=>cases h
  |cons a t=>exact⟨a,t,rfl,by simpa using h⟩
def forceA{α:Type}(s:Nat)(f:Nat→α):α:=Nat.casesOn (motive:=fun _=>α) s (f 0) (fun m=>f (m+1))
theorem forceA_eq(s:Nat)(f:Nat→α):forceA s f=f s:=by cases s<;>rfl
def aN(a b:Nat):Nat:=Nat.mod (Nat.add a b) 18446744073709551616
def shN(x s:Nat):Nat:=Nat.mod (Nat.mul x (Nat.pow 2 s)) 18446744073709551616
def rolN(x s:Nat):Nat:=Nat.lor (shN x s) (Nat.div x (Nat.pow 2 (Nat.sub 64 s)))
def o8N(x:Nat)(b:UInt8):Nat:=Nat.lor (shN x 8) b.toNat
def sg0N(x:Nat):Nat:=Nat.xor (Nat.xor (rolN x 63) (rolN x 56)) (Nat.div x (Nat.pow 2 7))
def sg1N(x:Nat):Nat:=Nat.xor (Nat.xor (rolN x 45) (rolN x 3)) (Nat.div x (Nat.pow 2 6))
def t1N(e f g h k w:Nat):Nat:=aN (aN (aN (aN h (Nat.xor (Nat.xor (rolN e 50) (rolN e 46)) (rolN e 23))) (Nat.xor (Nat.land e f) (Nat.land (Nat.xor 18446744073709551615 e) g))) k) w
def t2N(a b c:Nat):Nat:=aN (Nat.xor (Nat.xor (rolN a 36) (rolN a 30)) (rolN a 25)) (Nat.xor (Nat.xor (Nat.land a b) (Nat.land a c)) (Nat.land b c))
def wgo:List UInt8→List Nat→List Nat
  |a::b::c::d::e::f::g::h::t,r=>forceA (o8N (o8N (o8N (o8N (o8N (o8N (o8N (o8N 0 a) b) c) d) e) f) g) h) fun v=>wgo t (v::r)
  |_,r=>r
def nxN(r:List Nat):Nat:=aN (aN (aN (r.getD 15 0) (sg0N (r.getD 14 0))) (r.getD 6 0)) (sg1N (r.getD 1 0))
def sgo:Nat→List Nat→List Nat
  |0,r=>r
  |n+1,r=>forceA (nxN r) fun v=>sgo n (v::r)
def rgo:List Nat→List Nat→Nat→Nat→Nat→Nat→Nat→Nat→Nat→Nat→List Nat
  |k::ks,w::ws,a,b,c,d,e,f,g,h=>forceA (t1N e f g h k w) fun t=>forceA (aN t (t2N a b c)) fun a2=>forceA (aN d t) fun e2=>rgo ks ws a2 a b c e2 e f g
  |_,_,a,b,c,d,e,f,g,h=>[a,b,c,d,e,f,g,h]
def adN:List Nat→List Nat→List Nat
  |x::xs,y::ys=>forceA (aN x y) fun z=>z::adN xs ys
  |_,_=>[]
def rgoL(ks ws:List Nat):List Nat→List Nat
  | [a,b,c,d,e,f,g,h]=>rgo ks ws a b c d e f g h
  |_=>[]
def pieceN(ks st:List Nat)(p:List UInt8):List Nat:=adN st (rgoL ks (sgo 64 (wgo p [])).reverse st)
def runN(ks st:List Nat)(bs:List UInt8):Nat→List Nat
  |0=>st
  |i+1=>pieceN ks (runN ks st bs i) ((bs.drop (128*i)).take 128)
def padT(n:Nat):List UInt8:=128::(List.replicate (padZ n) 0++(beUp 0 8++beUp (UInt64.ofNat (8*n)) 8))
def allN(ks st:List Nat)(l:List UInt8):List Nat:=forceA l.length fun n=>runN ks st (l++padT n) ((n+17+padZ n)/128)
theorem padT_eq(l:List UInt8):padB l=l++padT l.length:=by simp[padB,padT]
theorem sh_hom(x:UInt64)(s:Nat):(A6 x s).toNat=shN x.toNat s:=by rw[A6,Lc3];rfl
theorem sr_hom(x:UInt64)(s:Nat):(Ax x s).toNat=Nat.div x.toNat (Nat.pow 2 s):=by
  have h:x.toNat/2^s<18446744073709551616:=Lfb (Ldd _ _) x.toNat_lt;rw[Ax,Lc3];exact Lal h
theorem add_hom(x y:UInt64):(x+y).toNat=aN x.toNat y.toNat:=Lbh x y
theorem or_hom(x y:UInt64):(x|||y).toNat=Nat.lor x.toNat y.toNat:=Leu x y
theorem xor_hom(x y:UInt64):(x^^^y).toNat=Nat.xor x.toNat y.toNat:=UInt64.toNat_xor x y
theorem and_hom(x y:UInt64):(x&&&y).toNat=Nat.land x.toNat y.toNat:=Lft x y
theorem rol_hom(x:UInt64)(s:Nat):(rolW x s).toNat=rolN x.toNat s:=by rw[rolW,or_hom,sh_hom,sr_hom];rfl
theorem sg0_hom(x:UInt64):(sig0 x).toNat=sg0N x.toNat:=by simp only[sig0,xor_hom,rol_hom,sr_hom];rfl
theorem sg1_hom(x:UInt64):(sig1 x).toNat=sg1N x.toNat:=by simp only[sig1,xor_hom,rol_hom,sr_hom];rfl
theorem t1_hom(s:W8)(k w:UInt64):(rndT1 s k w).toNat=t1N s.e.toNat s.f.toNat s.g.toNat s.h.toNat k.toNat w.toNat:=by
  simp only[rndT1,add_hom,xor_hom,and_hom,rol_hom];rfl
theorem t2_hom(s:W8):(rndT2 s).toNat=t2N s.a.toNat s.b.toNat s.c.toNat:=by
  simp only[rndT2,add_hom,xor_hom,and_hom,rol_hom];rfl
theorem o8_hom(x:UInt64)(b:UInt8):(A6 x 8|||b.toUInt64).toNat=o8N x.toNat b:=by
  rw[or_hom,sh_hom,Le9];rfl
def wU:List UInt8→List UInt64
  |a::b::c::d::e::f::g::h::t=>(A6 (A6 (A6 (A6 (A6 (A6 (A6 (A6 0 8|||a.toUInt64) 8|||b.toUInt64) 8|||c.toUInt64) 8|||d.toUInt64) 8|||e.toUInt64) 8|||f.toUInt64) 8|||g.toUInt64) 8|||h.toUInt64)::wU t
  |_=>[]
theorem wgo_eq:∀(n:Nat) (p:List UInt8) (r:List Nat),p.length=8*n→wgo p r=((wU p).map UInt64.toNat).reverse++r
  | 0,p,r,h=>by
    obtain rfl:=Lag h;rfl
  | n+1,p,r,h=>by
    have h:p.length=8*n+7+1:=h
    iterate 8 (obtain⟨a,l,e,h2⟩:=cons_of8 h;clear h;subst e;have h:=h2;clear h2)
    rw[wgo,forceA_eq,wgo_eq n _ _ h,wU,Las,List.reverse_cons,Lab];simp only[o8_hom];rfl
theorem schA_words(p:List UInt8)(h:p.length=128):schA p 128=wU p++List.replicate 64 0:=by
  iterate 128 (obtain⟨a,l,e,h2⟩:=cons_of8 h;clear h;subst e;have h:=h2;clear h2)
  obtain rfl:=Lag h;clear h;refine Eq.trans ?_ rfl;kernel_rfl
theorem wU_length:∀(n:Nat) (p:List UInt8),p.length=8*n→(wU p).length=n
  | 0,p,h=>by
    obtain rfl:=Lag h;rfl
  | n+1,p,h=>by
    have h:p.length=8*n+7+1:=h
    iterate 8 (obtain⟨a,l,e,h2⟩:=cons_of8 h;clear h;subst e;have h:=h2;clear h2)
    rw[wU,Lax,wU_length n _ h]
def SJ(w:List UInt64)(j:Nat):List Nat:=(((schB w j).take (16+j)).map UInt64.toNat).reverse
theorem take_set(h:n<l.length)(v:α):(l.set n v).take (n+1)=l.take n++[v]:=by
  have hl:(l.take n).length=n:=by rw[Laa];omega
  rw[Ldp,if_pos h,Lbb,hl,La5 oM,show n+1-n=1 by omega];rfl
theorem SJ_get(hw:w.length=80){j i:Nat}(hj:j≤64)(hi:i<16+j):(SJ w j).getD i 0=((schB w j).getD (15+j-i) 0).toNat:=by
  have hl:((schB w j).take (16+j)).length=16+j:=by rw[Laa,schB_length,hw];omega
  have h1:15+j-i<(schB w j).length:=by rw[schB_length,hw];omega
  rw[SJ,La4,List.getElem?_reverse (by rw[La0,hl];exact hi),La0,hl,Laf,Lex oM,show 16+j-1-i=15+j-i by omega,La4,La3 h1];rfl
theorem SJ_succ(hw:w.length=80)(hj:j<64):SJ w (j+1)=nxN (SJ w j)::SJ w j:=by
  have h1:SJ w (j+1)=((schB w j).getD j 0+sig0 ((schB w j).getD (j+1) 0)+(schB w j).getD (j+9) 0+sig1 ((schB w j).getD (j+14) 0)).toNat::SJ w j:=by
    rw[SJ,schB,show 16+(j+1)=(16+j)+1 by omega,take_set (by rw[schB_length,hw];omega),Lae,List.reverse_append];rfl
  rw[h1,nxN,SJ_get hw oM oM,SJ_get hw oM oM,SJ_get hw oM oM,SJ_get hw oM oM,show 15+j-15=j by omega,show 15+j-14=j+1 by omega,show 15+j-6=j+9 by omega,show 15+j-1=j+14 by omega];simp only[add_hom,sg0_hom,sg1_hom]
theorem sgo_run{w:List UInt64}(hw:w.length=80):∀n j,j+n≤64→sgo n (SJ w j)=SJ w (j+n)
  |0,j,_=>rfl
  | n+1,j,h=>by
    rw[sgo,forceA_eq,←SJ_succ hw oM,sgo_run hw n (j+1) oM,show j+1+n=j+(n+1) by omega]
theorem sch_N(h:p.length=128):(sgo 64 (wgo p [])).reverse=(schW p).map UInt64.toNat:=by
  have hw:(schA p 128).length=80:=schA_length p 128;have e:wgo p []=SJ (schA p 128) 0:=by
    rw[wgo_eq 16 p [] h,SJ,Lau,schB,schA_words p h,Lcd (by rw[wU_length 16 p h];omega),La5 (by rw[wU_length 16 p h];omega)]
  rw[e,sgo_run hw 64 0 oM,SJ,List.reverse_reverse,schW,La5 (by rw[schB_length,hw];omega)]
def rndF(ks ws:List UInt64)(s:W8):W8:=(ks.zip ws).foldl (fun s p=>rnd1 s p.1 p.2) s
theorem rnds_F{k w:List UInt64}(s:W8)(hk:k.length=80)(hw:w.length=80):∀t,t≤80→rnds k w s t=rndF (k.take t) (w.take t) s
  |0,_=>by simp[rnds,rndF]
  | t +1,h=>by
    have e:rndF (k.take (t+1)) (w.take (t+1)) s=rnd1 (rndF (k.take t) (w.take t) s) (k[t]'oM) (w[t]'oM):=by
      rw[Lar oM,Lar oM,rndF,List.zip_append (by rw[Laa,Laa,hk,hw]),Ldx];rfl
    rw[rnds,rnds_F s hk hw t oM,e,La4,La4,La3 oM,La3 oM];rfl
theorem rgo_eq:∀(ks ws:List UInt64) (s:W8),rgo (ks.map UInt64.toNat) (ws.map UInt64.toNat) s.a.toNat s.b.toNat s.c.toNat s.d.toNat s.e.toNat s.f.toNat s.g.toNat s.h.toNat=(rndF ks ws s).l.map UInt64.toNat
  | [],ws,s=>by simp only[rndF,List.zip_nil_left,Lgd,Lej,rgo,W8.l,Las]
  |_::_,[],s=>by simp only[rndF,List.zip_nil_right,Lgd,Lej,Las,rgo,W8.l]
  | k::ks,w::ws,s=>by
    have e:rndF (k::ks) (w::ws) s=rndF ks ws (rnd1 s k w):=by simp only[rndF,List.zip_cons_cons,Lef]
    rw[Las,Las,rgo,forceA_eq,forceA_eq,forceA_eq,e,←rgo_eq ks ws];simp only[rnd1,add_hom,t1_hom,t2_hom]
theorem add8{st xs:List UInt64}(h1:st.length=8)(h2:xs.length=8):(addUp st xs 8).map UInt64.toNat=adN (st.map UInt64.toNat) (xs.map UInt64.toNat):=by
  iterate 8 (obtain⟨a,l,e,h3⟩:=cons_of8 h1;clear h1;subst e;have h1:=h3;clear h3)
  obtain rfl:=Lag h1
  iterate 8 (obtain⟨a,l,e,h3⟩:=cons_of8 h2;clear h2;subst e;have h2:=h3;clear h3)
  obtain rfl:=Lag h2;simp only[Las,Lej,adN,forceA_eq,←add_hom];rfl
theorem piece_N(hk:k.length=80)(hs:st.length=8)(hp:p.length=128):(pieceW k st p).map UInt64.toNat=pieceN (k.map UInt64.toNat) (st.map UInt64.toNat) p:=by
  have hw:(schW p).length=80:=by rw[schW,schB_length,schA_length]
  have e:rgoL (k.map UInt64.toNat) ((schW p).map UInt64.toNat) (st.map UInt64.toNat)=(rnds k (schW p) (W8.of st) 80).l.map UInt64.toNat:=by
    rw[rnds_F _ hk hw 80 oM,La5 oM,La5 oM,←rgo_eq]
    iterate 8 (obtain⟨a,l,e,h3⟩:=cons_of8 hs;clear hs;subst e;have hs:=h3;clear h3)
    obtain rfl:=Lag hs;rfl
  rw[pieceW,add8 hs rfl,pieceN,sch_N hp,e]
theorem run_N{k st:List UInt64}{bs:List UInt8}(hk:k.length=80)(hs:st.length=8):∀i,128*i≤bs.length→(runW k st bs i).map UInt64.toNat=runN (k.map UInt64.toNat) (st.map UInt64.toNat) bs i
  |0,_=>rfl
  | i+1,h=>by
    rw[runW,runN,piece_N hk (by rw[runW_length];exact hs) (by rw[Laa,Lat];omega),run_N hk hs i oM]
theorem all_N(l:List UInt8)(hk:k.length=80)(hs:st.length=8):(allW k st l).map UInt64.toNat=allN (k.map UInt64.toNat) (st.map UInt64.toNat) l:=by
  rw[allW,run_N hk hs _ (by have:=padB_mod l;omega),allN,forceA_eq,padT_eq,←padB_length,padT_eq]
def kN:List Nat:=[4794697086780616226,8158064640168781261,13096744586834688815,16840607885511220156,4131703408338449720,6480981068601479193,10538285296894168987,12329834152419229976,15566598209576043074,1334009975649890238,2608012711638119052,6128411473006802146,8268148722764581231,9286055187155687089,11230858885718282805,13951009754708518548,16472876342353939154,17275323862435702243,1135362057144423861,2597628984639134821,3308224258029322869,5365058923640841347,6679025012923562964,8573033837759648693,10970295158949994411,12119686244451234320,12683024718118986047,13788192230050041572,14330467153632333762,15395433587784984357,489312712824947311,1452737877330783856,2861767655752347644,3322285676063803686,5560940570517711597,5996557281743188959,7280758554555802590,8532644243296465576,9350256976987008742,10552545826968843579,11727347734174303076,12113106623233404929,14000437183269869457,14369950271660146224,15101387698204529176,15463397548674623760,17586052441742319658,1182934255886127544,1847814050463011016,2177327727835720531,2830643537854262169,3796741975233480872,4115178125766777443,5681478168544905931,6601373596472566643,7507060721942968483,8399075790359081724,8693463985226723168,9568029438360202098,10144078919501101548,10430055236837252648,11840083180663258601,13761210420658862357,14299343276471374635,14566680578165727644,15097957966210449927,16922976911328602910,17689382322260857208,500013540394364858,748580250866718886,1242879168328830382,1977374033974150939,2944078676154940804,3659926193048069267,4368137639120453308,4836135668995329356,5532061633213252278,6448918945643986474,6902733635092675308,7801388544844847127]
def stN:List Nat:=[7640891576956012808,13503953896175478587,4354685564936845355,11912009170470909681,5840696475078001361,11170449401992604703,2270897969802886507,6620516959819538809]
def siN:List Nat:=[2463787394917988140,11481187982095705282,2563595384472711505,10824532655140301501,10819967247969091555,13717434660681038226,3098927326965381290,1060366662362279074]
theorem kN_eq:kW.map UInt64.toNat=kN:=by kernel_rfl
theorem stN_eq:startW.map UInt64.toNat=stN:=by kernel_rfl
theorem of_to(l:List UInt64):(l.map UInt64.toNat).map UInt64.ofNat=l:=by
  rw[Lhg];exact(List.map_congr_left fun x _=>UInt64.ofNat_toNat).trans (List.map_id l)
theorem sha512_N(l:List UInt8):sha512 l=sumUp ((allN kN stN l).map UInt64.ofNat) 64:=by
  rw[←kN_eq,←stN_eq,←all_N l rfl rfl,of_to];rfl
theorem siN_eq:shaI.map UInt64.toNat=siN:=by kernel_rfl
theorem sha256_N(l:List UInt8):sha256 l=(sumUp ((allN kN siN l).map UInt64.ofNat) 64).take 32:=by
  rw[←kN_eq,←siN_eq,←all_N l rfl shaI_length,of_to];rfl
end Go.Proofs.YtpogmfngccolbaaGreat
namespace Go.Proofs.YtpogmfngccolbaaGreat
open Go Hw _root_.Go.Proofs.Tryz
open Ed
def pbN(n:Nat):List UInt8:=forceA (fastN n) fun s=>forceA (pwm PF 256 (uz s%PF) (PF-2)) fun i=>pb ⟨fe (ux s*i%PF),fe (uy s*i%PF)⟩
variable{n:Nat}
theorem pbN_eq(h:n<2^256):pb (cv.mul n bP)=pbN n:=by
  rw[fast_at h rfl rfl,pbN,forceA_eq,forceA_eq,affX,affY,force_eq,force_eq]
def h512(l:List UInt8):List UInt8:=sumUp ((allN kN stN l).map UInt64.ofNat) 64
def h256(l:List UInt8):List UInt8:=(sumUp ((allN kN siN l).map UInt64.ofNat) 64).take 32
def blkD(K:List UInt8)(D0:DB)(e S:Nat):DB:=bsg D0 K (leb 32 e++leb 32 S)
def blkOk(H K:List UInt8)(n:Nat)(D0:DB)(r e S N:Nat):Bool:=
  Nat.beq (le (h512 (H.drop 32++btxt { D0 with w:=K }))%L) r&&(Nat.beq (le (pbN r)) e&&(Nat.beq ((le (h512 (leb 32 e++(K++btxt { D0 with w:=K })))%L*n+r)%L) S
    &&(Nat.beq (le (h256 (blkD K D0 e S).bytes)) N&&(decide (D0.check=0)&&decide ((blkD K D0 e S).check=0)))))
theorem le_32{l:List UInt8}{x:Nat}(h:l.length=32)(e:le l=x):l=leb 32 x:=by rw[←e,←h,leb_le]
def BlkF(seed K:List UInt8)(D0:DB)(e S N:Nat):Prop:=(blkD K D0 e S).ok∧A2 (blkD K D0 e S)=leb 32 N∧dgood (blkD K D0 e S)=0∧∀B:Block,B.ok→Meets prog 164 [agg (Aa seed),agg B.cells] [] (fun W=>BlockIs W B D0) (BlkR 0 (blkD K D0 e S))
theorem blk_facts{seed H K:List UInt8}(h32:seed.length=32)(hH:sha512 seed=H)(hn:le (clampB (H.take 32))=n)(hK:sgK H=K){D0:DB}{r e S N:Nat}(hl:D0.ls.length≤40)(hd:D0.ds.length≤2000)(hD0:D0.ok)(h:blkOk H K n D0 r e S N=true):BlkF seed K D0 e S N:=by
  unfold blkOk at h;simp only[Lao,decide_eq_true_eq]at h;obtain⟨h1,h2,h3,h4,h5,h6⟩:=h;rw[h512,←sha512_N]at h1 h3;rw[h256,←sha256_N]at h4;have h1:=Lcb h1;have h2:=Lcb h2;have h3:=Lcb h3;have h4:=Lcb h4;have hr:r<2^256:=by rw[←h1];exact lm _
  have hKl:K.length=32:=by rw[←hK];exact sgK_length H
  obtain⟨T,hT⟩:∃T,T=btxt { D0 with w:=K }:=⟨_,rfl⟩;rw[←hT]at h1 h3;obtain⟨s1,hs1⟩:∃s1,sha512 (H.drop 32++T)=s1:=⟨_,rfl⟩;rw[hs1]at h1;have e1:le (sgR s1)=r:=by rw[sgR,le_leb32 (lm _),h1]
  have e2:sgF s1=leb 32 e:=by
    rw[sgF,e1,pbN_eq hr];refine le_32 ?_ h2;rw[←pbN_eq hr];exact Cn _
  obtain⟨s2,hs2⟩:∃s2,sha512 (leb 32 e++(K++T))=s2:=⟨_,rfl⟩;rw[hs2]at h3;have e3:sgS H s1 s2=leb 32 S:=by rw[sgS,e1,hn,sgR,le_leb32 (lm _),h3]
  have g:=good_self H s1 T (s2:=s2) (by rw[e2,hK];exact hs2);rw[hK,e2,e3]at g;refine⟨⟨hKl,hD0.prev,by show(leb 32 e++leb 32 S).length=64;rw[La2,Al,Al],hD0.ls⟩,?_,?_,fun B hB=>?_⟩
  · unfold A2
    rw[if_pos h6];exact le_32 (sha256_length _) h4
  · unfold dgood
    rw[if_pos h6];refine if_pos ?_;have e4:btxt (blkD K D0 e S)=T:=hT.symm;rw[e4];exact g
  · have c:=r15_Sign B D0 hB hl hd seed h32 H s1 s2 ⟨hH⟩ ⟨by rw[hK,←hT];exact hs1⟩ ⟨by rw[hK,←hT,e2];exact hs2⟩ h5
    rw[hK,e2,e3]at c;exact c
end Go.Proofs.YtpogmfngccolbaaGreat
namespace Go.Proofs.YtpogmfngccolbaaGreat
open Go Hw Ed
def s1B:List UInt8:=[1,0,0,0,0,0,0,0,0,0,0,0,0,0,0,0,0,0,0,0,0,0,0,0,0,0,0,0,0,0,0,77]
def s1H:List UInt8:=[87,159,104,236,80,14,38,174,240,0,164,75,108,245,33,87,115,113,131,28,237,105,185,222,57,145,233,242,112,190,170,213,35,11,137,144,70,23,17,214,148,220,86,67,25,124,131,91,42,247,30,195,63,213,16,142,181,57,199,82,96,7,203,83]
def s1K:List UInt8:=[96,107,246,169,182,86,212,252,106,138,137,108,60,10,195,142,100,120,65,80,61,64,193,87,241,248,221,83,126,228,255,164]
theorem s1_h:sha512 s1B=s1H:=by rw[sha512_N];kernel_rfl
theorem s1_n:le (clampB ((s1H).take 32))=38748270507491543869280182973643753799655646515636239770492563660028217171792:=by kernel_rfl
theorem s1_k:sgK s1H=s1K:=by
  rw[sgK,s1_n,pbN_eq dE];kernel_rfl
def s2B:List UInt8:=[2,0,0,0,0,0,0,0,0,0,0,0,0,0,0,0,0,0,0,0,0,0,0,0,0,0,0,0,0,0,0,77]
def s2H:List UInt8:=[159,230,160,217,19,92,134,97,221,29,151,92,173,55,201,96,247,140,202,26,171,176,42,66,5,66,179,216,185,188,163,0,78,178,17,189,220,26,113,236,223,171,6,169,230,174,14,221,86,213,3,69,84,255,54,249,11,147,29,173,100,208,56,60]
def s2K:List UInt8:=[135,111,12,209,122,16,16,190,105,170,2,71,173,200,90,26,237,46,45,107,189,50,216,58,186,203,54,244,172,156,8,66]
theorem s2_h:sha512 s2B=s2H:=by rw[sha512_N];kernel_rfl
theorem s2_n:le (clampB ((s2H).take 32))=29237320919612452970742533751157944247979243399322251012381788756161947821720:=by kernel_rfl
theorem s2_k:sgK s2H=s2K:=by
  rw[sgK,s2_n,pbN_eq dE];kernel_rfl
def mA0:DB:=DB.zero
def mAR:Nat×Nat×Nat×Nat:=(565907765622320541399421425701583650488762096448569470237382742425803974514,100601403375759064195258946539497424308391876113719775996124634348183556250024,3579687427427459069974335426959508808461923918647704402293925102387200652691,97113733480288696092322898458545537851336488749795256506728843684697484984565)
def mAN:List UInt8:=leb 32 mAR.2.2.2
def mAD:DB:=blkD s1K mA0 mAR.2.1 mAR.2.2.1
theorem mA_ok:blkOk s1H s1K 38748270507491543869280182973643753799655646515636239770492563660028217171792 mA0 mAR.1 mAR.2.1 mAR.2.2.1 mAR.2.2.2=true:=by kernel_rfl
theorem mA_len:mAN.length=32:=Al 32 _
theorem mA_f:BlkF s1B s1K mA0 mAR.2.1 mAR.2.2.1 mAR.2.2.2:=blk_facts (H:=s1H) rfl s1_h s1_n s1_k dE dE ⟨rfl,by rfl,rfl,fun l hl=>(by first|(cases hl;done)|(rw[La1.1 hl];rfl))⟩ mA_ok
def mB0:DB:={ DB.zero with seq:=1,prev:=mAN }
def mBR:Nat×Nat×Nat×Nat:=(1042854690461855033549293643297295419211154182590953024946931292553013138148,65806961080161634906959505977140487317327363723346420782109779725411984570611,7208915343660222524937526513360399956949480183635538504188365353118992172452,46058863218359618658494336369744020781322587224099048705861084924914012010741)
def mBN:List UInt8:=leb 32 mBR.2.2.2
def mBD:DB:=blkD s1K mB0 mBR.2.1 mBR.2.2.1
theorem mB_ok:blkOk s1H s1K 38748270507491543869280182973643753799655646515636239770492563660028217171792 mB0 mBR.1 mBR.2.1 mBR.2.2.1 mBR.2.2.2=true:=by kernel_rfl
theorem mB_len:mBN.length=32:=Al 32 _
theorem mB_f:BlkF s1B s1K mB0 mBR.2.1 mBR.2.2.1 mBR.2.2.2:=blk_facts (H:=s1H) rfl s1_h s1_n s1_k dE dE ⟨rfl,by rfl,rfl,fun l hl=>(by first|(cases hl;done)|(rw[La1.1 hl];rfl))⟩ mB_ok
def mL0:DB:={ DB.zero with ls:=[mAN] }
def mLR:Nat×Nat×Nat×Nat:=(7069382373975793937875983969631401300928334206707799924608693727060737855406,89380441118362541782232043895724461995795574022816857334645768520515379073692,1378832678657371214062331319605579238817782231700001298769674763842384625692,60935820018387094301093397927544635555409945960002560190348470472531323507425)
def mLN:List UInt8:=leb 32 mLR.2.2.2
def mLD:DB:=blkD s2K mL0 mLR.2.1 mLR.2.2.1
theorem mL_ok:blkOk s2H s2K 29237320919612452970742533751157944247979243399322251012381788756161947821720 mL0 mLR.1 mLR.2.1 mLR.2.2.1 mLR.2.2.2=true:=by kernel_rfl
theorem mL_len:mLN.length=32:=Al 32 _
theorem mL_f:BlkF s2B s2K mL0 mLR.2.1 mLR.2.2.1 mLR.2.2.2:=blk_facts (H:=s2H) rfl s2_h s2_n s2_k dE dE ⟨rfl,by rfl,rfl,fun l hl=>(by first|(cases hl;done)|(rw[La1.1 hl];rfl))⟩ mL_ok
end Go.Proofs.YtpogmfngccolbaaGreat
namespace Go.Proofs.YtpogmfngccolbaaGreat
open Go Hw _root_.Go.Proofs.Tryz
open Ed
variable{T:TypeId}{a b c:Block}{m q:Nat}{n:List UInt8}{w:World}
theorem s1B_length:s1B.length=32:=rfl
theorem s2B_length:s2B.length=32:=rfl
theorem kitS1  :Mv 165 [i64 1] (fun _=>True) (agg (Aa s1B)):=by
 intro W hW;refine Ad func165 J 9 ntmps165 J (G2 ?_);refine .alloc (cs:=(Aa (List.replicate 32 0))) J Zr33 J ?_;intro n2 hn2 hf2;refine G5 ?_;refine .conv J J J Y3.h Y5.h (show Value.int .u8 (IntKind.u8.wrap 1)=u8 1 from rfl) (G1 ?_)
 refine .shrN 1 8 J J J J J dE (.conv J J J Y3.h Y5.h (show Value.int .u8 (IntKind.u8.wrap ((1/2^8:Nat):Int))=u8 0 from rfl) (.build (cs:=Aa s1B) J J J (fun w=>by kernel_rfl) ?_));refine .sA J J J J zE Sz33 (by(simp[s1B_length];done)) Z0 sP zU ?_;refine G2 ?_;refine G2 ?_;refine⟨_,[],Av J J Y33.h J Sz33 Z0 (by simp[s1B_length]),sP,sP,?_,rfl⟩;rfl
theorem kitS2  :Mv 165 [i64 2] (fun _=>True) (agg (Aa s2B)):=by
 intro W hW;refine Ad func165 J 9 ntmps165 J (G2 ?_);refine .alloc (cs:=(Aa (List.replicate 32 0))) J Zr33 J ?_;intro n2 hn2 hf2;refine G5 ?_;refine .conv J J J Y3.h Y5.h (show Value.int .u8 (IntKind.u8.wrap 2)=u8 2 from rfl) (G1 ?_)
 refine .shrN 2 8 J J J J J dE (.conv J J J Y3.h Y5.h (show Value.int .u8 (IntKind.u8.wrap ((2/2^8:Nat):Int))=u8 0 from rfl) (.build (cs:=Aa s2B) J J J (fun w=>by kernel_rfl) ?_));refine .sA J J J J zE Sz33 (by(simp[s2B_length];done)) Z0 sP zU ?_;refine G2 ?_;refine G2 ?_;refine⟨_,[],Av J J Y33.h J Sz33 Z0 (by simp[s2B_length]),sP,sP,?_,rfl⟩;rfl
def bl1(q:Nat):Block:={ Block.zero with fLinks:=⟨some ⟨q,0,none⟩,1,1⟩ }
theorem bl1_ok(q:Nat):(bl1 q).ok:=⟨rfl,rfl,rfl⟩
theorem bl1_is(hn:n.length=32)(h:C6 w q 0 (Aa n)):BlockIs w (bl1 q) { DB.zero with ls:=[n] }:=⟨bl1_ok q,rfl,rfl,rfl,row_one hn h,(zero_is w).ds,rfl⟩
def ChainS(Da Db Dc:DB)(v:Value)(out:List Blk):Prop:=∃(q:Nat) (Ba Bb Bc:Block) (bl:List Blk),SameB Ba Da∧SameB Bb Db∧SameB Bc Dc∧v= .slice (some ⟨q,0,none⟩) 3 3∧out=⟨q,tri Ba Bb Bc,50,(tri Ba Bb Bc).length⟩::bl∧∀W2,Lies bl W2→BlockIs W2 Ba Da∧BlockIs W2 Bb Db∧BlockIs W2 Bc Dc
theorem tri_sees(ha:a.ok)(hb:b.ok)(hc:c.ok)(h:BlkOk w ⟨q,tri a b c,T,m⟩):C6 w q (0+0*131) a.cells∧C6 w q (0+1*131) b.cells∧C6 w q (0+2*131) c.cells:=by
  have part:∀(o:Nat) (l:List Value),((tri a b c).drop o).take 131=l→C6 w q o l:=fun o l e=>sees_kok h fun j v hj=>by
    rw[←e]at hj;have h1:=(Lac.1 hj).1;rw[Lex (by rw[Laa]at h1;omega),Lb8]at hj;exact hj
  exact⟨part _ _ (tri_0 ha),part _ _ (tri_1 ha hb),part _ _ (tri_2 ha hb hc)⟩
theorem tri_blocks{Da Db Dc:DB}(h:BlkOk w ⟨q,tri a b c,T,m⟩)(hi:BlockIs w a Da∧BlockIs w b Db∧BlockIs w c Dc):BlocksAt w ⟨some ⟨q,0,none⟩,3,3⟩ [Da,Db,Dc]:=by
  obtain⟨ha,hb,hc⟩:=hi;refine⟨[a,b,c],rfl,rfl,fun i r d hr hd=>?_,fun r hr=>?_,Lah 3,?_,(by show 3≤maxLen;decide),fun e=>by cases e⟩
  · rcases i with _|_|_|i
    ·cases hr;cases hd;exact ha
    ·cases hr;cases hd;exact hb
    ·cases hr;cases hd;exact hc
    ·cases hr
  · simp only[Lan,Lc6,or_false]at hr
    rcases hr with rfl|rfl|rfl
    ·exact Block.length ha.ok
    ·exact Block.length hb.ok
    ·exact Block.length hc.ok
  · refine SeesP.of (sees_kok h fun j v hj=>?_)
    rw[Lb0];exact hj
theorem mA_g:dgood mAD=0:=mA_f.2.2.1
theorem mB_g:dgood mBD=0:=mB_f.2.2.1
theorem mL_g:dgood mLD=0:=mL_f.2.2.1
theorem mA_nm:A2 mAD=mAN:=mA_f.2.1
theorem mB_nm:A2 mBD=mBN:=mB_f.2.1
theorem mL_nm:A2 mLD=mLN:=mL_f.2.1
def cX1:PD:=PD.new.adm mAN mAD
def cX2:PD:=cX1.adm mBN mBD
def cX3:PD:=cX2.adm mLN mLD
theorem c_add1:PD.new.add mAD=(cX1,[mAN],0):=by
  have h:=add_fits (X:=PD.new) mA_g (by rw[mA_nm];kernel_rfl) zK;rw[mA_nm]at h;have e:PD.settle (PD.new.adm mAN mAD).orp.length (PD.new.adm mAN mAD)=(cX1,[]):=by kernel_rfl
  rw[h,e]
theorem c_add2:cX1.add mBD=(cX2,[mBN],0):=by
  have h:=add_fits (X:=cX1) mB_g (by rw[mB_nm];kernel_rfl) zK;rw[mB_nm]at h;have e:PD.settle (cX1.adm mBN mBD).orp.length (cX1.adm mBN mBD)=(cX2,[]):=by kernel_rfl
  rw[h,e]
theorem c_add3:cX2.add mLD=(cX3,[mLN],0):=by
  have h:=add_fits (X:=cX2) mL_g (by rw[mL_nm];kernel_rfl) zK;rw[mL_nm]at h;have e:PD.settle (cX2.adm mLN mLD).orp.length (cX2.adm mLN mLD)=(cX3,[]):=by kernel_rfl
  rw[h,e]
theorem c_fill:fillP PD.new [mAD,mBD,mLD]=cX3:=by
  simp only[fillP,Lef,Lgd,c_add1,c_add2,c_add3]
theorem c_inv:cX3.Inv:=by rw[←c_fill];exact PD.Inv.fill _ PD.Inv.new
theorem rB_nil(X:PD)(n:List UInt8):rB X (-1) [] n=false:=by
  cases h:rB X (-1) [] n with
  |false=>rfl
  |true=>exact(reach_nil (rB_iff.1 h)).elim
theorem beneath_nil(X:PD):(beneath X []).length=0:=by
  unfold beneath;rw[Lf9.2 fun n _=>by rw[rB_nil];decide];rfl
theorem reach_in{X:PD}(hI:X.Inv){L:List (List UInt8)}{D:DB}(hn:n∈L)(hD:Am X.P n=some D):X.Reach (-1) L n:= .base hn hD (by have:=hI.d0 n D hD;omega)
end Go.Proofs.YtpogmfngccolbaaGreat
namespace Go.Proofs.YtpogmfngccolbaaGreat
open Go Hw _root_.Go.Proofs.Tryz
def PD.has(X:PD)(n:List UInt8):Bool:=(Am X.P n).isSome
variable{X:PD}{κ:Type}{n:κ}
theorem has_names(hI:X.Inv){n:List UInt8}(h:X.has n=true):n∈X.names:=(names_mem hI n).2 (Le4.1 h)
def PD.depthR(X:PD)(n:List UInt8):Value:=if X.has n=true then .tuple #[i64 (X.dp n),i64 0]else .tuple #[i64 0,i64 6]
theorem has_is(x:DD)(n:List UInt8):(Am x.ent n).isSome=x.pl.has n:=by
  have e:Am x.pl.P n=(Am x.ent n).map (·.2):=x.getP n;unfold PD.has;rw[e];cases Am x.ent n<;>rfl
theorem dag_hasP(x:DD)(hx:x.ok)(p:Nat)(n:List UInt8)(h32:n.length=32):Mv 79 [ptr p 0,agg (Aa n)] (fun W=>Lies (x.blks p) W) (.bool (x.pl.has n)):=by
  rw[←has_is];exact(dag_has x hx p n h32).imp (fun w h=>DagSee.lies h) fun v out h=>h
theorem lin_depth(x:DD)(hx:x.ok)(hI:x.pl.Inv)(hO:x.pl.Ord)(p:Nat)(n:List UInt8)(h32:n.length=32):Mv 24 [ptr p 0,agg (Aa n)] (fun W=>Lies (x.blks p) W) (x.pl.depthR n):=by
 intro W hW;have hck:∀q∈x.P,q.2.check=0:=hI.ck;have h16:∀q∈x.P,q.2.ls.length≤16:=fun q hq=>(ck_small (hck q hq)).1;refine Ad func24 J 18 ntmps24 J (G3 ?_);intro n3 hn3 hf3;refine G8 ?_;refine .cV J J J J Body78 (lin_none x hx h16 p) (fun w h=>Ce hW h) (G2 ?_);refine .cond_f J J (G6 ?_);refine .lA J J J Y34.h J Sz34 Z0 (by(simp[h32];done)) ?_;refine .cV J J J J Body79 (dag_hasP x hx p n h32) (fun w h=>Ce hW h) (G3 ?_);refine .cond J (fun hc1=>?_) (fun hc1=>?_)
 ·
  have hhas:x.pl.has n=false:=by simpa using hc1
  refine G6 ?_;refine G3 ?_;refine⟨_,[],B5 J J J,sP,sP,?_,rfl⟩;rw[PD.depthR,if_neg (by rw[hhas];decide)]
 have hhas:x.pl.has n=true:=by simpa using hc1
 refine G3 ?_;refine .withK (sp_k sp_n) J (.draw (oP [0,1,4,402,403,305,6,7]) Ar zK (G1 ?_));refine .kloadAll J J J Y34.h J Sz34 Z0 (by(simp[h32];done)) ?_;refine .kloadAll J J J Y34.h J Sz34 Z0 (by(simp[h32];done)) ?_;refine .mkRow (z:=agg (Aa (List.replicate 32 0))) [agg (Aa n)] (Aa n) J J J Y30.h Sz34 Cc J J (by intro v hv;rw[La1.1 hv];simp[Value.cells,Aa,h32]) dE (by simp[Value.cells,agg]) ?_;intro q14;refine .call4 J J J J J Body83 (lin_depths x hx hI hO p ⟨some ⟨q14,0,none⟩,1,1⟩ [n]) (fun w h=>⟨Ce hW h,row_one h32 (Ap h Z0)⟩) ?_;rintro v15 out15 ⟨a15,b15,c15,m15,fs15,ks15,⟨rfl,rfl,hfs15⟩,hks15⟩;simp only[Lam,Lad];refine .callCV J J J J J Body144 (depth_known n h32 a15 b15 c15 m15 fs15 (x.pl.dp n) (hfs15.all n (hks15 n La8 (has_names hI hhas)))) (fun w h=>⟨(Ci (B:=⟨a15,[.map (some m15)],32,1⟩) h Z2).cell (o:=0) J,Ci h Z0⟩) ?_;refine G4 ?_;refine G2 ?_;refine⟨_,[],B5 J J J,sP,sP,?_,rfl⟩;rw[PD.depthR,if_pos hhas]
structure FreshI(X:PD)(L dn:List (List UInt8))(ms:List (List UInt8×Unit))(l st:List (List UInt8)):Prop where
  sub:∀n∈st,X.Reach (-1) L n
  met:∀n∈ms.map (·.1),X.Reach (-1) L n
  mnd:(ms.map (·.1)).Nodup
  lnd:l.Nodup
  lin:∀n,n∈l↔n∈ms.map (·.1)∧n∉dn
  all:∀n∈L,n∈ms.map (·.1)∨n∈st
  par:∀n∈ms.map (·.1),n∉dn→∀D,Am X.P n=some D→∀m∈Bi D,m∈ms.map (·.1)∨m∈st
theorem FreshI.start(hI:X.Inv){L:List (List UInt8)}(dn:List (List UInt8))(hL:∀n∈L,X.has n=true):FreshI X L dn [] [] L where
  sub:=fun n hn=>by
    obtain⟨D,hD⟩:=Le4.1 (hL n hn);exact reach_in hI hn hD
  met:=fun n hn=>by cases hn
  mnd:=Ld3
  lnd:=Ld3
  lin:=fun n=>⟨fun h=>(by cases h),fun h=>(by cases h.1)⟩
  all:=fun n hn=> .inr hn
  par:=fun n hn=>by cases hn
theorem keysP_put[DecidableEq κ]{ms:List (κ×Unit)}(h:Am ms n=none):(Bh ms n ()).map (·.1)=ms.map (·.1)++[n]:=by rw[mput_app h,Lae];rfl
theorem not_key{κ ν:Type}[DecidableEq κ]{ms:List (κ×ν)}{n:κ}(h:Am ms n=none):n∉ms.map (·.1):=fun hm=>by
  obtain⟨v,hv⟩:=C5 hm;rw[h]at hv;cases hv
section
variable{X:PD}{L dn l st:List (List UInt8)}{ms:List (List UInt8×Unit)}{n:List UInt8}
theorem FreshI.seen(h:FreshI X L dn ms l (st++[n]))(hm:n∈ms.map (·.1)):FreshI X L dn ms l st:={ h with
  sub:=fun k hk=>h.sub k (Lak _ hk)
  all :=fun k hk=>by
    rcases h.all k hk with h1|h1
    ·exact .inl h1
    · rcases La9.1 h1 with h2|h2
      ·exact .inr h2
      ·rw[La1.1 h2];exact .inl hm
  par :=fun k hk hd D hD m hmm=>by
    rcases h.par k hk hd D hD m hmm with h1|h1
    ·exact .inl h1
    · rcases La9.1 h1 with h2|h2
      ·exact .inr h2
      ·rw[La1.1 h2];exact .inl hm }
theorem FreshI.old(h:FreshI X L dn ms l (st++[n]))(hm:Am ms n=none)(hd:n∈dn):FreshI X L dn (Bh ms n ()) l st where
  sub:=fun k hk=>h.sub k (Lak _ hk)
  met:=fun k hk=>by
    rw[keysP_put hm]at hk;rcases La9.1 hk with h1|h1
    ·exact h.met k h1
    ·rw[La1.1 h1];exact h.sub n (Lav _ La8)
  mnd:=mput_nodup h.mnd _ _
  lnd:=h.lnd
  lin:=fun k=>by
    rw[keysP_put hm,h.lin k];refine⟨fun⟨a,b⟩=>⟨Lak _ a,b⟩,fun⟨a,b⟩=>⟨?_,b⟩⟩;rcases La9.1 a with h1|h1
    ·exact h1
    ·rw[La1.1 h1]at b;exact absurd hd b
  all :=fun k hk=>by
    rw[keysP_put hm];rcases h.all k hk with h1|h1
    ·exact .inl (Lak _ h1)
    · rcases La9.1 h1 with h2|h2
      ·exact .inr h2
      ·exact .inl (Lav _ h2)
  par :=fun k hk hkd D hD m hmm=>by
    rw[keysP_put hm]at hk ⊢;rcases La9.1 hk with h1|h1
    · rcases h.par k h1 hkd D hD m hmm with h2|h2
      ·exact .inl (Lak _ h2)
      · rcases La9.1 h2 with h3|h3
        ·exact .inr h3
        ·exact .inl (Lav _ h3)
    ·rw[La1.1 h1]at hkd;exact absurd hd hkd
theorem FreshI.meet(hI:X.Inv)(h:FreshI X L dn ms l (st++[n]))(hm:Am ms n=none)(hd:n∉dn){D:DB}(hD:Am X.P n=some D):FreshI X L dn (Bh ms n ()) (l++[n]) (st++Bi D) where
  sub :=fun k hk=>by
    have hn:=h.sub n (Lav _ La8);rcases La9.1 hk with h1|h1
    ·exact h.sub k (Lak _ h1)
    · obtain⟨⟨E,hE⟩,_⟩:=hI.par n D hD k h1
      exact .step hn hD h1 hE (by have:=hI.d0 k E hE;omega)
  met:=fun k hk=>by
    rw[keysP_put hm]at hk;rcases La9.1 hk with h1|h1
    ·exact h.met k h1
    ·rw[La1.1 h1];exact h.sub n (Lav _ La8)
  mnd:=mput_nodup h.mnd _ _
  lnd:=by
    rw[Lay];refine⟨h.lnd,by simp,fun a ha b hb e=>?_⟩;rw[La1.1 hb]at e;exact not_key hm (e▸((h.lin a).1 ha).1)
  lin :=fun k=>by
    rw[keysP_put hm,La9,La9,h.lin k,La1];constructor
    · rintro(⟨a,b⟩|rfl)
      ·exact⟨.inl a,b⟩
      ·exact⟨.inr rfl,hd⟩
    · rintro⟨a|rfl,b⟩
      ·exact .inl ⟨a,b⟩
      ·exact .inr rfl
  all :=fun k hk=>by
    rw[keysP_put hm];rcases h.all k hk with h1|h1
    ·exact .inl (Lak _ h1)
    · rcases La9.1 h1 with h2|h2
      ·exact .inr (Lak _ h2)
      ·exact .inl (Lav _ h2)
  par :=fun k hk hkd E hE m hmm=>by
    rw[keysP_put hm]at hk ⊢;rcases La9.1 hk with h1|h1
    · rcases h.par k h1 hkd E hE m hmm with h2|h2
      ·exact .inl (Lak _ h2)
      · rcases La9.1 h2 with h3|h3
        ·exact .inr (Lak _ h3)
        ·exact .inl (Lav _ h3)
    · obtain rfl:=La1.1 h1
      rw[hD]at hE;cases hE;exact .inr (Lav _ hmm)
theorem FreshI.fin(h:FreshI X L dn ms l [])(hdn:∀k∈dn,∀D,Am X.P k=some D→∀m∈Bi D,m∈dn)(k:List UInt8):k∈l↔X.Reach (-1) L k∧k∉dn:=by
  have key:∀k,X.Reach (-1) L k→k∉dn→k∈ms.map (·.1):=by
    intro k hr
    induction hr with
    | base h1 _ _=>
      intro _;rcases h.all _ h1 with h2|h2
      ·exact h2
      ·cases h2
    | @step a b A B h1 hP hn hE _ ih=>
      intro hd;have hb:a∉dn:=fun hb=>hd (hdn a hb A hP b hn);rcases h.par a (ih hb) hb A hP b hn with h2|h2
      ·exact h2
      ·cases h2
  exact⟨fun hk=>⟨h.met k ((h.lin k).1 hk).1,((h.lin k).1 hk).2⟩,fun⟨hr,hd⟩=>(h.lin k).2 ⟨key k hr hd,hd⟩⟩
end
variable{C:Cx}{L bf c ks l ls:List (List UInt8)}{X:PD}{bl hp:List Blk}{cs:List (List (List UInt8))}{f:List UInt8→Bool}{fs ms:List (List UInt8×Unit)}{i k:Nat}{n:List UInt8}{ps:List RV}{r:RV}{s:Sl}{w:World}{α:Type}{a:α}
theorem lost_1(n:List UInt8)(h32:n.length=32)(q m:Nat)(fs:List (List UInt8×Unit)):Mv 204 [agg (Aa n),ptr q 0] (fun W=>W.cell? ⟨q,0,none⟩=some (.map (some m))∧BlkOk W (A3 m (Ao 32 evU) fs)) (.bool (Am fs n).isNone):=by
 intro W hW;refine Ad func204 J 8 ntmps204 J (G3 ?_);intro n2 hn2 hf2;refine G5 ?_;refine .loadE J J J Y115 J sP (hW.1) (.lA J J J Y34.h J Sz34 Z0 (by(simp[h32];done)) ?_);refine .cV J J J J Body112 (lin_has m fs n h32) (fun w h2=>mblk_keep hW.2 h2) (G4 ?_);refine G2 ?_;refine Ay (out:=[]) (Af J J) Ae ?_;exact⟨congrArg Value.bool (by cases Am fs n<;>rfl),rfl⟩
theorem index_lost(s:Sl)(ls:List (List UInt8))(q m:Nat)(fs:List (List UInt8×Unit)):Mv 150 [s.v, .func (.func 204) #[] #[ptr q 0]] (fun W=>RowsAt W s 32 ls∧W.cell? ⟨q,0,none⟩=some (.map (some m))∧BlkOk W (A3 m (Ao 32 evU) fs)) (i64 (fstBad (fun n=>(Am fs n).isNone) ls)):=by
 intro W hW;have hlen:=hW.1.len;have hrow:=hW.1.row;have hmax:=hW.1.max;simp only[maxLen]at hmax;have hcap:=hW.1.cap;refine Ad func150 J 19 ntmps150 J (G14 ?_);refine .loop (ι:=Nat) (fun k=>⟨[(0,s.v),(1, .func (.func 204) #[] #[ptr q 0]),(7,i64 (s.n:Int)),(8,i64 (k:Int))],[]⟩) (fun k=>k≤s.n∧∀j,j<k→(ls.map (fun n=>(Am fs n).isNone))[j]? =some false) (fun k=>s.n-k) (0) ?_ ?_ ?_
 ·exact⟨by omega,fun j hj=>by omega⟩
 ·exact Ag wN wh0 nD
 rintro k ⟨hk,hg⟩;refine G6 ?_;refine .condP J (fun hc0=>?_) (fun hc0=>?_)
 ·
  have hk2:k<s.n:=by omega
  obtain⟨b,o,hbp,hbs⟩:=hW.1.see.at (by rw[Aw hrow];omega);have h32k:(ls.getD k []).length=32:=Bs hrow oM;have hd:ls[k]? =some (ls.getD k []):=by rw[La4,La3 (show k<ls.length by omega)];rfl
  refine G15 ?_;refine .idxSlP 32 J J J hbp J Y30.h Sz34 k oM oM (.loadEN (Aa (ls.getD k [])) J J J Y34.h J Sz34 sP (by rw[Aa,La0];exact h32k) (B3 hrow hbs oM) ?_);refine .callCV J J J J J Body204 (lost_1 (ls.getD k []) h32k q m fs) (fun w h2=>⟨h2.keeps.cell sP hW.2.1,mblk_keep hW.2.2 h2⟩) (G2 ?_);refine .cond J (fun hc1=>?_) (fun hc1=>?_)
  ·
   refine G6 ?_;refine G7 ?_;refine⟨_,[],Af J J,sP,sP,?_,rfl⟩;exact congrArg i64 (fstBad_at hg (by rw[Laf,hd];simpa using hc1)).symm
  refine G8 ?_;exact⟨k+1,⟨by omega,fun j hj=>by rcases Lbz.1 hj with h|rfl;exact hg j h;rw[Laf,hd];simpa using hc1⟩,by omega,Ag wN wh0 nD⟩
 obtain rfl:k=s.n:=by omega
 refine G10 ?_;refine G2 ?_;refine⟨_,[],Af J J,sP,sP,?_,rfl⟩;exact congrArg i64 (fstBad_none (by intro j hj;exact hg j (by rw[hlen]at hj;exact hj))).symm
theorem contains_lost(s:Sl)(ls:List (List UInt8))(q m:Nat)(fs:List (List UInt8×Unit)):Mv 115 [s.v, .func (.func 204) #[] #[ptr q 0]] (fun W=>RowsAt W s 32 ls∧W.cell? ⟨q,0,none⟩=some (.map (some m))∧BlkOk W (A3 m (Ao 32 evU) fs)) (.bool (ls.any (fun n=>(Am fs n).isNone))):=by
 intro W hW;refine Ad func115 J 9 ntmps115 J (G9 ?_);refine .cV J J J J Body150 (index_lost s ls q m fs) (fun w h2=>⟨rows_ext h2 J hW.1,h2.keeps.cell sP hW.2.1,mblk_keep hW.2.2 h2⟩) (G4 ?_);refine G2 ?_;refine⟨_,[],Af J J,sP,sP,?_,rfl⟩;exact congrArg Value.bool (fstBad_ge _ _)
def FreshR(X:PD)(bs hs dn:List (List UInt8))(v:Value)(out:List Blk):Prop:=
  ((∃n∈hs,X.has n=false)∧v= .tuple #[.slice none 0 0,i64 6]∧out=[])
  ∨(∀n∈hs,X.has n=true)∧(∃n∈bs,¬X.Reach (-1) hs n)∧v= .tuple #[.slice none 0 0,i64 4]∧out=[]
  ∨(∀n∈hs,X.has n=true)∧(∀n∈bs,X.Reach (-1) hs n)∧∃(s:Sl) (l:List (List UInt8)),v= .tuple #[s.v,i64 0]∧Hw.Acc s out (As l) 34 l.length 32∧l.Nodup∧∀n,n∈l↔X.Reach (-1) hs n∧n∉dn
theorem none_any(h:(ls.any fun n=>(Am ms n).isNone)=false):∀n∈ls,n∈ms.map (·.1):=fun n hn=>by
  have h1:=Lh0.1 h n hn;cases hm:Am ms n with
  |none=>rw[hm]at h1;exact absurd rfl h1
  |some u=>exact La6.2 ⟨(n,u),Bk hm,rfl⟩
theorem some_any(h:(ls.any fun n=>(Am ms n).isNone)=true):∃n∈ls,n∉ms.map (·.1):=by
  obtain⟨n,hn,h1⟩:=Lbw.1 h;exact⟨n,hn,not_key (Lfq.1 h1)⟩
theorem setP_mem(ls:List (List UInt8))(n:List UInt8):n∈(setP ls).map (·.1)↔n∈ls:=by
  refine⟨?_,fun h=>(setP_keys ls).2 n h⟩;have key:∀(l:List (List UInt8)) (fs:List (List UInt8×Unit)),n∈(l.foldl (fun fs n=>Bh fs n ()) fs).map (·.1)→n∈l∨n∈fs.map (·.1):=by
    intro l
    induction l with
    |nil=>intro fs h;exact .inr h
    | cons a l ih=>
      intro fs h;rcases ih _ h with h1|h1
      ·exact .inl (Laj _ h1)
      · obtain⟨p,hp,rfl⟩:=La6.1 h1
        rcases mput_mem hp with h2|rfl
        ·exact .inr (La6.2 ⟨p,h2,rfl⟩)
        ·exact .inl La8
  intro h;rcases key ls [] h with h1|h1
  ·exact h1
  ·cases h1
theorem FreshI.small{x:DD}(hI:x.pl.Inv){L dn l st:List (List UInt8)}(h:FreshI x.pl L dn ms l st):l.length≤x.names.length:=
  nd_len (m:=x.pl.names) h.lnd fun n hn=>(names_mem hI n).2 (reach_P (h.met n ((h.lin n).1 hn).1))
theorem is_key(h:(Am ms n).isSome=true):n∈ms.map (·.1):=by
  obtain⟨u,hu⟩:=Le4.1 h;exact La6.2 ⟨(n,u),Bk hu,rfl⟩
theorem key_of(h:∃D,Am X.P n=some D):n∈X.P.map (·.1):=by
  obtain⟨D,hD⟩:=h;exact keys_in hD
theorem flatB_one(l:List UInt8):As [l]=Aa l:=by simp[As]
theorem lin_fresh(x:DD)(hx:x.ok)(hI:x.pl.Inv)(p:Nat)(sb sh:Sl)(bs hs:List (List UInt8))(hsl:hs.length≤90000)(md:Nat)(ds:List (List UInt8×Unit))(hdn:∀k∈ds.map (·.1),∀D,Am x.pl.P k=some D→∀m∈Bi D,m∈ds.map (·.1)):Meets prog 162 [ptr p 0,sb.v,sh.v, .map (some md)] [] (fun W=>Lies (x.blks p) W∧RowsAt W sb 32 bs∧RowsAt W sh 32 hs∧BlkOk W (A3 md (Ao 32 evU) ds)) (FreshR x.pl bs hs (ds.map (·.1))):=by
 intro W hW;have h32k:True:=trivial;obtain⟨hlies,hrb,hrh,hmd⟩:=id hW;have hck:∀q∈x.P,q.2.check=0:=hI.ck;have h16:∀q∈x.P,q.2.ls.length≤16:=fun q hq=>(ck_small (hck q hq)).1;have hbig:=hx.big;have hlen:=hrh.len;have hrow:=hrh.row;refine Ad func162 J 88 ntmps162 J (.sr (.a J J J (.a J J J (.na (.seq (.sr (.m J J J (.lenSl J J J Y30.h (.m J J J (.na (.block (.loop (ι:=Nat) (fun k=>⟨[(0,ptr p 0),(1,sb.v),(2,sh.v),(3, .map (some md)),(8, .slice none 0 0),(9,i64 0),(21,sh.v),(22,i64 (sh.n:Int)),(23,i64 (k:Int))],[]⟩) (fun k=>k≤sh.n∧∀j,j<k→x.pl.has (hs.getD j [])=true) (fun k=>sh.n-k) (0) ?_ ?_ ?_))))))))))))
 ·exact⟨Laq _,fun j hj=>absurd hj (Ldo _)⟩
 ·exact Ah wN Ae
 rintro k ⟨hk,hg⟩;refine .sr (.lss J J J J J (.na (.seq (.condP J (fun hc0=>?_) (fun hc0=>?_)))))
 ·
  have hk2:k<sh.n:=by omega
  obtain⟨b,o,hbp,hbs⟩:=hrh.see.at (by rw[Aw hrow];omega);have h32k:(hs.getD k []).length=32:=Bs hrow oM;refine .skip (Bm (.seq (.block (.sr (.idxSlP 32 J J J hbp J Y30.h Sz34 k J oM (.loadEN (Aa (hs.getD k [])) J J J Y34.h J Sz34 sP (by rw[Aa,La0];exact h32k) (B3 hrow hbs oM) ?_))))));refine .alloc (cs:=(Aa (List.replicate 32 0))) J Cc J ?_;intro n11 hn11 hf11;refine .sA J J J J zE Sz34 (by(rw[Aa,La0];assumption)) Z0 sP zU ?_;refine .nsr (.m J J J (.lA J J J Y34.h J Sz34 Z0 (by(rw[Aa,La0];assumption)) ?_));refine .cV J J J J Body79 (dag_hasP x hx p (hs.getD k []) h32k) (fun w h=>Ce hlies h) (.not J J J (.na (.cond J (fun hc1=>?_) (fun hc1=>?_))))
  ·
   refine .sr (.a J J J (.a J J J (.na ?_)));refine .ret (bl_r (at_r (at_r (bl_r (at_r (C2 (Ay (out:=[]) (B5 J J J) Ae ?_)))))));exact .inl ⟨⟨_,getD_mem2 (show k<hs.length by omega),by simpa using hc1⟩,rfl,rfl⟩
  refine .skip (bl_n (Bm (.region (.aI J J J J oM (.m J J J (.na ?_))))));exact⟨k+1,⟨by omega,fun j hj=>by rcases Lbz.1 hj with h|rfl;exact hg j h;simpa using hc1⟩,by omega,Ah (wk1 rfl (wk1 rfl (wk1 rfl (wk1 rfl (wk1 rfl (wk1 rfl (wk1 rfl (wk1 rfl (wk1 (by rw[Lcc];rfl) wk0))))))))) Ae⟩
 obtain rfl:k=sh.n:=by omega
 have hall:∀n∈hs,x.pl.has n=true:=fun n hn=>by
  obtain⟨j,hj,e⟩:=Lb7 hn;have h9:=hg j oM;rw[La4,La3 hj]at h9;rw[←e];exact h9
 refine .exit (at_x (at_x (bl_h (Bm (.sr (.a J J J (.nsr (.mkMap (Ao 32 evU) J J ?_))))))));intro m32;refine .alloc (cs:=[.map none]) J Zr115 J ?_;intro n13 hn13 hf13;refine .s1 J J J J J Sz115 Z0 sP (by rfl) zU ?_;refine .nsr (.m J J J (.call4 J J J J J Body81 (cl_digs sh hs oM) (fun w h=>rows_ext h J hrh) ?_));rintro v34 out34 ⟨s34,rfl,hac34⟩;have hn34:=hac34.num;refine .a J J J (.na (.seq (.block (.loop (ι:=List (List UInt8×Unit)×List (List UInt8)×List (List UInt8)×Sl×List Blk×Sl×List Blk) (fun r=>⟨[(0,ptr p 0),(1,sb.v),(2,sh.v),(3, .map (some md)),(8, .slice none 0 0),(9,i64 0),(12,r.2.2.2.1.v),(13,ptr n13 0),(14,r.2.2.2.2.2.1.v)],(A3 m32 (Ao 32 evU) r.1::(r.2.2.2.2.1++(r.2.2.2.2.2.2++(⟨n13,[.map (some m32)],115,1⟩::[]))))⟩) (fun r=>FreshI x.pl hs (ds.map (·.1)) r.1 r.2.1 r.2.2.1∧r.2.2.1.length≤hs.length+17*r.2.1.length∧Hw.Acc r.2.2.2.1 r.2.2.2.2.1 (As (r.2.1)) 34 (r.2.1).length 32∧Hw.Acc r.2.2.2.2.2.1 r.2.2.2.2.2.2 (As (r.2.2.1)) 34 (r.2.2.1).length 32) (fun r=>r.2.2.1.length+18*cntW x.pl.P r.1) (([],[],hs,Sl.nil,[],s34,out34)) ?_ ?_ ?_))))
 ·exact⟨FreshI.start hI _ hall,by simp only;omega,Acc.none,by simp only;rw[hlen];exact hac34⟩
 ·exact Ah wN (Ab rM (Ac sG (Ac sG (Ab rM Ae))))
 rintro⟨ms,l,st,sl,bl,ss,bst⟩ ⟨hF,hstn,hal,has⟩;simp only at hF hstn hal has ⊢;have hnl:=hal.num;have hns:=has.num;have hsm:=hF.small hI;refine .seq (.sr (.m J J J (.lenSl J J J Y30.h (.gtr J J J J J (.na (.condP J (fun hc2=>?_) (fun hc2=>?_)))))))
 ·
  have hpos:0<st.length:=by omega
  obtain⟨st2,kk,rfl⟩:=snoc_of hpos;have hst32:∀l∈st2++[kk],l.length=32:=fun l hl=>P32 hx (reach_P (hF.sub l hl));have h32k:kk.length=32:=hst32 kk sP;have hPk:∃D,Am x.pl.P kk=some D:=reach_P (hF.sub kk sP);have hlen9:(st2++[kk]).length=st2.length+1:=by simp
  obtain⟨NN,hNN⟩:∃NN,NN=(st2++[kk]).length:=⟨_,rfl⟩;rw[←hNN]at has;have hlast:=fun(w:World) (b:Nat)=>sees_last (w:=w) (b:=b) hst32;rcases has with ⟨_,_,_,h0⟩|⟨qr,cr,rfl,hnc,hfl,rfl⟩
  ·exfalso;omega
  refine .skip (Bm (.block (.sr (.m J J J (.m J J J (.lenSl J J J Y30.h (.sub_i64 J J J J oM (.idxSlP 32 J J J J J Y30.h Sz34 st2.length (by show(NN:Int)-1=(st2.length:Int);omega) (by show st2.length<NN;omega) ?_))))))));refine .loadSN (n:=32) (Aa kk) J J J Y34.h J Sz34 (by rw[Aa,La0];exact h32k) (fun w h=>hlast w qr (Ap h mR)) ?_;refine .alloc (cs:=(Aa (List.replicate 32 0))) J Cc J ?_;intro n15 hn15 hf15;refine .sA J J J J zE Sz34 (by(simp[h32k];done)) Z0 sP zU ?_;refine .na (.seq ?_);rw[Bo];refine .trunc (q:=qr) rM ?_;have hacn:Hw.Acc ⟨some ⟨qr,0,none⟩,st2.length,cr⟩ [⟨qr,As st2,34,cr*32⟩] (As st2) 34 st2.length 32:=Acc.some oM (Aw (fun l hl=>hst32 l (Lak _ hl)));refine .region (.m J J J (.m J J J (.lenSl J J J Y30.h (.sub_i64 J J J J oM (.sliceHiA ⟨some ⟨qr,0,none⟩,NN,cr⟩ st2.length J J J J (by show(NN:Int)-1=(st2.length:Int);omega) (by show st2.length≤cr;omega) Y30.h Sz34 ?_)))));refine .a J J J (.na (.seq (.sr (.load1 J J J Y115 J mR (by rfl) ?_))));refine .lA J J J Y34.h J Sz34 Z1 (by(simp[h32k];done)) ?_;refine .cV J J J J Body112 (lin_has m32 ms kk h32k) (fun w h=>Ci h Z2) ?_;refine .na (.cond J (fun hc3=>?_) (fun hc3=>?_))
  ·
   refine .exit (at_x (bl_h (Bm ?_)));refine⟨(ms,l,st2,sl,bl,⟨some ⟨qr,0,none⟩,st2.length,cr⟩,[⟨qr,As st2,34,cr*32⟩]),⟨hF.seen (is_key hc3),by simp only;omega,hal,hacn⟩,by simp only[La2,Lap];omega,Ah wN (Ab rM (Ac sG (Ac (by repeat(exact sg_end)) (Ab rM Ae))))⟩
  have hmn:Am ms kk=none:=by simpa using hc3
  refine .skip (Bm (.sr (.load1 J J J Y115 J mR (by rfl) ?_)));refine .lA J J J Y34.h J Sz34 Z1 (by(simp[h32k];done)) ?_;refine .build (cs:=[]) J J J (fun w=>by kernel_rfl) ?_;refine .mapPut (v:=()) MN J J J J J h32k rM ?_;refine .na (.seq (.sr (.m J J J (.lA J J J Y34.h J Sz34 Z2 (by(simp[h32k];done)) ?_))));refine .cV J J J J Body112 (lin_has md ds kk h32k) (fun w h=>mblk_keep hmd h) (.na (.cond J (fun hc4=>?_) (fun hc4=>?_)))
  ·
   refine .exit (at_x (bl_h (Bm ?_)));refine⟨(Bh ms kk (),l,st2,sl,bl,⟨some ⟨qr,0,none⟩,st2.length,cr⟩,[⟨qr,As st2,34,cr*32⟩]),⟨hF.old hmn (is_key hc4),by simp only;omega,hal,hacn⟩,(by have:=cnt_put hmn x.pl.P (key_of hPk);simp only[La2,Lap];omega),Ah wN (Ab rM (Ac sG (Ac (by repeat(exact sg_end)) (Ab rM Ae))))⟩
  have hdk:kk∉ds.map (·.1):=not_key (by simpa using hc4);refine .skip (Bm (.sr (.m J J J (.lA J J J Y34.h J Sz34 Z2 (by(simp[h32k];done)) ?_))));refine .mkRow2 (z:=agg (Aa (List.replicate 32 0))) [agg (Aa kk)] (Aa kk) J J Y30.h Sz34 Cc J J (by intro v hv;rw[La1.1 hv];simp[Value.cells,Aa,h32k]) dE (by simp[Value.cells,agg]) ?_;intro q60;refine .appendAcc (n:=l.length) (z:=agg (Aa (List.replicate 32 0))) (by':=32) (Aa kk) J J J J J Y30.h Y30.h Sz34 Cc (by unfold By;kernel_rfl) J hal sG (fun w h=>SeesP.of (Ap h Z0)) (fun e=>by cases e) (Az _) oM oM (by rw[Aa,La0,h32k]) ?_;intro s61 bl61 hac61;refine .a J J J (.nsr (.m J J J (.lA J J J Y34.h J Sz34 mR (by(simp[h32k];done)) ?_)));refine .call4 J J J J J Body114 (dag_get x hx hck p kk h32k) (fun w h=>Ce hlies h) ?_;rintro v65 out65 (⟨h0,_⟩|⟨D,B,hD,hB,rfl,hbi⟩)
  ·exfalso;obtain⟨D,hD⟩:=hPk;rw[h0]at hD;cases hD
  have hD16:D.ls.length≤16:=h16 _ (Bk hD);have hp17:(Bi D).length≤17:=by have:=parL_len D;omega
  have hprow:∀l∈Bi D,l.length=32:=parL_row (hB_ok hx hlies hD);refine .m J J J (.eX J J J J (.eX J J J J (.alloc (cs:=Block.zero.cells) J Block.zr J ?_)));intro n16 hn16 hf16;refine .sA J J J J (Block.isCell (by exact hB.ok)) Sz50 (Block.length (by exact hB.ok)) Z0 (Block.length (by exact Block.zero_ok)) zU ?_;refine .a J J J (.na (.region (.m J J J (.lA J J J Y50.h J Sz50 Z0 (Block.length (by exact hB.ok)) ?_))));refine .call4 J J J J J Body116 (db_parA B D oM) (fun w h=>hbi w (Lies.of h (by repeat(first|exact An|refine A4 ?_)))) ?_;rintro v70 out70 ⟨⟨p70,n70,c70⟩,rfl,hac70⟩;have hn70:n70=(Bi D).length:=hac70.num;refine .appendAcc (n:=st2.length) (z:=agg (Aa (List.replicate 32 0))) (by':=32) (As (Bi D)) J J J J J Y30.h Y30.h Sz34 Cc (by unfold By;kernel_rfl) J hacn rM (fun w h=>hac70.see (Lies.of h (by repeat(exact An)))) (fun e=>hac70.nil e) (flatB_cell _) (by show st2.length+n70≤1000000;omega) (by show(st2.length+n70)*32≤140737488355328;omega) (by rw[Aw hprow,←hn70]) ?_;intro s71 bl71 hac71;refine .a J J J (.nil (bl_n (Bm ?_)));refine⟨(Bh ms kk (),l++[kk],st2++Bi D,s61,bl61,s71,bl71),⟨hF.meet hI hmn hdk hD,by simp only[La2,Lap];omega,by simp only;rw[Bo,La2,flatB_one];exact hac61,by simp only;rw[Bo,La2,←hn70];exact hac71⟩,(by have:=cnt_put hmn x.pl.P (key_of hPk);simp only[La2,Lap];omega),Ah wN (Ab rM (Ac sG (Ac sG (Ab rM Ae))))⟩
 obtain rfl:st=[]:=Lag oM;have hfin:=hF.fin hdn;refine .exit (at_x (at_x (bl_h (Bm (.sr (.makeFunc J J J J (.a J J J (.na (.seq (.sr (.m J J J (.m J J J (.cV J J J J Body115 (contains_lost sb bs n13 m32 ms) (fun w h=>⟨rows_ext h J hrb,(Ci (B:=⟨n13,[.map (some m32)],115,1⟩) h mR).cell (o:=0) J,Ci h Z0⟩) ?_)))))))))))));refine .na (.cond J (fun hc5=>?_) (fun hc5=>?_))
 ·
  refine .sr (.m J J J (.m J J J (.call4 J J J J J Body88 (dag_closure x hx h16 p sh hs oM) (fun w h=>⟨Ce hlies h,rows_ext h J hrh⟩) ?_)));rintro v79 out79 (⟨⟨n,hn,h0⟩,_⟩|⟨_,s79,k1,rfl,hac79,hso1,hnd1,hks1⟩)
  ·exfalso;have h9:=hall n hn;unfold PD.has at h9;rw[h0]at h9;cases h9
  have hn79:=hac79.num;have hk132:∀l∈k1,l.length=32:=fun l hl=>P32 hx (reach_P ((hks1 l).1 hl));have hk1b:k1.length≤400000:=by have h9:=reach_len hI hnd1 hks1;have h8:x.pl.names.length=x.names.length:=rfl;omega
  refine .m J J J (.eX J J J J (.eX J J J J (.a J J J (.a J J J (.nsr (.m J J J (.call4 J J J J J Body80 (lin_set s79 k1) (fun w h=>acc_rows hac79 (Lies.of h (by repeat(exact An))) hk132 J oM) ?_)))))));rintro v83 out83 ⟨m83,rfl,rfl⟩;refine .s1 J J J J J Sz115 mR sP (by rfl) uU ?_;refine .nsr (.m J J J (.m J J J (.cV J J J J Body115 (contains_lost sb bs n13 m83 (setP k1)) (fun w h=>⟨rows_ext h J hrb,(Ci (B:=⟨n13,[.map (some m83)],115,1⟩) h mR).cell (o:=0) J,Ci h Z0⟩) ?_)));refine .na (.cond J (fun hc6=>?_) (fun hc6=>?_))
  ·
   refine .sr (.a J J J (.a J J J (.na ?_)));refine .ret (at_r (C2 (Ay (out:=[]) (B5 J J J) Ae ?_)));obtain⟨n9,hn9,hno⟩:=some_any hc6;exact .inr (.inl ⟨hall,⟨n9,hn9,fun hr=>hno ((setP_mem k1 n9).2 ((hks1 n9).2 hr))⟩,rfl,rfl⟩)
  refine .skip (Bm (.sr (.m J J J (.a J J J (.a J J J (.na ?_))))));refine .ret (C2 (Ay (out:=(bl++[])) (B5 J J J) (Ac sG Ae) ?_));exact .inr (.inr ⟨hall,fun n hn=>(hks1 n).1 ((setP_mem k1 n).1 (none_any hc6 n hn)),sl,l,rfl,by simpa using hal,hF.lnd,hfin⟩)
 refine .skip (Bm (.sr (.m J J J (.a J J J (.a J J J (.na ?_))))));refine .ret (C2 (Ay (out:=(bl++[])) (B5 J J J) (Ac sG Ae) ?_));exact .inr (.inr ⟨hall,fun n hn=>hF.met n (none_any hc5 n hn),sl,l,rfl,by simpa using hal,hF.lnd,hfin⟩)
theorem lin_eq(p q:Option Addr)(n m c1 c2:Nat)(xs ys:List (List UInt8))(hx:∀l∈xs,l.length=32)(hy:∀l∈ys,l.length=32)(h1:xs.length=n)(h2:ys.length=m)(hn:n≤1000000):Mv 51 [.slice p n c1, .slice q m c2] (fun W=>SeesP W p (As xs)∧SeesP W q (As ys)) (.bool (decide (xs=ys))):=by
 intro W hW;refine Ad func51 J 8 ntmps51 J (G9 ?_);refine .cV J J J J Body118 (seq_any p q n m c1 c2 xs ys hx hy h1 h2 hn) (fun w h=>⟨A7 h J hW.1,A7 h J hW.2⟩) (G3 ?_);refine G2 ?_;refine⟨_,[],Af J J,sP,sP,?_,rfl⟩;rfl
def slc(r:Sl):List Value:=[r.v]
def HdsIs(W:World)(r:Sl)(d:List (List UInt8)):Prop:=RowsAt W r 32 d
theorem slc_cell(r:Sl):∀v∈slc r,isCell v=true:=fun v hv=>by
  rw[La1.1 hv];obtain⟨p,n,c⟩:=r;cases p<;>rfl
theorem res_tmp3{fn:Func}{t t2 t3:Tmp}{s:St}{v v2 v3:Value}(hr:fn.results= #[.tmp t, .tmp t2, .tmp t3])(hv:Hw.look s.sl t=some v)(hv2:Hw.look s.sl t2=some v2)(hv3:Hw.look s.sl t3=some v3):Res C fn s (.tuple #[v,v2,v3]):=by
  intro a w r;have h1:=r.rs.slots t v hv;have h2:=r.rs.slots t2 v2 hv2;have h3:=r.rs.slots t3 v3 hv3;simp[results,hr,h1,h2,h3]
theorem Sat.perm{code:Code}{sl:List (Nat×Value)}{hp hp':List Blk}{Q:Exit→St→Prop}(h:hp.Perm hp')(k:Sat C code ⟨sl,hp'⟩ Q):Sat C code ⟨sl,hp⟩ Q:=fun a w x=>k a w ⟨x.rs,x.rh.perm h⟩
noncomputable def benE(X:PD):List (List UInt8)→List (List (List UInt8))→Int
  |_,[]=>0
  |bf,c::cs=>if(c.any fun n=> !X.has n)=true then 6 else if(bf.all fun n=>rB X (-1) c n)=false then 4 else benE X c cs
inductive PartsOk(X:PD):List (List UInt8)→List (List (List UInt8))→List (List (List UInt8))→Prop
  |nil {bf:List (List UInt8)}:PartsOk X bf [] []
  |cons {bf c l:List (List UInt8)} {cs ls:List (List (List UInt8))} (h1:l.Nodup) (h2:∀n,n∈l↔X.Reach (-1) c n∧¬X.Reach (-1) bf n) (h3:PartsOk X c cs ls):PartsOk X bf (c::cs) (l::ls)
theorem PartsOk.snoc:∀ {bf:List (List UInt8)} {cs ls:List (List (List UInt8))},PartsOk X bf cs ls→l.Nodup→(∀n,n∈l↔X.Reach (-1) c n∧¬X.Reach (-1) (cs.getLastD bf) n)→PartsOk X bf (cs++[c]) (ls++[l])
  |_,[],_,h,h1,h2=>by cases h;exact .cons h1 h2 .nil
  | bf,d::cs,_,h,h1,h2=>by
    cases h with
    |cons a b k=>exact .cons a b (k.snoc h1 (by intro n;rw[h2 n];cases cs<;>rfl))
structure BenG where
  k:Nat
  bf:List (List UInt8)
  sbf:Sl
  ps:List RV
  s7:Sl
  bl7:List Blk
  bl2:List Blk
  fs:List (List UInt8×Unit)
def psv(ps:List RV):List Value:=ps.map fun r=>r.s.v
def pbl(ps:List RV):List Blk:=(ps.map RV.bl).flatten
structure BenG.ok(g:BenG)(X:PD)(W:World)(cs:List (List (List UInt8))):Prop where
  err:benE X [] cs=benE X g.bf (cs.drop g.k)
  row:RowsAt W g.sbf 32 g.bf
  acc:Hw.Acc g.s7 g.bl7 (psv g.ps) 30 g.ps.length 1
  bls:g.bl2.Perm (pbl g.ps)
  oks:∀r∈g.ps,r.ok
  prt:PartsOk X [] (cs.take g.k) (g.ps.map (·.ks))
  fnd:(g.fs.map (·.1)).Nodup
  fsk:∀n,n∈g.fs.map (·.1)↔X.Reach (-1) g.bf n
  lst:g.bf=(cs.take g.k).getLastD []
def BenR(X:PD)(cs:List (List (List UInt8)))(v:Value)(out:List Blk):Prop:=
  (∃e,e≠0∧benE X [] cs=e∧v= .tuple #[.slice none 0 0, .map none,i64 e]∧out=[])
  ∨benE X [] cs=0∧∃(s:Sl) (bl bl2:List Blk) (ps:List RV) (m:Nat) (fs:List (List UInt8×Unit)),v= .tuple #[s.v, .map (some m),i64 0]∧out=A3 m (Ao 32 evU) fs::(bl++bl2)∧Hw.Acc s bl (psv ps) 30 ps.length 1∧bl2.Perm (pbl ps)∧(∀r∈ps,r.ok)∧PartsOk X [] cs (ps.map (·.ks))∧(fs.map (·.1)).Nodup∧∀n,n∈fs.map (·.1)↔X.Reach (-1) (cs.getLastD []) n
theorem reach_closed(hI:X.Inv)(h:∀n,n∈ks↔X.Reach (-1) L n):∀k∈ks,∀D,Am X.P k=some D→∀m∈Bi D,m∈ks:=fun k hk D hD m hm=>by
  obtain⟨⟨E,hE⟩,_⟩:=hI.par k D hD m hm;exact(h m).2 (.step ((h k).1 hk) hD hm hE (by have:=hI.d0 m E hE;omega))
theorem reach_subst{L M:List (List UInt8)}(h:∀n∈L,X.Reach (-1) M n)(hn:X.Reach (-1) L n):X.Reach (-1) M n:=by
  induction hn with
  |base h1 _ _=>exact h _ h1
  |step _ hP hn hE hd ih=>exact .step ih hP hn hE hd
theorem psv_snoc(ps:List RV)(r:RV):psv (ps++[r])=psv ps++[r.s.v]:=by simp[psv]
theorem pbl_snoc(ps:List RV)(r:RV):(pbl (ps++[r]))=pbl ps++r.bl:=by simp[pbl]
theorem drop_at{l:List α}(h:l[k]? =some a):l.drop k=a::l.drop (k+1):=by
  obtain⟨hk,e⟩:=Lac.1 h;rw[←e];exact Lbj hk
theorem take_at{l:List α}(h:l[k]? =some a):l.take (k+1)=l.take k++[a]:=by
  obtain⟨hk,e⟩:=Lac.1 h;rw[←e];exact Lar hk
theorem BenG.next{W:World}{g:BenG}(h:g.ok X W cs){sc s28 s47:Sl}{out bl47:List Blk}(hc:cs[g.k]? =some c)(hrow:RowsAt W sc 32 c)(hall:∀n∈c,X.has n=true)(hbf:∀n∈g.bf,X.Reach (-1) c n)
    (hac:Hw.Acc s28 out (As l) 34 l.length 32) (h32:∀k∈l,k.length=32) (hnd:l.Nodup) (hl:∀n,n∈l↔X.Reach (-1) c n∧n∉g.fs.map (·.1)) (hac2:Hw.Acc s47 bl47 (psv g.ps++slc s28) 30 (g.ps.length+1) 1) (hfn:(fs.map (·.1)).Nodup) (hfs:∀n,n∈fs.map (·.1)↔n∈g.fs.map (·.1)∨n∈l):
    (⟨g.k+1,c,sc,g.ps++[⟨s28,out,l⟩],s47,bl47,out++g.bl2,fs⟩:BenG).ok X W cs where
  err :=by
    show benE X [] cs=benE X c (cs.drop (g.k+1));have e1:¬(c.any fun n=> !X.has n)=true:=by
      intro h9;obtain⟨n,hn,h8⟩:=Lbw.1 h9;rw[hall n hn]at h8;cases h8
    have e2:¬(g.bf.all fun n=>rB X (-1) c n)=false:=by
      rw[Lbn.2 fun n hn=>rB_iff.2 (hbf n hn)];decide
    rw[h.err,drop_at hc,benE,if_neg e1,if_neg e2]
  row:=hrow
  acc:=by
    show Hw.Acc s47 bl47 (psv (g.ps++[⟨s28,out,l⟩])) 30 (g.ps++[(⟨s28,out,l⟩:RV)]).length 1;rw[psv_snoc,La2];exact hac2
  bls:=by
    show(out++g.bl2).Perm (pbl (g.ps++[⟨s28,out,l⟩]));rw[pbl_snoc];exact Lcv.trans (Lcl out h.bls)
  oks:=fun r hr=>by
    rcases La9.1 hr with h1|h1
    ·exact h.oks r h1
    ·rw[La1.1 h1];exact⟨hac,h32⟩
  prt:=by
    show PartsOk X [] (cs.take (g.k+1)) ((g.ps++[(⟨s28,out,l⟩:RV)]).map (·.ks));rw[take_at hc,Lae];refine h.prt.snoc hnd fun n=>?_;rw[hl n,h.fsk n,←h.lst]
  fnd:=hfn
  fsk :=fun n=>by
    show n∈fs.map (·.1)↔X.Reach (-1) c n;rw[hfs n,hl n,h.fsk n];constructor
    · rintro(h1|h1)
      ·exact reach_subst hbf h1
      ·exact h1.1
    · intro h1
      by_cases h2:X.Reach (-1) g.bf n
      ·exact .inl h2
      ·exact .inr ⟨h1,h2⟩
  lst:=by
    show c=(cs.take (g.k+1)).getLastD [];rw[take_at hc];simp
theorem add_keys(h:(ms.map (·.1)).Nodup)(a:List UInt8):((Bh ms a ()).map (·.1)).Nodup∧∀n,n∈(Bh ms a ()).map (·.1)↔n∈ms.map (·.1)∨n=a:=by
  refine⟨mput_nodup h a (),fun n=>?_⟩;constructor
  · intro hn
    obtain⟨p,hp,rfl⟩:=La6.1 hn;rcases mput_mem hp with h2|rfl
    ·exact .inl (La6.2 ⟨p,h2,rfl⟩)
    ·exact .inr rfl
  · rintro(hn|rfl)
    · obtain⟨q,hq,rfl⟩:=La6.1 hn
      exact mput_in hq
    · cases hm:Am ms n with
      |none=>exact La6.2 ⟨(n,()),Bk (mget_new hm ()),rfl⟩
      |some u=>exact mput_in (q:=(n,u)) (Bk hm)
theorem ben_6(h:∃n∈c,X.has n=false):benE X bf (c::cs)=6:=by
  obtain⟨n,hn,h1⟩:=h;rw[benE,if_pos (Lbw.2 ⟨n,hn,by rw[h1];rfl⟩)]
theorem ben_4(h:∀n∈c,X.has n=true)(h2:∃n∈bf,¬X.Reach (-1) c n):benE X bf (c::cs)=4:=by
  obtain⟨n,hn,h1⟩:=h2;have e1:¬(c.any fun n=> !X.has n)=true:=by
    intro h9;obtain⟨m,hm,h8⟩:=Lbw.1 h9;rw[h m hm]at h8;cases h8
  have e2:(bf.all fun n=>rB X (-1) c n)=false:=by
    cases h9:bf.all fun n=>rB X (-1) c n with
    |false=>rfl
    |true=>exact absurd (rB_iff.1 (Lbn.1 h9 n hn)) h1
  rw[benE,if_neg e1,if_pos e2]
theorem ben_start(X:PD)(W:World)(cs:List (List (List UInt8))):(⟨0,[],Sl.nil,[],Sl.nil,[],[],[]⟩:BenG).ok X W cs where
  err:=by rw[Lep]
  row:=nil_rows W
  acc:=Acc.none
  bls:=Lcq _
  oks:=fun r hr=>by cases hr
  prt:= .nil
  fnd:=Ld3
  fsk:=fun n=>⟨fun h=>(by cases h),fun h=>(reach_nil h).elim⟩
  lst:=rfl
theorem lin_beneath(x:DD)(hx:x.ok)(hI:x.pl.Inv)(p:Nat)(s:Sl)(rs:List Sl)(cs:List (List (List UInt8)))(hn:s.n≤1000)(hsm:∀c∈cs,c.length≤90000):Meets prog 109 [ptr p 0,s.v] [] (fun W=>Lies (x.blks p) W∧SeqIs slc 1 HdsIs W s rs cs) (BenR x.pl cs):=by
 intro W hW;have h32k:True:=trivial;have hbig:=hx.big;have hs:=hW.2;have hnd0:=hs.nd;refine Ad func109 J 52 ntmps109 J (G19 ?_);refine .mkMap (Ao 32 evU) J J ?_;intro m16;refine G12 ?_;refine .loop (ι:=BenG) (fun g=>⟨[(0,ptr p 0),(1,s.v),(4, .slice none 0 0),(5, .map none),(6,i64 0),(7,g.s7.v),(8,g.sbf.v),(9, .map (some m16)),(17,s.v),(18,i64 (s.n:Int)),(19,i64 (g.k:Int))],(A3 m16 (Ao 32 evU) g.fs::(g.bl7++(g.bl2++[])))⟩) (fun g=>g.k≤s.n∧g.ps.length=g.k∧g.ok x.pl W cs) (fun g=>s.n-g.k) (⟨0,[],Sl.nil,[],Sl.nil,[],[],[]⟩) ?_ ?_ ?_
 ·exact⟨Laq _,rfl,ben_start x.pl W cs⟩
 ·exact Ah wN (Ab rM (Ac (by repeat(exact sg_end)) (Ac (by repeat(exact sg_end)) Ae)))
 rintro⟨k,bf,sbf,ps,s7,bl7,bl2,fs⟩ ⟨hk,hpk,hG⟩;simp only at hk hpk ⊢;have hacc:Hw.Acc s7 bl7 (psv ps) 30 ps.length 1:=hG.acc;refine G6 ?_;refine .condP J (fun hc0=>?_) (fun hc0=>?_)
 ·
  have hk2:k<s.n:=by omega
  obtain⟨b,o,rr,d,hsp,hr,hd,his,hlen,hsee⟩:=hs.at dE hk2;refine G6 ?_;refine .idxSlP 1 J J J hsp J Y78.h Sz30 k J oM (.loadE J J J Y30.h J sP ((by have h9:=hsee 0 rr.v J;simpa using h9)) ?_);refine G9 ?_;refine .call4 J J J J J Body162 (lin_fresh x hx hI p sbf rr bf d (hsm d (Lb1 hd)) m16 fs (reach_closed hI hG.fsk)) (fun w h=>⟨Ce hW.1 h,rows_ext h J hG.row,rows_ext h J his,Ci h Z0⟩) ?_;rintro v28 out28 (⟨hne,rfl,rfl⟩|⟨hall,hlost,rfl,rfl⟩|⟨hall,hbf,s28,l,rfl,hac28,hnd,hl⟩)
  ·
   skip;refine G14 ?_;refine .cond_t J J (G8 ?_);refine G8 ?_;refine Ay (out:=[]) (res_tmp3 J J J J) Ae ?_;exact .inl ⟨6,by decide,by rw[hG.err,drop_at hd];exact ben_6 hne,rfl,rfl⟩
  ·
   skip;refine G14 ?_;refine .cond_t J J (G8 ?_);refine G8 ?_;refine Ay (out:=[]) (res_tmp3 J J J J) Ae ?_;exact .inl ⟨4,by decide,by rw[hG.err,drop_at hd];exact ben_4 hall hlost,rfl,rfl⟩
  have hn28:=hac28.num;have hl32:∀q∈l,q.length=32:=fun q hq=>P32 hx (reach_P ((hl q).1 hq).1);have hlb:l.length≤x.names.length:=nd_len (m:=x.pl.names) hnd fun q hq=>(names_mem hI q).2 (reach_P ((hl q).1 hq).1);refine G14 ?_;refine .cond_f J J (G11 ?_);refine .loop (ι:=Nat×List (List UInt8×Unit)) (fun y=>⟨[(0,ptr p 0),(1,s.v),(4, .slice none 0 0),(5, .map none),(6,i64 0),(7,s7.v),(8,sbf.v),(9, .map (some m16)),(11,rr.v),(12,s28.v),(17,s.v),(18,i64 (s.n:Int)),(19,i64 (k:Int)),(34,s28.v),(35,i64 (s28.n:Int)),(36,i64 (y.1:Int))],(A3 m16 (Ao 32 evU) y.2::(bl7++(bl2++(out28++[]))))⟩) (fun y=>y.1≤s28.n∧(y.2.map (·.1)).Nodup∧∀n,n∈y.2.map (·.1)↔n∈fs.map (·.1)∨n∈l.take y.1) (fun y=>s28.n-y.1) ((0,fs)) ?_ ?_ ?_
  ·exact⟨Laq _,hG.fnd,fun n=>by simp⟩
  ·exact Ah wN (Ab (by repeat(first|exact A5|apply Bu)) (Ac (by repeat(first|exact B4|apply Cf)) (Ac (by repeat(first|exact B4|apply Cf)) (Ac sG Ae))))
  rintro⟨j,fs2⟩ ⟨hj,hfn,hfl⟩;simp only at hj hfn hfl ⊢;refine G6 ?_;refine .condP J (fun hc2=>?_) (fun hc2=>?_)
  ·
   have hj3:j<l.length:=by omega
   obtain⟨b28,o28,hp28,see28⟩:=par_open hac28 oM hl32;have h32k:(l.getD j []).length=32:=hl32 _ (getD_mem2 hj3);refine G6 ?_;refine .idxSlP 32 J J J hp28 J Y30.h Sz34 j J oM (.loadSN (n:=32) (Aa (l.getD j [])) J J J Y34.h J Sz34 (by rw[Aa,La0];exact h32k) (fun w h=>see28 w (Lies.of h (by repeat(first|exact An|refine A4 ?_|refine Be ?_))) j hj3) ?_);refine .alloc (cs:=(Aa (List.replicate 32 0))) J Cc J ?_;intro n15 hn15 hf15;refine .sA J J J J zE Sz34 (by(rw[Aa,La0];assumption)) Z0 sP zU ?_;refine G4 ?_;refine .lA J J J Y34.h J Sz34 Z0 (by(rw[Aa,La0];assumption)) ?_;refine .build (cs:=[]) J J J (fun w=>by kernel_rfl) ?_;refine .mapPut (v:=()) MN J J J J J h32k rM ?_;refine G8 ?_;refine⟨(j+1,Bh fs2 (l.getD j []) ()),⟨by simp only;omega,(add_keys hfn _).1,fun n=>?_⟩,by simp only;omega,Ah (wk1 J (wk1 J (wk1 J (wk1 J (wk1 J (wk1 J (wk1 J (wk1 J (wk1 J (wk1 J (wk1 J (wk1 J (wk1 J (wk1 J (wk1 J (wk1 (by rw[Lcc];rfl) wk0)))))))))))))))) (Ab rM (Ac sG (Ac sG (Ac sG Ae))))⟩;simp only;rw[(add_keys hfn _).2 n,hfl n,take_succ_getD hj3,La9,La1,or_assoc]
  obtain rfl:j=s28.n:=by omega
  rw[La5 oM]at hfl;refine G9 ?_;refine .mkRow2 (z:= .slice none 0 0) [s28.v] (slc s28) J J Y78.h Sz30 Zr30 J J (by intro v hv;rw[La1.1 hv];simp[Value.cells,Sl.v]) dE (by simp[Value.cells,slc,Sl.v]) ?_;intro q46;refine .appendAcc (z:= .slice none 0 0) (by':=24) (slc s28) J J J J J Y78.h Y78.h Sz30 Zr30 (by unfold By;kernel_rfl) J hacc sG (fun w h=>SeesP.of (Ap h Z0)) (fun e=>by cases e) (slc_cell s28) oM oM (by rfl) ?_;intro s47 bl47 hac47;refine G14 ?_;refine⟨⟨k+1,d,rr,ps++[⟨s28,out28,l⟩],s47,bl47,out28++bl2,fs2⟩,⟨by simp only;omega,by simp only[La2,Lap];omega,BenG.next hG hd his hall hbf hac28 hl32 hnd hl hac47 hfn hfl⟩,by simp only;omega,Ah (wk1 J (wk1 J (wk1 J (wk1 J (wk1 J (wk1 J (wk1 J (wk1 J (wk1 J (wk1 J (wk1 (by rw[Lcc];rfl) wk0))))))))))) (Ab rM (Ac sG (pm_two (Ac sG (Ac sG Ae)))))⟩
 obtain rfl:k=s.n:=by omega
 refine G14 ?_;refine G2 ?_;refine Ay (out:=(A3 m16 (Ao 32 evU) fs::(bl7++(bl2++[])))) (res_tmp3 J J J J) (Ab rM (Ac sG (Ac sG Ae))) ?_;have he:=hG.err;have hp9:=hG.prt;have hk9:=hG.fsk;rw[Lai (by simp only;omega)]at he;rw[La5 (by simp only;omega)]at hp9;rw[show bf=cs.getLastD []from by have h8:=hG.lst;rw[La5 (by simp only;omega)]at h8;exact h8]at hk9;exact .inr ⟨he,s7,bl7,bl2,ps,m16,fs,rfl,by simp,hG.acc,hG.bls,hG.oks,hp9,hG.fnd,hk9⟩
theorem take_drop_flat(L:List (List UInt8))(i:Nat):As L=As (L.take i)++As (L.drop i):=by rw[←Bo,Lc0]
theorem flat_take_len(h32:∀l∈L,l.length=32)(hi:i≤L.length):(As (L.take i)).length=i*32:=by rw[Aw (fun l hl=>h32 l (Lb9 hl)),Laa,Lbr hi]
theorem idx_lt(h:l.any f=true):l.findIdx f<l.length:=by
  obtain⟨x,hx,hf⟩:=Lbw.1 h;exact Leq ⟨x,hx,hf⟩
theorem own_rows{q n c m:Nat}{T:TypeId}(h:HRep C hp w)(hb:(⟨q,As L,T,m⟩:Blk)∈hp)(hr:∀l∈L,l.length=32)(hl:L.length=n)(hc:n≤c)(hm:n≤1000000):RowsAt w ⟨some ⟨q,0,none⟩,n,c⟩ 32 L:=
  ⟨hl,hr,hc,SeesP.of (Ap h hb),Lbd hm dE,fun e=>by cases e⟩
theorem upd_set:∀ {L:List (List UInt8)} {i:Nat} {v:List UInt8},(∀l∈L,l.length=32)→v.length=32→i<L.length→upd (As L) (0+i*32) (Aa v)=As (L.set i v):=fun {L i v} h hv hi=>by
  have e1:L=L.take i++L[i]::L.drop (i+1):=by rw[←Lbj hi,Lc0]
  have e2:L.set i v=L.take i++v::L.drop (i+1):=by rw[Ldp,if_pos hi]
  have l1:(As (L.take i)).length=i*32:=flat_take_len h oM;have l2:(Aa L[i]).length=32:=by rw[Aa,La0];exact h _ (Lce hi)
  have l3:(Aa v).length=32:=by rw[Aa,La0];exact hv
  have f:∀(a:List (List UInt8)) (b:List UInt8) (d:List (List UInt8)),As (a++b::d)=As a++(Aa b++As d):=fun a b d=>by simp[As]
  have e3:As L=As (L.take i)++(Aa L[i]++As (L.drop (i+1))):=by rw[←f,←e1]
  rw[e2,f,e3,Lb0,←l1,upd];rw[List.take_left,l3,←Lfs,Lgv,←l2,Lgv,Lab]
theorem filter_step{j:Nat}(hj:j<ks.length):(ks.take (j+1)).filter f=(ks.take j).filter f++(if f (ks.getD j [])=true then[ks.getD j []]else[]):=by
  rw[take_succ_getD hj,Lel];congr 1;rw[Ldu,List.filter_nil]
theorem index_has(s:Sl)(ls:List (List UInt8))(m:Nat)(fs:List (List UInt8×Unit)):Mv 150 [s.v, .func (.func 112) #[.map (some m)] #[]] (fun W=>RowsAt W s 32 ls∧BlkOk W (A3 m (Ao 32 evU) fs)) (i64 (fstBad (fun n=>(Am fs n).isSome) ls)):=by
 intro W hW;have hlen:=hW.1.len;have hrow:=hW.1.row;have hmax:=hW.1.max;simp only[maxLen]at hmax;have hcap:=hW.1.cap;refine Ad func150 J 19 ntmps150 J (G14 ?_);refine .loop (ι:=Nat) (fun k=>⟨[(0,s.v),(1, .func (.func 112) #[.map (some m)] #[]),(7,i64 (s.n:Int)),(8,i64 (k:Int))],[]⟩) (fun k=>k≤s.n∧∀j,j<k→(ls.map (fun n=>(Am fs n).isSome))[j]? =some false) (fun k=>s.n-k) (0) ?_ ?_ ?_
 ·exact⟨by omega,fun j hj=>by omega⟩
 ·exact Ag wN wh0 nD
 rintro k ⟨hk,hg⟩;refine G6 ?_;refine .condP J (fun hc0=>?_) (fun hc0=>?_)
 ·
  have hk2:k<s.n:=by omega
  obtain⟨b,o,hbp,hbs⟩:=hW.1.see.at (by rw[Aw hrow];omega);have h32k:(ls.getD k []).length=32:=Bs hrow oM;have hd:ls[k]? =some (ls.getD k []):=by rw[La4,La3 (show k<ls.length by omega)];rfl
  refine G15 ?_;refine .idxSlP 32 J J J hbp J Y30.h Sz34 k oM oM (.loadEN (Aa (ls.getD k [])) J J J Y34.h J Sz34 sP (by rw[Aa,La0];exact h32k) (B3 hrow hbs oM) ?_);refine .callCV J J J J J Body112 (lin_has m fs (ls.getD k []) h32k) (fun w h2=>mblk_keep hW.2 h2) (G2 ?_);refine .cond J (fun hc1=>?_) (fun hc1=>?_)
  ·
   refine G6 ?_;refine G7 ?_;refine⟨_,[],Af J J,sP,sP,?_,rfl⟩;exact congrArg i64 (fstBad_at hg (by rw[Laf,hd];simpa using hc1)).symm
  refine G8 ?_;exact⟨k+1,⟨by omega,fun j hj=>by rcases Lbz.1 hj with h|rfl;exact hg j h;rw[Laf,hd];simpa using hc1⟩,by omega,Ag wN wh0 nD⟩
 obtain rfl:k=s.n:=by omega
 refine G10 ?_;refine G2 ?_;refine⟨_,[],Af J J,sP,sP,?_,rfl⟩;exact congrArg i64 (fstBad_none (by intro j hj;exact hg j (by rw[hlen]at hj;exact hj))).symm
theorem set_take{v:List UInt8}(h:i<L.length):(L.set i v).take (i+1)=L.take i++[v]:=by
  rw[Ldp,if_pos h,Lbb,Laa,Lbr oM,show i+1-i=1 by omega,La5 (by rw[Laa];omega)];rfl
theorem filter_all(h:fstBad (fun n=>(Am fs n).isSome) ks= -1):(ks.filter fun n=>(Am fs n).isNone)=ks:=by
  rw[Lc9];intro n hn;unfold fstBad at h;split at h
  ·omega
  · rename_i h1
    cases hm:Am fs n with
    |none=>rfl
    |some u=>exact absurd (Lbw.2 ⟨n,hn,by rw[hm];rfl⟩) h1
theorem bad_at(h:¬fstBad (fun n=>(Am fs n).isSome) ks= -1):∃i,i<ks.length∧fstBad (fun n=>(Am fs n).isSome) ks=(i:Int)∧(ks.take i).filter (fun n=>(Am fs n).isNone)=ks.take i∧¬(Am fs (ks.getD i [])).isNone=true:=by
  have ha:ks.any (fun n=>(Am fs n).isSome)=true:=by
    cases h9:ks.any (fun n=>(Am fs n).isSome)with
    |true=>rfl
    |false=>exact absurd (if_neg (by rw[h9];decide)) h
  have hi:=idx_lt ha;refine⟨_,hi,if_pos ha,?_,?_⟩
  · rw[Lc9]
    intro n hn;obtain⟨j,hj,e⟩:=Lb7 hn;rw[Laa]at hj;rw[Lci]at e;have h1:=Lf7 (show j<ks.findIdx (fun n=>(Am fs n).isSome) by omega);rw[e]at h1;cases hm:Am fs n with
    |none=>rfl
    |some u=>rw[hm]at h1;simp at h1
  · have h2:=Lgl (p:=fun n=>(Am fs n).isSome) (xs:=ks) (w:=hi)
    rw[La4,La3 hi,Lbu];intro h3;rw[Lfq]at h3;rw[h3]at h2;cases h2
theorem del_has(q n c m:Nat)(ks:List (List UInt8))(h32:∀l∈ks,l.length=32)(hn:ks.length=n)(hnc:n≤c)(hbig:n≤1000000)(fs:List (List UInt8×Unit)):Meets prog 111 [.slice (some ⟨q,0,none⟩) n c, .func (.func 112) #[.map (some m)] #[]] [q] (fun W=>Lent [⟨q,As ks,34,c*32⟩] W∧BlkOk W (A3 m (Ao 32 evU) fs)∧m≠q) (fun v out=>v= .slice (some ⟨q,0,none⟩) (ks.filter (fun n=>(Am fs n).isNone)).length c∧out=[⟨q,As (ks.filter (fun n=>(Am fs n).isNone)),34,c*32⟩]):=by
  intro W hW;have h32j:True:=trivial;obtain⟨_,hmb,hmq⟩:=id hW;refine calls_of (hp0:=[⟨q,As ks,34,c*32⟩]) func111 J 42 ntmps111 J hW.1.rep (G9 ?_);refine .cV J J J J Body150 (index_has ⟨some ⟨q,0,none⟩,n,c⟩ ks m fs) (fun w h=>⟨own_rows h Z0 h32 hn hnc hbig,hmb.of_heap (h.keeps.block m hmb.lt (by simpa using hmq))⟩) ?_;refine G10 ?_;refine .condP J (fun hc0=>?_) (fun hc0=>?_)
  ·
    refine G6 ?_;refine G3 ?_;refine Ay (out:=(⟨q,As ks,34,c*32⟩::[])) (Af J J) (Ab rM Ae) ?_;rw[filter_all hc0,hn];exact⟨rfl,rfl⟩
  obtain⟨i0,hi0,hib,hfi,hf0⟩:=bad_at hc0;rw[hib];refine G11 ?_;refine .loop (ι:=Nat×Nat×List (List UInt8)) (fun r=>⟨[(0, .slice (some ⟨q,0,none⟩) n c),(1, .func (.func 112) #[.map (some m)] #[]),(5,i64 (r.1:Int)),(6,i64 (r.2.1:Int))],[⟨q,As r.2.2,34,c*32⟩]⟩) (fun r=>r.1<r.2.1∧r.2.1≤n∧r.2.2.length=n∧(∀l∈r.2.2,l.length=32)∧r.2.2.take r.1=(ks.take r.2.1).filter (fun n=>(Am fs n).isNone)∧r.2.2.drop r.2.1=ks.drop r.2.1) (fun r=>n-r.2.1) ((i0,i0+1,ks)) ?_ ?_ ?_
  ·exact⟨Nat.lt_succ_self _,by simp only;omega,hn,h32,by simp only;rw[filter_step oM,hfi,if_neg hf0,Lau],rfl⟩
  ·exact Ah wN (Ab rM Ae)
  rintro⟨i,j,L⟩ ⟨hij,hjn,hLn,hL32,hLt,hLd⟩;simp only at hij hjn hLn hL32 hLt hLd ⊢;refine G9 ?_;refine .condP J (fun hc1=>?_) (fun hc1=>?_)
  ·
    have hj2:j<n:=by omega
    have h32j:(ks.getD j []).length=32:=Bs h32 oM;have hLj:L.getD j []=ks.getD j []:=by rw[La4,La4,←Lc8 j,←Lb8,←Lb8,hLd]
    refine G8 ?_;refine .idxSlP 32 J J J J J Y30.h Sz34 j J oM (.loadSN (n:=32) (Aa (ks.getD j [])) J J J Y34.h J Sz34 (by rw[Aa,La0];exact h32j) (fun w h=>by rw[←hLj];exact B3 hL32 (Ap h Z0) oM) ?_);refine .alloc (cs:=(Aa (List.replicate 32 0))) J Cc J ?_;intro n7 hn7 hf7;refine .sA J J J J zE Sz34 (by(rw[Aa,La0];assumption)) Z0 sP zU ?_;refine G5 ?_;refine .lA J J J Y34.h J Sz34 Z0 (by(rw[Aa,La0];assumption)) ?_;refine .callCV J J J J J Body112 (lin_has m fs (ks.getD j []) h32j) (fun w h=>hmb.of_heap (h.keeps.block m hmb.lt (by simpa using hmq))) ?_;refine G3 ?_;refine .cond J (fun hc2=>?_) (fun hc2=>?_)
    ·
      have hkeep:(Am fs (ks.getD j [])).isNone=true:=by cases h9:Am fs (ks.getD j [])<;>simp_all
      refine G4 ?_;refine .lA J J J Y34.h J Sz34 Z0 (by(rw[Aa,La0];assumption)) ?_;refine .idxSlP 32 J J J J J Y30.h Sz34 i J oM (.storeN (Aa (ks.getD j [])) (cs':=As (L.set i (ks.getD j []))) J J J J J (Az _) Sz34 (by rw[Aa,La0];exact h32j) Z1 (by rw[Aw hL32,Aa,La0,h32j];omega) (upd_set hL32 h32j oM) zV ?_);refine G15 ?_;refine⟨(i+1,j+1,L.set i (ks.getD j [])),⟨by simp only;omega,by simp only;omega,by simp only[Lc5];exact hLn,fun l hl=>?_,?_,?_⟩,by simp only;omega,Ah wN (Ab rM Ae)⟩
      · rcases Leo hl with h9|rfl
        ·exact hL32 l h9
        ·exact h32j
      · simp only
        rw[filter_step oM,←hLt,if_pos hkeep,set_take oM]
      · simp only
        rw[List.drop_set_of_lt oM,←Lfs,hLd,Lfs]
    have hdrop:¬(Am fs (ks.getD j [])).isNone=true:=by cases h9:Am fs (ks.getD j [])<;>simp_all
    refine G9 ?_;refine⟨(i,j+1,L),⟨by simp only;omega,by simp only;omega,hLn,hL32,?_,?_⟩,by simp only;omega,Ah wN (Ab rM Ae)⟩
    · simp only
      rw[filter_step oM,if_neg hdrop,Lau];exact hLt
    · simp only
      rw[←Lfs,hLd,Lfs]
  have hjn2:j=n:=by omega
  refine G6 ?_;rw[take_drop_flat L i];refine .trunc (q:=q) rM ?_;refine G3 ?_;refine .sliceLoN i J J J J J oM hnc Y30.h Sz34 ?_;rw[if_neg (show ¬c=i by omega)];refine .clearB (size:=32) (z:=agg (Aa (List.replicate 32 0))) J J J Y30.h Cc J dE rM (by rw[flat_take_len hL32 oM];omega) oM ?_;refine G6 ?_;refine .sliceHiA ⟨some ⟨q,0,none⟩,n,c⟩ i J J J J J (by show i≤c;omega) Y30.h Sz34 ?_;dsimp only[Sl.v];refine G3 ?_;refine G2 ?_;refine Ay (out:=(⟨q,As (L.take i),34,c*32⟩::[])) (Af J J) (Ab rM Ae) ?_;rw[La5 (show ks.length≤j by omega)]at hLt;rw[←hLt];exact⟨by rw[Laa,Lbr oM],rfl⟩
def leD(X:PD)(a b:List UInt8):Bool:=decide (X.dp a<X.dp b)||(decide (X.dp a=X.dp b)&&decide (C3 a b≤0))
theorem leD_iff{a b:List UInt8}:leD X a b=true↔LeD X a b:=by unfold leD LeD;simp
def isortD(X:PD)(l:List (List UInt8)):List (List UInt8):=l.mergeSort (leD X)
theorem isortD_perm(X:PD)(l:List (List UInt8)):(isortD X l).Perm l:=List.mergeSort_perm l _
theorem isortD_sort(X:PD)(l:List (List UInt8)):SortD X (isortD X l):=by
  have h:=List.pairwise_mergeSort (le:=leD X) (fun a b c h1 h2=>by
    rw[leD_iff]at*;have:=cmpB_trans a b c;unfold LeD at*;omega) (fun a b=>by
    rw[Lc7,leD_iff,leD_iff];have:=cmpB_neg a b;unfold LeD;omega) l
  exact h.imp fun h=>leD_iff.1 h
theorem isortD_eq{a l:List (List UInt8)}(hp:a.Perm l)(hs:SortD X a):a=isortD X l:=sortD_unique (hp.trans (isortD_perm X l).symm) hs (isortD_sort X l)
noncomputable def partsD(X:PD):List (List UInt8)→List (List (List UInt8))→List (List (List UInt8))
  |_,[]=>[]
  |bf,c::cs=>isortD X (X.names.filter fun n=>rB X (-1) c n&& !rB X (-1) bf n)::partsD X c cs
noncomputable def restL(X:PD)(cs:List (List (List UInt8))):List (List UInt8):=X.names.filter fun n=> !rB X (-1) (cs.getLastD []) n
noncomputable def Cp(X:PD)(cs:List (List (List UInt8))):List (List UInt8):=(partsD X [] cs).flatten++isortD X (restL X cs)
theorem parts_sorted{X:PD}(hI:X.Inv):∀ {bf:List (List UInt8)} {cs ls:List (List (List UInt8))},PartsOk X bf cs ls→ls.map (isortD X)=partsD X bf cs
  |_,_,_, .nil=>rfl
  | bf,c::cs,l::ls, .cons h1 h2 h3=>by
    rw[Las,partsD,parts_sorted hI h3];congr 1;refine isortD_eq ((isortD_perm X l).trans ((List.perm_ext_iff_of_nodup h1 ((hI.nn▸hI.nd:X.names.Nodup).filter _)).2 fun n=>?_)) (isortD_sort X l);rw[h2 n,Lbt,Lao,rB_iff,Ldl,←Lhf,rB_iff,names_mem hI];exact⟨fun h=>⟨reach_P h.1,h⟩,fun h=>h.2⟩
theorem parts_len{X:PD}(hI:X.Inv):∀ {bf:List (List UInt8)} {cs ls:List (List (List UInt8))},PartsOk X bf cs ls→∀l∈ls,l.length≤X.names.length
  |_,_,_, .nil,l,hl=>by cases hl
  | _,_,_, .cons h1 h2 h3,l,hl=>by
    rcases Lan.1 hl with rfl|hl
    ·exact nd_len h1 fun n hn=>(names_mem hI n).2 (reach_P ((h2 n).1 hn).1)
    ·exact parts_len hI h3 l hl
def OrdR(X:PD)(cs:List (List (List UInt8)))(v:Value)(out:List Blk):Prop:=
  (∃e,e≠0∧benE X [] cs=e∧v= .tuple #[.slice none 0 0,i64 0,i64 e]∧out=[])
  ∨benE X [] cs=0∧∃s:Sl,v= .tuple #[s.v,i64 ((beneath X (cs.getLastD [])).length:Int),i64 0]∧Hw.Acc s out (As (Cp X cs)) 34 (Cp X cs).length 32
theorem psv_at(h:Hw.Acc s bl (psv ps) 30 ps.length 1)(hr:ps[k]? =some r):∃q o,s.p=some ⟨q,o,none⟩∧∀w,Lies bl w→w.cell? ⟨q,o+k*1,none⟩=some r.s.v:=by
  have hk:=(Lac.1 hr).1;rcases h with ⟨_,_,_,e⟩|⟨q,c,rfl,h1,h2,rfl⟩
  ·omega
  · refine⟨q,0,rfl,fun w hw=>?_⟩
    have h3:=(hw _ La8).cell (o:=0+k*1) (v:=r.s.v) (by
      show(psv ps)[0+k*1]? =_;rw[Lb0,Lba,psv,Laf,hr];rfl)
    exact h3
theorem perm_seg{hp A B C R:List Blk}(h:hp.Perm (A++R))(h2:A.Perm (B++C)):hp.Perm (B++(C++R)):=by
  rw[←Lab];exact h.trans (Lcl R h2)
theorem pbl_drop(hr:ps[k]? =some r):pbl (ps.drop k)=r.bl++pbl (ps.drop (k+1)):=by
  rw[drop_at hr];rfl
theorem lent_pre{hp bl keep L:List Blk}(h:HRep C hp w)(hp1:hp.Perm (bl++keep))(hL:∀b∈L,b∈keep):Lent bl w∧Lies L w∧∀b∈L,∀b2∈bl,b.n≠b2.n:=by
  have h1:=h.perm hp1;refine⟨Lent.of h hp1,fun b hb=>h1.cells b (Lav _ (hL b hb)),fun b hb b2 hb2 e=>?_⟩;have h2:=h1.nodup;rw[Lae,Lay]at h2;exact h2.2.2 _ (La6.2 ⟨b2,hb2,rfl⟩) _ (La6.2 ⟨b,hL b hb,rfl⟩) e.symm
theorem beneath_keys(hI:X.Inv)(hn:(fs.map (·.1)).Nodup)(h:∀n,n∈fs.map (·.1)↔X.Reach (-1) L n):fs.length=(beneath X L).length:=by
  rw[←clos_len hI hn h,La0]
theorem rest_filter(h:∀n,n∈fs.map (·.1)↔X.Reach (-1) (cs.getLastD []) n):(X.names.filter fun n=>(Am fs n).isNone)=restL X cs:=by
  unfold restL;refine List.filter_congr fun n _=>?_;cases hm:Am fs n with
  | none=>
    have:¬rB X (-1) (cs.getLastD []) n=true:=fun h2=>not_key hm ((h n).2 (rB_iff.1 h2));rw[Lhf]at this;rw[this];rfl
  | some u=>
    rw[rB_iff.2 ((h n).1 (La6.2 ⟨(n,u),Bk hm,rfl⟩))];rfl
theorem del_nil(m:Nat)(fs:List (List UInt8×Unit)):Mv 111 [.slice none 0 0, .func (.func 112) #[.map (some m)] #[]] (fun W=>BlkOk W (A3 m (Ao 32 evU) fs)) (.slice none 0 0):=by
 intro W hW;refine Ad func111 J 42 ntmps111 J (G9 ?_);refine .cV J J J J Body150 (index_has Sl.nil [] m fs) (fun w h=>⟨nil_rows w,mblk_keep hW h⟩) (G7 ?_);refine .eqi J J J J (decide_eq_true (rfl)) (G2 ?_);refine .cond_t J J (G6 ?_);refine G3 ?_;refine⟨_,[],Af J J,sP,sP,?_,rfl⟩;rfl
theorem del_acc(s:Sl)(bl:List Blk)(ks:List (List UInt8))(h32:∀l∈ks,l.length=32)(hbig:ks.length≤1000000)(hac:Hw.Acc s bl (As ks) 34 ks.length 32)(m:Nat)(fs:List (List UInt8×Unit)):Meets prog 111 [s.v, .func (.func 112) #[.map (some m)] #[]] (bl.map (·.n)) (fun W=>Lent bl W∧Lies [A3 m (Ao 32 evU) fs] W∧∀b∈ [A3 m (Ao 32 evU) fs],∀b2∈bl,b.n≠b2.n)
    (fun v out=>∃s2:Sl,v=s2.v∧Hw.Acc s2 out (As (ks.filter fun n=>(Am fs n).isNone)) 34 (ks.filter fun n=>(Am fs n).isNone).length 32):=fun W ⟨h1,h2,h3⟩=>by
  have hm:=h2 _ La8;rcases hac with ⟨rfl,rfl,hz,hn⟩|⟨q,c,rfl,hnc,hfl,rfl⟩
  · obtain rfl:=Lag hn
    exact(del_nil m fs W hm).mono fun e W' ⟨v,out,he,⟨hv,ho⟩,hr⟩=>⟨v,out,he,⟨Sl.nil,hv,by rw[ho];exact Acc.none⟩,hr⟩
  · refine(del_has q ks.length c m ks h32 rfl hnc hbig fs W ⟨h1,hm,h3 _ La8 _ La8⟩).mono fun e W' ⟨v,out,he,⟨hv,ho⟩,hr⟩=>⟨v,out,he,⟨⟨some ⟨q,0,none⟩,_,c⟩,hv,?_⟩,hr⟩
    rw[ho];exact Acc.some (Lbd (Lgg _ _) hnc) (Aw fun l hl=>h32 l (Lbt.1 hl).1)
structure OrdG where
  k:Nat
  l:List (List UInt8)
  s:Sl
  bl:List Blk
  br:List Blk
structure OrdG.ok(g:OrdG)(X:PD)(ps:List RV):Prop where
  lst:g.l=((ps.take g.k).map fun r=>isortD X r.ks).flatten
  acc:Hw.Acc g.s g.bl (As g.l) 34 g.l.length 32
  bls:g.br.Perm (pbl (ps.drop g.k))
  len:g.l.length≤g.k*20000
theorem OrdG.next{g:OrdG}(h:g.ok X ps)(hr:ps[g.k]? =some r)(hb:r.ks.length≤20000){ks2:List (List UInt8)}(hp:ks2.Perm r.ks)(hs:SortD X ks2)(hac:Hw.Acc s bl (As g.l++As ks2) 34 (g.l.length+r.ks.length) 32):(⟨g.k+1,g.l++ks2,s,bl,pbl (ps.drop (g.k+1))⟩:OrdG).ok X ps where
  lst:=by
    show g.l++ks2=((ps.take (g.k+1)).map fun r=>isortD X r.ks).flatten;rw[take_at hr,Lae,Lcp,←h.lst,isortD_eq hp hs];simp
  acc:=by
    show Hw.Acc s bl (As (g.l++ks2)) 34 (g.l++ks2).length 32;rw[Bo,La2,hp.length_eq];exact hac
  bls:=Lcq _
  len:=by
    show(g.l++ks2).length≤(g.k+1)*20000;have h1:=h.len;rw[La2,hp.length_eq];omega
theorem ord_start(X:PD)(ps:List RV){bl br:List Blk}(h:Hw.Acc s bl (As []) 34 0 32)(hb:br.Perm (pbl ps)):(⟨0,[],s,bl,br⟩:OrdG).ok X ps where
  lst:=rfl
  acc:=h
  bls:=hb
  len:=Laq _
theorem parts_count{X:PD}:∀ {bf:List (List UInt8)} {cs ls:List (List (List UInt8))},PartsOk X bf cs ls→ls.length=cs.length
  |_,_,_, .nil=>rfl
  |_,_,_, .cons _ _ h=>by rw[Lax,Lax,parts_count h]
theorem parts_sub{X:PD}(hI:X.Inv):∀ {bf:List (List UInt8)} {cs ls:List (List (List UInt8))},PartsOk X bf cs ls→∀l∈ls,∀n∈l,n∈X.names
  |_,_,_, .nil,l,hl=>by cases hl
  | _,_,_, .cons h1 h2 h3,l,hl=>by
    rcases Lan.1 hl with rfl|hl
    ·exact fun n hn=>(names_mem hI n).2 (reach_P ((h2 n).1 hn).1)
    ·exact parts_sub hI h3 l hl
theorem ord_all(hI:X.Inv)(h:PartsOk X [] cs (ps.map (·.ks))):((ps++[(⟨s,bl,restL X cs⟩:RV)]).map fun r=>isortD X r.ks).flatten=Cp X cs:=by
  have h1:=parts_sorted hI h;rw[Lhg]at h1;rw[Lae,Lcp,Cp,←h1];simp;rfl
theorem lin_ord(x:DD)(hx:x.ok)(hI:x.pl.Inv)(hO:x.pl.Ord)(p:Nat)(s:Sl)(rs:List Sl)(cs:List (List (List UInt8)))(hn:s.n≤16)(hsm:∀c∈cs,c.length≤90000):Meets prog 45 [ptr p 0,s.v] [] (fun W=>Lies (x.blks p) W∧SeqIs slc 1 HdsIs W s rs cs) (OrdR x.pl cs):=by
 intro W hW;have hbig:=hx.big;have hnln:x.pl.names.length=x.names.length:=rfl;have hck:∀q∈x.P,q.2.check=0:=hI.ck;have h16:∀q∈x.P,q.2.ls.length≤16:=fun q hq=>(ck_small (hck q hq)).1;have hnd0:=hW.2.nd;refine Ad func45 J 59 ntmps45 J (G11 ?_);refine .cV J J J J Body78 (lin_none x hx h16 p) (fun w h=>Ce hW.1 h) (G2 ?_);refine .cond_f J J (G6 ?_);refine .call4 J J J J J Body109 (lin_beneath x hx hI p s rs cs oM hsm) (fun w h=>⟨Ce hW.1 h,hW.2.ext h J fun r d hd=>rows_ext h J hd⟩) ?_;rintro v20 out20 (⟨e,he0,hbe,rfl,rfl⟩|⟨hbe,s20,bl20,br20,ps,m,fs,rfl,rfl,hac20,hbr,hoks,hprt,hfn,hfk⟩)
 ·
  skip;refine G13 ?_;refine .nei J J J J (show(!decide _)=true from congrArg not (decide_eq_false (he0))) (G2 ?_);refine .cond_t J J (G8 ?_);refine G3 ?_;refine Ay (out:=[]) (res_tmp3 J J J J) Ae ?_;exact .inl ⟨e,he0,hbe,rfl,rfl⟩
 have hn20:=hac20.num;have hpl:ps.length≤16:=by have h9:=parts_count hprt;rw[La0]at h9;omega
 have hpk:∀r∈ps,r.ks.length≤x.names.length:=fun r hr=>parts_len hI hprt r.ks (La6.2 ⟨r,hr,rfl⟩);refine G13 ?_;refine .nei J J J J (show(!decide _)=false from congrArg not (decide_eq_true (rfl))) (G2 ?_);refine .cond_f J J (G5 ?_);refine .call4 J J J J J Body110 (dag_names x hx p) (fun w h=>Ce hW.1 h) ?_;rintro v28 out28 ⟨s28,rfl,hac28⟩;have hn28:=hac28.num;refine G7 ?_;refine .call4 J J J J J Body83 (lin_depths x hx hI hO p s28 x.pl.names) (fun w h=>⟨Ce hW.1 h,acc_rows hac28 (Lies.of h (by repeat(exact An))) hx.n32 J oM⟩) ?_;rintro v31 out31 ⟨aD,bD,cD,mD,fsD,ksD,⟨rfl,rfl,hfsD⟩,hksD⟩;have hdep:∀n,n∈x.pl.names→Am fsD n=some (x.pl.dp n):=fun n hn=>hfsD.all n (hksD n hn hn);simp only[Lam,Lad,Lab];refine G7 ?_;refine .call4 J J J J J Body81 (cl_digs s28 x.pl.names oM) (fun w h=>acc_rows hac28 (Lies.of h (by repeat(first|exact An|refine A4 ?_))) hx.n32 J oM) ?_;rintro v34 out34 ⟨s34,rfl,hac34⟩;rw[hn28]at hac34;refine G2 ?_;refine .callL (L:=out34) J J J J J Body111 (del_acc s34 out34 x.pl.names hx.n32 oM hac34 m fs) sG (lent_ok J) (fun w h=>by have h9:=lent_pre (L:=[A3 m (Ao 32 evU) fs]) h sG (by intro b hb;simp only[Lan,Lc6,or_false]at hb;rcases hb with rfl;exact mR);exact h9) ?_;rintro v37 out37 ⟨s37,rfl,hac37⟩;rw[rest_filter hfk]at hac37;have hr37:(restL x.pl cs).length≤x.names.length:=by unfold restL;exact Lgg _ _
 have hrok:(⟨s37,out37,restL x.pl cs⟩:RV).ok:=⟨hac37,fun l hl=>hx.n32 l (Lbt.1 hl).1⟩;refine .mkRow2 (z:= .slice none 0 0) [s37.v] (slc s37) J J Y78.h Sz30 Zr30 J J (by intro v hv;rw[La1.1 hv];simp[Value.cells,Sl.v]) dE (by simp[Value.cells,slc,Sl.v]) ?_;intro q38;refine .appendAcc (z:= .slice none 0 0) (by':=24) (slc s37) J J J J J Y78.h Y78.h Sz30 Zr30 (by unfold By;kernel_rfl) J hac20 sG (fun w h=>SeesP.of (Ap h Z0)) (fun e=>by cases e) (slc_cell s37) oM oM (by rfl) ?_;intro s39 bl39 hac39;have hac39b:Hw.Acc s39 bl39 (psv (ps++[(⟨s37,out37,restL x.pl cs⟩:RV)])) 30 (ps++[(⟨s37,out37,restL x.pl cs⟩:RV)]).length 1:=by rw[psv_snoc,La2];exact hac39
 have hn39:s39.n=ps.length+1:=hac39.num;refine G7 ?_;refine .mkRoomN (z:=agg (Aa (List.replicate 32 0))) (by':=32) s28.n J J J J J Y30.h Sz34 Cc (by unfold By;kernel_rfl) oM oM ?_;intro q42;refine G12 ?_;refine .loop (ι:=OrdG) (fun g=>⟨[(4, .slice none 0 0),(5,i64 0),(6,i64 0),(7,s39.v),(8, .map (some m)),(11, .func (.func 144) #[] #[ptr aD 0,ptr bD 0,ptr cD 0]),(12,g.s.v),(43,s39.v),(44,i64 (s39.n:Int)),(45,i64 (g.k:Int))],(g.bl++(g.br++(A3 m (Ao 32 evU) fs::(bl39++(A3 mD (Ao 32 evI) fsD::(⟨cD,[.func (.func 144) #[] #[ptr aD 0,ptr bD 0,ptr cD 0]],118,1⟩::(⟨aD,[.map (some mD)],32,1⟩::(⟨bD,[ptr p 0],26,1⟩::[]))))))))⟩) (fun g=>g.k≤s39.n∧g.ok x.pl (ps++[(⟨s37,out37,restL x.pl cs⟩:RV)])) (fun g=>s39.n-g.k) (⟨0,[],⟨some ⟨q42,0,none⟩,0,s28.n⟩,[⟨q42,[],34,s28.n*32⟩],out37++br20⟩) ?_ ?_ ?_
 ·exact⟨Laq _,ord_start _ _ (Acc.some (Laq _) sP) (by rw[pbl_snoc];exact Lcv.trans (Lcl _ hbr))⟩
 ·exact Ah wN (pm_in0 (Ab rM (pm_two (Ac sG (Ac sG (Ab rM (Ac sG (Ab rM (Ab rM (Ab rM (Ab rM Ae)))))))))))
 rintro⟨k,l,s12,bl12,br⟩ ⟨hk,hG⟩;simp only at hk ⊢;refine G6 ?_;refine .condP J (fun hc2=>?_) (fun hc2=>?_)
 ·
  have hk2:k<s39.n:=by omega
  obtain⟨r,hr9⟩:∃r,(ps++[(⟨s37,out37,restL x.pl cs⟩:RV)])[k]? =some r:=⟨_,La3 (by rw[La2,Lap];omega)⟩;obtain⟨y39,o39,hp39,hc39⟩:=psv_at hac39b hr9;have hrm:=Lb1 hr9;have hro:r.ok:=by rcases La9.1 hrm with h9|h9;exact hoks r h9;rw[La1.1 h9];exact hrok
  have hrb:r.ks.length≤x.names.length:=by rcases La9.1 hrm with h9|h9;exact hpk r h9;rw[La1.1 h9];exact hr37
  have hrn:∀n∈r.ks,n∈x.pl.names:=by rcases La9.1 hrm with h9|h9;exact parts_sub hI hprt r.ks (La6.2 ⟨r,h9,rfl⟩);rw[La1.1 h9];exact fun n hn=>(Lbt.1 hn).1
  have hrp:=hG.bls.trans (List.Perm.of_eq (pbl_drop hr9));refine G6 ?_;refine .idxSlP 1 J J J hp39 J Y78.h Sz30 k J oM (.loadS1 J J J Y30.h J (fun w h=>hc39 w (Lies.of h (by repeat(first|exact An|refine A4 ?_|refine Be ?_)))) ?_);refine G4 ?_;refine Sat.perm (perm_seg (by repeat(first|exact B4|apply Cf)) hrp) ?_;refine G3 ?_;refine .callL (L:=r.bl) J J J J J Body82 (lin_order x.pl r.s r.bl r.ks hro.r32 oM hro.acc aD bD cD mD fsD (fun n hn=>hdep n (hrn n hn))) (show List.Perm _ (r.bl++_)from sG) (lent_ok J) (fun w h=>by have h9:=lent_pre (L:=[⟨aD,[.map (some mD)],32,1⟩,A3 mD (Ao 32 evI) fsD]) h sG (by intro b hb;simp only[Lan,Lc6,or_false]at hb;rcases hb with rfl|rfl;exact mR;exact mR);exact h9) ?_;rintro v51 out51 ⟨rfl,ks2,hp2,hs2,hac51⟩;have hn51:=hac51.num;refine G5 ?_;refine .appendAcc (n:=l.length) (z:=agg (Aa (List.replicate 32 0))) (by':=32) (As ks2) J J J J J Y30.h Y30.h Sz34 Cc (by unfold By;kernel_rfl) J hG.acc (by repeat(first|exact B4|apply Cf)) (fun w h=>hac51.see (Lies.of h (by repeat(exact An)))) (fun e=>hac51.nil e) (flatB_cell _) (by have h9:l.length≤k*20000:=hG.len;rw[hn51];show l.length+r.ks.length≤1000000;omega) (by have h9:l.length≤k*20000:=hG.len;rw[hn51];show(l.length+r.ks.length)*32≤140737488355328;omega) (by rw[Aw (fun q hq=>hro.r32 q (hp2.mem_iff.1 hq)),hp2.length_eq,hn51]) ?_;intro s54 bl54 hac54;rw[hn51]at hac54;refine G9 ?_;refine⟨⟨k+1,l++ks2,s54,bl54,pbl ((ps++[(⟨s37,out37,restL x.pl cs⟩:RV)]).drop (k+1))⟩,⟨by simp only;omega,OrdG.next hG hr9 oM hp2 hs2 hac54⟩,by simp only;omega,Ah (wk1 J (wk1 J (wk1 J (wk1 J (wk1 J (wk1 J (wk1 J (wk1 J (wk1 J (wk1 (by rw[Lcc];rfl) wk0)))))))))) (Ac sG (Ac (by repeat(first|exact B4|apply Cf)) (Ab (by repeat(first|exact A5|apply Bu)) (Ac (by repeat(first|exact B4|apply Cf)) (Ab (by repeat(first|exact A5|apply Bu)) (Ab (by repeat(first|exact A5|apply Bu)) (Ab (by repeat(first|exact A5|apply Bu)) (Ab (by repeat(first|exact A5|apply Bu)) Ae))))))))⟩
 have hkf:k=s39.n:=by omega
 refine G9 ?_;refine .lenMap Y115 J J J mR ?_;refine G5 ?_;refine G2 ?_;refine Ay (out:=(bl12++[])) (res_tmp3 J J J J) (Ac sG Ae) ?_;have hl9:l=Cp x.pl cs:=by
  have h9:=hG.lst;simp only at h9;rw[h9,La5 (by rw[La2,Lap];omega),ord_all hI hprt]
 rw[beneath_keys hI hfn hfk];exact .inr ⟨hbe,s12,rfl,by rw[←hl9];simpa using hG.acc⟩
theorem digs_same(p q:Option Addr)(n m c1 c2:Nat)(xs:List (List UInt8))(hx:∀l∈xs,l.length=32)(h1:xs.length=n)(h2:xs.length=m)(hn:n≤1000000):Mv 23 [.slice p n c1, .slice q m c2] (fun W=>SeesP W p (As xs)∧SeesP W q (As xs)) (.bool true):=by
  have h:=digests_any2 p q n m c1 c2 xs xs hx hx h1 h2 hn;rwa[show decide (xs=xs)=true from decide_eq_true rfl]at h
open Ed
variable{L:List (List UInt8)}
theorem law17_signed(n:Int)(seed:List UInt8)(h32:seed.length=32)(B:Block)(hB:B.ok)(D D1:DB)(hD1:D1.ok)(cSeed:Mv 165 [i64 n] (fun _=>True) (agg (Aa seed)))(cS:∀B:Block,B.ok→Meets prog 164 [agg (Aa seed),agg B.cells] [] (fun W=>BlockIs W B D) (BlkR 0 D1)):Meets prog 125 [i64 n,agg B.cells] [] (fun W=>BlockIs W B D) (BlkV D1):=by
 intro W hW;refine Ad func125 J 15 ntmps125 J (G3 ?_);intro n3 hn3 hf3;refine .alloc (cs:=Block.zero.cells) J Block.zr J ?_;intro n4 hn4 hf4;refine G3 ?_;refine .draw (oP [0,102,301,303,4,5,6,207,408,9]) Ar zK (G1 ?_);refine .lA J J J Y50.h J Sz50 Z1 (Block.length (by exact hB)) ?_;refine .cV J J J J Body165 (cSeed) tV (.call J J J J Body164 (cS B hB) (BlkR.loose 0 D1 hD1) (fun w h=>hW.ext h J) ?_);rintro v11 out11 ⟨B11,h11,rfl,ho11⟩;refine G3 ?_;refine .alloc (cs:=Block.zero.cells) J Block.zr J ?_;intro n5 hn5 hf5;refine .sA J J J J (Block.isCell (by exact h11.ok)) Sz50 (Block.length (by exact h11.ok)) Z0 (Block.length (by exact Block.zero_ok)) zU ?_;refine G5 ?_;refine .lA J J J Y50.h J Sz50 Z0 (Block.length (by exact h11.ok)) ?_;refine .sA J J J J (Block.isCell (by exact h11.ok)) Sz50 (Block.length (by exact h11.ok)) mR (Block.length (by exact Block.zero_ok)) uU ?_;refine G2 ?_;refine G2 ?_;refine Ay (out:=(out11++[])) (Av J J Y50.h J Sz50 mR (by exact Block.length (by exact h11.ok))) (Ac sG Ae) ?_;exact⟨B11,h11,rfl,by simpa using ho11⟩
theorem law17_filled(s:Sl)(ds:List DB)(hn:s.n≤1000)(hsm:∀d∈ds,d.ls.length≤500000∧d.ds.length≤500000):Meets prog 17 [s.v] [] (fun W=>BlocksAt W s ds) (fun v out=>∃(p:Nat) (x:DD),v=ptr p 0∧out=x.blks p∧x.ok∧x.pl=fillP PD.new ds∧x.names.length+x.orp.length≤ds.length):=by
 intro W hW;obtain⟨rs,hs⟩:=hW;have hnd:=hs.nd;refine Ad func17 J 20 ntmps17 J (G7 ?_);refine .call4 J J J J J Body77 (dag_new2) tV ?_;rintro v5 out5 ⟨p,x0,rfl,rfl,hx0,hplx0,hnx0⟩;refine G10 ?_;refine .loop (ι:=Nat×DD) (fun r=>⟨[(0,s.v),(3,ptr p 0),(4,i64 (r.1:Int))],(r.2.blks p++[])⟩) (fun r=>r.1≤s.n∧r.2.ok∧r.2.pl=fillP PD.new (ds.take r.1)∧r.2.names.length+r.2.orp.length≤r.1) (fun r=>s.n-r.1) ((0,x0)) ?_ ?_ ?_
 ·exact⟨Laq _,hx0,hplx0,Ld9 hnx0⟩
 ·exact Ah wN (Ac sG Ae)
 rintro⟨k,x⟩ ⟨hk,hx,hplx,hnx⟩;simp only at hk hx hplx hnx ⊢;refine G9 ?_;refine .condP J (fun hc0=>?_) (fun hc0=>?_)
 ·
  have hk2:k<s.n:=by omega
  obtain⟨b,o,r,d,hsp,hr,hd,his,hlen,hsee⟩:=hs.at dE hk2;refine G8 ?_;refine .idxSlP 131 J J J hsp J Y22.h Sz50 k J oM (.loadEN r.cells J J J Y50.h J Sz50 sP hlen hsee (.call4 J J J J J Body42 (db_own r d (hsm d (Lb1 hd)).1 (hsm d (Lb1 hd)).2) (fun w h=>his.ext h J) ?_));rintro v17 out17 ⟨B17,h17,rfl,hb17⟩;refine .callL (L:=(x.blks p++out17)) J J J J J Body41 (dag_add x hx p B17 d out17 ⟨h17,hb17⟩ oM) (sg_two (by repeat(first|exact B4|apply Cf)) sG) (lent_ok J) (fun w h=>Lent.of h (sg_two (by repeat(first|exact B4|apply Cf)) sG)) ?_;rintro v18 out18 ⟨x1,⟨p18,n18,c18⟩,bl18,rfl,rfl,hx1,hac18,h3218,hplx1,hnx1⟩;simp only[Lab];refine G9 ?_;exact⟨(k+1,x1),⟨by simp only;omega,hx1,by show x1.pl=_;rw[hplx1,hplx,take_snoc hd,fillP_snoc],by simp only;omega⟩,by simp only;omega,Ah wN (Ac sG Ae)⟩
 have hke:k=s.n:=by omega
 refine G11 ?_;refine G2 ?_;refine Ay (out:=(x.blks p++[])) (Af J J) (Ac sG Ae) ?_;refine⟨p,x,rfl,by simp,hx,?_,by omega⟩;rw[hke,La5 oM]at hplx;exact hplx
theorem law17_chain(Da Db Dc:DB)(na:List UInt8)(hDa:Da.ok)(hDb:Db.ok)(hDc:Dc.ok)(lna:na.length=32)(hna:A2 Da=na)(cSa:∀B:Block,B.ok→Meets prog 164 [agg (Aa s1B),agg B.cells] [] (fun W=>BlockIs W B DB.zero) (BlkR 0 Da))(cSb:∀B:Block,B.ok→Meets prog 164 [agg (Aa s1B),agg B.cells] [] (fun W=>BlockIs W B { DB.zero with seq:=1,prev:=na }) (BlkR 0 Db))(cSc:∀B:Block,B.ok→Meets prog 164 [agg (Aa s2B),agg B.cells] [] (fun W=>BlockIs W B { DB.zero with ls:=[na] }) (BlkR 0 Dc)):Meets prog 58 [] [] (fun _=>True) (ChainS Da Db Dc):=by
 intro W hW;refine Ad func58 J 16 ntmps58 J (G7 ?_);refine .build (cs:=Block.zero.cells) J J J (fun w=>by kernel_rfl) ?_;refine .call4 J J J J J Body125 (law17_signed 1 s1B J Block.zero Block.zero_ok DB.zero Da hDa kitS1 cSa) (fun w h=>zero_is w) ?_;rintro v4 out4 ⟨Ba,ha,rfl,hoa⟩;have cNa:=r15_Name Ba Da ha.ok;rw[hna]at cNa;refine .alloc (cs:=Block.zero.cells) J Block.zr J ?_;intro n1 hn1 hf1;refine .sA J J J J (Block.isCell (by exact ha.ok)) Sz50 (Block.length (by exact ha.ok)) Z0 (Block.length (by exact Block.zero_ok)) zU ?_;refine G4 ?_;refine .lA J J J Y50.h J Sz50 Z0 (Block.length (by exact ha.ok)) ?_;refine .cV J J J J Body54 (cNa) (fun w h=>hoa w (Lies.of h (by repeat(first|exact An|refine A4 ?_)))) ?_;refine .alloc (cs:=(Aa (List.replicate 32 0))) J Cc J ?_;intro n2 hn2 hf2;refine .sA J J J J zE Sz34 (by(simp[lna];done)) Z0 sP zU ?_;refine G3 ?_;refine .drawZ (oP [100,101,2,104,303,205,6,307,208,9]) Ar zK (.lA J J J Y50.h J Sz50 Z1 (Block.length (by exact ha.ok)) ?_);refine .lA J J J Y34.h J Sz34 Z0 (by(simp[lna];done)) ?_;refine .build (cs:=({ Block.zero with fSeq:=1,fPrev:=na }:Block).cells) J J J (fun w=>build_sp 1 na lna w) (.lA J J J Y34.h J Sz34 Z0 (by(simp[lna];done)) ?_);refine .call J J J J Body125 (law17_signed 1 s1B J _ (sp_ok 1 lna) _ Db hDb kitS1 cSb) (BlkV.loose Db hDb) (fun w h=>sp_is w 1 lna) ?_;rintro v10 out10 ⟨Bb,hb,rfl,hob⟩;refine .mkRow2 (z:=agg (Aa (List.replicate 32 0))) [agg (Aa na)] (Aa na) J J Y30.h Sz34 Cc J J (by intro v hv;rw[La1.1 hv];simp[Value.cells,Aa,lna]) dE (by simp[Value.cells,agg]) ?_;intro q12;refine .build (cs:=(bl1 q12).cells) J J J (fun w=>by kernel_rfl) ?_;refine .call J J J J Body125 (law17_signed 2 s2B J (bl1 q12) (bl1_ok q12) _ Dc hDc kitS2 cSc) (BlkV.loose Dc hDc) (fun w h=>bl1_is lna (Ap h Z0)) ?_;rintro v14 out14 ⟨Bc,hc,rfl,hoc⟩;refine .mkRow2 (z:=agg Block.zero.cells) [agg Ba.cells,agg Bb.cells,agg Bc.cells] (tri Ba Bb Bc) J J Y22.h Sz50 Block.zr J J (by intro v hv;simp only[Lan,Lc6,or_false]at hv;rcases hv with rfl|rfl|rfl;exact Block.length ha.ok;exact Block.length hb.ok;exact Block.length hc.ok) dE (by simp[Value.cells,agg,tri]) ?_;intro q15;refine G3 ?_;refine G2 ?_;refine Ay (out:=(⟨q15,tri Ba Bb Bc,50,(tri Ba Bb Bc).length⟩::(out14++(out10++(out4++[]))))) (Af J J) (Ab rM (Ac sG (Ac sG (Ac sG Ae)))) ?_;exact⟨q15,Ba,Bb,Bc,_,ha,hb,hc,rfl,rfl,fun W2 hl=>⟨hoa W2 (hl.sub (by repeat(first|exact An|refine Be ?_))),hob W2 (hl.sub (by repeat(first|exact An|refine Be ?_))),hoc W2 (hl.sub (by repeat(exact An)))⟩⟩
theorem three_32{a b c:List UInt8}(ha:a.length=32)(hb:b.length=32)(hc:c.length=32):∀l∈ [a,b,c],l.length=32:=fun l hl=>by
  simp only[Lan,Lc6,or_false]at hl;rcases hl with rfl|rfl|rfl<;>assumption
theorem hds_one{w:World}{q:Nat}{r:Sl}{d:List (List UInt8)}(hs:C6 w q 0 (slc r))(h:RowsAt w r 32 d):SeqIs slc 1 HdsIs w ⟨some ⟨q,0,none⟩,1,1⟩ [r] [d]:=by
  refine⟨rfl,rfl,fun i r2 d2 hr hd=>?_,fun r2 hr=>?_,Lah 1,SeesP.of (by simpa using hs),(by show 1≤maxLen;decide),fun e=>by cases e⟩
  · rcases i with _|i
    ·cases hr;cases hd;exact h
    ·cases hr
  ·rw[La1.1 hr];rfl
theorem lin_depth_at(x:DD)(hx:x.ok)(hI:x.pl.Inv)(hO:x.pl.Ord)(p:Nat)(n:List UInt8)(h32:n.length=32){v:Value}(h:x.pl.depthR n=v):Mv 24 [ptr p 0,agg (Aa n)] (fun W=>Lies (x.blks p) W) v:=by
  rw[←h];exact lin_depth x hx hI hO p n h32
theorem lin_ord_at(x:DD)(hx:x.ok)(hI:x.pl.Inv)(hO:x.pl.Ord)(p:Nat)(s:Sl)(cs:List (List (List UInt8)))(hn:s.n≤16)(hsm:∀c∈cs,c.length≤90000)(he:benE x.pl [] cs=0){k:Nat}(hk:(beneath x.pl (cs.getLastD [])).length=k)(hl:Cp x.pl cs=L):Meets prog 45 [ptr p 0,s.v] [] (fun W=>Lies (x.blks p) W∧∃rs,SeqIs slc 1 HdsIs W s rs cs)
    (fun v out=>∃s2:Sl,v= .tuple #[s2.v,i64 (k:Int),i64 0]∧Hw.Acc s2 out (As L) 34 L.length 32):=fun W hW=>by
  obtain⟨h1,rs,h2⟩:=hW;refine(lin_ord x hx hI hO p s rs cs hn hsm W ⟨h1,h2⟩).mono fun e W' ⟨v,out,h3,h4,h5⟩=>⟨v,out,h3,?_,h5⟩;rcases h4 with ⟨e,he0,hbe,_⟩|⟨_,s2,hv,hac⟩
  ·exact absurd (hbe.symm.trans he) he0
  · rw[hk]at hv;rw[hl]at hac
    exact⟨s2,hv,hac⟩
theorem d_nm:cX3.names=[mAN,mBN,mLN]:=by kernel_rfl
theorem d_pk:cX3.P.map (·.1)=[mAN,mBN,mLN]:=by kernel_rfl
theorem dAN:cX3.dp mAN=0:=by kernel_rfl
theorem dBN:cX3.dp mBN=1:=by kernel_rfl
theorem dLN:cX3.dp mLN=1:=by kernel_rfl
theorem d_hA:Am cX3.P mAN=some mAD:=by kernel_rfl
theorem d_hB:Am cX3.P mBN=some mBD:=by kernel_rfl
theorem d_hL:Am cX3.P mLN=some mLD:=by kernel_rfl
theorem d_lb:C3 mLN mBN<0:=of_decide_eq_true zK
theorem d_pB:Bi mBD=[mAN]:=by kernel_rfl
theorem d_pA:Bi mAD=[]:=by kernel_rfl
theorem d_sub{X:PD}{a:Int}{L S:List (List UInt8)}(hL:∀n∈L,n∈S)(hp:∀n∈S,∀D,Am X.P n=some D→∀m∈Bi D,m∈S){n:List UInt8}(h:X.Reach a L n):n∈S:=by
  induction h with
  |base h1 _ _=>exact hL _ h1
  |step _ hP hn _ _ ih=>exact hp _ ih _ hP _ hn
theorem d_rA:rB cX3 (-1) [mBN] mAN=true:=rB_iff.2 (.step (reach_in c_inv La8 d_hB) d_hB (by rw[d_pB];exact La8) d_hA (by have:=c_inv.d0 _ _ d_hA;omega))
theorem d_rB:rB cX3 (-1) [mBN] mBN=true:=rB_iff.2 (reach_in c_inv La8 d_hB)
theorem d_rL:rB cX3 (-1) [mBN] mLN=false:=by
  cases h:rB cX3 (-1) [mBN] mLN with
  |false=>rfl
  | true=>
    exfalso;have h1:=d_sub (S:=[mBN,mAN]) (fun n hn=>by rw[La1.1 hn];exact La8) (fun n hn D hD m hm=>by
      rcases Lan.1 hn with rfl|hn
      ·rw[d_hB]at hD;cases hD;rw[d_pB]at hm;exact Laj _ hm
      ·rw[La1.1 hn,d_hA]at hD;cases hD;rw[d_pA]at hm;cases hm) (rB_iff.1 h)
    exact absurd h1 (of_decide_eq_true zK)
theorem d_dpA:cX3.depthR mAN= .tuple #[i64 0,i64 0]:=by
  unfold PD.depthR;rw[if_pos (show cX3.has mAN=true by unfold PD.has;rw[d_hA];rfl),dAN]
theorem d_dpL:cX3.depthR mLN= .tuple #[i64 1,i64 0]:=by
  unfold PD.depthR;rw[if_pos (show cX3.has mLN=true by unfold PD.has;rw[d_hL];rfl),dLN]
theorem d_s3:isortD cX3 [mAN,mBN,mLN]=[mAN,mLN,mBN]:=by
  have h:=d_lb;refine(isortD_eq (List.Perm.cons _ (List.Perm.swap _ _ _)) ?_).symm;unfold SortD LeD;simp only[Lda,Lan,Lc6,or_false,forall_eq_or_imp,forall_eq,dAN,dBN,dLN];refine⟨⟨.inl dE, .inl dE⟩, .inr ⟨trivial,by omega⟩,fun a ha=>(by cases ha),List.Pairwise.nil⟩
theorem d_s2:isortD cX3 [mAN,mBN]=[mAN,mBN]:=by
  refine(isortD_eq (Lcq _) ?_).symm;unfold SortD LeD;simp only[Lda,Lan,Lc6,or_false,forall_eq,dAN,dBN];exact⟨.inl dE,fun a ha=>(by cases ha),List.Pairwise.nil⟩
theorem d_s1:isortD cX3 [mLN]=[mLN]:=(isortD_eq (Lcq _) (List.pairwise_singleton _ _)).symm
theorem d_o0:Cp cX3 []=[mAN,mLN,mBN]:=by
  have e:restL cX3 []=[mAN,mBN,mLN]:=by
    unfold restL;rw[d_nm,Lc9];intro n _;show(!rB cX3 (-1) [] n)=true;rw[rB_nil];rfl
  show isortD cX3 (restL cX3 [])=_;rw[e,d_s3]
theorem d_o1:Cp cX3 [[mBN]]=[mAN,mBN,mLN]:=by
  have e1:restL cX3 [[mBN]]=[mLN]:=by
    unfold restL;show(cX3.names.filter fun n=> !rB cX3 (-1) [mBN] n)=_;rw[d_nm];simp[Ldu,d_rA,d_rB,d_rL]
  have e2:(cX3.names.filter fun n=>rB cX3 (-1) [mBN] n&& !rB cX3 (-1) [] n)=[mAN,mBN]:=by
    rw[d_nm];simp[Ldu,d_rA,d_rB,d_rL,rB_nil]
  unfold Cp;rw[e1,d_s1,partsD,e2,d_s2];rfl
theorem d_b1:(beneath cX3 [mBN]).length=2:=by
  unfold beneath;rw[d_pk];simp[Ldu,d_rA,d_rB,d_rL]
theorem d_e1:benE cX3 [] [[mBN]]=0:=by
  have h:cX3.has mBN=true:=by unfold PD.has;rw[d_hB];rfl
  rw[benE,if_neg (by simp[h]),if_neg sP,benE]
theorem chain17_facts:∃(Da Db Dc:DB) (na nb nc:List UInt8) (X:PD),(Da.ok∧Db.ok∧Dc.ok)∧(na.length=32∧nb.length=32∧nc.length=32)∧(A2 Da=na∧A2 Db=nb∧A2 Dc=nc)
    ∧(∀B:Block,B.ok→Meets prog 164 [agg (Aa s1B),agg B.cells] [] (fun W=>BlockIs W B DB.zero) (BlkR 0 Da))∧(∀B:Block,B.ok→Meets prog 164 [agg (Aa s1B),agg B.cells] [] (fun W=>BlockIs W B { DB.zero with seq:=1,prev:=na }) (BlkR 0 Db))∧(∀B:Block,B.ok→Meets prog 164 [agg (Aa s2B),agg B.cells] [] (fun W=>BlockIs W B { DB.zero with ls:=[na] }) (BlkR 0 Dc))∧(∀d∈ [Da,Db,Dc],d.ls.length≤500000∧d.ds.length≤500000)
    ∧fillP PD.new [Da,Db,Dc]=X∧X.depthR na= .tuple #[i64 0,i64 0]∧X.depthR nc= .tuple #[i64 1,i64 0]∧(beneath X []).length=0∧(beneath X [nb]).length=2∧benE X [] [[nb]]=0∧Cp X []=[na,nc,nb]∧Cp X [[nb]]=[na,nb,nc]∧C3 nc nb<0:=
  ⟨mAD,mBD,mLD,mAN,mBN,mLN,cX3,⟨mA_f.1,mB_f.1,mL_f.1⟩,⟨mA_len,mB_len,mL_len⟩,⟨mA_nm,mB_nm,mL_nm⟩,mA_f.2.2.2,mB_f.2.2.2,mL_f.2.2.2,
    (fun d hd=>by simp only[Lan,Lc6,or_false]at hd;rcases hd with rfl|rfl|rfl<;>exact of_decide_eq_true zK),c_fill,d_dpA,d_dpL,beneath_nil cX3,d_b1,d_e1,d_o0,d_o1,d_lb⟩
theorem law17_lives  :Mv 15 [] (fun _=>True) (.bool true):=by
 intro W hW;obtain⟨Da,Db,Dc,na,nb,nc,X,⟨hDa,hDb,hDc⟩,⟨lna,lnb,lnc⟩,⟨hna,hnb,hnc⟩,cSa,cSb,cSc,hsm,hfill,hd0,hd1,hb0,hb1,he1,ho0,ho1,hcb⟩:=chain17_facts;refine Ad func15 J 116 ntmps15 J (G7 ?_);refine .call4 J J J J J Body58 (law17_chain Da Db Dc na hDa hDb hDc lna hna cSa cSb cSc) tV ?_;rintro v9 out9 ⟨q,Ba,Bb,Bc,bl,ha,hb,hc,rfl,rfl,hch⟩;have cNa:=r15_Name Ba Da ha.ok;have cNb:=r15_Name Bb Db hb.ok;have cNc:=r15_Name Bc Dc hc.ok;rw[hna]at cNa;rw[hnb]at cNb;rw[hnc]at cNc;refine G6 ?_;refine .call4 J J J J J Body17 (law17_filled ⟨some ⟨q,0,none⟩,3,3⟩ [Da,Db,Dc] (by show 3≤1000;omega) hsm) (fun w h=>tri_blocks (Ci (B:=⟨q,tri Ba Bb Bc,50,(tri Ba Bb Bc).length⟩) h Z0) (hch w (Lies.of h (by repeat(first|exact An|refine A4 ?_))))) ?_;rintro v11 out11 ⟨p,x,rfl,rfl,hx,hplx,hnx2⟩;have hI:x.pl.Inv:=by rw[hplx];exact PD.Inv.fill _ PD.Inv.new
 have hO:x.pl.Ord:=by rw[hplx];exact PD.Ord.fill _ PD.Inv.new PD.Ord.new
 rw[hfill]at hplx;rw[←hplx]at hd0 hd1 hb0 hb1 he1 ho0 ho1;refine G4 ?_
 try simp only[Lam,Lad,Lab]
 refine .withK (sp_x (sp_k (sp_x sp_n))) J (.draw (oP [0,1,2,4,5,6,8,9,10,303,307,311,212,213,214,415,416,417]) Ar zK ?_)
 try simp only[Lam,Lad,Lab]
 refine G1 ?_;refine .idxSlP 131 J J J J J Y22.h Sz50 0 J dE (.kloadSN (n:=131) Ba.cells J J J Y50.h J Sz50 (Block.length ha.ok) (fun w h=>(tri_sees ha.ok hb.ok hc.ok (h ⟨q,tri Ba Bb Bc,50,(tri Ba Bb Bc).length⟩ (by simp[Cx.with]))).1) ?_);refine G1 ?_;refine .idxSlP 131 J J J J J Y22.h Sz50 1 J dE (.kloadSN (n:=131) Bb.cells J J J Y50.h J Sz50 (Block.length hb.ok) (fun w h=>(tri_sees ha.ok hb.ok hc.ok (h ⟨q,tri Ba Bb Bc,50,(tri Ba Bb Bc).length⟩ (by simp[Cx.with]))).2.1) ?_);refine G1 ?_;refine .idxSlP 131 J J J J J Y22.h Sz50 2 J dE (.kloadSN (n:=131) Bc.cells J J J Y50.h J Sz50 (Block.length hc.ok) (fun w h=>(tri_sees ha.ok hb.ok hc.ok (h ⟨q,tri Ba Bb Bc,50,(tri Ba Bb Bc).length⟩ (by simp[Cx.with]))).2.2) ?_);refine .cV J J J J Body54 (cNa) (fun w h=>(hch w (Lies.of h (by repeat(first|exact An|refine A4 ?_|refine Be ?_)))).1) ?_;refine .cV J J J J Body54 (cNb) (fun w h=>(hch w (Lies.of h (by repeat(first|exact An|refine A4 ?_|refine Be ?_)))).2.1) ?_;refine .cV J J J J Body54 (cNc) (fun w h=>(hch w (Lies.of h (by repeat(first|exact An|refine A4 ?_|refine Be ?_)))).2.2) ?_;refine .alloc (cs:=(Aa (List.replicate 32 0))) J Cc J ?_;intro n3 hn3 hf3;refine .alloc (cs:=(Aa (List.replicate 32 0))) J Cc J ?_;intro n4 hn4 hf4;refine .alloc (cs:=(Aa (List.replicate 32 0))) J Cc J ?_;intro n5 hn5 hf5;refine .sA J J J J zE Sz34 (by(simp[lna];done)) Z2 sP (by exact upd2) ?_;refine .sA J J J J zE Sz34 (by(simp[lnb];done)) Z1 sP zV ?_;refine .sA J J J J zE Sz34 (by(simp[lnc];done)) Z0 sP zU ?_;refine G4 ?_
 try simp only[Lam,Lad,Lab]
 refine G1 ?_;refine .lA J J J Y34.h J Sz34 Z2 (by(simp[lna];done)) ?_;refine .cV J J J J Body24 (lin_depth_at x hx hI hO p na lna hd0) (fun w h=>Lies.of h (by repeat(first|exact An|refine A4 ?_))) ?_;refine G9 ?_
 try simp only[Lam,Lad,Lab]
 refine G1 ?_;refine .lA J J J Y34.h J Sz34 Z0 (by(simp[lnc];done)) ?_;refine .cV J J J J Body24 (lin_depth_at x hx hI hO p nc lnc hd1) (fun w h=>Lies.of h (by repeat(first|exact An|refine A4 ?_))) ?_;refine G9 ?_
 try simp only[Lam,Lad,Lab]
 refine G1 ?_;refine .call4 J J J J J Body45 (lin_ord_at x hx hI hO p Sl.nil [] (Laq _) (fun c hc=>by cases hc) J hb0 ho0) (fun w h=>⟨Lies.of h (by repeat(first|exact An|refine A4 ?_)),[],SeqIs.none⟩) ?_;rintro v45 out45 ⟨s45,rfl,hac45⟩;have hn45:s45.n=3:=hac45.num;obtain⟨b45,o45,hp45,see45⟩:=par_open hac45 sP (three_32 lna lnc lnb);refine G11 ?_
 try simp only[Lam,Lad,Lab]
 refine G1 ?_;refine .lA J J J Y34.h J Sz34 mR (by(simp[lnb];done)) ?_;refine .mkRow (z:=agg (Aa (List.replicate 32 0))) [agg (Aa nb)] (As [nb]) J J J Y30.h Sz34 Cc J J (by intro v hv;simp only[Lan,Lc6,or_false]at hv;rcases hv with rfl<;>simp[Value.cells,Aa,lnb]) dE (by simp[Value.cells,agg,As]) ?_;intro q52;refine .mkRow2 (z:= .slice none 0 0) [Sl.v (⟨some ⟨q52,0,none⟩,1,1⟩:Sl)] (slc (⟨some ⟨q52,0,none⟩,1,1⟩:Sl)) J J Y78.h Sz30 Zr30 J J (by intro v hv;rw[La1.1 hv];simp[Value.cells,Sl.v]) dE (by simp[Value.cells,slc,Sl.v]) ?_;intro q53;refine .call4 J J J J J Body45 (lin_ord_at x hx hI hO p ⟨some ⟨q53,0,none⟩,1,1⟩ [[nb]] (by show 1≤16;decide) (fun c hc=>by rw[La1.1 hc];show 1≤90000;decide) he1 hb1 ho1) (fun w h=>⟨Lies.of h (by repeat(first|exact An|refine A4 ?_|refine Be ?_)),_,hds_one (Ap h Z0) (row_one lnb (by have h9:=Ap (cs:=As [nb]) h Z1;simpa[As]using h9))⟩) ?_;rintro v54 out54 ⟨s54,rfl,hac54⟩;have hn54:s54.n=3:=hac54.num;refine G12 ?_
 try simp only[Lam,Lad,Lab]
 refine G1 ?_;refine .nei J J J J (show(!decide _)=false from congrArg not (decide_eq_true (rfl))) (G2 ?_);refine .nei J J J J (show(!decide _)=false from congrArg not (decide_eq_true (rfl))) (G3 ?_);refine .nei J J J J (show(!decide _)=false from congrArg not (decide_eq_true (rfl))) (G3 ?_);refine .nei J J J J (show(!decide _)=false from congrArg not (decide_eq_true (rfl))) (G3 ?_);refine .nei J J J J (show(!decide _)=false from congrArg not (decide_eq_true (rfl))) (G3 ?_);refine .nei J J J J (show(!decide _)=false from congrArg not (decide_eq_true (rfl))) (G3 ?_);refine .nei J J J J (show(!decide _)=false from congrArg not (decide_eq_true (rfl))) (G3 ?_);refine .nei J J J J (show(!decide _)=false from congrArg not (decide_eq_true (rfl))) (G4 ?_);refine .nei J J J J (show(!decide _)=false from congrArg not (decide_eq_true oM)) (G3 ?_);refine .cond_f J J (G3 ?_);refine .draw (oP [0,1,102,103,4,5,6,7,108,9,10,111,312,13,14,15,16,117,118,119,420,321,22,23]) Ar zK ?_
 try simp only[Lam,Lad,Lab]
 refine G1 ?_;refine .idxSlP 32 J J J hp45 J Y30.h Sz34 0 J oM (.loadSN (n:=32) (Aa na) J J J Y34.h J Sz34 (by rw[Aa,La0];exact lna) (fun w h=>see45 w (Lies.of h (by repeat(first|exact An|refine A4 ?_|refine Be ?_))) 0 sP) ?_);refine .lA J J J Y34.h J Sz34 mR (by(simp[lna];done)) ?_;refine .eql_bytes J J J J eqGuardType34 Y34.h Y5.h Sz5 (by(simp[lna];done)) (by(simp[lna];done)) (decide_eq_true (rfl)) ?_;refine G2 ?_;refine .idxSlP 32 J J J hp45 J Y30.h Sz34 1 J oM (.loadSN (n:=32) (Aa nc) J J J Y34.h J Sz34 (by rw[Aa,La0];exact lnc) (fun w h=>see45 w (Lies.of h (by repeat(first|exact An|refine A4 ?_|refine Be ?_))) 1 sP) ?_);refine G1 ?_;refine .idxSlP 32 J J J hp45 J Y30.h Sz34 2 J oM (.loadSN (n:=32) (Aa nb) J J J Y34.h J Sz34 (by rw[Aa,La0];exact lnb) (fun w h=>see45 w (Lies.of h (by repeat(first|exact An|refine A4 ?_|refine Be ?_))) 2 sP) ?_);refine .cV J J J J Body25 (r15_cmp nc nb lnc lnb) tV (.lss J J J J (decide_eq_true (hcb)) (G3 ?_));refine .lA J J J Y34.h J Sz34 mR (by(simp[lna];done)) ?_;refine .lA J J J Y34.h J Sz34 mR (by(simp[lnb];done)) ?_;refine .lA J J J Y34.h J Sz34 mR (by(simp[lnc];done)) ?_;refine .mkRow (z:=agg (Aa (List.replicate 32 0))) [agg (Aa na),agg (Aa nb),agg (Aa nc)] (As [na,nb,nc]) J J J Y30.h Sz34 Cc J J (by intro v hv;simp only[Lan,Lc6,or_false]at hv;rcases hv with rfl|rfl|rfl<;>simp[Value.cells,Aa,lna,lnb,lnc]) dE (by simp[Value.cells,agg,As]) ?_;intro q113;refine .cV J J J J Body23 (digs_same s54.p (some ⟨q113,0,none⟩) s54.n 3 s54.c 3 [na,nb,nc] (three_32 lna lnb lnc) hn54.symm J oM) (fun w h=>⟨hac54.see (Lies.of h (by repeat(first|exact An|refine A4 ?_))),SeesP.of (Ap h Z0)⟩) ?_;refine G4 ?_;refine G2 ?_;refine Ay (out:=[]) (Af J J) Ae ?_;exact⟨rfl,rfl⟩
end Go.Proofs.YtpogmfngccolbaaGreat
namespace Go.Proofs.YtpogmfngccolbaaGreat
open Go Hw _root_.Go.Proofs.Tryz
variable{W w:World}{b k o p:Nat}{n:List UInt8}
theorem parts_names{X:PD}:∀(cs:List (List (List UInt8))) (bf:List (List UInt8)),∀l∈partsD X bf cs,∀n∈l,n∈X.names
  | [],_,l,hl=>by cases hl
  | c::cs,bf,l,hl=>fun n hn=>by
    rcases Lan.1 hl with rfl|hl
    ·exact(Lbt.1 ((isortD_perm X _).mem_iff.1 hn)).1
    ·exact parts_names cs c l hl n hn
theorem ordL_names{X:PD}{cs:List (List (List UInt8))}:∀n∈Cp X cs,n∈X.names:=fun n hn=>by
  rcases La9.1 hn with h|h
  · obtain⟨l,hl,h2⟩:=Lhc.1 h
    exact parts_names cs [] l hl n h2
  ·exact(Lbt.1 ((isortD_perm X _).mem_iff.1 h)).1
abbrev RE:=RKn×DB
def rkc(l:List RE):List Value:=(l.map fun e=>e.1.cells).flatten
def rp(l:List RE):List (List UInt8×DB):=l.map fun e=>(e.1.fName,e.2)
def rkN(n:List UInt8)(e:RE):Bool:=decide (e.1.fName=n)
theorem rkc_len{l:List RE}(h:∀e∈l,e.1.ok):(rkc l).length=l.length*163:=by
  induction l with
  |nil=>rfl
  | cons a l ih=>
    have h1:rkc (a::l)=a.1.cells++rkc l:=rfl;rw[h1,La2,RKn.length (h a La8),ih fun e he=>h e (Laj _ he),Lax];omega
theorem rkc_app(a b:List RE):rkc (a++b)=rkc a++rkc b:=by simp[rkc]
theorem rkc_one(e:RE):rkc [e]=e.1.cells:=by simp[rkc]
theorem rkc_cell{l:List RE}(h:∀e∈l,e.1.ok):∀u∈rkc l,isCell u=true:=fun u hu=>by
  obtain⟨c,hc,h1⟩:=Lhc.1 hu;obtain⟨e,he,rfl⟩:=La6.1 hc;exact RKn.isCell (h e he) u h1
theorem rk_at{l:List RE}{e:RE}(h:C6 w b o (rkc l))(hok:∀e∈l,e.1.ok)(he:l[k]? =some e):C6 w b (o+k*163) e.1.cells:=fun j v hj=>by
  have hlt:=(Lac.1 hj).1;have h1:=flat_get (m:=163) (fun c hc=>by obtain⟨a,ha,rfl⟩:=La6.1 hc;exact RKn.length (hok a ha)) (show(l.map fun e=>e.1.cells)[k]? =some e.1.cells by rw[Laf,he];rfl) hlt;have h2:=h (k*163+j) v (by unfold rkc;rw[h1];exact hj);rwa[←Lcs]at h2
theorem rk_name{l:List RE}{e:RE}(h:C6 w b o (rkc l))(hok:∀e∈l,e.1.ok)(he:l[k]? =some e):C6 w b (o+k*163) (Aa e.1.fName):=fun j v hj=>by
  have h1:=rk_at h hok he j v (by have h2:=RKn.see_fName (hok e (Lb1 he)) j v hj;rwa[Lb0]at h2);exact h1
theorem rk_blk{l:List RE}{e:RE}(h:C6 w b o (rkc l))(hok:∀e∈l,e.1.ok)(he:l[k]? =some e):C6 w b (o+k*163+32) e.1.fBlock.cells:=fun j v hj=>by
  have h1:=rk_at h hok he (32+j) v (RKn.see_fBlock (hok e (Lb1 he)) j v hj);rwa[←Lcs]at h1
theorem rk_wr{l:List RE}{e:RE}(h:C6 w b o (rkc l))(hok:∀e∈l,e.1.ok)(he:l[k]? =some e):C6 w b (o+k*163+32) (Aa e.1.fBlock.fWriter):=fun j v hj=>by
  have h1:=rk_blk h hok he j v (by have h2:=Block.see_fWriter (hok e (Lb1 he)).o_fBlock j v hj;rwa[Lb0]at h2);exact h1
theorem rk_seq{l:List RE}{e:RE}(h:C6 w b o (rkc l))(hok:∀e∈l,e.1.ok)(he:l[k]? =some e):w.cell? ⟨b,o+k*163+32+32,none⟩=some (u64 e.1.fBlock.fSeq):=
  rk_blk h hok he 32 _ (Block.get_fSeq (hok e (Lb1 he)).o_fBlock)
theorem rp_any(l:List RE)(n:List UInt8):l.any (rkN n)=(Am (rp l) n).isSome:=by
  unfold Am rp;rw[Lfk,List.find?_map,Lfk,Ldq,Lbw,List.find?_isSome];exact Iff.rfl
theorem rd_found(l:List RE)(n:List UInt8):(fstBad (rkN n) l= -1∧Am (rp l) n=none)∨∃(k:Nat) (e:RE),fstBad (rkN n) l=(k:Int)∧l[k]? =some e∧e.1.fName=n∧Am (rp l) n=some e.2:=by
  cases ha:l.any (rkN n)with
  | false=>
    refine .inl ⟨if_neg (by rw[ha];decide),?_⟩;have h1:=rp_any l n;rw[ha]at h1;exact Lfq.1 (by rw[←Option.not_isSome,←h1];rfl)
  | true=>
    have hlt:l.findIdx (rkN n)<l.length:=Leq (Lbw.1 ha);have hp:rkN n l[l.findIdx (rkN n)]=true:=Lgl;refine .inr ⟨l.findIdx (rkN n),l[l.findIdx (rkN n)],if_pos ha,La3 hlt,of_decide_eq_true hp,?_⟩;unfold Am rp;rw[List.find?_map,show List.find? ((fun p:List UInt8×DB=>decide (p.1=n))∘fun e:RE=>(e.1.fName,e.2)) l=some l[l.findIdx (rkN n)]from Ldb.2 ⟨hp,_,hlt,rfl,fun j hj=>by
      have h2:rkN n l[j]=false:=Lf7 hj;rw[show((fun p:List UInt8×DB=>decide (p.1=n))∘fun e:RE=>(e.1.fName,e.2)) l[j]=rkN n l[j]from rfl,h2];rfl⟩]
    rfl
theorem rd_hit{l:List RE}(h:0≤fstBad (rkN n) l):∃(k:Nat) (e:RE),fstBad (rkN n) l=(k:Int)∧l[k]? =some e∧e.1.fName=n∧Am (rp l) n=some e.2:=by
  rcases rd_found l n with ⟨h1,_⟩|h1
  ·omega
  ·exact h1
theorem rd_no{l:List RE}(h:¬0≤fstBad (rkN n) l):Am (rp l) n=none:=by
  rcases rd_found l n with ⟨_,h1⟩|⟨k,e,h1,_⟩
  ·exact h1
  ·omega
structure RD where
  sL:Sl
  bL:List Blk
  L:List RE
  sO:Sl
  bO:List Blk
  O:List RE
  cb:List Blk
def RD.blks(x:RD)(p:Nat):List Blk:=⟨p,[x.sL.v,x.sO.v],109,2⟩::(x.bL++(x.bO++x.cb))
structure RD.ok(x:RD):Prop where
  accL:Hw.Acc x.sL x.bL (rkc x.L) 111 x.L.length 163
  accO:Hw.Acc x.sO x.bO (rkc x.O) 111 x.O.length 163
  entL:∀e∈x.L,e.1.ok∧Held x.cb e.1.fBlock e.2∧e.2.ls.length≤16
  entO:∀e∈x.O,e.1.ok∧Held x.cb e.1.fBlock e.2∧e.2.ls.length≤16
  big:x.L.length+x.O.length≤20000
  few:x.O.length≤64
def RD.P(x:RD):List (List UInt8×DB):=rp x.L
def RD.Q(x:RD):List (List UInt8×DB):=rp x.O
theorem rd_L{x:RD}(h:Lies (x.blks p) W):W.cell? ⟨p,0,none⟩=some x.sL.v:=(h _ La8).cell (o:=0) rfl
theorem rd_seeL{x:RD}(hx:x.ok)(h:Lies (x.blks p) W):SeesP W x.sL.p (rkc x.L):=hx.accL.see fun b hb=>h b (Laj _ (Lak _ hb))
theorem rd_cb{x:RD}(h:Lies (x.blks p) W):Lies x.cb W:=fun b hb=>h b (Laj _ (Lav _ (Lav _ hb)))
theorem RD.ok.okL{x:RD}(h:x.ok):∀e∈x.L,e.1.ok:=fun e he=>(h.entL e he).1
theorem RD.ok.okO{x:RD}(h:x.ok):∀e∈x.O,e.1.ok:=fun e he=>(h.entO e he).1
theorem rd_open{s:Sl}{l:List RE}(h:SeesP W s.p (rkc l))(hok:∀e∈l,e.1.ok)(hk:k<l.length):∃b o,s.p=some ⟨b,o,none⟩∧C6 W b o (rkc l):=h.at (by rw[rkc_len hok];omega)
theorem u64_dec(a b:UInt64):decide ((a.toNat:Int)=(b.toNat:Int))=decide (a=b):=by
  by_cases h:a=b
  ·rw[h];simp
  ·rw[decide_eq_false h,decide_eq_false (fun e=>h (Lbl.1 oM))]
theorem r15_parA(B:Block)(D:DB)(hn:D.ls.length≤500000):Meets prog 27 [agg B.cells] [] (fun W=>BlockIs W B D) (RowA (Bi D)):=fun W hW=>by
  have e1:=hW.ls.len;have hsq:=hW.seq;have hL:=parL_row hW.dok;by_cases hs:(B.fSeq.toNat:Int)=0
  · have hp:Bi D=D.ls:=if_pos (by rw[←hsq];exact Lbl.1 (by show B.fSeq.toNat=0;omega))
    rw[hp]at hL ⊢;by_cases h0:B.fLinks.n=0
    · have hl0:D.ls=[]:=Lag oM
      exact(r15_parents_nil B hW.ok D.ls oM hs h0 W hW.ls).mono fun e W' ⟨v,out,h1,⟨h2,h3⟩,h4⟩=>⟨v,out,h1,⟨Sl.nil,h2,by rw[hl0,h3];exact Acc.none⟩,h4⟩
    ·exact(r15_parents_0 B hW.ok D.ls oM hs oM W hW.ls).mono fun e W' ⟨v,out,h1,h2,h4⟩=>⟨v,out,h1,fresh_rowA hL e1 h2,h4⟩
  · have hp:Bi D=D.prev::D.ls:=if_neg (fun e=>hs (by rw[hsq,e];rfl))
    rw[hp]at hL ⊢;rw[←hW.prev]at hL ⊢;exact(r15_parents_s B hW.ok D.ls oM hs W hW.ls).mono fun e W' ⟨v,out,h1,h2,h4⟩=>⟨v,out,h1,fresh_rowA hL (by rw[Lax];omega) h2,h4⟩
theorem rd_new  :Meets prog 40 [] [] (fun _=>True) (fun v out=>∃p,v=ptr p 0∧out=(⟨Sl.nil,[],[],Sl.nil,[],[],[]⟩:RD).blks p):=by
 intro W hW;refine Ad func40 J 3 ntmps40 J (G7 ?_);refine .build (cs:=[.slice none 0 0, .slice none 0 0]) J J J (fun w=>by kernel_rfl) ?_;refine G1 ?_;intro n2 hn2 hf2;refine G3 ?_;refine G2 ?_;refine Ay (out:=(⟨n2,[.slice none 0 0, .slice none 0 0],109,2⟩::[])) (Af J J) (Ab rM Ae) ?_;exact⟨n2,rfl,rfl⟩
theorem rd_find(s:Sl)(l:List RE)(hl:l.length=s.n)(hok:∀e∈l,e.1.ok)(hb:s.n≤100000)(n:List UInt8)(h32:n.length=32):Mv 84 [s.v,agg (Aa n)] (fun W=>SeesP W s.p (rkc l)) (i64 (fstBad (rkN n) l)):=by
 intro W hW;have h32k:True:=trivial;refine Ad func84 J 20 ntmps84 J (.sr (.boxA J J ?_));intro n3 hn3 hf3;refine .a J J J (.na (.seq (.sr (.a J J J (.na (.block (.loop (ι:=Nat) (fun k=>⟨[(0,s.v),(3,ptr n3 0),(5,i64 (k:Int))],[⟨n3,Aa n,34,(Aa n).length⟩]⟩) (fun k=>k≤s.n∧∀j,j<k→(l.map (rkN n))[j]? =some false) (fun k=>s.n-k) (0) ?_ ?_ ?_)))))))
 ·exact⟨by omega,fun j hj=>by omega⟩
 ·exact Ag wN (wh1 Z0 wh0) nD
 rintro k ⟨hk,hg⟩;refine .seq (.sr (.m J J J (.m J J J (.lenSl J J J C7 (.lss J J J J J (.na (.condP J (fun hc0=>?_) (fun hc0=>?_))))))))
 ·
  have hk2:k<l.length:=by omega
  obtain⟨b,o,hbp,hbs⟩:=rd_open hW hok hk2;obtain⟨e,hd⟩:∃e,l[k]? =some e:=⟨_,La3 hk2⟩;have h32k:e.1.fName.length=32:=(hok e (Lb1 hd)).l_fName;refine .skip (Bm (.seq (.block (.seq (.draw (oP [0,1,2,3,104,105,6]) Ar zK (.m J J J (.m J J J (.idxSlP 163 J J J hbp J C7 Sz111 k (by rfl) oM ?_))))))));refine .fld J J J underlying111 J Sz34 dE _ J (.loadEN (Aa e.1.fName) J J J Y34.h J Sz34 sP (by rw[Aa,La0];exact h32k) (rk_name hbs hok hd) ?_);refine .lA J J J Y34.h J Sz34 Z0 (by(simp[h32];done)) ?_;refine .eql_bytes J J J J eqGuardType34 Y34.h Y5.h Sz5 (by(simp[h32k];done)) (by(simp[h32];done)) J ?_;refine .na (.condP J (fun hc1=>?_) (fun hc1=>?_))
  ·
   refine .sr (.m J J J (.a J J J (.na ?_)));refine .ret (bl_r (at_r (at_r (bl_r (at_r (C2 ?_))))));refine⟨_,[],Af J J,sP,sP,?_,rfl⟩;exact congrArg i64 (fstBad_at hg (by rw[Laf,hd];simpa[rkN]using hc1)).symm
  refine .skip (bl_n (Bm (.region (.m J J J (.aI J J J J oM (.a J J J (.na ?_)))))));exact⟨k+1,⟨by omega,fun j hj=>by rcases Lbz.1 hj with h|rfl;exact hg j h;rw[Laf,hd];simpa[rkN]using hc1⟩,by omega,Ag wN (wh1 Z0 wh0) nD⟩
 obtain rfl:k=s.n:=by omega
 refine .exit (at_x (at_x (bl_h (Bm (.sr (.a J J J (.na ?_)))))));refine .ret (C2 ?_);refine⟨_,[],Af J J,sP,sP,?_,rfl⟩;exact congrArg i64 (fstBad_none (by intro j hj;exact hg j (by rw[hl]at hj;exact hj))).symm
theorem rd_has(x:RD)(hx:x.ok)(p:Nat)(n:List UInt8)(h32:n.length=32):Mv 104 [ptr p 0,agg (Aa n)] (fun W=>Lies (x.blks p) W) (.bool (Am x.P n).isSome):=by
 intro W hW;have hbig:=hx.big;have hnL:=hx.accL.num;have hnO:=hx.accO.num;have hcL:=rd_L hW;have hsL:=rd_seeL hx hW;refine Ad func104 J 12 ntmps104 J (.sr (.boxA J J ?_));intro n3 hn3 hf3;refine .a J J J (.na (.seq (.draw (oP [0,1,2,103,104,305,6,7]) Ar zK (.m J J J (.nC J J J (.fld J J J Y109 J Sz107 dE _ J (.loadE J J J C7 J sP (hcL) (.lA J J J Y34.h J Sz34 Z0 (by(simp[h32];done)) ?_))))))));refine .cV J J J J Body84 (rd_find x.sL x.L hnL.symm hx.okL oM n h32) (fun w h=>A7 h J hsL) (.geq J J J J J (.a J J J (.na ?_)));refine .ret (C2 ?_);refine⟨_,[],Af J J,sP,sP,?_,rfl⟩;exact congrArg Value.bool ((fstBad_ge _ _).trans (rp_any _ _))
theorem rd_wrong(x:RD)(hx:x.ok)(p:Nat)(B:Block)(D:DB)(hB:SameB B D):Mv 106 [ptr p 0,agg B.cells] (fun W=>Lies (x.blks p) W) (.bool (wrongB x.P D)):=by
  intro W hW;have hbig:=hx.big;have hnL:=hx.accL.num;have hnO:=hx.accO.num;have hcL:=rd_L hW;have hsL:=rd_seeL hx hW;refine Ad func106 J 49 ntmps106 J (.sr (.boxA J J ?_));intro n3 hn3 hf3;refine .a J J J (.na (.seq (.draw (oP [0,1,2,103,4,105,306,7]) Ar zK (.m J J J (.nC J J J (.fld J J J Y109 J Sz107 dE _ J (.loadE J J J C7 J sP (hcL) (.fld J J J Y50.h J Sz34 dE _ J (.lN (Aa _) J J J Y34.h J Sz34 Z0 (Block.row_fPrev (by exact hB.ok)) (Block.rl_fPrev (by exact hB.ok)) ?_)))))))));refine .cV J J J J Body84 (rd_find x.sL x.L hnL.symm hx.okL oM B.fPrev hB.ok.l_fPrev) (fun w h=>A7 h J hsL) (.a J J J (.na (.seq (.draw (oP [0,101,2,3,4,5,6,7,8,9,10,111,12,13,14,15,116,17,118,19,20,21,22,23,124,25,26,27,28,129,30,131,32,33,34,35,36]) Ar zK (.fld J J J Y50.h J Sz45 dE _ J (.load1 J J J Y45.h J Z0 (by exact Block.get_fSeq (by exact hB.ok)) ?_))))));refine two (fun r hr k=>Tr.gtr J J J J hr k) (fun hs2_20=>?_) (fun hs2_20=>?_)
  ·
    have hs2_2:=of_decide_eq_true hs2_20;refine .m J J J (.m J J J (two (fun r hr k=>Tr.geq J J J J hr k) (fun hs2_50=>?_) (fun hs2_50=>?_)))
    ·
      have hs2_5:=of_decide_eq_true hs2_50;obtain⟨k,e,hf,hk,hn,hm⟩:=rd_hit hs2_5;rw[hB.prev]at hm;have hek:=hx.entL e (Lb1 hk);have hel:=hek.1.o_fBlock.l_fWriter;have hkl:=(Lac.1 hk).1;obtain⟨b,o,hbp,hbs⟩:=rd_open hsL hx.okL hkl;refine .pick J J J J J J (.m J J J (.m J J J (.nC J J J (.fld J J J Y109 J Sz107 dE _ J (.loadE J J J C7 J sP (hcL) (.m J J J (.idxSlP 163 J J J hbp J C7 Sz111 k oM oM (.fld J J J underlying111 J Sz50 dE _ J (.fld J J J Y50.h J Sz44 dE _ J (.loadEN (Aa e.1.fBlock.fWriter) J J J Y44.h J Sz44 sP (by rw[Aa,La0];exact hel) (rk_wr hbs hx.okL hk) ?_))))))))));refine .fld J J J Y50.h J Sz44 dE _ J (.lN (Aa _) J J J Y44.h J Sz44 Z0 (Block.row_fWriter (by exact hB.ok)) (Block.rl_fWriter (by exact hB.ok)) ?_);refine two (fun r hr k=>Tr.neq_bytes J J J J eqGuardType44 Y44.h Y5.h Sz5 zA (by(simp[hB.ok.l_fWriter];done)) hr k) (fun hs2_190=>?_) (fun hs2_190=>?_)
      ·
        have hs2_19:=nd_t hs2_190;refine .m J J J (.skp J J (.skp J J (.skp J J (.skp J J (.skp J J (.skp J J (.skp J J (.skp J J (.skp J J (.skp J J (.skp J J (.skp J J (.skp J J (.pick J J J J J J (.pick J J J J J J (.a J J J (.na ?_)))))))))))))))));refine .ret (C2 ?_);refine⟨_,[],Af J J,sP,sP,?_,rfl⟩;rw[show x.P=rp x.L from rfl];first
          |(simp[wrong_none hm];done)
          |(simp[wrong_seq (show D.seq=0 by rw[←hB.seq];exact u64_eq (b:=0) (by have h9:((0:UInt64).toNat:Int)=0:=rfl;omega))];done)
          | (have hsq:D.seq≠0:=fun h=>by rw[hB.seq,h]at hs2_2;simp at hs2_2
             rw[wrong_some hsq hm,←hek.2.1.1.w,←hek.2.1.1.seq,←hB.w,←hB.seq];simp[hs2_19])
      have hs2_19:=nd_f hs2_190;refine .m J J J (.m J J J (.nC J J J (.fld J J J Y109 J Sz107 dE _ J (.loadE J J J C7 J sP (hcL) (.m J J J (.idxSlP 163 J J J hbp J C7 Sz111 k oM oM (.fld J J J underlying111 J Sz50 dE _ J (.fld J J J Y50.h J Sz45 dE _ J (.loadE J J J Y45.h J sP (rk_seq hbs hx.okL hk) (.fld J J J Y50.h J Sz45 dE _ J (.load1 J J J Y45.h J Z0 (by exact Block.get_fSeq (by exact hB.ok)) ?_)))))))))));refine .sub_u64 J J J (show Ai _ _=some (u64 1)from rfl) (.nei J J J J J (.pick J J J J J J (.pick J J J J J J (.a J J J (.na ?_)))));refine .ret (C2 ?_);refine⟨_,[],Af J J,sP,sP,?_,rfl⟩;rw[show x.P=rp x.L from rfl];first
        |(simp[wrong_none hm];done)
        |(simp[wrong_seq (show D.seq=0 by rw[←hB.seq];exact u64_eq (b:=0) (by have h9:((0:UInt64).toNat:Int)=0:=rfl;omega))];done)
        | (have hsq:D.seq≠0:=fun h=>by rw[hB.seq,h]at hs2_2;simp at hs2_2
           rw[wrong_some hsq hm,←hek.2.1.1.w,←hek.2.1.1.seq,←hB.w,←hB.seq];simp[hs2_19,u64_dec])
    have hs2_5:=of_decide_eq_false hs2_50;have hm:=rd_no hs2_5;rw[hB.prev]at hm;refine .pick J J J J J J (.m J J J (.skp J J (.skp J J (.skp J J (.skp J J (.skp J J (.skp J J (.skp J J (.skp J J (.skp J J (.skp J J (.skp J J (.skp J J (.skp J J (.skp J J (.skp J J (.skp J J (.skp J J (.skp J J (.skp J J (.skp J J (.skp J J (.skp J J (.skp J J (.skp J J (.skp J J (.skp J J (.skp J J (.pick J J J J J J (.a J J J (.na ?_)))))))))))))))))))))))))))))));refine .ret (C2 ?_);refine⟨_,[],Af J J,sP,sP,?_,rfl⟩;rw[show x.P=rp x.L from rfl];first
      |(simp[wrong_none hm];done)
      |(simp[wrong_seq (show D.seq=0 by rw[←hB.seq];exact u64_eq (b:=0) (by have h9:((0:UInt64).toNat:Int)=0:=rfl;omega))];done)
      | (have hsq:D.seq≠0:=fun h=>by rw[hB.seq,h]at hs2_2;simp at hs2_2
         rw[wrong_some hsq hm,←hek.2.1.1.w,←hek.2.1.1.seq,←hB.w,←hB.seq];simp[hs2_19,u64_dec])
  have hs2_2:=of_decide_eq_false hs2_20;refine .m J J J (.skp J J (.skp J J (.pick J J J J J J (.m J J J (.skp J J (.skp J J (.skp J J (.skp J J (.skp J J (.skp J J (.skp J J (.skp J J (.skp J J (.skp J J (.skp J J (.skp J J (.skp J J (.skp J J (.skp J J (.skp J J (.skp J J (.skp J J (.skp J J (.skp J J (.skp J J (.skp J J (.skp J J (.skp J J (.skp J J (.skp J J (.skp J J (.pick J J J J J J (.a J J J (.na ?_))))))))))))))))))))))))))))))))));refine .ret (C2 ?_);refine⟨_,[],Af J J,sP,sP,?_,rfl⟩;rw[show x.P=rp x.L from rfl];first
    |(simp[wrong_none hm];done)
    |(simp[wrong_seq (show D.seq=0 by rw[←hB.seq];exact u64_eq (b:=0) (by have h9:((0:UInt64).toNat:Int)=0:=rfl;omega))];done)
    | (have hsq:D.seq≠0:=fun h=>by rw[hB.seq,h]at hs2_2;simp at hs2_2
       rw[wrong_some hsq hm,←hek.2.1.1.w,←hek.2.1.1.seq,←hB.w,←hB.seq];simp[hs2_19,u64_dec])
theorem rd_ready(x:RD)(hx:x.ok)(p:Nat)(B:Block)(D:DB)(hB:SameB B D)(hs:D.ls.length≤16):Mv 107 [ptr p 0,agg B.cells] (fun W=>Lies (x.blks p) W∧BlockIs W B D) (.bool (readyB x.P D)):=by
 intro W hW;have hbig:=hx.big;have hnL:=hx.accL.num;have hnO:=hx.accO.num;have hcL:=rd_L hW.1;have hsL:=rd_seeL hx hW.1;have h32k:True:=trivial;have hprow:=parL_row hW.2.dok;have hpl:=parL_len D;refine Ad func107 J 22 ntmps107 J (G3 ?_);intro n3 hn3 hf3;refine G5 ?_;refine .lA J J J Y50.h J Sz50 Z0 (Block.length (by exact hB.ok)) ?_;refine .call4 J J J J J Body27 (r15_parA B D oM) (fun w h=>hW.2.ext h J) ?_;rintro v8 out8 ⟨s8,rfl,hac8⟩;have hn8:=hac8.num;refine G10 ?_;refine .loop (ι:=Nat) (fun k=>⟨[(0,ptr p 0),(5,s8.v),(6,i64 (k:Int))],(out8++[])⟩) (fun k=>k≤s8.n∧∀j,j<k→(Am x.P ((Bi D).getD j [])).isSome=true) (fun k=>s8.n-k) (0) ?_ ?_ ?_
 ·exact⟨Laq _,fun j hj=>absurd hj (Ldo _)⟩
 ·exact Ah wN (Ac sG Ae)
 rintro k ⟨hk,hg⟩;refine G9 ?_;refine .condP J (fun hc0=>?_) (fun hc0=>?_)
 ·
  have hk2:k<(Bi D).length:=by omega
  have h32k:((Bi D).getD k []).length=32:=hprow _ (getD_mem2 hk2);refine G9 ?_;obtain⟨b8,o8,hp8,see8⟩:=par_open hac8 oM hprow;refine .idxSlP 32 J J J hp8 J Y30.h Sz34 k J oM (.loadSN (n:=32) (Aa ((Bi D).getD k [])) J J J Y34.h J Sz34 (by rw[Aa,La0];exact h32k) (fun w h=>see8 w (Lies.of h (by repeat(exact An))) k oM) ?_);refine .cV J J J J Body104 (rd_has x hx p ((Bi D).getD k []) h32k) (fun w h=>Ce hW.1 h) (G3 ?_);refine .cond J (fun hc1=>?_) (fun hc1=>?_)
  ·
   refine G5 ?_;refine G7 ?_;refine Ay (out:=[]) (Af J J) Ae ?_;refine⟨congrArg Value.bool (Eq.symm ?_),rfl⟩;unfold readyB;exact Lh1.2 ⟨_,getD_mem2 (show k<(Bi D).length by omega),by simpa using hc1⟩
  refine G9 ?_;exact⟨k+1,⟨by omega,fun j hj=>by rcases Lbz.1 hj with h|rfl;exact hg j h;simpa using hc1⟩,by omega,Ah wN (Ac sG Ae)⟩
 obtain rfl:k=s8.n:=by omega
 refine G10 ?_;refine G2 ?_;refine Ay (out:=[]) (Af J J) Ae ?_;refine⟨congrArg Value.bool (Eq.symm ?_),rfl⟩;unfold readyB;refine Lbn.2 fun n hn=>?_;obtain⟨j,hj,rfl⟩:=Lb7 hn;have h9:=hg j oM;rwa[La4,La3 hj]at h9
end Go.Proofs.YtpogmfngccolbaaGreat
end
