/- Contracts of functions of the loaded program, and the lemmas that they need (part 6). It proves no statement by itself; it has no conditions. -/
import Derived.WalkKit
import Derived.Orders
import Derived.Deep.LoopGhost
import Derived.IntWalk
import Derived.Laws.StructEq
import Derived.Test.YtgjnomgkddbhcaaGreatRows
import Derived.KernelRfl
import Derived.ArgAppend
import Derived.Deep.AppendSrc
import Derived.Lib.Bytealg
import Derived.Lib.BytesEntry
import Derived.Laws.IdiomStrings
import Derived.WideKeyArr2
import Derived.ProofKit
import Derived.OpenShut
import Derived.Deep.Slices
import Derived.Laws.Pointers
import Derived.Laws.Cover3
import Derived.LaidEqlPtr
import Derived.LoopN
import Derived.RangeFuncLeaves
import Derived.RangeFuncSeq
import Derived.OrdersIn
import Derived.Maps.Keyed
import Derived.Maps.RangeRun
import Derived.DeepKeys4
import Derived.Below
import Derived.Laws.Externs
import Derived.Defers
import Derived.Laws.MathBits
import Derived.Shelf.SlSortCmp.WholeK
import Derived.Shelf.SlGeneric
import Derived.Test.YtgjnomgkddbhcaaGreatProg
import Derived.Shelf.SlSortCmp.NoneTotal
import Derived.Deep.QuietTactic
import Derived.BigQuiet
import Derived.ScopeJumps
import Derived.DeepKeys3
import Derived.ChangeOld
import Derived.JoinedOf
import Derived.Test.YtgjnomgkddbhcaaGreatWMtX5
set_option maxRecDepth 100000
set_option maxHeartbeats 8000000
set_option linter.unusedVariables false
set_option linter.unusedSimpArgs false
set_option linter.unusedSectionVars false
set_option linter.unnecessarySimpa false
section
namespace Go.Proofs.YtgjnomgkddbhcaaGreat
open Go Hw _root_.Go.Proofs.Tryz
noncomputable def PD.add(X:PD)(D:DB):PD×List (List UInt8)×Int:=
  if dgood D=0 then
    (if((Aj X.orp (Az D)).isSome||(Aj X.P (Az D)).isSome)=true then(X,[],8)
     else if Bi X.P D=2 then(X,[],4)
     else if Bi X.P D=0 then(if 64≤X.orp.length then(X,[],7)else({ X with orp:=Bh X.orp (Az D) D },[],0))
     else((PD.settle (X.adm (Az D) D).orp.length (X.adm (Az D) D)).1,Az D::(PD.settle (X.adm (Az D) D).orp.length (X.adm (Az D) D)).2,0))
  else(X,[],dgood D)
variable{B:Block}{D:DB}{L:List (List UInt8)}{X:PD}{al o:List Blk}{k p:Nat}{kk:List UInt8}{ms ms2:List (List UInt8×Unit)}{w:World}{x:DD}
theorem add_bad(h:¬dgood D=0):X.add D=(X,[],dgood D):=if_neg h
theorem add_there(h:dgood D=0)(h2:((Aj X.orp (Az D)).isSome||(Aj X.P (Az D)).isSome)=true):X.add D=(X,[],8):=by unfold PD.add;rw[if_pos h,if_pos h2]
theorem add_wrong(h:dgood D=0)(h2:((Aj X.orp (Az D)).isSome||(Aj X.P (Az D)).isSome)=false)(h3:Bi X.P D=2):X.add D=(X,[],4):=by unfold PD.add;rw[if_pos h,if_neg (by rw[h2];decide),if_pos h3]
theorem add_full(h:dgood D=0)(h2:((Aj X.orp (Az D)).isSome||(Aj X.P (Az D)).isSome)=false)(h3:Bi X.P D=0)(h4:64≤X.orp.length):X.add D=(X,[],7):=by unfold PD.add;rw[if_pos h,if_neg (by rw[h2];decide),if_neg oM,if_pos h3,if_pos h4]
theorem add_keep(h:dgood D=0)(h2:((Aj X.orp (Az D)).isSome||(Aj X.P (Az D)).isSome)=false)(h3:Bi X.P D=0)(h4:¬64≤X.orp.length):X.add D=({ X with orp:=Bh X.orp (Az D) D },[],0):=by unfold PD.add;rw[if_pos h,if_neg (by rw[h2];decide),if_neg oM,if_pos h3,if_neg h4]
theorem add_fits(h:dgood D=0)(h2:((Aj X.orp (Az D)).isSome||(Aj X.P (Az D)).isSome)=false)(h3:Bi X.P D=1):
    X.add D=((PD.settle (X.adm (Az D) D).orp.length (X.adm (Az D) D)).1,Az D::(PD.settle (X.adm (Az D) D).orp.length (X.adm (Az D) D)).2,0):=by unfold PD.add;rw[if_pos h,if_neg (by rw[h2];decide),if_neg oM,if_neg oM]
theorem good_check(h:dgood D=0):D.check=0:=by
  unfold dgood at h;split at h
  ·assumption
  ·exact h
def DD.hold(x:DD)(o:List Blk):DD:={ x with cb:=x.cb++o }
theorem DD.ok.hold(h:x.ok)(o:List Blk):(x.hold o).ok:={ h with
  ent:=fun p hp=>⟨(h.ent p hp).1,(h.ent p hp).2.1.more fun b hb=>Lao _ hb,(h.ent p hp).2.2⟩
  orp:=fun p hp=>⟨(h.orp p hp).1,(h.orp p hp).2.1.more fun b hb=>Lao _ hb,(h.orp p hp).2.2⟩ }
def DD.wait(x:DD)(n:List UInt8)(B:Block)(D:DB)(o:List Blk):DD:={ x with orp:=Bh x.orp n (B,D),cb:=x.cb++o }
theorem DD.ok.wait(h:x.ok){n:List UInt8}(h32:n.length=32)(hB:SameB B D)(hi:∀W2,Lies o W2→BlockIs W2 B D)(hl:D.ls.length≤16)(hroom:x.names.length+x.orp.length<20000)(hfew:¬64≤x.orp.length):(x.wait n B D o).ok:={ h with
  orpn:=by
    have:=mput_len x.orp n (B,D);show(Bh x.orp n (B,D)).length≤64;omega
  big:=by
    have:=mput_len x.orp n (B,D);show x.names.length+(Bh x.orp n (B,D)).length≤20000;omega
  ent:=fun p hp=>⟨(h.ent p hp).1,(h.ent p hp).2.1.more fun b hb=>Lao _ hb,(h.ent p hp).2.2⟩
  orp:=fun p hp=>by
    rcases mput_mem hp with hp|rfl
    ·exact⟨(h.orp p hp).1,(h.orp p hp).2.1.more fun b hb=>Lao _ hb,(h.orp p hp).2.2⟩
    ·exact⟨h32,⟨hB,fun W hW=>hi W (hW.sub fun b hb=>Lau _ hb)⟩,hl⟩ }
theorem wait_pl(x:DD)(n:List UInt8)(B:Block)(D:DB)(o:List Blk):(x.wait n B D o).pl= { x.pl with orp:=Bh x.pl.orp n D }:=by
  unfold DD.pl DD.wait;simp only;rw[mput_map (fun b:BV=>b.2)];rfl
def AddR(x:DD)(p:Nat)(D:DB)(al:List Blk)(v:Value)(out:List Blk):Prop:=∃(x':DD) (s:Sl) (bl:List Blk),v= .tuple #[s.v,i64 (x.pl.add D).2.2]∧out=x'.blks p++(bl++al)∧x'.ok∧Hw.Acc s bl (Av (x.pl.add D).2.1) 31 (x.pl.add D).2.1.length 32∧(∀n∈(x.pl.add D).2.1,n.length=32)∧x'.pl=(x.pl.add D).1∧x'.names.length+x'.orp.length≤x.names.length+x.orp.length+1
def SetF(x0:DD)(p:Nat)(s:Sl)(out:List Blk):Prop:=∃(x:DD) (bl:List Blk),out=x.blks p++bl∧x.ok∧Hw.Acc s bl (Av (PD.settle x0.orp.length x0.pl).2) 31 (PD.settle x0.orp.length x0.pl).2.length 32∧x.names.length+x.orp.length≤x0.names.length+x0.orp.length∧x.pl=(PD.settle x0.orp.length x0.pl).1
def SetL(x0:DD)(p:Nat)(v:Value)(out:List Blk):Prop:=∃s:Sl,v=s.v∧s.n=(PD.settle x0.orp.length x0.pl).2.length∧(s.p=none→s.n=0)∧(PD.settle x0.orp.length x0.pl).2.length≤20000∧(∀n∈(PD.settle x0.orp.length x0.pl).2,n.length=32)∧∀W2,Lies out W2→SetF x0 p s out
theorem settle_len:∀(f:Nat) (X:PD),(PD.settle f X).2.length≤f
  |0,X=>Lad _
  | f +1,X=>by
    unfold PD.settle;cases X.first with
    |none=>exact Lan _
    | some n=>
      simp only;split
      ·simpa using settle_len f _
      ·exact Nat.le_succ_of_le (settle_len f _)
theorem settle_32:∀(f:Nat) (X:PD),(∀p∈X.orp,p.1.length=32)→∀n∈(PD.settle f X).2,n.length=32
  |0,X,_,n,h=>by cases h
  | f + 1,X,hX,n,h=>by
    unfold PD.settle at h;cases hf:X.first with
    |none=>rw[hf]at h;cases h
    | some m=>
      have hd:∀p∈(X.drop1 m).orp,p.1.length=32:=fun p hp=>hX p (mdel_mem hp);rw[hf]at h;simp only at h;split at h
      · rcases Laj.1 h with rfl|h
        · have:=Lfr hf
          obtain⟨q,hq,e⟩:=La6.1 ((Br _).mem_iff.1 this);rw[←e];exact hX q hq
        ·exact settle_32 f _ (by exact hd) n h
      ·exact settle_32 f _ hd n h
theorem there_eq(x:DD)(n:List UInt8):((Aj x.pl.orp n).isSome||(Aj x.pl.P n).isSome)=((Aj x.orp n).isSome||(Aj x.ent n).isSome):=by
  rw[x.getO,show x.pl.P=x.P from rfl,x.getP,Lea,Lea]
theorem addR_err{e:Int}(hx:x.ok)(h:x.pl.add D=(x.pl,[],e)):AddR x p D al (.tuple #[.slice none 0 0,i64 e]) (x.blks p++al):=by
  unfold AddR;rw[h];exact⟨x,Sl.nil,[],rfl,rfl,hx,Acc.none,(fun n (h:n∈([]:List (List UInt8)))=>(by cases h)),rfl,Nat.le_succ _⟩
theorem addR_keep(hx:x.ok)(hB:SameB B D)(hi:∀W2,Lies o W2→BlockIs W2 B D)(hl:D.ls.length≤16)(hroom:x.names.length+x.orp.length<20000)(hfew:¬64≤x.orp.length)
    (h:x.pl.add D=({ x.pl with orp:=Bh x.pl.orp (Az D) D },[],0)):AddR x p D al (.tuple #[.slice none 0 0,i64 0]) ((x.wait (Az D) B D o).blks p++al):=by
  unfold AddR;rw[h];refine⟨x.wait (Az D) B D o,Sl.nil,[],rfl,rfl,hx.wait (nameD_length D) hB hi hl hroom hfew,Acc.none,(fun n (h:n∈([]:List (List UInt8)))=>(by cases h)),wait_pl ..,?_⟩;have:=mput_len x.orp (Az D) (B,D);show x.names.length+(Bh x.orp (Az D) (B,D)).length≤_;omega
theorem addR_fits{x x2 x3:DD}{al bl3 bl:List Blk}{s:Sl}(hplx:x2.pl=x.pl.adm (Az D) D)(hol:x2.names.length+x2.orp.length=x.names.length+x.orp.length+1)(hx2:x2.ok)(hx3:x3.ok)(hn3:x3.names.length+x3.orp.length≤x2.names.length+x2.orp.length)(hpl3:x3.pl=(PD.settle x2.orp.length x2.pl).1)
    (h32:∀n∈(PD.settle x2.orp.length x2.pl).2,n.length=32) (hac:Hw.Acc s bl (Aa (Az D)++Av (PD.settle x2.orp.length x2.pl).2) 31 (1+(PD.settle x2.orp.length x2.pl).2.length) 32)
    (h:x.pl.add D=((PD.settle (x.pl.adm (Az D) D).orp.length (x.pl.adm (Az D) D)).1,Az D::(PD.settle (x.pl.adm (Az D) D).orp.length (x.pl.adm (Az D) D)).2,0)):AddR x p D al (.tuple #[s.v,i64 0]) (x3.blks p++(bl++al)):=by
  have e:(x.pl.adm (Az D) D).orp.length=x2.orp.length:=by rw[←hplx];show(x2.orp.map _).length=_;rw[La0]
  rw[e,←hplx]at h;unfold AddR;rw[h];refine⟨x3,s,bl,rfl,rfl,hx3,?_,?_,hpl3,by omega⟩
  · show Hw.Acc s bl (Av (Az D::_)) 31 (Az D::_).length 32
    rw[Lay,Le7];have e2:∀l:List (List UInt8),Av (Az D::l)=Aa (Az D)++Av l:=fun l=>by simp[Av]
    rw[e2];exact hac
  · intro n hn
    rcases Laj.1 hn with rfl|hn
    ·exact nameD_length D
    ·exact h32 n hn
theorem dag_settleL(x0:DD)(hx0:x0.ok)(p:Nat):Meets prog 91 [ptr p 0] ((x0.blks p).map (·.n)) (fun W=>Lent (x0.blks p) W) (SetL x0 p):=
  (dag_settle x0 hx0 p).imp (fun w h=>h) fun v out ⟨x,s,bl,l,h1,h2,h3,h4,h5,h6,h7,h8,h9⟩=>by
    subst h9;exact⟨s,h1,h4.num,h4.nil,by have:=hx0.big;omega,h5,fun W2 _=>⟨x,bl,h2,h3,h4,h6,h8⟩⟩
theorem no_lieU{n:Nat}(h:Lies [⟨n,[undef],0,0⟩] w):False:=by
  exact lie_none h
theorem SetL.loose(x0:DD)(hx0:x0.ok)(p:Nat)(lent:List Nat):LooseL lent (SetL x0 p):=fun l hl _=>by
  obtain⟨n,_,hn⟩:=fresh_is 0 l;have h32:∀q∈x0.pl.orp,q.1.length=32:=fun q hq=>by
    obtain⟨r,hr,rfl⟩:=La6.1 hq;exact(hx0.orp r hr).1
  refine⟨_,[⟨n,[undef],0,0⟩],⟨⟨some ⟨0,0,none⟩,(PD.settle x0.orp.length x0.pl).2.length,0⟩,rfl,rfl,(fun e=>by cases e),by have:=settle_len x0.orp.length x0.pl;have:=hx0.big;omega,settle_32 _ _ h32,fun W2 h=>(no_lieU h).elim⟩,?_⟩;simp only[Lcb,Laq,Lb4];exact⟨fun h=>by obtain⟨b,hb,e⟩:=La6.1 h;exact hn b hb e,hl⟩
theorem dag_add(x:DD)(hx:x.ok)(p:Nat)(B:Block)(D:DB)(al:List Blk)(hB:Held al B D)(hroom:x.names.length+x.orp.length<20000):Meets prog 50 [ptr p 0,agg B.cells] ((x.blks p++al).map (·.n)) (fun W=>Lent (x.blks p++al) W) (AddR x p D al):=by
 intro W hW;have hbig:=hx.big;have hbd:=hB.2 W (hW.1.sub (fun b hb=>Lau _ hb));have hn32:=nameD_length D;generalize hlt:(x.blks p++al).map (·.n)=lt;have AGR:AddR x p D al=AddR x p D al:=rfl;refine calls_of (hp0:=(x.blks p++al)) func50 J 65 ntmps50 J (hlt▸hW.rep) (G2 ?_);simp only[DD.blks,Lak,Lah,La8];refine G1 ?_;intro n3 hn3 hf3;refine G8 ?_;refine .cV J J J J Body52 (dag_valid x p) (fun w h=>DagSee.of h Z1 Z2) ?_;refine G3 ?_;refine .cond_f J J (G5 ?_);refine .lA J J J Y37.h J Sz37 Z0 (Block.length (by exact hB.1.ok)) ?_;refine .cV J J J J Body87 (db_good B D hB.1.ok) (fun w h=>hB.2 w (Lies.of h (by repeat(first|exact in_all|refine A3 ?_|refine Bk ?_)))) ?_;refine G9 ?_;refine .condNP J (fun hc1=>?_) (fun hc1=>?_)
 ·
  refine G7 ?_;skip;refine G3 ?_;refine As (out:=(⟨p,[ptr p 0,x.nm.v, .map (some x.bE), .map (some x.bH), .map (some x.bO), .map (some x.bP), .map (some x.bW)],93,7⟩::(A4 x.bE (Ao 32 evE) x.ent::(A4 x.bH (Ao 32 evU) x.hds::(A4 x.bO (Ao 32 evB) x.orp::(A4 x.bP (placeT 32 evR) x.pls::(A4 x.bW (Ao 32 evR) x.wrs::(x.nb++(x.cb++(rbl x.pls++(rbl x.wrs++(al++[])))))))))))) (Ca J J J) (Ab rM (Ab rM (Ab rM (Ab rM (Ab rM (Ab rM (Ac sG (Ac sG (Ac sG (Ac sG (Ac (by repeat(first|exact Df|apply sg_there)) Ae))))))))))) ?_;have h9:=addR_err (p:=p) (al:=al) hx (add_bad hc1);simp only[DD.blks,DD.wait,Lak,Lah,Lat,La8]at h9 ⊢;exact h9
 have hgd:dgood D=0:=by omega
 have hck:=good_check hgd;obtain⟨hs1,hs2⟩:=D.head_small hck;refine G4 ?_;refine .lA J J J Y37.h J Sz37 Z0 (Block.length (by exact hB.1.ok)) ?_;refine .cV J J J J Body88 (db_name B D) (fun w h=>hB.2 w (Lies.of h (by repeat(first|exact in_all|refine A3 ?_|refine Bk ?_)))) ?_;refine .alloc (cs:=(Aa (List.replicate 32 0))) J Cj J ?_;intro n7 hn7 hf7;refine .sA J J J J zE Sz31 (by(rw[Aa,La0];assumption)) Z0 sP zU ?_;refine G4 ?_;refine .draw (oPq [0,1,2,103,104,105,6,7,8,209,410,11]) Aq zK (G4 ?_);refine .lA J J J Y31.h J Sz31 Z0 (by(rw[Aa,La0];assumption)) ?_;refine .lookF evB MO J J J J hn32 (by exact mem5) (fun hg=>?_) (fun e hg=>?_)
 ·
  skip;refine G3 ?_;refine .alloc (cs:=Block.zero.cells) J Block.zr J ?_;intro n8 hn8 hf8;refine G9 ?_;refine .lA J J J Y31.h J Sz31 Z1 (by(rw[Aa,La0];assumption)) ?_;refine .cV J J J J Body66 (dag_has x hx p (Az D) hn32) (fun w h=>DagSee.of h Z3 Z4) ?_;refine G3 ?_;refine .cond J (fun hc2=>?_) (fun hc2=>?_)
  ·
   refine G6 ?_;skip;refine G3 ?_;refine As (out:=(⟨p,[ptr p 0,x.nm.v, .map (some x.bE), .map (some x.bH), .map (some x.bO), .map (some x.bP), .map (some x.bW)],93,7⟩::(A4 x.bE (Ao 32 evE) x.ent::(A4 x.bH (Ao 32 evU) x.hds::(A4 x.bO (Ao 32 evB) x.orp::(A4 x.bP (placeT 32 evR) x.pls::(A4 x.bW (Ao 32 evR) x.wrs::(x.nb++(x.cb++(rbl x.pls++(rbl x.wrs++(al++[])))))))))))) (Ca J J J) (Ab rM (Ab rM (Ab rM (Ab rM (Ab rM (Ab rM (Ac sG (Ac sG (Ac sG (Ac sG (Ac (by repeat(first|exact Df|apply sg_there)) Ae))))))))))) ?_;have h9:=addR_err (p:=p) (al:=al) hx (add_there hgd (by rw[there_eq,hg,hc2];rfl));simp only[DD.blks,DD.wait,Lak,Lah,Lat,La8]at h9 ⊢;exact h9
  refine G6 ?_;refine .lA J J J Y37.h J Sz37 Z2 (Block.length (by exact hB.1.ok)) ?_;refine .cV J J J J Body89 (dag_judge x hx p B D hB.1 oM) (fun w h=>⟨DagSee.of h Z3 Z4,hB.2 w (Lies.of h (by repeat(first|exact in_all|refine A3 ?_|refine Bk ?_)))⟩) ?_;refine G9 ?_;refine .condP J (fun hc3=>?_) (fun hc3=>?_)
  ·
   refine G6 ?_;skip;refine G4 ?_;refine As (out:=(⟨p,[ptr p 0,x.nm.v, .map (some x.bE), .map (some x.bH), .map (some x.bO), .map (some x.bP), .map (some x.bW)],93,7⟩::(A4 x.bE (Ao 32 evE) x.ent::(A4 x.bH (Ao 32 evU) x.hds::(A4 x.bO (Ao 32 evB) x.orp::(A4 x.bP (placeT 32 evR) x.pls::(A4 x.bW (Ao 32 evR) x.wrs::(x.nb++(x.cb++(rbl x.pls++(rbl x.wrs++(al++[])))))))))))) (Ca J J J) (Ab rM (Ab rM (Ab rM (Ab rM (Ab rM (Ab rM (Ac sG (Ac sG (Ac sG (Ac sG (Ac (by repeat(first|exact Df|apply sg_there)) Ae))))))))))) ?_;have h9:=addR_err (p:=p) (al:=al) hx (add_wrong hgd (by rw[there_eq,hg,hc2];rfl) hc3);simp only[DD.blks,DD.wait,Lak,Lah,Lat,La8]at h9 ⊢;exact h9
  refine G6 ?_;refine .condP J (fun hc4=>?_) (fun hc4=>?_)
  ·
   refine G7 ?_;refine .lenMap Y89.h J J J (by exact mem6) ?_;refine G3 ?_;refine .condP J (fun hc5=>?_) (fun hc5=>?_)
   ·
    refine G6 ?_;skip;refine G5 ?_;refine As (out:=(⟨p,[ptr p 0,x.nm.v, .map (some x.bE), .map (some x.bH), .map (some x.bO), .map (some x.bP), .map (some x.bW)],93,7⟩::(A4 x.bE (Ao 32 evE) x.ent::(A4 x.bH (Ao 32 evU) x.hds::(A4 x.bO (Ao 32 evB) x.orp::(A4 x.bP (placeT 32 evR) x.pls::(A4 x.bW (Ao 32 evR) x.wrs::(x.nb++(x.cb++(rbl x.pls++(rbl x.wrs++(al++[])))))))))))) (Ca J J J) (Ab rM (Ab rM (Ab rM (Ab rM (Ab rM (Ab rM (Ac sG (Ac sG (Ac sG (Ac sG (Ac (by repeat(first|exact Df|apply sg_there)) Ae))))))))))) ?_;have h9:=addR_err (p:=p) (al:=al) hx (add_full hgd (by rw[there_eq,hg,hc2];rfl) hc4 (by show 64≤(x.orp.map _).length;rw[La0];omega));simp only[DD.blks,DD.wait,Lak,Lah,Lat,La8]at h9 ⊢;exact h9
   refine G3 ?_;refine .draw (oPq [0,1,2,103,104,105,306,407]) Aq zK (G4 ?_);refine .lA J J J Y31.h J Sz31 Z1 (by(rw[Aa,La0];assumption)) ?_;refine .lA J J J Y37.h J Sz37 Z2 (Block.length (by exact hB.1.ok)) ?_;refine .call J J J J Body59 (dag_clone B D hB.1 oM oM) (BlkV.loose D hbd.dok) (fun w h=>hB.2 w (Lies.of h (by repeat(first|exact in_all|refine A3 ?_|refine Bk ?_)))) ?_;rintro v54 out54 ⟨B2,hB2,rfl,hbi⟩;refine .mapPut (v:=((B2,D):BV)) MO J J J J J hn32 rM ?_;refine G8 ?_;skip;refine G4 ?_;refine As (out:=(⟨p,[ptr p 0,x.nm.v, .map (some x.bE), .map (some x.bH), .map (some x.bO), .map (some x.bP), .map (some x.bW)],93,7⟩::(A4 x.bE (Ao 32 evE) x.ent::(A4 x.bH (Ao 32 evU) x.hds::(A4 x.bO (Ao 32 evB) (Bh x.orp (Az D) (B2,D))::(A4 x.bP (placeT 32 evR) x.pls::(A4 x.bW (Ao 32 evR) x.wrs::(x.nb++(x.cb++(out54++(rbl x.pls++(rbl x.wrs++(al++[]))))))))))))) (Ca J J J) (Ab rM (Ab rM (Ab rM (Ab rM (Ab rM (Ab rM (Ac sG (Ac sG (Ac sG (Ac sG (Ac sG (Ac (by repeat(first|exact Df|apply sg_there)) Ae)))))))))))) ?_;have h9:=addR_keep (p:=p) (al:=al) hx hB2 hbi oM hroom oM (add_keep hgd (by rw[there_eq,hg,hc2];rfl) hc4 (by show ¬64≤(x.orp.map _).length;rw[La0];omega));simp only[DD.blks,DD.wait,Lak,Lah,Lat,La8]at h9 ⊢;exact h9
  refine G3 ?_;refine .join (ι:=Unit×DD) (fun j=>⟨[(0,ptr p 0),(7,ptr n7 0)],(⟨n7,Aa (Az D),31,32⟩::(⟨p,[ptr p 0,j.2.nm.v, .map (some j.2.bE), .map (some j.2.bH), .map (some j.2.bO), .map (some j.2.bP), .map (some j.2.bW)],93,7⟩::(A4 j.2.bE (Ao 32 evE) j.2.ent::(A4 j.2.bH (Ao 32 evU) j.2.hds::(A4 j.2.bO (Ao 32 evB) j.2.orp::(A4 j.2.bP (placeT 32 evR) j.2.pls::(A4 j.2.bW (Ao 32 evR) j.2.wrs::(j.2.nb++(j.2.cb++(rbl j.2.pls++(rbl j.2.wrs++(al++[]))))))))))))⟩) (fun j=>j.2.ok∧j.2.pl=x.pl.adm (Az D) D∧j.2.names.length=x.names.length+1∧j.2.orp.length=x.orp.length) ?_ ?_
  ·
   refine .draw (oPq [0,101,102,303,404]) Aq zK (G1 ?_);refine .lA J J J Y31.h J Sz31 Z1 (by(rw[Aa,La0];assumption)) ?_;refine .lA J J J Y37.h J Sz37 Z2 (Block.length (by exact hB.1.ok)) ?_;refine .call J J J J Body59 (dag_clone B D hB.1 oM oM) (BlkV.loose D hbd.dok) (fun w h=>hB.2 w (Lies.of h (by repeat(first|exact in_all|refine A3 ?_|refine Bk ?_)))) ?_;rintro v58 out58 ⟨B2,hB2,rfl,hbi⟩;refine .callL (L:=((x.hold out58).blks p)) J J J J J Body90 (dag_admit2 (x.hold out58) (hx.hold out58) p (Az D) hn32 B2 D ⟨hB2,fun W hW=>hbi W (hW.sub fun b hb=>Lau _ hb)⟩ oM hroom) (Ab rM (Ab rM (Ab rM (Ab rM (Ab rM (Ab rM (Ac sG (pm_two (Ac sG (Ac sG (Ac sG (Ac sG Ae)))))))))))) (C5 J) (fun w h=>Lent.of h (Ab rM (Ab rM (Ab rM (Ab rM (Ab rM (Ab rM (Ac sG (pm_two (Ac sG (Ac sG (Ac sG (Ac sG Ae))))))))))))) ?_;rintro v59 out59 ⟨rfl,x2,rfl,hx2,hplx,hnlx,holx⟩;simp only[DD.blks,Lak,Lah,La8];refine G2 ?_;exact⟨((),x2),⟨hx2,hplx,hnlx,holx⟩,Ag wN (Ab rM (Ab rM (Ab rM (Ab rM (Ab rM (Ab rM (Ab rM (Ac sG (Ac sG (Ac sG (Ac sG (Ac (by repeat(first|exact Df|apply sg_there)) Ae))))))))))))⟩
  intro j hj;obtain⟨j0,x2⟩:=j;simp only at hj ⊢;obtain⟨hx2,hplx,hnlx,holx⟩:=hj;refine .seq (.withK (sp_k (sp_v (sp_v (sp_v (sp_v (sp_v (sp_v (sp_x (sp_x (sp_x (sp_x (sp_x sp_n)))))))))))) J (.draw (oPq [0,2,503,201,404,5,6]) Aq zK (.kloadAll J J J Y31.h J Sz31 Z0 (by(rw[Aa,La0];assumption)) ?_)));refine G1 ?_;refine .callL5 (L:=(x2.blks p)) J J J J J Body91 (dag_settleL x2 hx2 p) (SetL.loose x2 hx2 p _) (Ab rM (Ab rM (Ab rM (Ab rM (Ab rM (Ab rM (Ac sG (Ac sG (Ac sG (Ac sG Ae)))))))))) (C5 J) (fun w h=>Lent.of h (Ab rM (Ab rM (Ab rM (Ab rM (Ab rM (Ab rM (Ac sG (Ac sG (Ac sG (Ac sG Ae))))))))))) ?_;rintro v63 out63 ⟨⟨p63,n63,c63⟩,rfl,hn63,hnil63,hle63,h3263,hsf⟩;refine .mkRow2 (z:=agg (Aa (List.replicate 32 0))) [agg (Aa (Az D))] (Aa (Az D)) J J Y32.h Sz31 Cj J J (by intro v hv;rw[La1.1 hv];simp[Value.cells,Aa,hn32]) dE (by simp[Value.cells,agg]) ?_;intro q61;refine .appendAcc (n:=1) (z:=agg (Aa (List.replicate 32 0))) (by':=32) (Av (PD.settle x2.orp.length x2.pl).2) J J J J J Y32.h Y32.h Sz31 Cj (by unfold By;kernel_rfl) J (Acc.some (cells:=Aa (Az D)) (Lad 1) (by rw[Aa,La0,hn32])) (pm_consE rM J (by rw[Aa,La0,hn32]) Ae) (fun w h=>by have hL:Lies out63 w:=Lies.of h (by repeat(first|exact Au|refine A3 ?_));obtain⟨x3,bl3,e3,hx3,hac3,hr3⟩:=hsf w hL;exact hac3.see (hL.sub (fun b hb=>by rw[e3];exact Lau _ hb))) hnil63 (flatB_cell _) oM oM (by rw[A2 h3263,←hn63]) ?_;intro s64 bl64 hac64;refine G4 ?_;simp only[Lak,Lah,Lat,La8];refine .know (fun w h=>hsf w (Lies.of h (by repeat(first|exact Au|refine Bk ?_)))) (fun hF=>?_);obtain⟨x3,bl3,rfl,hx3,hac3,hr3,hpl3⟩:=hF;simp only[DD.blks,Lak,Lah,La8];refine G2 ?_;refine As (out:=(⟨p,[ptr p 0,x3.nm.v, .map (some x3.bE), .map (some x3.bH), .map (some x3.bO), .map (some x3.bP), .map (some x3.bW)],93,7⟩::(A4 x3.bE (Ao 32 evE) x3.ent::(A4 x3.bH (Ao 32 evU) x3.hds::(A4 x3.bO (Ao 32 evB) x3.orp::(A4 x3.bP (placeT 32 evR) x3.pls::(A4 x3.bW (Ao 32 evR) x3.wrs::(x3.nb++(x3.cb++(rbl x3.pls++(rbl x3.wrs++(bl64++(al++[]))))))))))))) (Ca J J J) (Ab (by repeat(first|exact A9|apply Ce)) (Ab (by repeat(first|exact A9|apply Ce)) (Ab (by repeat(first|exact A9|apply Ce)) (Ab (by repeat(first|exact A9|apply Ce)) (Ab (by repeat(first|exact A9|apply Ce)) (Ab (by repeat(first|exact A9|apply Ce)) (Ac (by repeat(first|exact Bu|apply B6)) (Ac (by repeat(first|exact Bu|apply B6)) (Ac (by repeat(first|exact Bu|apply B6)) (Ac (by repeat(first|exact Bu|apply B6)) (Ac sG (Ac (by repeat(first|exact Bu|apply B6)) Ae)))))))))))) ?_
  have h9:=addR_fits (p:=p) (al:=al) (bl3:=bl3) hplx oM hx2 hx3 hr3 hpl3 h3263 (by rw[←hn63];exact hac64) (add_fits hgd (by rw[there_eq,hg,hc2];rfl) (by rcases judge_cases x.P D with h8|h8|h8<;>first|exact h8|exact absurd h8 zA));simp only[DD.blks,DD.wait,Lak,Lah,Lat,La8]at h9 ⊢;exact h9
 skip;refine G3 ?_;refine .alloc (cs:=Block.zero.cells) J Block.zr J ?_;intro n8 hn8 hf8;refine .sA J J J J (Block.isCell (by exact hx.orpOk hg)) Sz37 (Block.length (by exact hx.orpOk hg)) Z0 (Block.length (by exact Block.zero_ok)) zU ?_;refine G13 ?_;refine .cond_t J J (G6 ?_);skip;refine G3 ?_;refine As (out:=(⟨p,[ptr p 0,x.nm.v, .map (some x.bE), .map (some x.bH), .map (some x.bO), .map (some x.bP), .map (some x.bW)],93,7⟩::(A4 x.bE (Ao 32 evE) x.ent::(A4 x.bH (Ao 32 evU) x.hds::(A4 x.bO (Ao 32 evB) x.orp::(A4 x.bP (placeT 32 evR) x.pls::(A4 x.bW (Ao 32 evR) x.wrs::(x.nb++(x.cb++(rbl x.pls++(rbl x.wrs++(al++[])))))))))))) (Ca J J J) (Ab rM (Ab rM (Ab rM (Ab rM (Ab rM (Ab rM (Ac sG (Ac sG (Ac sG (Ac sG (Ac (by repeat(first|exact Df|apply sg_there)) Ae))))))))))) ?_;have h9:=addR_err (p:=p) (al:=al) hx (add_there hgd (by rw[there_eq,hg];rfl));simp only[DD.blks,DD.wait,Lak,Lah,Lat,La8]at h9 ⊢;exact h9
theorem DD.m0(x:DD)(p:Nat):(⟨p,[ptr p 0,x.nm.v, .map (some x.bE), .map (some x.bH), .map (some x.bO), .map (some x.bP), .map (some x.bW)],93,7⟩:Blk)∈x.blks p:=by unfold DD.blks;exact La9
theorem DD.mE(x:DD)(p:Nat):A4 x.bE (Ao 32 evE) x.ent∈x.blks p:=by unfold DD.blks;exact mem1
theorem DD.mH(x:DD)(p:Nat):A4 x.bH (Ao 32 evU) x.hds∈x.blks p:=by unfold DD.blks;exact mem2
theorem DD.mO(x:DD)(p:Nat):A4 x.bO (Ao 32 evB) x.orp∈x.blks p:=by unfold DD.blks;exact mem3
theorem DD.mcb(x:DD)(p:Nat):∀b∈x.cb,b∈x.blks p:=by unfold DD.blks;exact(by repeat(first|exact Au|refine A3 ?_|refine Bk ?_))
theorem DD.mnb(x:DD)(p:Nat):∀b∈x.nb,b∈x.blks p:=by unfold DD.blks;exact(by repeat(first|exact Au|refine A3 ?_))
theorem DagSee.lies{W:World}(h:Lies (x.blks p) W):DagSee x p W:=⟨h _ (x.m0 p),h _ (x.mE p)⟩
theorem Bm{C:Cx}{hp L:List Blk}(h:Lies L C.W0)(hh:HRep C hp w)(hl:C.lent=[]:=by rfl):Lies L w:=fun b hb=>mblk_keep (h b hb) hh hl
def ddp(l:List (List UInt8)):List (List UInt8):=l.foldr (fun a acc=>if a∈acc then acc else a::acc) []
theorem mem_ddp{a:List UInt8}:∀ {l:List (List UInt8)},a∈ddp l↔a∈l
  | []=>Iff.rfl
  | b ::l=>by
    have ih:= @mem_ddp a l;show a∈(if b∈ddp l then ddp l else b::ddp l)↔_;split
    · rename_i h
      rw[ih,Laj];exact⟨.inr,fun h2=>by rcases h2 with rfl|h2;exact ih.1 h;exact h2⟩
    ·rw[Laj,Laj,ih]
theorem ddp_nodup:∀l,(ddp l).Nodup
  | []=>Ld0
  | b::l=>by
    show(if b∈ddp l then ddp l else b::ddp l).Nodup;split
    ·exact ddp_nodup l
    ·rename_i h;exact Lb4.2 ⟨h,ddp_nodup l⟩
def PD.lacks(X:PD)(n:List UInt8):Bool:= !(Aj X.orp n).isSome&& !(Aj X.P n).isSome
def PD.missing(X:PD):List (List UInt8):=isort (ddp (((X.orp.map fun p=>Bo p.2).flatten).filter X.lacks))
def PD.orphans(X:PD):List (List UInt8):=isort (X.orp.map (·.1))
theorem keys_put{ν:Type}(fs:List (List UInt8×ν))(k:List UInt8)(v:ν)(n:List UInt8):n∈(Bh fs k v).map (·.1)↔n∈fs.map (·.1)∨n=k:=by
  have key:∀j,midx fs k=some j→(fs.set j (k,v)).map (·.1)=fs.map (·.1)∧k∈fs.map (·.1):=fun j h=>by
    unfold midx at h;rw[Lbq]at h;obtain⟨hl,he,_⟩:=h;have e:fs[j].1=k:=by simpa using he
    refine⟨?_,La6.2 ⟨fs[j],Lc7 hl,e⟩⟩;rw[Le9];refine Lcv fun i=>?_;rw[Lct];split
    · rename_i hij
      subst hij;rw[if_pos (by simpa using hl),Lam,La3 hl];simp[e]
    ·rfl
  unfold Bh;cases h:midx fs k with
  | some j=>
    simp only;rw[(key j h).1];exact⟨.inl,fun h2=>by rcases h2 with h2|rfl;exact h2;exact(key j h).2⟩
  |none=>simp only[Lae,Laq,Lei,Lab,La1]
structure MissI(x:DD)(done todo:List (List UInt8×BV))(ms:List (List UInt8×Unit)):Prop where
  perm:(done++todo).Perm x.orp
  r32:∀q∈ms,q.1.length=32
  nd:(ms.map (·.1)).Nodup
  len:ms.length+17*todo.length≤17*x.orp.length
  keys:∀n,n∈ms.map (·.1)↔∃q∈done,n∈Bo q.2.2∧x.pl.lacks n=true
structure MissJ(x:DD)(L:List (List UInt8))(k:Nat)(ms ms2:List (List UInt8×Unit)):Prop where
  r32:∀q∈ms2,q.1.length=32
  nd:(ms2.map (·.1)).Nodup
  len:ms2.length≤ms.length+k
  keys:∀n,n∈ms2.map (·.1)↔n∈ms.map (·.1)∨(n∈L.take k∧x.pl.lacks n=true)
theorem lacks_eq(x:DD)(n:List UInt8):x.pl.lacks n=(!(Aj x.orp n).isSome&& !(Aj x.ent n).isSome):=by
  unfold PD.lacks;rw[x.getO,show x.pl.P=x.P from rfl,x.getP,Lea,Lea]
theorem MissJ.yes(h:MissJ x L k ms ms2)(hk:k<L.length)(hkk:kk=L.getD k [])(h32:kk.length=32)(hl:x.pl.lacks kk=true):MissJ x L (k+1) ms (Bh ms2 kk ()) where
  r32:=fun q hq=>by rcases mput_mem hq with hq|rfl;exact h.r32 q hq;exact h32
  nd:=mput_nodup h.nd kk ()
  len:=by have:=mput_len ms2 kk ();have:=h.len;omega
  keys:=fun n=>by
    rw[keys_put,h.keys,take_one hk hkk,Lab,La1];constructor
    · rintro((h1|h1)|rfl)
      ·exact .inl h1
      ·exact .inr ⟨.inl h1.1,h1.2⟩
      ·exact .inr ⟨.inr rfl,hl⟩
    · rintro(h1|⟨h1|rfl,h2⟩)
      ·exact .inl (.inl h1)
      ·exact .inl (.inr ⟨h1,h2⟩)
      ·exact .inr rfl
theorem MissJ.no(h:MissJ x L k ms ms2)(hk:k<L.length)(hkk:kk=L.getD k [])(hl:x.pl.lacks kk=false):MissJ x L (k+1) ms ms2 where
  r32:=h.r32
  nd:=h.nd
  len:=by have:=h.len;omega
  keys:=fun n=>by
    rw[h.keys,take_one hk hkk,Lab,La1];constructor
    · rintro(h1|h1)
      ·exact .inl h1
      ·exact .inr ⟨.inl h1.1,h1.2⟩
    · rintro(h1|⟨h1|rfl,h2⟩)
      ·exact .inl h1
      ·exact .inr ⟨h1,h2⟩
      ·rw[hl]at h2;cases h2
theorem MissI.next{done todo:List (List UInt8×BV)}{j:Nat}{q:List UInt8×BV}(h:MissI x done todo ms)(hj:todo[j]? =some q)(hJ:MissJ x (Bo q.2.2) (Bo q.2.2).length ms ms2)(hl:(Bo q.2.2).length≤17):MissI x (done++[q]) (todo.eraseIdx j) ms2 where
  perm:=perm_step h.perm hj
  r32:=hJ.r32
  nd:=hJ.nd
  len:=by
    have h1:=hJ.len;have h2:=h.len;have h3:=(Laa.1 hj).1;rw[Les,if_pos h3];omega
  keys:=fun n=>by
    rw[hJ.keys,h.keys,Ldb];constructor
    · rintro(⟨r,hr,h1⟩|h1)
      ·exact⟨r,Lao _ hr,h1⟩
      ·exact⟨q,Lau _ (La1.2 rfl),h1⟩
    · rintro⟨r,hr,h1⟩
      rcases Lab.1 hr with hr|hr
      ·exact .inl ⟨r,hr,h1⟩
      ·rw[La1.1 hr]at h1;exact .inr h1
theorem MissI.fin{done:List (List UInt8×BV)}{ks:List (List UInt8)}(h:MissI x done [] ms)(hp:ks.Perm (ms.map (·.1)))(hs:SortB ks):ks=x.pl.missing:=by
  unfold PD.missing;refine isort_eq (hp.trans ((Lfm h.nd (ddp_nodup _)).2 fun n=>?_)) hs;rw[mem_ddp,h.keys,Las,Lf6];have hm:∀q,q∈done↔q∈x.orp:=fun q=>by have:=h.perm.mem_iff (a:=q);rwa[Lat]at this
  constructor
  · rintro⟨q,hq,h1,h2⟩
    exact⟨⟨Bo q.2.2,La6.2 ⟨(q.1,q.2.2),La6.2 ⟨q,(hm q).1 hq,rfl⟩,rfl⟩,h1⟩,h2⟩
  · rintro⟨⟨l,hl,h1⟩,h2⟩
    obtain⟨r,hr,rfl⟩:=La6.1 hl;obtain⟨q,hq,rfl⟩:=La6.1 hr;exact⟨q,(hm q).2 hq,h1,h2⟩
theorem dag_orphans(x:DD)(hx:x.ok)(p:Nat):Meets prog 17 [ptr p 0] [] (fun W=>Lies (x.blks p) W) (RowA x.pl.orphans):=by
 intro W hW;refine Ad func17 J 11 ntmps17 J (G9 ?_);refine .cV J J J J Body52 (dag_valid x p) (fun w h=>DagSee.ext h (DagSee.lies hW)) (G3 ?_);refine .cond_f J J (G7 ?_);refine .loadE J J J Y89.h J sP ((DagSee.lies hW).at (o:=4) J) (.call4 J J J J J Body64 (dag_sortedB MO x.bO x.orp (fun p hp=>(hx.orp p hp).1) (by have:=hx.big;omega)) (fun w h=>mblk_keep (hW _ (x.mO p)) h) ?_);rintro v10 out10 ⟨s10,ks,hkp,hks,rfl,hac⟩;obtain rfl:ks=x.pl.orphans:=isort_eq (by rw[orp_keys];exact hkp) hks;refine G3 ?_;refine G2 ?_;refine As (out:=(out10++[])) (Af J J) (Ac sG Ae) ?_;exact⟨s10,rfl,by simpa using hac⟩
theorem dag_missing(x:DD)(hx:x.ok)(p:Nat):Meets prog 19 [ptr p 0] [] (fun W=>Lies (x.blks p) W) (RowA x.pl.missing):=by
 intro W hW;obtain⟨es,clock,hb,F⟩:=(hW _ (x.mO p)).map;have hbig:=hx.orpn;refine Ad func19 J 53 ntmps19 J (G9 ?_);refine .cV J J J J Body52 (dag_valid x p) (fun w h=>DagSee.ext h (DagSee.lies hW)) (G3 ?_);refine .cond_f J J (G4 ?_);refine .mkMap (Ao 32 evU) J J ?_;intro m3;refine G9 ?_;refine .loadE J J J Y89.h J sP ((DagSee.lies hW).at (o:=4) J) (.rangeMapC Y89.h hb sP J J J J ?_);intro q18;refine G3 ?_;refine .loop (ι:=Array Nat×List (List UInt8×BV)×List (List UInt8×BV)×List (List UInt8×Unit)) (fun q=>⟨[(0,ptr p 0),(3, .map (some m3)),(18,ptr q18 0)],[iblk q18 x.bO clock q.1,A4 m3 (Ao 32 evU) q.2.2.2]⟩) (fun q=>ItOk (Ao 32 evB) es q.1 q.2.2.1∧MissI x q.2.1 q.2.2.1 q.2.2.2) (fun q=>q.2.2.1.length) ((#[],[],x.orp,[])) ?_ ?_ ?_
 ·exact⟨ItOk.start F,⟨Ld1 _,fun q h=>(by cases h),Ld0,by simp,fun n=>by simp⟩⟩
 ·exact Ag wN (Ab rM (Ab rM Ae))
 rintro q ⟨hi,hI⟩;refine G2 ?_;refine .nextMapC F hi hb sP J J J J rM ?_ ?_
 ·
  intro htd;refine G4 ?_;refine .cond_f J J (G7 ?_);rw[htd]at hI;have hj9:=hI;refine G1 ?_;refine .call4 J J J J J Body67 (dag_sortedU MH m3 q.2.2.2 hj9.r32 (by have:=hj9.len;omega)) (fun w h=>h.cells _ Z0) ?_;rintro v52 out52 ⟨s52,ks,hkp,hks,rfl,hac⟩;obtain rfl:=hj9.fin hkp hks;refine G3 ?_;refine G2 ?_;refine As (out:=(out52++[])) (Af J J) (Ac sG Ae) ?_;exact⟨s52,rfl,by simpa using hac⟩
 intro j k0 v seen2 hj hit hat;have hmem:(k0,v)∈x.orp:=hI.perm.mem_iff.1 (Lau _ (Lax hj));have hvo:=hx.orp _ hmem;simp only at hvo;have hrow:=parL_row (hvo.2.1.2 W (hW.sub (x.mcb p))).dok;refine G4 ?_;refine .cond_t J J (G5 ?_);refine .entryMapC F hat hb sP J J J Z0 ?_;refine G1 ?_;refine .alloc (cs:=Block.zero.cells) J Block.zr J ?_;intro n5 hn5 hf5;refine .sA J J J J (Block.isCell (by exact hvo.2.1.1.ok)) Sz37 (Block.length (by exact hvo.2.1.1.ok)) Z0 (Block.length (by exact Block.zero_ok)) zU ?_;refine G4 ?_;refine .lA J J J Y37.h J Sz37 Z0 (Block.length (by exact hvo.2.1.1.ok)) ?_;refine .call4 J J J J J Body65 (db_parA v.1 v.2 oM) (fun w h=>hvo.2.1.2 w ((Bm hW h).sub (x.mcb p))) ?_;rintro v24 out24 ⟨s24,rfl,hac⟩;have hn24:s24.n=(Bo v.2).length:=hac.num;have hp17:(Bo v.2).length≤17:=by have:=parL_len v.2;omega
 refine G5 ?_;refine .loop (ι:=Nat×List (List UInt8×Unit)) (fun r=>⟨[(0,ptr p 0),(3, .map (some m3)),(18,ptr q18 0),(24,s24.v),(25,i64 (s24.n:Int)),(26,i64 (r.1:Int))],(iblk q18 x.bO clock seen2::(A4 m3 (Ao 32 evU) r.2::(out24++[])))⟩) (fun r=>r.1≤(Bo v.2).length∧MissJ x (Bo v.2) r.1 q.2.2.2 r.2) (fun r=>(Bo v.2).length-r.1) ((0,q.2.2.2)) ?_ ?_ ?_
 ·exact⟨Lan _,⟨hI.r32,hI.nd,Lad _,fun n=>by simp⟩⟩
 ·exact Ag wN (Ab rM (Ab rM (Ac sG Ae)))
 rintro⟨k,ms2⟩ ⟨hk0,hJ⟩;simp only at hk0 hJ ⊢;refine G6 ?_;refine .condP J (fun hc2=>?_) (fun hc2=>?_)
 ·
  refine G6 ?_;have hk:k<(Bo v.2).length:=by omega
  have hkb:k≤600000:=by omega
  rcases hac with ⟨_,_,_,h0⟩|⟨qr,cr,rfl,hnc,hfl,rfl⟩
  ·exfalso;omega
  obtain⟨kk,hkk⟩:∃kk,kk=(Bo v.2).getD k []:=⟨_,rfl⟩;have h32k:kk.length=32:=by rw[hkk,La4,La3 hk];exact hrow _ (Lc7 hk)
  refine .idxSlP 32 J J J J J Y32.h Sz31 k J oM (.loadSN (n:=32) (Aa kk) J J J Y31.h J Sz31 (by rw[Aa,La0];exact h32k) (fun w h=>by rw[hkk];simpa using B0 hrow (An h Z2) hk) ?_);refine .alloc (cs:=(Aa (List.replicate 32 0))) J Cj J ?_;intro n7 hn7 hf7;refine .sA J J J J zE Sz31 (by(rw[Aa,La0];assumption)) Z0 sP zU ?_;refine G3 ?_;refine .draw (oPq [0,1,2,103,104,105,6,7,8,209,410,11]) Aq zK (G3 ?_);refine .loadE J J J Y89.h J sP ((DagSee.lies hW).at (o:=4) J) (.lA J J J Y31.h J Sz31 Z0 (by(rw[Aa,La0];assumption)) ?_);refine .lookFC evB MO (hW _ (x.mO p)) sP J J J J h32k (fun hg=>?_) (fun e hg=>?_)
  ·
   skip;refine G3 ?_;refine .alloc (cs:=Block.zero.cells) J Block.zr J ?_;intro n8 hn8 hf8;refine G10 ?_;refine .lA J J J Y31.h J Sz31 Z1 (by(rw[Aa,La0];assumption)) ?_;refine .cV J J J J Body66 (dag_has x hx p kk h32k) (fun w h=>DagSee.ext h (DagSee.lies hW)) (G4 ?_);refine .cond J (fun hc3=>?_) (fun hc3=>?_)
   ·
    refine G2 ?_;refine .lA J J J Y31.h J Sz31 Z1 (by(rw[Aa,La0];assumption)) ?_;refine .build (cs:=[]) J J J (fun w=>by kernel_rfl) ?_;refine .mapPut (v:=()) MH J J J J J h32k rM ?_;refine G8 ?_;exact⟨(k+1,Bh ms2 kk ()),⟨hk,hJ.yes hk hkk h32k (by rw[lacks_eq,hg];simpa using hc3)⟩,by simp only;omega,Ag wN (Ab rM (Ab rM (Ac sG Ae)))⟩
   refine G8 ?_;exact⟨(k+1,ms2),⟨hk,hJ.no hk hkk (by rw[lacks_eq,hg];simpa using hc3)⟩,by simp only;omega,Ag wN (Ab rM (Ab rM (Ac sG Ae)))⟩
  skip;refine G3 ?_;refine .alloc (cs:=Block.zero.cells) J Block.zr J ?_;intro n8 hn8 hf8;refine .sA J J J J (Block.isCell (by exact hx.orpOk hg)) Sz37 (Block.length (by exact hx.orpOk hg)) Z0 (Block.length (by exact Block.zero_ok)) zU ?_;refine G15 ?_;refine .cond_f J J (G8 ?_);exact⟨(k+1,ms2),⟨hk,hJ.no hk hkk (by rw[lacks_eq,hg];rfl)⟩,by simp only;omega,Ag wN (Ab rM (Ab rM (Ac sG Ae)))⟩
 refine G6 ?_;exact⟨(seen2,q.2.1++[(k0,v)],q.2.2.1.eraseIdx j,ms2),⟨hit,hI.next hj (by rw[show(Bo v.2).length=k by omega];exact hJ) hp17⟩,by have h8:=(Laa.1 hj).1;simp only[Les,h8,if_true];omega,Ag wN (Ab rM (Ab rM Ae))⟩
end Go.Proofs.YtgjnomgkddbhcaaGreat
namespace Go.Proofs.YtgjnomgkddbhcaaGreat
open Go Hw Ed
def affX(n:Nat):Nat:=force (fastN n) fun s=>ux s*pwm PF 256 (uz s%PF) (PF-2)%PF
def affY(n:Nat):Nat:=force (fastN n) fun s=>uy s*pwm PF 256 (uz s%PF) (PF-2)%PF
theorem fast_at{n X Y:Nat}(hn:n<2^256)(hx:affX n=X)(hy:affY n=Y):cv.mul n bP=⟨fe X,fe Y⟩:=by
  refine fastN_pt hn ?_ ?_
  ·rw[←hx,affX,force_eq,fe_mod,fe_mul];rfl
  ·rw[←hy,affY,force_eq,fe_mod,fe_mul];rfl
end Go.Proofs.YtgjnomgkddbhcaaGreat
namespace Go.Proofs.YtgjnomgkddbhcaaGreat
open Go Hw _root_.Go.Proofs.Tryz
open Ed
def PD.new:PD:=⟨[],[],[],[],[],[],[]⟩
end Go.Proofs.YtgjnomgkddbhcaaGreat
namespace Go.Proofs.YtgjnomgkddbhcaaGreat
open Go Hw _root_.Go.Proofs.Tryz
section
variable{κ ν:Type}[DecidableEq κ]
variable{fs:List (κ×ν)}{k:κ}
theorem mget_cons(k:κ)(v:ν)(fs:List (κ×ν))(n:κ):Aj ((k,v)::fs) n=if k=n then some v else Aj fs n:=by
  unfold Aj;rw[List.find?_cons];by_cases h:k=n<;>simp[h]
theorem mget_no(h:Aj fs k=none):∀p∈fs,p.1≠k:=fun p hp e=>by
  obtain⟨v,hv⟩:=Cr (fs:=fs) (La6.2 ⟨p,hp,e⟩);rw[h]at hv;cases hv
theorem mput_app(h:Aj fs k=none)(v:ν):Bh fs k v=fs++[(k,v)]:=by
  unfold Bh;rw[midx_none (mget_no h)]
theorem mget_app(fs:List (κ×ν))(k:κ)(v:ν)(n:κ):Aj (fs++[(k,v)]) n=if(Aj fs n).isSome then Aj fs n else if k=n then some v else none:=by
  induction fs with
  |nil=>rw[Lah,mget_cons];rfl
  | cons p fs ih=>
    obtain⟨a,b⟩:=p;rw[Lak,mget_cons,mget_cons,ih];by_cases h:a=n<;>simp[h]
theorem mget_new(h:Aj fs k=none)(v:ν):Aj (Bh fs k v) k=some v:=by rw[mput_app h,mget_app,h];simp
theorem mget_old(h:Aj fs k=none)(v:ν){n:κ}(hn:k≠n):Aj (Bh fs k v) n=Aj fs n:=by
  rw[mput_app h,mget_app];cases Aj fs n<;>simp[hn]
theorem mdel_head(k:κ)(v:ν)(fs:List (κ×ν)):mdel ((k,v)::fs) k=fs:=by
  have h:midx ((k,v)::fs) k=some 0:=by unfold midx;rw[List.findIdx?_cons];simp
  unfold mdel;rw[h];rfl
end
theorem first_no{X:PD}(ho:∀m∈X.orp.map (·.1),Bi X.P ((Aj X.orp m).getD DB.zero)=0):X.first=none:=by
  unfold PD.first;rw[Lek];intro m hm;rw[ho m ((Br _).mem_iff.1 hm)];simp
section
theorem ofNat_ne{i:Nat}(h:i<66):UInt64.ofNat (i+1)≠0:=fun e=>by
  have:=congrArg UInt64.toNat e;simp at this;omega
end
variable{D:DB}{L st:List (List UInt8)}{X:PD}{a b c:Block}{above:Int}{ms:List (List UInt8×Unit)}{n prev:List UInt8}{x:DD}{α κ ν:Type}{fs:List (κ×ν)}{l:List α}
theorem cons_of{n:Nat}(h:l.length=n+1):∃a t,l=a::t∧t.length=n:=by
  cases l with
  |nil=>cases h
  |cons a t=>exact⟨a,t,rfl,by simpa using h⟩
theorem build_sp(s:UInt64)(prev:List UInt8)(h:prev.length=32)(w:World):(Instr.build 37 #[(1,u64 s),(2,agg (Aa prev))]).run prog w= .ok (agg ({ Block.zero with fSeq:=s,fPrev:=prev }:Block).cells) w:=by
  iterate 32 (obtain⟨a,l,e,h2⟩:=cons_of h;clear h;subst e;have h:=h2;clear h2)
  obtain rfl:=Lag h
  (refine Eq.trans ?_ rfl;kernel_rfl)
def tri(a b c:Block):List Value:=a.cells++(b.cells++(c.cells++[]))
theorem tri_0(ha:a.ok):((tri a b c).drop 0).take 131=a.cells:=by
  rw[tri,Lf8,Lcl (by rw[Block.length ha];omega),La5 (by rw[Block.length ha];omega)]
theorem tri_1(ha:a.ok)(hb:b.ok):((tri a b c).drop 131).take 131=b.cells:=by
  have h1:=Block.length ha;rw[tri,Le1 oM,Lap oM,Lah,Lcl (by rw[Block.length hb];omega),La5 (by rw[Block.length hb];omega)]
theorem tri_2(ha:a.ok)(hb:b.ok)(hc:c.ok):((tri a b c).drop 262).take 131=c.cells:=by
  have h1:=Block.length ha;have h2:=Block.length hb;have e:(tri a b c)=(a.cells++b.cells)++(c.cells++[]):=by rw[tri,La8]
  rw[e,Le1 (by rw[La2];omega),Lap (by rw[La2];omega),Lah,Lat,La5 (by rw[Block.length hc];omega)]
theorem sp_is(W:World)(s:UInt64)(h:prev.length=32):BlockIs W ({ Block.zero with fSeq:=s,fPrev:=prev }:Block) { DB.zero with seq:=s,prev:=prev }:=⟨⟨rfl,h,rfl⟩,rfl,rfl,rfl,(zero_is W).ls,(zero_is W).ds,rfl⟩
theorem sp_ok(s:UInt64)(h:prev.length=32):({ Block.zero with fSeq:=s,fPrev:=prev }:Block).ok:=⟨rfl,h,rfl⟩
theorem new_ok(bE bH bO bP bW:Nat):(⟨Sl.nil,[],[],[],[],[],[],[],[],bE,bH,bO,bP,bW⟩:DD).ok:=⟨Acc.none,fun l h=>(by cases h),Lan _,Lan _,fun p h=>(by cases h),Lan _,fun p h=>(by cases h),Lan _,fun p h=>(by cases h),fun p h=>(by cases h),fun p h=>(by cases h)⟩
theorem dag_new2:Meets prog 49 [] [] (fun _=>True) (fun v out=>∃(p:Nat) (x:DD),v=ptr p 0∧out=x.blks p∧x.ok∧x.pl=PD.new∧x.names.length+x.orp.length=0):=
  dag_new.imp (fun w h=>h) fun v out ⟨p,bE,bH,bO,bP,bW,h1,h2⟩=>⟨p,_,h1,h2,new_ok ..,rfl,rfl⟩
theorem dig_same(p q:Option Addr)(n c1 c2:Nat)(xs:List (List UInt8))(hx:∀l∈xs,l.length=32)(h1:xs.length=n)(hn:n≤1000000):Mv 20 [.slice p n c1, .slice q n c2] (fun W=>SeesP W p (Av xs)∧SeesP W q (Av xs)) (.bool true):=
  (digests_eq p q n c1 c2 xs xs hx hx h1 h1 hn).imp (fun w h=>h) fun v out h=>by rwa[decide_eq_true rfl]at h
theorem one_32(h:n.length=32):∀l∈ [n],l.length=32:=fun l hl=>by rw[La1.1 hl];exact h
def PD.heads(X:PD):List (List UInt8):=isort (X.hds.map (·.1))
theorem heads_len(X:PD):X.heads.length=X.hds.length:=by unfold PD.heads;rw[(Br _).length_eq,La0]
theorem Held.at{B:Block}(h:Held [] B D)(W:World):BlockIs W B D:=h.2 W (fun b hb=>by cases hb)
theorem pm_in0{hp l R:List Blk}{x:Blk}(h:hp.Perm ((x::l)++R)):hp.Perm (([x]++l)++R):=h
theorem dag_heads(x:DD)(hx:x.ok)(p:Nat):Meets prog 47 [ptr p 0] [] (fun W=>Lies (x.blks p) W) (RowA x.pl.heads):=by
 intro W hW;refine Ad func47 J 11 ntmps47 J (G9 ?_);refine .cV J J J J Body52 (dag_valid x p) (fun w h=>DagSee.ext h (DagSee.lies hW)) (G3 ?_);refine .cond_f J J (G7 ?_);refine .loadE J J J Y88.h J sP ((DagSee.lies hW).at (o:=3) J) (.call4 J J J J J Body67 (dag_sortedU MH x.bH x.hds hx.hds (by have:=hx.hdsn;have:=hx.big;omega)) (fun w h=>mblk_keep (hW _ (x.mH p)) h) ?_);rintro v10 out10 ⟨s10,ks,hkp,hks,rfl,hac⟩;obtain rfl:ks=x.pl.heads:=isort_eq hkp hks;refine G3 ?_;refine G2 ?_;refine As (out:=(out10++[])) (Af J J) (Ac sG Ae) ?_;exact⟨s10,rfl,by simpa using hac⟩
theorem dag_names(x:DD)(hx:x.ok)(p:Nat):Meets prog 16 [ptr p 0] [] (fun W=>Lies (x.blks p) W) (RowA x.pl.names):=by
 intro W hW;refine Ad func16 J 11 ntmps16 J (G9 ?_);refine .cV J J J J Body52 (dag_valid x p) (fun w h=>DagSee.ext h (DagSee.lies hW)) (G3 ?_);refine .cond_f J J (G7 ?_);refine .loadE J J J Y32.h J sP ((DagSee.lies hW).at (o:=1) J) (.call4 J J J J J Body53 (cl_digs x.nm x.names (by have:=hx.nm.num;have:=hx.big;omega)) (fun w h=>Ci hx.nm ((Bm hW h).sub (x.mnb p)) hx.n32 J (by have:=hx.nm.num;have:=hx.big;omega)) ?_);rintro v10 out10 ⟨s10,rfl,hac⟩;have hn10:=hx.nm.num;rw[hn10]at hac;refine G3 ?_;refine G2 ?_;refine As (out:=(out10++[])) (Af J J) (Ac sG Ae) ?_;refine⟨s10,rfl,?_⟩;rw[Lat];exact hac
inductive PD.Reach(X:PD)(above:Int)(L:List (List UInt8)):List UInt8→Prop
  |base {n:List UInt8} {D:DB} (h:n∈L) (hP:Aj X.P n=some D) (hd:above<(Aj X.dep n).getD 0):Reach X above L n
  |step {m n:List UInt8} {D E:DB} (h:Reach X above L m) (hP:Aj X.P m=some D) (hn:n∈Bo D) (hE:Aj X.P n=some E) (hd:above<(Aj X.dep n).getD 0):Reach X above L n
def PD.Edge(X:PD)(L:List (List UInt8))(ms:List (List UInt8×Unit))(n:List UInt8):Prop:=n∈L∨∃m D,m∈ms.map (·.1)∧Aj X.P m=some D∧n∈Bo D
def cntW:List (List UInt8×DB)→List (List UInt8×Unit)→Nat
  | [],_=>0
  |p::P,ms=>(if(Aj ms p.1).isSome=true then 0 else 1)+cntW P ms
theorem put_some(h:Aj ms n=none)(k:List UInt8):(Aj (Bh ms n ()) k).isSome=(decide (n=k)||(Aj ms k).isSome):=by
  by_cases e:n=k
  ·subst e;rw[mget_new h];simp
  ·rw[mget_old h _ e];simp[e]
theorem cnt_le{ms:List (List UInt8×Unit)}{n:List UInt8}(h:Aj ms n=none):∀P:List (List UInt8×DB),cntW P (Bh ms n ())≤cntW P ms
  | []=>Lad _
  | p ::P=>by
    have ih:=cnt_le h P;have h1:(if(decide (n=p.1)||(Aj ms p.1).isSome)=true then 0 else 1)≤(if(Aj ms p.1).isSome=true then 0 else 1):=by
      cases(Aj ms p.1).isSome<;>cases decide (n=p.1)<;>decide
    rw[cntW,cntW,put_some h];omega
theorem cnt_put{ms:List (List UInt8×Unit)}{n:List UInt8}(h:Aj ms n=none):∀P:List (List UInt8×DB),n∈P.map (·.1)→cntW P (Bh ms n ())+1≤cntW P ms
  | [],hn=>by cases hn
  | p ::P,hn=>by
    have hle:=cnt_le h P;rw[cntW,cntW,put_some h];by_cases e:n=p.1
    · rw[←e,h,decide_eq_true rfl,if_pos (by rfl),if_neg sP]
      omega
    · have hn2:n∈P.map (·.1):=by
        rcases Laj.1 hn with h3|h3
        ·exact absurd h3 e
        ·exact h3
      have ih:=cnt_put h P hn2;rw[decide_eq_false e,Lh7];omega
theorem cnt_nil:∀P:List (List UInt8×DB),cntW P []=P.length
  | []=>rfl
  | p::P=>by
    have h:Aj ([]:List (List UInt8×Unit)) p.1=none:=rfl;rw[cntW,cnt_nil P,h,Lay];simp;omega
structure WalkI(X:PD)(above:Int)(L:List (List UInt8))(ms:List (List UInt8×Unit))(st:List (List UInt8)):Prop where
  r32:∀q∈ms,q.1.length=32
  s32:∀n∈st,n.length=32
  nd:(ms.map (·.1)).Nodup
  snd:∀n∈ms.map (·.1),X.Reach above L n
  sub:∀n∈st,X.Edge L ms n
  cov:∀n,X.Edge L ms n→n∈st∨n∈ms.map (·.1)∨Aj X.P n=none∨(Aj X.dep n).getD 0≤above
  cnt:ms.length+cntW X.P ms≤X.P.length
  len:st.length+17*cntW X.P ms≤L.length+17*X.P.length
theorem WalkI.start(X:PD)(above:Int)(h:∀n∈L,n.length=32):WalkI X above L [] L where
  r32:=fun q hq=>by cases hq
  s32:=h
  nd:=Ld0
  snd:=fun n hn=>by cases hn
  sub:=fun n hn=> .inl hn
  cov:=fun n hn=>by
    rcases hn with hn|⟨m,D,hm,_⟩
    ·exact .inl hn
    ·cases hm
  cnt:=by rw[cnt_nil];exact Ld4 (Lb2 _)
  len:=by rw[cnt_nil];exact Lad _
theorem WalkI.pass(h:WalkI X above L ms (st++[n]))(hn:n∈ms.map (·.1)∨Aj X.P n=none∨(Aj X.dep n).getD 0≤above):WalkI X above L ms st:={ h with
  s32:=fun m hm=>h.s32 m (Lao _ hm)
  sub:=fun m hm=>h.sub m (Lao _ hm)
  cov :=fun m hm=>by
    rcases h.cov m hm with h1|h1
    · rcases Lab.1 h1 with h2|h2
      ·exact .inl h2
      ·rw[La1.1 h2];exact .inr hn
    ·exact .inr h1
  len:=by have:=h.len;rw[La2,Lav]at this;omega }
theorem keys_in(h:Aj X.P n=some D):n∈X.P.map (·.1):=La6.2 ⟨(n,D),Be h,rfl⟩
theorem WalkI.meet(h:WalkI X above L ms (st++[n]))(hm:Aj ms n=none)(hP:Aj X.P n=some D)(hd:above<(Aj X.dep n).getD 0)(hpar:∀l∈Bo D,l.length=32)(h17:(Bo D).length≤17):WalkI X above L (Bh ms n ()) (st++Bo D) where
  r32:=fun q hq=>by
    rcases mput_mem hq with hq|rfl
    ·exact h.r32 q hq
    ·exact h.s32 n (Lau _ (La1.2 rfl))
  s32:=fun m hm2=>by
    rcases Lab.1 hm2 with h1|h1
    ·exact h.s32 m (Lao _ h1)
    ·exact hpar m h1
  nd:=mput_nodup h.nd n ()
  snd :=fun m hm2=>by
    rcases(keys_put ms n () m).1 hm2 with h1|rfl
    ·exact h.snd m h1
    · rcases h.sub m (Lau _ (La1.2 rfl))with h1|⟨k,E,hk,hE,hn⟩
      ·exact .base h1 hP hd
      ·exact .step (h.snd k hk) hE hn hP hd
  sub :=fun m hm2=>by
    rcases Lab.1 hm2 with h1|h1
    · rcases h.sub m (Lao _ h1)with h2|⟨k,E,hk,hE,hn⟩
      ·exact .inl h2
      ·exact .inr ⟨k,E,(keys_put ms n () k).2 (.inl hk),hE,hn⟩
    ·exact .inr ⟨n,D,(keys_put ms n () n).2 (.inr rfl),hP,h1⟩
  cov :=fun m hm2=>by
    have old:X.Edge L ms m→m∈st++Bo D∨m∈(Bh ms n ()).map (·.1)∨Aj X.P m=none∨(Aj X.dep m).getD 0≤above:=fun he=>by
      rcases h.cov m he with h1|h1|h1
      · rcases Lab.1 h1 with h2|h2
        ·exact .inl (Lao _ h2)
        ·exact .inr (.inl ((keys_put ms n () m).2 (.inr (La1.1 h2))))
      ·exact .inr (.inl ((keys_put ms n () m).2 (.inl h1)))
      ·exact .inr (.inr h1)
    rcases hm2 with h1|⟨k,E,hk,hE,hn⟩
    ·exact old (.inl h1)
    · rcases(keys_put ms n () k).1 hk with h1|rfl
      ·exact old (.inr ⟨k,E,h1,hE,hn⟩)
      · rw[hP]at hE
        rw[←Lev hE]at hn;exact .inl (Lau _ hn)
  cnt:=by
    have h1:=h.cnt;have h2:=cnt_put hm X.P (keys_in hP);have h3:=mput_len ms n ();omega
  len:=by
    have h1:=h.len;have h2:=cnt_put hm X.P (keys_in hP);rw[La2,Lav]at h1;rw[La2];omega
theorem WalkI.fin(h:WalkI X above L ms [])(n:List UInt8):n∈ms.map (·.1)↔X.Reach above L n:=by
  refine⟨h.snd n,fun hr=>?_⟩;have key:∀ {n D},X.Edge L ms n→Aj X.P n=some D→above<(Aj X.dep n).getD 0→n∈ms.map (·.1):=fun {n D} he hP hd=>by
    rcases h.cov n he with h1|h1|h1|h1
    ·cases h1
    ·exact h1
    ·rw[hP]at h1;cases h1
    ·omega
  induction hr with
  |base h1 hP hd=>exact key (.inl h1) hP hd
  |step h1 hP hn hE hd ih=>exact key (.inr ⟨_,_,ih,hP,hn⟩) hE hd
theorem DD.getDep(x:DD)(k:List UInt8):Aj x.pl.dep k=(Aj x.ent k).map (fun e=>e.1.fDepth):=mget_map (fun e:EV=>e.1.fDepth) x.ent k
theorem DD.atP{e:EV}(h:Aj x.ent n=some e):Aj x.pl.P n=some e.2∧(Aj x.pl.dep n).getD 0=e.1.fDepth:=⟨by rw[show x.pl.P=x.P from rfl,x.getP,h];rfl,by rw[x.getDep,h];rfl⟩
theorem DD.noP(h:Aj x.ent n=none):Aj x.pl.P n=none:=by rw[show x.pl.P=x.P from rfl,x.getP,h];rfl
theorem mget_keys(h:Aj ms n=some ()):n∈ms.map (·.1):=La6.2 ⟨(n,()),Be h,rfl⟩
def WalkR(X:PD)(above:Int)(L:List (List UInt8))(v:Value)(out:List Blk):Prop:=∃(m:Nat) (ms:List (List UInt8×Unit)),v= .map (some m)∧out=[A4 m (Ao 32 evU) ms]∧WalkI X above L ms []
theorem sees_last{w:World}{b:Nat}{kk:List UInt8}(h:∀l∈st++[kk],l.length=32)(hs:De w b 0 (Av (st++[kk]))):De w b (0+st.length*32) (Aa kk):=by
  have:=B0 h hs (k:=st.length) sP;simpa[La4]using this
theorem dag_walk(x:DD)(hx:x.ok)(h16:∀p∈x.P,p.2.ls.length≤16)(p:Nat)(s0:Sl)(L:List (List UInt8))(hL:s0.n≤90000)(above:Int):Meets prog 147 [ptr p 0,s0.v,i64 above] [] (fun W=>Lies (x.blks p) W∧RowsAt W s0 32 L) (WalkR x.pl above L):=by
 intro W hW;have hlies:=hW.1;have hd:=DagSee.lies hW.1;have hbig:=hx.big;have hen:=hx.entn;have hPl:x.pl.P.length=x.ent.length:=by show(x.ent.map _).length=_;rw[La0]
 have hL2:=hW.2.len;refine Ad func147 J 66 ntmps147 J (G7 ?_);refine .mkMap (Ao 32 evU) J J ?_;intro m14;refine G6 ?_;refine .call4 J J J J J Body53 (cl_digs s0 L hL) (fun w h=>Cw h J hW.2) ?_;rintro v16 out16 ⟨s16,rfl,hac16⟩;have hn16:=hac16.num;refine G5 ?_;refine .loop (ι:=List (List UInt8×Unit)×List (List UInt8)×Sl×List Blk) (fun r=>⟨[(0,ptr p 0),(2,i64 above),(7, .map (some m14)),(8,r.2.2.1.v)],(A4 m14 (Ao 32 evU) r.1::(r.2.2.2++[]))⟩) (fun r=>WalkI x.pl above L r.1 r.2.1∧Hw.Acc r.2.2.1 r.2.2.2 (Av r.2.1) 31 r.2.1.length 32) (fun r=>r.2.1.length+18*cntW x.pl.P r.1) (([],L,s16,out16)) ?_ ?_ ?_
 ·exact⟨WalkI.start x.pl above hW.2.row,(by simp only;rw[hL2];exact hac16)⟩
 ·exact Ag wN (Ab (by repeat(first|exact A9|apply Ce)) (Ac sG Ae))
 rintro⟨ms,st,sl,bl⟩ ⟨hI,hac⟩;simp only at hI hac ⊢;have hsn:=hac.num;refine G8 ?_;refine .condP J (fun hc0=>?_) (fun hc0=>?_)
 ·
  have hpos:0<st.length:=by omega
  obtain⟨st2,kk,rfl⟩:=snoc_of hpos;have hlen:(st2++[kk]).length=st2.length+1:=by simp
  have hmx:=hI.len;obtain⟨NN,hNN⟩:∃NN,NN=(st2++[kk]).length:=⟨_,rfl⟩;rw[←hNN]at hac;have h32k:kk.length=32:=hI.s32 kk sP;have hlast:=fun(w:World) (b:Nat)=>sees_last (w:=w) (b:=b) hI.s32;rcases hac with ⟨_,_,_,h0⟩|⟨qr,cr,rfl,hnc,hfl,rfl⟩
  ·exfalso;omega
  refine G9 ?_;refine .idxSlP 32 J J J J J Y32.h Sz31 st2.length (by show(NN:Int)-1=(st2.length:Int);omega) (by show st2.length<NN;omega) ?_;refine .loadSN (n:=32) (Aa kk) J J J Y31.h J Sz31 (by rw[Aa,La0];exact h32k) (fun w h=>hlast w qr (An h Z1)) ?_;refine .alloc (cs:=(Aa (List.replicate 32 0))) J Cj J ?_;intro n9 hn9 hf9;refine .sA J J J J zE Sz31 (by(simp[h32k];done)) Z0 sP zU ?_;refine G8 ?_;refine .sliceHiA ⟨some ⟨qr,0,none⟩,NN,cr⟩ st2.length J J J J (by show(NN:Int)-1=(st2.length:Int);omega) (by show st2.length≤cr;omega) Y32.h Sz31 ?_;refine G4 ?_;rw[Cf];refine .trunc (q:=qr) rM ?_;have hacn:Hw.Acc ⟨some ⟨qr,0,none⟩,st2.length,cr⟩ [⟨qr,Av st2,31,cr*32⟩] (Av st2) 31 st2.length 32:=Acc.some oM (A2 (fun l hl=>hI.s32 l (Lao _ hl)));refine .draw (oPq [0,1,2,103,104,105,6,7,8,209,410,11]) Aq zK (G3 ?_);refine .loadE J J J Y87.h J sP (hd.at (o:=2) J) (.lA J J J Y31.h J Sz31 Z1 (by(simp[h32k];done)) ?_);refine .lookFC evE ME hd.2 sP J J J J h32k (fun hg=>?_) (fun e hg=>?_)
  ·
   skip;refine G3 ?_;refine .alloc (cs:=DEnt.zero.cells) J DEnt.zr J ?_;intro n10 hn10 hf10;refine G8 ?_;refine .lA J J J Y31.h J Sz31 Z2 (by(simp[h32k];done)) ?_;refine .lookF evU MH J J J J h32k Z3 (fun hg2=>?_) (fun e2 hg2=>?_)
   ·
    skip;refine G3 ?_;refine .alloc (cs:=[]) J Zr110 J ?_;intro n12 hn12 hf12;refine .sA J J J J zB Sz110 sP Z0 sP zU ?_;refine G18 ?_;refine .cond_t J J (G4 ?_)
    (refine⟨(ms,st2,⟨some ⟨qr,0,none⟩,st2.length,cr⟩,[⟨qr,Av st2,31,cr*32⟩]),⟨hI.pass (by exact .inr (.inl (DD.noP hg))),hacn⟩,(by simp only[La2,Lav];omega),?_⟩;exact Ag wN (Ab rM (pm_in0 (Ab rM Ae))))
   skip;refine G3 ?_;refine .alloc (cs:=[]) J Zr110 J ?_;intro n12 hn12 hf12;refine .sA J J J J zB Sz110 sP Z0 sP zU ?_;refine G18 ?_;refine .cond_t J J (G4 ?_)
   (refine⟨(ms,st2,⟨some ⟨qr,0,none⟩,st2.length,cr⟩,[⟨qr,Av st2,31,cr*32⟩]),⟨hI.pass (by exact .inl (mget_keys hg2)),hacn⟩,(by simp only[La2,Lav];omega),?_⟩;exact Ag wN (Ab rM (pm_in0 (Ab rM Ae))))
  have hP:=(DD.atP hg).1;have hdp:=(DD.atP hg).2;have h16e:e.2.ls.length≤16:=h16 _ (La6.2 ⟨_,Be hg,rfl⟩);have h17:(Bo e.2).length≤17:=by have:=parL_len e.2;omega
  have hprow:=parL_row ((hx.ent _ (Be hg)).2.1.2 W (hlies.sub (x.mcb p))).dok;refine G3 ?_;refine .alloc (cs:=DEnt.zero.cells) J DEnt.zr J ?_;intro n10 hn10 hf10;refine .sA J J J J (DEnt.isCell (by exact hx.entOk hg)) Sz98 (DEnt.length (by exact hx.entOk hg)) Z0 (DEnt.length (by exact DEnt.zero_ok)) zU ?_;refine G7 ?_;refine .lA J J J Y31.h J Sz31 Z2 (by(simp[h32k];done)) ?_;refine .lookF evU MH J J J J h32k Z3 (fun hg2=>?_) (fun e2 hg2=>?_)
  ·
   skip;refine G3 ?_;refine .alloc (cs:=[]) J Zr110 J ?_;intro n12 hn12 hf12;refine .sA J J J J zB Sz110 sP Z0 sP zU ?_;refine G12 ?_;refine .load1 J J J Y3.h J Z1 (DEnt.get_fDepth (hx.entOk hg)) ?_;refine G5 ?_;refine .condP J (fun hc1=>?_) (fun hc1=>?_)
   ·
    refine G4 ?_
    (refine⟨(ms,st2,⟨some ⟨qr,0,none⟩,st2.length,cr⟩,[⟨qr,Av st2,31,cr*32⟩]),⟨hI.pass (by exact .inr (.inr (by rw[(DD.atP hg).2];omega))),hacn⟩,(by simp only[La2,Lav];omega),?_⟩;exact Ag wN (Ab rM (pm_in0 (Ab rM Ae))))
   refine G5 ?_;refine .lA J J J Y31.h J Sz31 Z3 (by(simp[h32k];done)) ?_;refine .build (cs:=[]) J J J (fun w=>by kernel_rfl) ?_;refine .mapPut (v:=()) MH J J J J J h32k rM ?_;refine G5 ?_;refine .lN (Block.cells _) J J J Y37.h J Sz37 Z2 (DEnt.row_fBlock (by exact hx.entOk hg)) (DEnt.rl_fBlock (by exact hx.entOk hg)) ?_;refine .call4 J J J J J Body65 (db_parA e.1.fBlock e.2 oM) (fun w h=>(hx.ent _ (Be hg)).2.1.2 w ((Bm hlies h).sub (x.mcb p))) ?_;rintro v63 out63 ⟨⟨p63,n63,c63⟩,rfl,hac63⟩;have hn63:n63=(Bo e.2).length:=hac63.num;refine .appendAcc (n:=st2.length) (z:=agg (Aa (List.replicate 32 0))) (by':=32) (Av (Bo e.2)) J J J J J Y32.h Y32.h Sz31 Cj (by unfold By;kernel_rfl) J hacn rM (fun w h=>hac63.see (Lies.of h (by repeat(exact Au)))) (fun e=>hac63.nil e) (flatB_cell _) (by show st2.length+n63≤1000000;omega) (by show(st2.length+n63)*32≤140737488355328;omega) (by rw[A2 hprow,←hn63]) ?_;intro s64 bl64 hac64;refine G4 ?_
   (refine⟨(Bh ms kk (),st2++Bo e.2,s64,bl64),⟨hI.meet hg2 hP (by rw[hdp];omega) hprow h17,by simp only;rw[Cf,La2,←hn63];exact hac64⟩,(by have:=cnt_put hg2 x.pl.P (keys_in hP);simp only[La2,Lav];omega),?_⟩;exact Ag wN (Ab (by repeat(first|exact A9|apply Ce)) (Ac sG Ae)))
  skip;refine G3 ?_;refine .alloc (cs:=[]) J Zr110 J ?_;intro n12 hn12 hf12;refine .sA J J J J zB Sz110 sP Z0 sP zU ?_;refine G18 ?_;refine .cond_t J J (G4 ?_)
  (refine⟨(ms,st2,⟨some ⟨qr,0,none⟩,st2.length,cr⟩,[⟨qr,Av st2,31,cr*32⟩]),⟨hI.pass (by exact .inl (mget_keys hg2)),hacn⟩,(by simp only[La2,Lav];omega),?_⟩;exact Ag wN (Ab rM (pm_in0 (Ab rM Ae))))
 obtain rfl:st=[]:=Lag oM;refine G11 ?_;refine G2 ?_;refine As (out:=(A4 m14 (Ao 32 evU) ms::[])) (Af J J) (Ab rM Ae) ?_;exact⟨m14,ms,rfl,rfl,hI⟩
theorem WalkR.keys{ks:List (List UInt8)}(h:WalkI X above L ms [])(hp:ks.Perm (ms.map (·.1))):ks.Nodup∧∀n,n∈ks↔X.Reach above L n:=⟨hp.nodup_iff.2 h.nd,fun n=>hp.mem_iff.trans (h.fin n)⟩
def ClosR(X:PD)(L:List (List UInt8))(v:Value)(out:List Blk):Prop:=
  (∃n∈L,Aj X.P n=none)∧v= .tuple #[.slice none 0 0,i64 6]∧out=[]
  ∨(∀n∈L,(Aj X.P n).isSome=true)∧∃(s:Sl) (ks:List (List UInt8)),v= .tuple #[s.v,i64 0]∧Hw.Acc s out (Av ks) 31 ks.length 32∧SortB ks∧ks.Nodup∧∀n,n∈ks↔X.Reach (-1) L n
theorem has_P(x:DD)(n:List UInt8):(Aj x.pl.P n).isSome=(Aj x.ent n).isSome:=by rw[show x.pl.P=x.P from rfl,x.getP,Lea]
theorem dag_closure(x:DD)(hx:x.ok)(h16:∀p∈x.P,p.2.ls.length≤16)(p:Nat)(s0:Sl)(L:List (List UInt8))(hL:s0.n≤90000):Meets prog 109 [ptr p 0,s0.v] [] (fun W=>Lies (x.blks p) W∧RowsAt W s0 32 L) (ClosR x.pl L):=by
  intro W hW;have hlies:=hW.1;have hd:=DagSee.lies hW.1;have hbig:=hx.big;have hen:=hx.entn;have hPl:x.pl.P.length=x.ent.length:=by show(x.ent.map _).length=_;rw[La0]
  have hL2:=hW.2.len;refine Ad func109 J 26 ntmps109 J (G10 ?_);refine .cV J J J J Body52 (dag_valid x p) (fun w h=>hd.ext h) (G3 ?_);refine .cond_f J J (G11 ?_);refine .loop (ι:=Nat) (fun k=>⟨[(0,ptr p 0),(1,s0.v),(11,s0.v),(12,i64 (s0.n:Int)),(13,i64 (k:Int))],[]⟩) (fun k=>k≤s0.n∧∀j,j<k→(Aj x.pl.P (L.getD j [])).isSome=true) (fun k=>s0.n-k) (0) ?_ ?_ ?_
  ·exact⟨Lan _,fun j hj=>by omega⟩
  ·exact Ag wN Ae
  rintro k ⟨hk,hall⟩;refine G6 ?_;refine .condP J (fun hc1=>?_) (fun hc1=>?_)
  ·
    have hk2:k<s0.n:=by omega
    refine G6 ?_;obtain⟨kk,hkk⟩:∃kk,kk=L.getD k []:=⟨_,rfl⟩;have h32k:kk.length=32:=by rw[hkk,La4,La3 oM];exact hW.2.row _ (Lc7 oM)
    obtain⟨b0,o0,hs0,hsee0⟩:=hW.2.see.at (by rw[show(L.map Aa).flatten=Av L from rfl,A2 hW.2.row];omega);refine .idxSlP 32 J J J hs0 J Y32.h Sz31 k J oM (.loadSN (n:=32) (Aa kk) J J J Y31.h J Sz31 (by rw[Aa,La0];exact h32k) (fun w h=>by rw[hkk];exact B0 hW.2.row (fun j v hj=>h.keeps.cell (p:=⟨b0,o0+j,none⟩) sP (hsee0 j v hj)) oM) ?_);refine .alloc (cs:=(Aa (List.replicate 32 0))) J Cj J ?_;intro n7 hn7 hf7;refine .sA J J J J zE Sz31 (by(simp[h32k];done)) Z0 sP zU ?_;refine G5 ?_;refine .lA J J J Y31.h J Sz31 Z0 (by(simp[h32k];done)) ?_;refine .cV J J J J Body66 (dag_has x hx p kk h32k) (fun w h=>hd.ext h) (G3 ?_);refine .cond J (fun hc2=>?_) (fun hc2=>?_)
    ·
      refine G6 ?_;refine G7 ?_;refine As (out:=[]) (Ca J J J) Ae (.inl ⟨⟨kk,?_,?_⟩,rfl,rfl⟩)
      · rw[hkk,La4,La3 oM]
        exact Lc7 oM
      · cases h9:Aj x.ent kk with
        |none=>exact DD.noP h9
        |some e=>rw[h9]at hc2;simp at hc2
    refine G8 ?_;exact⟨k+1,⟨by omega,fun j hj=>by rcases Lg3 (Lgv hj)with h|h;exact hall j h;rw[h,←hkk,has_P];simpa using hc2⟩,by omega,Ag wN Ae⟩
  have hke:k=s0.n:=by omega
  refine G9 ?_;refine .call4 J J J J J Body147 (dag_walk x hx h16 p s0 L hL (-1)) (fun w h=>⟨Bm hlies h,Cw h J hW.2⟩) ?_;rintro v24 out24 ⟨m24,ms,rfl,rfl,hI⟩;have hmc:=hI.cnt;refine .call4 J J J J J Body67 (dag_sortedU MH m24 ms hI.r32 oM) (fun w h=>h.cells _ Z0) ?_;rintro v25 out25 ⟨s25,ks,hkp,hks,rfl,hac⟩;have hwk:=WalkR.keys hI hkp;refine G4 ?_;refine G2 ?_;refine As (out:=(out25++[])) (Ca J J J) (Ac sG Ae) ?_;refine .inr ⟨fun n hn=>?_,s25,ks,rfl,by simpa using hac,hks,hwk.1,hwk.2⟩;obtain⟨j,hj,rfl⟩:=Lbo hn;have h9:=hall j oM;rwa[La4,La3 hj]at h9
theorem mem_erase_nd(h:l.Nodup){j:Nat}(hj:j<l.length)(n:α):n∈l.eraseIdx j↔n≠l[j]∧n∈l:=by
  rw[Ld2,Lab];have e:l=l.take j++l[j]::l.drop (j+1):=by rw[←Lbt hj,Lc6]
  generalize hx:l[j]=x at*;have h2:=h;rw[e]at h2;obtain⟨h3,h4,h5⟩:=Lb5.1 h2;have h6:=(Lb4.1 h4).1;constructor
  · rintro(h1|h1)
    ·exact⟨fun e2=>h5 n h1 x La9 e2,Lbf h1⟩
    ·exact⟨fun e2=>h6 (e2▸h1),Lcx h1⟩
  · rintro⟨h1,h7⟩
    rw[e,Lab,Laj]at h7;rcases h7 with h7|h7|h7
    ·exact .inl h7
    ·exact absurd h7 h1
    ·exact .inr h7
theorem map_erase{α β:Type}(f:α→β)(l:List α)(j:Nat):(l.eraseIdx j).map f=(l.map f).eraseIdx j:=by
  rw[Ld2,Ld2,Lae,Lbe,Lej]
theorem mdel_keys[DecidableEq κ](hn:(fs.map (·.1)).Nodup)(k n:κ):n∈(mdel fs k).map (·.1)↔n∈fs.map (·.1)∧n≠k:=by
  unfold mdel;cases h:midx fs k with
  | none=>
    refine⟨fun h1=>⟨h1,fun e=>?_⟩,fun h1=>h1.1⟩;unfold midx at h;rw[Lda]at h;obtain⟨p,hp,e2⟩:=La6.1 h1;have:=h p hp;simp[e2,e]at this
  | some j=>
    unfold midx at h;rw[Lbq]at h;obtain⟨hj,he,_⟩:=h;have e:fs[j].1=k:=by simpa using he
    have hj2:j<(fs.map (·.1)).length:=by rw[La0];exact hj
    have e2:(fs.map (·.1))[j]=k:=by rw[Lfv];exact e
    show n∈(fs.eraseIdx j).map (·.1)↔_;rw[map_erase,mem_erase_nd hn hj2,e2];exact⟨fun h=>⟨h.2,h.1⟩,fun h=>⟨h.2,h.1⟩⟩
theorem delL_keys:∀(L:List (List UInt8)) {hds:List (List UInt8×Unit)},(hds.map (·.1)).Nodup→((delL hds L).map (·.1)).Nodup∧∀n,n∈(delL hds L).map (·.1)↔n∈hds.map (·.1)∧n∉L
  | [],hds,hn=>⟨hn,fun n=>by simp[delL]⟩
  | k ::L,hds,hn=>by
    have ih:=delL_keys L (mdel_nodup hn k);have e:delL hds (k::L)=delL (mdel hds k) L:=rfl;rw[e];refine⟨ih.1,fun n=>?_⟩;rw[ih.2,mdel_keys hn,Laj];constructor
    · rintro⟨⟨h1,h2⟩,h3⟩
      exact⟨h1,fun h=>by rcases h with h|h;exact h2 h;exact h3 h⟩
    · rintro⟨h1,h2⟩
      exact⟨⟨h1,fun h=>h2 (.inl h)⟩,fun h=>h2 (.inr h)⟩
theorem key_some[DecidableEq κ]{n:κ}:n∈fs.map (·.1)↔∃v,Aj fs n=some v:=⟨Cr,fun⟨v,h⟩=>La6.2 ⟨(n,v),Be h,rfl⟩⟩
theorem key_none[DecidableEq κ]{n:κ}(h:n∉fs.map (·.1)):Aj fs n=none:=by
  cases h2:Aj fs n with
  |none=>rfl
  |some v=>exact absurd (key_some.2 ⟨v,h2⟩) h
theorem foldP_ge(dep:List (List UInt8×Int)):∀(L:List (List UInt8)) (d:Int),d≤L.foldl (stepP dep) d∧∀m∈L,(Aj dep m).getD 0<L.foldl (stepP dep) d
  | [],d=>⟨Lh6 d,fun m hm=>by cases hm⟩
  | k::L,d=>by
    have ih:=foldP_ge dep L (stepP dep d k);have h1:d≤stepP dep d k∧(Aj dep k).getD 0<stepP dep d k:=by unfold stepP;split<;>omega
    refine⟨Int.le_trans h1.1 ih.1,fun m hm=>?_⟩;rcases Laj.1 hm with rfl|hm
    ·exact Int.lt_of_lt_of_le h1.2 ih.1
    ·exact ih.2 m hm
theorem Dd{P:List (List UInt8×DB)}(h:Bi P D=1):readyB P D=true:=by
  unfold Bi at h;split at h
  ·omega
  · split at h
    ·assumption
    ·omega
structure PD.Inv(X:PD):Prop where
  nn:X.names=X.P.map (·.1)
  dk:X.dep.map (·.1)=X.P.map (·.1)
  nd:(X.P.map (·.1)).Nodup
  ck:∀p∈X.P,p.2.check=0
  par:∀n D,Aj X.P n=some D→∀m∈Bo D,(∃E,Aj X.P m=some E)∧(Aj X.dep m).getD 0<(Aj X.dep n).getD 0
  d0:∀n D,Aj X.P n=some D→0≤(Aj X.dep n).getD 0
  hn:(X.hds.map (·.1)).Nodup
  hd:∀n,n∈X.hds.map (·.1)↔(∃D,Aj X.P n=some D)∧∀m D,Aj X.P m=some D→n∉Bo D
  od:(X.orp.map (·.1)).Nodup
  oc:∀p∈X.orp,p.2.check=0∧p.1∉X.P.map (·.1)
theorem PD.Inv.new:PD.new.Inv where
  nn:=rfl
  dk:=rfl
  nd:=Ld0
  ck:=fun p hp=>by cases hp
  par:=fun n D h=>by cases h
  d0:=fun n D h=>by cases h
  hn:=Ld0
  hd:=fun n=>⟨fun h=>(by cases h),fun⟨⟨D,h⟩,_⟩=>(by cases h)⟩
  od:=Ld0
  oc:=fun p hp=>by cases hp
theorem PD.Inv.drop(h:X.Inv)(n:List UInt8):(X.drop1 n).Inv:={ h with
  od:=mdel_nodup h.od n
  oc:=fun p hp=>h.oc p (mdel_mem hp) }
theorem PD.Inv.adm(h:X.Inv)(hnP:n∉X.P.map (·.1))(hno:n∉X.orp.map (·.1))(hc:D.check=0)(hr:readyB X.P D=true):(X.adm n D).Inv:=by
  have hP0:=key_none hnP;have hD0:Aj X.dep n=none:=key_none (by rw[h.dk];exact hnP);have eP:(X.adm n D).P=X.P++[(n,D)]:=mput_app hP0 D;have eD:(X.adm n D).dep=X.dep++[(n,(Bo D).foldl (stepP X.dep) 0)]:=mput_app hD0 _;have gP:∀m,m≠n→Aj (X.adm n D).P m=Aj X.P m:=fun m hm=>mget_old hP0 D (fun e=>hm e.symm);have gPn:Aj (X.adm n D).P n=some D:=mget_new hP0 D;have gD:∀m,m≠n→Aj (X.adm n D).dep m=Aj X.dep m:=fun m hm=>mget_old hD0 _ (fun e=>hm e.symm);have gDn:Aj (X.adm n D).dep n=some ((Bo D).foldl (stepP X.dep) 0):=mget_new hD0 _;have rdy:∀m∈Bo D,∃E,Aj X.P m=some E:=fun m hm=>by
    have:=Lbv.1 hr m hm;exact Laz.1 this
  have ne:∀ {m E},Aj X.P m=some E→m≠n:=fun {m E} hm e=>by rw[e,hP0]at hm;cases hm
  have old:∀ {m E},Aj (X.adm n D).P m=some E→m=n∧E=D∨m≠n∧Aj X.P m=some E:=fun {m E} hm=>by
    by_cases e:m=n
    · rw[e,gPn]at hm
      exact .inl ⟨e,(Lev hm).symm⟩
    · rw[gP m e]at hm
      exact .inr ⟨e,hm⟩
  have hk:=delL_keys (Bo D) h.hn;refine⟨?_,?_,?_,?_,?_,?_,?_,?_,h.od,?_⟩
  · show X.names++[n]=_
    rw[eP,Lae,h.nn];rfl
  ·rw[eP,eD,Lae,Lae,h.dk];rfl
  · rw[eP,Lae]
    refine Lb5.2 ⟨h.nd,by simp,fun a ha b hb e=>?_⟩;rw[Laq,Lei,La1]at hb;rw[e,hb]at ha;exact hnP ha
  · intro p hp
    rw[eP]at hp;rcases Lab.1 hp with hp|hp
    ·exact h.ck p hp
    ·rw[La1.1 hp];exact hc
  · intro m E hm k hk2
    rcases old hm with ⟨rfl,rfl⟩|⟨e,hm⟩
    · obtain⟨F,hF⟩:=rdy k hk2
      refine⟨⟨F,by rw[gP k (ne hF)];exact hF⟩,?_⟩;rw[gD k (ne hF),gDn];exact(foldP_ge X.dep (Bo E) 0).2 k hk2
    · obtain⟨⟨F,hF⟩,hlt⟩:=h.par m E hm k hk2
      refine⟨⟨F,by rw[gP k (ne hF)];exact hF⟩,?_⟩;rw[gD k (ne hF),gD m e];exact hlt
  · intro m E hm
    rcases old hm with ⟨rfl,rfl⟩|⟨e,hm⟩
    · rw[gDn]
      exact(foldP_ge X.dep (Bo E) 0).1
    ·rw[gD m e];exact h.d0 m E hm
  ·exact mput_nodup hk.1 n ()
  · intro k
    show k∈(Bh (delL X.hds (Bo D)) n ()).map (·.1)↔_;rw[keys_put,hk.2,h.hd];constructor
    · rintro(⟨⟨⟨E,hE⟩,h1⟩,h2⟩|rfl)
      · refine⟨⟨E,by rw[gP k (ne hE)];exact hE⟩,fun m F hm=>?_⟩
        rcases old hm with ⟨rfl,rfl⟩|⟨e,hm⟩
        ·exact h2
        ·exact h1 m F hm
      · refine⟨⟨D,gPn⟩,fun m F hm hk2=>?_⟩
        rcases old hm with ⟨rfl,rfl⟩|⟨e,hm⟩
        · obtain⟨G,hG⟩:=rdy _ hk2
          exact ne hG rfl
        · obtain⟨⟨G,hG⟩,_⟩:=h.par m F hm _ hk2
          exact ne hG rfl
    · rintro⟨⟨E,hE⟩,h1⟩
      rcases old hE with ⟨rfl,rfl⟩|⟨e,hE⟩
      ·exact .inr rfl
      ·exact .inl ⟨⟨⟨E,hE⟩,fun m F hm=>h1 m F (by rw[gP m (ne hm)];exact hm)⟩,h1 n D gPn⟩
  · intro p hp
    have:=h.oc p hp;refine⟨this.1,fun hm=>?_⟩;rw[eP,Lae]at hm;rcases Lab.1 hm with hm|hm
    ·exact this.2 hm
    · rw[Laq,Lei,La1]at hm
      have e9:p.1=n:=hm;exact hno (by rw[←e9];exact La6.2 ⟨p,hp,rfl⟩)
theorem first_key(h:X.first=some n):∃D,Aj X.orp n=some D∧Bi X.P D≠0:=by
  have h1:=Lfr h;have h2:=List.find?_some h;obtain⟨D,hD⟩:=Cr ((Br _).mem_iff.1 h1);refine⟨D,hD,?_⟩;rw[hD,Lc1]at h2;simpa using h2
theorem PD.Inv.settle:∀(f:Nat) {X:PD},X.Inv→(PD.settle f X).1.Inv
  |0,X,h=>h
  | f + 1,X,h=>by
    cases hf:X.first with
    |none=>rw[settle_done hf];exact h
    | some n=>
      obtain⟨D,hD,hj⟩:=first_key hf;have hm:=h.oc _ (Be hD);by_cases h1:Bi X.P D=1
      · rw[settle_fit hf hD h1]
        exact PD.Inv.settle f ((h.drop n).adm hm.2 (fun h2=>((mdel_keys h.od n n).1 h2).2 rfl) hm.1 (Dd h1))
      · rw[settle_wrong hf hD h1]
        exact PD.Inv.settle f (h.drop n)
theorem PD.Inv.add(h:X.Inv)(D:DB):(X.add D).1.Inv:=by
  by_cases hg:dgood D=0
  · cases ht:((Aj X.orp (Az D)).isSome||(Aj X.P (Az D)).isSome)with
    |true=>rw[add_there hg ht];exact h
    | false =>
      rw[Lgn]at ht;have n1:Az D∉X.orp.map (·.1):=fun hm=>by
        obtain⟨v,hv⟩:=Cr hm;rw[hv]at ht;cases ht.1
      have n2:Az D∉X.P.map (·.1):=fun hm=>by
        obtain⟨v,hv⟩:=Cr hm;rw[hv]at ht;cases ht.2
      have hf:((Aj X.orp (Az D)).isSome||(Aj X.P (Az D)).isSome)=false:=by rw[ht.1,ht.2];rfl
      rcases judge_cases X.P D with hj|hj|hj
      · by_cases h64:64≤X.orp.length
        ·rw[add_full hg hf hj h64];exact h
        · rw [add_keep hg hf hj h64]
          exact{ h with
            od:=mput_nodup h.od _ _
            oc:=fun p hp=>by
              rcases mput_mem hp with hp|rfl
              ·exact h.oc p hp
              ·exact⟨good_check hg,n2⟩ }
      · rw[add_fits hg hf hj]
        exact PD.Inv.settle _ (h.adm n2 n1 (good_check hg) (Dd hj))
      ·rw[add_wrong hg hf hj];exact h
  ·rw[add_bad hg];exact h
noncomputable def fillP(X:PD)(ds:List DB):PD:=ds.foldl (fun X D=>(X.add D).1) X
theorem PD.Inv.fill:∀(ds:List DB) {X:PD},X.Inv→(fillP X ds).Inv
  | [],X,h=>h
  |D::ds,X,h=>PD.Inv.fill ds (h.add D)
section
variable{X:PD}
variable{L:List (List UInt8)}{a:Int}{n:List UInt8}
theorem reach_P(h:X.Reach a L n):∃D,Aj X.P n=some D:=by
  cases h with
  |base _ hP _=>exact⟨_,hP⟩
  |step _ _ _ hE _=>exact⟨_,hE⟩
theorem reach_mono{L M:List (List UInt8)}(hs:∀n∈L,n∈M)(h:X.Reach a L n):X.Reach a M n:=by
  induction h with
  |base h hP hd=>exact .base (hs _ h) hP hd
  |step _ hP hn hE hd ih=>exact .step ih hP hn hE hd
theorem reach_all(hI:X.Inv){D:DB}(h:Aj X.P n=some D):X.Reach (-1) (X.hds.map (·.1)) n:=by
  obtain ⟨b,hb⟩:∃b:Int,∀p∈X.dep,p.2≤b:=by
    generalize X.dep=l
    induction l with
    |nil=>exact⟨0,fun p hp=>by cases hp⟩
    | cons p l ih=>
      obtain⟨b,hb⟩:=ih;exact⟨if p.2≤b then b else p.2,fun q hq=>by
        rcases Laj.1 hq with rfl|hq
        ·split<;>omega
        · have:=hb q hq
          split<;>omega⟩
  have top:∀ {m E},Aj X.P m=some E→(Aj X.dep m).getD 0≤b:=fun {m E} hm=>by
    have hk:m∈X.dep.map (·.1):=by rw[hI.dk];exact key_some.2 ⟨E,hm⟩
    obtain⟨d,hd⟩:=Cr hk;rw[hd];exact hb _ (Be hd)
  have key:∀(k:Nat) {n D},Aj X.P n=some D→(b-(Aj X.dep n).getD 0).toNat≤k→X.Reach (-1) (X.hds.map (·.1)) n:=by
    intro k
    induction k with
    | zero=>
      intro n D h hk;have h1:=top h;by_cases hh:n∈X.hds.map (·.1)
      ·exact .base hh h (by have:=hI.d0 n D h;omega)
      · rw[hI.hd]at hh
        have h2:∃m E,Aj X.P m=some E∧n∈Bo E:=by
          refine Classical.byContradiction fun hno=>hh ⟨⟨D,h⟩,fun m E hm hn=>hno ⟨m,E,hm,hn⟩⟩
        obtain⟨m,E,hm,hn⟩:=h2;have h3:=((hI.par m E hm) n hn).2;have h4:=top hm;omega
    | succ k ih=>
      intro n D h hk;by_cases hh:n∈X.hds.map (·.1)
      ·exact .base hh h (by have:=hI.d0 n D h;omega)
      · rw[hI.hd]at hh
        have h2:∃m E,Aj X.P m=some E∧n∈Bo E:=by
          refine Classical.byContradiction fun hno=>hh ⟨⟨D,h⟩,fun m E hm hn=>hno ⟨m,E,hm,hn⟩⟩
        obtain⟨m,E,hm,hn⟩:=h2;have h3:=((hI.par m E hm) n hn).2;have h4:=top hm;exact .step (ih hm oM) hm hn h (by have:=hI.d0 n D h;omega)
  exact key _ h (Lad _)
end
variable{a:Int}{n:Nat}
theorem tmod_lo(a:Int)(h:0<n): -(n:Int)<a.tmod n∧a.tmod n<n:=⟨Int.lt_tmod_of_pos a oM,Int.tmod_lt_of_pos a oM⟩
def pickN(a:Int)(n:Nat):Nat:=if a.tmod n<0 then(a.tmod n+n).toNat else(a.tmod n).toNat
theorem pickN_lt(a:Int)(h:0<n):pickN a n<n:=by
  have:=tmod_lo a h;unfold pickN;split<;>omega
theorem pickN_neg(h:0<n)(hc:a.tmod n<0):a.tmod n+(n:Int)=((pickN a n:Nat):Int):=by
  have:=tmod_lo a h;rw[pickN,if_pos hc];omega
theorem pickN_pos(h:0<n)(hc:¬a.tmod n<0):a.tmod n=((pickN a n:Nat):Int):=by
  rw[pickN,if_neg hc];omega
section
variable{C:Cx}{ops:Array Oper}{rest:List (Nat×Oper)}{sl:List (Nat×Value)}{hp:List Blk}{Q:St→Prop}{c d:Nat}{ty:TypeId}{pos:String}{af:Array Edge}{g:Option (Nat×Bool)}
variable{xT yT:TypeId}{x y:Operand}{a b:Int}
theorem Tr.rem_i64t(hg:Ak ops sl g=true)(hk:okD c d C.N=true)(hx:Ai sl x=some (i64 a))(hy:Ai sl y=some (i64 b))(hr:1≤b)
    (k:Tr C ops rest ⟨(d,i64 (a.tmod b))::sl,hp⟩ Q):Tr C ops ((c,⟨some d, .binOp .rem xT x y yT,ty,pos,af,g⟩)::rest) ⟨sl,hp⟩ Q:=
  .bin hg hk hx hy (fun w=>by simp[binOp,Op.intDiv,show b≠0 by omega]) k
end
def GetR(X:PD)(n:List UInt8)(v:Value)(out:List Blk):Prop:=
  Aj X.P n=none∧v= .tuple #[agg Block.zero.cells,i64 6]∧out=[]
  ∨∃D B,Aj X.P n=some D∧SameB B D∧v= .tuple #[agg B.cells,i64 0]∧∀W2,Lies out W2→BlockIs W2 B D
theorem ck_small{D:DB}(h:D.check=0):D.ls.length≤16∧D.ds.length≤90000:=by
  obtain⟨h1,h2⟩:=D.head_small h;exact⟨by omega,by omega⟩
theorem kit_pickN(g:Int)(n:Nat)(hn:0<n)(hn2:n≤1000000):Mv 32 [i64 g,i64 (n:Int)] (fun _=>True) (i64 ((pickN g n:Nat):Int)):=by
 intro W hW;have htm:=tmod_lo g hn;refine Ad func32 J 16 ntmps32 J (G9 ?_);refine .lss J J J J (decide_eq_false oM) (G2 ?_);refine .cond_f J (rfl) (G6 ?_);refine Tr.rem_i64t J J J J oM (G10 ?_);refine .condP J (fun hc1=>?_) (fun hc1=>?_)
 ·
  refine G13 ?_;refine G2 ?_;refine⟨_,[],Af J J,sP,sP,?_,rfl⟩;rw[pickN_neg hn hc1]
 refine G8 ?_;refine G2 ?_;refine⟨_,[],Af J J,sP,sP,?_,rfl⟩;rw[pickN_pos hn hc1]
theorem dag_get(x:DD)(hx:x.ok)(hck:∀p∈x.P,p.2.check=0)(p:Nat)(n:List UInt8)(h32:n.length=32):Meets prog 13 [ptr p 0,agg (Aa n)] [] (fun W=>Lies (x.blks p) W) (GetR x.pl n):=by
 intro W hW;have hlies:=hW;have hd:=DagSee.lies hW;refine Ad func13 J 27 ntmps13 J (G3 ?_);intro n3 hn3 hf3;refine .alloc (cs:=Block.zero.cells) J Block.zr J ?_;intro n4 hn4 hf4;refine G7 ?_;refine .cV J J J J Body52 (dag_valid x p) (fun w h=>hd.ext h) (G3 ?_);refine .cond_f J J (G3 ?_);refine .draw (oPq [0,1,2,103,104,105,6,7,8,209,410,11]) Aq zK (G3 ?_);refine .loadE J J J Y87.h J sP (hd.at (o:=2) J) (.lA J J J Y31.h J Sz31 Z1 (by(simp[h32];done)) ?_);refine .lookFC evE ME hd.2 sP J J J J h32 (fun hg=>?_) (fun e hg=>?_)
 ·
  skip;refine G3 ?_;refine .alloc (cs:=DEnt.zero.cells) J DEnt.zr J ?_;intro n6 hn6 hf6;refine G11 ?_;refine .cond_t J J (G2 ?_);refine .build (cs:=Block.zero.cells) J J J (fun w=>by kernel_rfl) ?_;refine G4 ?_;refine G3 ?_;refine As (out:=[]) (Bg J J J Y37.h J Sz37 Z1 (by exact Block.length (by exact Block.zero_ok))) Ae ?_;exact .inl ⟨DD.noP hg,rfl,rfl⟩
 obtain⟨hs1,hs2⟩:=ck_small (hck _ (La6.2 ⟨_,Be hg,rfl⟩));simp only at hs1 hs2;refine G3 ?_;refine .alloc (cs:=DEnt.zero.cells) J DEnt.zr J ?_;intro n6 hn6 hf6;refine .sA J J J J (DEnt.isCell (by exact hx.entOk hg)) Sz98 (DEnt.length (by exact hx.entOk hg)) Z0 (DEnt.length (by exact DEnt.zero_ok)) zU ?_;refine G10 ?_;refine .cond_f J J (G5 ?_);refine .lN (Block.cells _) J J J Y37.h J Sz37 Z0 (DEnt.row_fBlock (by exact hx.entOk hg)) (DEnt.rl_fBlock (by exact hx.entOk hg)) ?_;refine .call4 J J J J J Body59 (dag_clone e.1.fBlock e.2 (hx.ent _ (Be hg)).2.1.1 oM oM) (fun w h=>(hx.ent _ (Be hg)).2.1.2 w ((Bm hlies h).sub (x.mcb p))) ?_;rintro v26 out26 ⟨B26,h26,rfl,hb26⟩;refine .sA J J J J (Block.isCell (by exact h26.ok)) Sz37 (Block.length (by exact h26.ok)) mR (Block.length (by exact Block.zero_ok)) uU ?_;refine G3 ?_;refine G2 ?_;refine As (out:=(out26++[])) (Bg J J J Y37.h J Sz37 mR (by exact Block.length (by exact h26.ok))) (Ac sG Ae) ?_;exact .inr ⟨e.2,B26,(DD.atP hg).1,h26,rfl,fun W2 hl=>hb26 W2 (by simpa using hl)⟩
theorem row_one{q:Nat}{w:World}{a:List UInt8}(ha:a.length=32)(h:De w q 0 (Aa a)):RowsAt w ⟨some ⟨q,0,none⟩,1,1⟩ 32 [a]:=⟨rfl,fun l hl=>by rw[La1.1 hl];exact ha,Lad 1,SeesP.of (by simpa using h),(by show 1≤maxLen;decide),fun e=>by cases e⟩
open Classical in
noncomputable def rB(X:PD)(above:Int)(L:List (List UInt8))(n:List UInt8):Bool:=decide (X.Reach above L n)
theorem rB_iff{X:PD}{above:Int}{L:List (List UInt8)}{n:List UInt8}:rB X above L n=true↔X.Reach above L n:=by unfold rB;simp
theorem fillP_snoc(X:PD)(l:List DB)(d:DB):fillP X (l++[d])=((fillP X l).add d).1:=by unfold fillP;rw[Ldq];rfl
end Go.Proofs.YtgjnomgkddbhcaaGreat
namespace Go.Proofs.YtgjnomgkddbhcaaGreat
open Go Hw _root_.Go.Proofs.Tryz
variable{B:Blk}{C:Cx}{D:DB}{L ks ls:List (List UInt8)}{W w:World}{X:PD}{b i k o p:Nat}{hp:List Blk}{n:List UInt8}{s:Sl}{x:DD}{α κ ν:Type}{fs:List (κ×ν)}{l:List α}{v:ν}
theorem nil_rows(W:World):RowsAt W Sl.nil 32 []:=rows_none
theorem getD_mem2(h:k<L.length):L.getD k []∈L:=by
  rw[La4,La3 h];exact Lc7 h
theorem P32(hx:x.ok)(h:∃D,Aj x.pl.P n=some D):n.length=32:=by
  obtain⟨D,hD⟩:=h;obtain⟨p,hp,e⟩:=La6.1 (Be (show Aj x.P n=some D from hD));rw[←(Prod.mk.inj e).1];exact(hx.ent p hp).1
theorem C9(hI:X.Inv)(n:List UInt8):n∈X.names↔∃D,Aj X.P n=some D:=by rw[hI.nn];exact key_some
theorem nd_len:∀ {l m:List (List UInt8)},l.Nodup→(∀n∈l,n∈m)→l.length≤m.length
  | [],m,_,_=>Lan _
  | a::l,m,h,hs=>by
    obtain⟨h1,h2⟩:=Lb4.1 h;have ha:=hs a La9;have ih:=nd_len (l:=l) (m:=m.erase a) h2 (fun n hn=>(List.mem_erase_of_ne (fun e=>h1 (by rw[←e];exact hn))).2 (hs n (Laf _ hn)));have hl:=List.length_erase_of_mem ha;have hp:=List.length_pos_of_mem ha;rw[Lay];omega
theorem reach_len(hI:X.Inv)(hnd:ks.Nodup)(hks:∀n,n∈ks↔X.Reach (-1) L n):ks.length≤X.names.length:=nd_len hnd fun n hn=>(C9 hI n).2 (reach_P ((hks n).1 hn))
theorem hB_ok(hx:x.ok){q:Nat}(hl:Lies (x.blks q) W)(h:Aj x.pl.P n=some D):D.ok:=by
  obtain⟨p,hp,e⟩:=La6.1 (Be (show Aj x.P n=some D from h));have:=((hx.ent p hp).2.1.2 W (hl.sub (x.mcb q))).dok;rw[←(Prod.mk.inj e).2];exact this
structure PD.Ord(X:PD):Prop where
  par:∀k p,X.P[k]? =some p→∀m∈Bo p.2,m∈(X.P.take k).map (·.1)
  dep:∀n D,Aj X.P n=some D→(Aj X.dep n).getD 0=(Bo D).foldl (stepP X.dep) 0
theorem step_congr{d1 d2:List (List UInt8×Int)}:∀(l:List (List UInt8)) (a:Int),(∀n∈l,Aj d1 n=Aj d2 n)→l.foldl (stepP d1) a=l.foldl (stepP d2) a
  | [],_,_=>rfl
  | n::l,a,h=>by
    rw[Ldl,Ldl,show stepP d1 a n=stepP d2 a n from by unfold stepP;rw[h n La9]];exact step_congr l _ fun m hm=>h m (Laf _ hm)
theorem PD.Ord.new:PD.new.Ord where
  par:=fun k p h=>by
    have h2:([]:List (List UInt8×DB))[k]? =some p:=h;simp at h2
  dep:=fun n D h=>by cases h
theorem PD.Ord.drop(h:X.Ord)(n:List UInt8):(X.drop1 n).Ord:={ h with }
theorem PD.Ord.adm(hO:X.Ord)(hI:X.Inv)(hnP:n∉X.P.map (·.1))(hr:readyB X.P D=true):(X.adm n D).Ord:=by
  have hP0:Aj X.P n=none:=by
    cases h:Aj X.P n with
    |none=>rfl
    |some E=>exact absurd (La6.2 ⟨(n,E),Be h,rfl⟩) hnP
  have hPe:(X.adm n D).P=X.P++[(n,D)]:=mput_app hP0 D;have hrd:∀m∈Bo D,m∈X.P.map (·.1):=fun m hm=>by
    have:=Lbv.1 hr m hm;obtain⟨E,hE⟩:=Laz.1 this;exact La6.2 ⟨(m,E),Be hE,rfl⟩
  have hd0:Aj X.dep n=none:=by
    cases h:Aj X.dep n with
    |none=>rfl
    |some E=>exact absurd (by rw[←hI.dk];exact La6.2 ⟨(n,E),Be h,rfl⟩) hnP
  have hde:∀m,m≠n→Aj (X.adm n D).dep m=Aj X.dep m:=fun m hm=>mget_old hd0 _ (Ne.symm hm);constructor
  · intro k p hk m hm
    rw[hPe]at hk ⊢;rcases Lb7 k X.P.length with h1|h1
    · rw[Lb0 h1]at hk
      rw[Lcl oM];exact hO.par k p hk m hm
    · have hke:k=X.P.length:=by
        have:=(Laa.1 hk).1;simp at this;omega
      subst hke;rw[Lb1 (Lad _),Lez]at hk;cases hk;rw[Lcl (Lad _),Ldb];exact hrd m hm
  · intro q E hq
    have hq2:Aj (Bh X.P n D) q=some E:=hq;have hnn:∀m∈X.P.map (·.1),m≠n:=fun m hm e=>hnP (e▸hm);by_cases hqn:q=n
    · subst hqn
      rw[mget_new hP0]at hq2;cases hq2;have e1:Aj (X.adm q D).dep q=some ((Bo D).foldl (stepP X.dep) 0):=mget_new hd0 _;rw[e1,Lc1];exact step_congr _ _ fun m hm=>(hde m (hnn m (hrd m hm))).symm
    · rw[mget_old hP0 _ (Ne.symm hqn)]at hq2
      rw[hde q hqn,hO.dep q E hq2];exact step_congr _ _ fun m hm=>(hde m (hnn m (by
        obtain⟨F,hF⟩:=(hI.par q E hq2 m hm).1;exact La6.2 ⟨(m,F),Be hF,rfl⟩))).symm
theorem PD.Ord.settle:∀(f:Nat) {X:PD},X.Inv→X.Ord→(PD.settle f X).1.Ord
  |0,X,_,h=>h
  | f + 1,X,hI,h=>by
    cases hf:X.first with
    |none=>rw[settle_done hf];exact h
    | some n=>
      obtain⟨D,hD,hj⟩:=first_key hf;have hm:=hI.oc _ (Be hD);by_cases h1:Bi X.P D=1
      · rw[settle_fit hf hD h1]
        exact PD.Ord.settle f ((hI.drop n).adm hm.2 (fun h2=>((mdel_keys hI.od n n).1 h2).2 rfl) hm.1 (Dd h1)) ((h.drop n).adm (hI.drop n) hm.2 (Dd h1))
      · rw[settle_wrong hf hD h1]
        exact PD.Ord.settle f (hI.drop n) (h.drop n)
theorem PD.Ord.add(hI:X.Inv)(h:X.Ord)(D:DB):(X.add D).1.Ord:=by
  by_cases hg:dgood D=0
  · cases ht:((Aj X.orp (Az D)).isSome||(Aj X.P (Az D)).isSome)with
    |true=>rw[add_there hg ht];exact h
    | false=>
      have ht2:=ht;rw[Lgn]at ht2;have n1:Az D∉X.orp.map (·.1):=fun hm=>by
        obtain⟨v,hv⟩:=Cr hm;rw[hv]at ht2;cases ht2.1
      have n2:Az D∉X.P.map (·.1):=fun hm=>by
        obtain⟨v,hv⟩:=Cr hm;rw[hv]at ht2;cases ht2.2
      rcases judge_cases X.P D with hj|hj|hj
      · by_cases h64:64≤X.orp.length
        ·rw[add_full hg ht hj h64];exact h
        ·rw[add_keep hg ht hj h64];exact{ h with }
      · rw[add_fits hg ht hj]
        exact PD.Ord.settle _ (hI.adm n2 n1 (good_check hg) (Dd hj)) (h.adm hI n2 (Dd hj))
      ·rw[add_wrong hg ht hj];exact h
  ·rw[add_bad hg];exact h
theorem PD.Ord.fill:∀(ds:List DB) {X:PD},X.Inv→X.Ord→(fillP X ds).Ord
  | [],X,_,h=>h
  |D::ds,X,hI,h=>PD.Ord.fill ds (hI.add D) (PD.Ord.add hI h D)
def PD.dp(X:PD)(n:List UInt8):Int:=(Aj X.dep n).getD 0
theorem PD.Ord.before(hI:X.Inv)(hO:X.Ord)(hk:X.names[k]? =some n):∃D,Aj X.P n=some D∧(∀m∈Bo D,m∈X.names.take k)∧X.dp n=(Bo D).foldl (stepP X.dep) 0:=by
  rw[hI.nn,Lam]at hk;obtain⟨p,hp,rfl⟩:=Lee.1 hk;have hm:=mget_some hI.nd hp;refine⟨p.2,hm,fun m hm2=>?_,hO.dep _ _ hm⟩;rw[hI.nn,←Lbe];exact hO.par k p hp m hm2
abbrev evI(x:Int):Value:=i64 x
theorem MI:MOk prog 58 31 3 (Ao 32 evI) (i64 0):=bytesT_ok _ underlying58 A25 Y5.h size_pos K25 (zr_run Zr3)
theorem MN:MOk prog 178 31 110 (Ao 32 evU) (agg []):=bytesT_ok _ underlying178 A25 Y5.h size_pos K25 (zr_run Zr110)
def setP(ls:List (List UInt8)):List (List UInt8×Unit):=ls.foldl (fun fs n=>Bh fs n ()) []
theorem setP_step(hk:k<ls.length):setP (ls.take (k+1))=Bh (setP (ls.take k)) (ls.getD k []) ():=by
  unfold setP;have e:ls.getD k []=ls[k]:=by rw[La4,La3 hk];rfl
  rw[Lar hk,Ldq,e];rfl
def NSetR(ls:List (List UInt8))(v:Value)(out:List Blk):Prop:=∃m,v= .map (some m)∧out=[A4 m (Ao 32 evU) (setP ls)]
theorem lin_none(x:DD)(hx:x.ok)(h16:∀p∈x.P,p.2.ls.length≤16)(p:Nat):Mv 148 [ptr p 0] (fun W=>Lies (x.blks p) W) (.bool false):=by
 intro W hW;refine Ad func148 J 12 ntmps148 J (G8 ?_);refine .call4 J J J J J Body109 (dag_closure x hx h16 p Sl.nil [] (Lan _)) (fun w h=>⟨Bm hW h,nil_rows w⟩) ?_;rintro v7 out7 (⟨⟨n,hn,_⟩,_⟩|⟨_,s7,ks,rfl,_⟩)
 ·cases hn
 refine G10 ?_;refine .nei J J J J (show(!decide _)=false from congrArg not (decide_eq_true (rfl))) (G3 ?_);refine G2 ?_;refine As (out:=[]) (Af J J) Ae ?_;exact⟨rfl,rfl⟩
theorem lin_set(s:Sl)(ls:List (List UInt8)):Meets prog 149 [s.v] [] (fun W=>RowsAt W s 32 ls) (NSetR ls):=by
 intro W hW;have hlen:=hW.len;have hrow:=hW.row;have hmax:=hW.max;simp only[maxLen]at hmax;refine Ad func149 J 18 ntmps149 J (G7 ?_);refine .mkMap (Ao 32 evU) J J ?_;intro m6;refine G12 ?_;refine .loop (ι:=Nat×List (List UInt8×Unit)) (fun r=>⟨[(2, .map none),(3, .map (some m6)),(7,s.v),(8,i64 (s.n:Int)),(9,i64 (r.1:Int))],[A4 m6 (Ao 32 evU) r.2]⟩) (fun r=>r.1≤s.n∧r.2=setP (ls.take r.1)) (fun r=>s.n-r.1) ((0,[])) ?_ ?_ ?_
 ·exact⟨Lan _,rfl⟩
 ·exact Ag wN (Ab rM Ae)
 rintro⟨k,fs⟩ ⟨hk,hfs⟩;simp only at hk hfs ⊢;refine G6 ?_;refine .condP J (fun hc0=>?_) (fun hc0=>?_)
 ·
  have hk2:k<s.n:=by omega
  obtain⟨b,o,hbp,hbs⟩:=hW.see.at (by rw[A2 hrow];omega);have h32k:(ls.getD k []).length=32:=Ch hrow oM;refine G6 ?_;refine .idxSlP 32 J J J hbp J Y32.h Sz31 k J oM (.loadEN (Aa (ls.getD k [])) J J J Y31.h J Sz31 sP (by rw[Aa,La0];exact h32k) (B0 hrow hbs oM) ?_);refine .alloc (cs:=(Aa (List.replicate 32 0))) J Cj J ?_;intro n5 hn5 hf5;refine .sA J J J J zE Sz31 (by(rw[Aa,La0];assumption)) Z0 sP zU ?_;refine G4 ?_;refine .lA J J J Y31.h J Sz31 Z0 (by(rw[Aa,La0];assumption)) ?_;refine .build (cs:=[]) J J J (fun w=>by kernel_rfl) ?_;refine .mapPut (v:=()) MN J J J J J h32k rM ?_;refine G8 ?_;exact⟨(k+1,Bh fs (ls.getD k []) ()),⟨by simp only;omega,by simp only;rw[setP_step oM,hfs]⟩,by simp only;omega,Ag (wk1 rfl (wk1 rfl (wk1 rfl (wk1 rfl (wk1 (by rw[Lcn];rfl) wk0))))) (Ab rM Ae)⟩
 obtain rfl:k=s.n:=by omega
 refine G11 ?_;refine G2 ?_;refine As (out:=(A4 m6 (Ao 32 evU) fs::[])) (Af J J) (Ab rM Ae) ?_;exact⟨m6,rfl,by rw[hfs,La5 oM]⟩
structure DMap(X:PD)(fs:List (List UInt8×Int))(ks:List (List UInt8)):Prop where
  all:∀n∈ks,Aj fs n=some (X.dp n)
  only:∀n v,Aj fs n=some v→n∈ks
theorem DMap.none(X:PD):DMap X [] []:=⟨fun n hn=>(by cases hn),fun n v h=>(by cases h)⟩
theorem DMap.put{fs:List (List UInt8×Int)}(h:DMap X fs ks)(hn:n∉ks):DMap X (Bh fs n (X.dp n)) (ks++[n]):=by
  have h0:Aj fs n=Option.none:=by
    cases hm:Aj fs n with
    |none=>rfl
    |some v=>exact absurd (h.only n v hm) hn
  constructor
  · intro m hm
    rcases Lab.1 hm with h1|h1
    ·rw[mget_old h0 _ (fun e=>hn (e▸h1))];exact h.all m h1
    ·rw[La1.1 h1];exact mget_new h0 _
  · intro m v hm
    by_cases e:n=m
    ·rw[←e];exact Lau _ La9
    · rw[mget_old h0 _ e]at hm
      exact Lao _ (h.only m v hm)
theorem dp_le(hI:X.Inv)(n:List UInt8):0≤X.dp n:=by
  unfold PD.dp;cases h:Aj X.P n with
  |some D=>exact hI.d0 n D h
  | none=>
    cases h2:Aj X.dep n with
    |none=>exact Lh6 _
    | some v=>
      exfalso;have h3:n∈X.P.map (·.1):=by rw[←hI.dk];exact La6.2 ⟨(n,v),Be h2,rfl⟩
      obtain⟨D,hD⟩:=Cr h3;rw[h]at hD;cases hD
theorem dp_big(hx:x.ok)(n:List UInt8):x.pl.dp n≤x.names.length:=by
  unfold PD.dp;have e:Aj x.pl.dep n=(Aj x.ent n).map fun e=>e.1.fDepth:=mget_map (fun e:EV=>e.1.fDepth) x.ent n;rw[e];cases h:Aj x.ent n with
  |none=>simp
  |some e=>exact(hx.ent _ (Be h)).2.2.2
theorem step_take(hk:k<L.length):(L.take (k+1)).foldl (stepP X.dep) 0=if X.dp (L.getD k [])+1>(L.take k).foldl (stepP X.dep) 0 then X.dp (L.getD k [])+1 else(L.take k).foldl (stepP X.dep) 0:=by
  have e:L.getD k []=L[k]:=by rw[La4,La3 hk];rfl
  rw[Lar hk,Ldq,e];rfl
theorem step_bound{x:DD}(hx:x.ok)(hI:x.pl.Inv):∀(L:List (List UInt8)) (d:Int),0≤d→d≤20001→0≤L.foldl (stepP x.pl.dep) d∧L.foldl (stepP x.pl.dep) d≤20001
  | [],d,h0,h1=>⟨h0,h1⟩
  | a::L,d,h0,h1=>by
    have h2:=dp_big hx a;have h3:=dp_le hI a;have h4:=hx.big;unfold PD.dp at h2 h3;refine step_bound hx hI L _ ?_ ?_<;>unfold stepP<;>split<;>omega
theorem par_open{bl:List Blk}(h:Hw.Acc s bl (Av L) 31 L.length 32)(h0:0<L.length)(h32:∀l∈L,l.length=32):∃b o,s.p=some ⟨b,o,none⟩∧∀w,Lies bl w→∀k,k<L.length→De w b (o+k*32) (Aa (L.getD k [])):=by
  rcases h with ⟨_,_,_,e⟩|⟨q,c,rfl,h1,h2,rfl⟩
  ·omega
  ·exact⟨q,0,rfl,fun w hw k hk=>B0 h32 (sees_kok (hw _ La9) fun j v hj=>by rw[Lb2];exact hj) hk⟩
theorem depth_known(n:List UInt8)(h32:n.length=32)(a b c m:Nat)(fs:List (List UInt8×Int))(k:Int)(hk:Aj fs n=some k):Mv 185 [agg (Aa n),ptr a 0,ptr b 0,ptr c 0] (fun W=>W.cell? ⟨a,0,none⟩=some (.map (some m))∧BlkOk W (A4 m (Ao 32 evI) fs)) (i64 k):=by
 intro W hW;refine Ad func185 J 45 ntmps185 J (G3 ?_);intro n4 hn4 hf4;refine G6 ?_;refine .loadE J J J underlying58 J sP (hW.1) (.lA J J J Y31.h J Sz31 Z0 (by(simp[h32];done)) ?_);refine .lookFC evI MI hW.2 sP J J J J h32 (fun hg=>?_) (fun v hg=>?_)
 ·
  exfalso;rw[hk]at hg;cases hg
 obtain rfl:v=k:=by rw[hk]at hg;exact(Lev hg).symm
 refine G12 ?_;refine .cond_t J J (G6 ?_);refine G3 ?_;refine⟨_,[],Af J J,sP,sP,?_,rfl⟩;rfl
theorem depth_next(x:DD)(hx:x.ok)(hI:x.pl.Inv)(p:Nat)(n:List UInt8)(h32:n.length=32)(D:DB)(hD:Aj x.pl.P n=some D)(a b c m:Nat)(fs:List (List UInt8×Int))(hno:Aj fs n=none)(hpar:∀q∈Bo D,Aj fs q=some (x.pl.dp q))(hdp:x.pl.dp n=(Bo D).foldl (stepP x.pl.dep) 0):Meets prog 185 [agg (Aa n),ptr a 0,ptr b 0,ptr c 0] [m] (fun W=>Lent [A4 m (Ao 32 evI) fs] W∧Lies (x.blks p) W∧(∀b∈x.blks p,b.n≠m)∧(W.cell? ⟨a,0,none⟩=some (.map (some m))∧a≠m)∧(W.cell? ⟨b,0,none⟩=some (ptr p 0)∧b≠m)∧W.cell? ⟨c,0,none⟩=some (.func (.func 185) #[] #[ptr a 0,ptr b 0,ptr c 0])∧c≠m) (fun v out=>v=i64 (x.pl.dp n)∧out=[A4 m (Ao 32 evI) (Bh fs n (x.pl.dp n))]):=by
 intro W hW;have h32q:True:=trivial;obtain⟨_,hlies,hxm,⟨hca,ham⟩,⟨hcb,hbm⟩,hcc,hcm⟩:=id hW;have hck:∀q∈x.P,q.2.check=0:=hI.ck;have h16:D.ls.length≤16:=(ck_small (hck _ (Be hD))).1;have h17:(Bo D).length≤17:=by have:=parL_len D;omega
 have hdk:∀k,0≤((Bo D).take k).foldl (stepP x.pl.dep) 0∧((Bo D).take k).foldl (stepP x.pl.dep) 0≤20001:=fun k=>step_bound hx hI _ 0 (Lh6 _) dE;have hbig:=hx.big;refine calls_of (hp0:=[A4 m (Ao 32 evI) fs]) func185 J 45 ntmps185 J hW.1.rep (G3 ?_);intro n4 hn4 hf4;refine G6 ?_;refine .loadE J J J underlying58 J (by(simp;omega)) (hca) ?_;refine .lA J J J Y31.h J Sz31 Z0 (by(simp[h32];done)) ?_;refine .lookF evI MI J J J J h32 Z1 (fun hg=>?_) (fun v hg=>?_)
 ·
  skip;refine G12 ?_;refine .cond_f J J (G4 ?_);refine .loadE J J J Y25.h J (by(simp;omega)) (hcb) ?_;refine .lA J J J Y31.h J Sz31 Z0 (by(simp[h32];done)) ?_;refine .call4 J J J J J Body13 (dag_get x hx hck p n h32) (fun w h=>Lies.keep hlies h.keeps (fun b hb=>by simpa using hxm b hb)) ?_;rintro v24 out24 (⟨h0,_⟩|⟨D2,B,hD2,hB,rfl,hbi⟩)
  ·exfalso;rw[h0]at hD;cases hD
  obtain rfl:D2=D:=by rw[hD]at hD2;exact(Lev hD2).symm
  refine G3 ?_;refine .alloc (cs:=Block.zero.cells) J Block.zr J ?_;intro n8 hn8 hf8;refine .sA J J J J (Block.isCell (by exact hB.ok)) Sz37 (Block.length (by exact hB.ok)) Z0 (Block.length (by exact Block.zero_ok)) zU ?_;refine G11 ?_;refine .lA J J J Y37.h J Sz37 Z0 (Block.length (by exact hB.ok)) ?_;refine .call4 J J J J J Body65 (db_parA B D2 oM) (fun w h=>hbi w (Lies.of h (by repeat(first|exact Au|refine A3 ?_)))) ?_;rintro v28 out28 ⟨⟨p28,n28,c28⟩,rfl,hac28⟩;have hn28:n28=(Bo D2).length:=hac28.num;have hprow2:∀l∈Bo D2,l.length=32:=parL_row (hB_ok hx hlies hD2);refine G5 ?_;refine .loop (ι:=Nat×Int) (fun r=>⟨[(1,ptr a 0),(2,ptr b 0),(3,ptr c 0),(4,ptr n4 0),(5,i64 0),(10,i64 r.2),(28, .slice p28 n28 c28),(29,i64 (n28:Int)),(30,i64 (r.1:Int))],(out28++(out24++(⟨n4,Aa n,31,(Aa n).length⟩::(A4 m (Ao 32 evI) fs::[]))))⟩) (fun r=>r.1≤n28∧r.2=((Bo D2).take r.1).foldl (stepP x.pl.dep) 0) (fun r=>n28-r.1) ((0,0)) ?_ ?_ ?_
  ·exact⟨Lan _,rfl⟩
  ·exact Ag wN (Ac sG (Ac sG (Ab rM (Ab rM Ae))))
  rintro⟨k,dv⟩ ⟨hk,hdv⟩;simp only at hk hdv ⊢;have hdb:=hdk k;rw[←hdv]at hdb;have hdb2:=dp_le hI ((Bo D2).getD k []);have hdb3:=dp_big hx ((Bo D2).getD k []);refine .seq ?_;skip;refine G5 ?_;refine .condP J (fun hc1=>?_) (fun hc1=>?_)
  ·
   have hk3:k<(Bo D2).length:=by omega
   obtain⟨b28,o28,hp28,see28⟩:∃b o,p28=some ⟨b,o,none⟩∧∀w,Lies out28 w→∀k,k<(Bo D2).length→De w b (o+k*32) (Aa ((Bo D2).getD k [])):=par_open hac28 oM hprow2;have h32q:((Bo D2).getD k []).length=32:=hprow2 _ (getD_mem2 hk3);refine G6 ?_;refine .idxSlP 32 J J J hp28 J Y32.h Sz31 k J oM (.loadSN (n:=32) (Aa ((Bo D2).getD k [])) J J J Y31.h J Sz31 (by rw[Aa,La0];exact h32q) (fun w h=>see28 w (Lies.of h (by repeat(exact Au))) k hk3) ?_);refine .alloc (cs:=(Aa (List.replicate 32 0))) J Cj J ?_;intro n12 hn12 hf12;refine .sA J J J J zE Sz31 (by(rw[Aa,La0];assumption)) Z0 sP zU ?_;refine G4 ?_;refine .loadE J J J underlying181 J (by(simp;omega)) (hcc) ?_;refine .lA J J J Y31.h J Sz31 Z0 (by(rw[Aa,La0];assumption)) ?_;refine .callCV J J J J J Body185 (depth_known ((Bo D2).getD k []) h32q a b c m fs (x.pl.dp ((Bo D2).getD k [])) (hpar _ (getD_mem2 hk3))) (fun w h=>⟨h.keeps.cell (by simpa using ham) hca,B5 h mR⟩) ?_;refine G1 ?_;refine .max2 J J J J (rfl) (G9 ?_);refine⟨(k+1,_),⟨by simp only;omega,?_⟩,by simp only;omega,Ag wN (Ac sG (Ac sG (Ab rM (Ab rM Ae))))⟩;simp only;rw[step_take hk3,←hdv];rfl
  obtain rfl:k=n28:=by omega
  obtain rfl:dv=x.pl.dp n:=by rw[hdv,hdp,La5 oM]
  refine G7 ?_;refine .loadE J J J underlying58 J (by(simp;omega)) (hca) ?_;refine .lA J J J Y31.h J Sz31 mR (by(simp[h32];done)) ?_;refine G1 ?_;refine .mapPut (v:=x.pl.dp n) MI J J J J J h32 rM ?_;refine G8 ?_;refine G2 ?_;refine As (out:=(A4 m (Ao 32 evI) (Bh fs n (x.pl.dp n))::[])) (Af J J) (Ab rM Ae) ?_;exact⟨rfl,rfl⟩
 exfalso;rw[hno]at hg;cases hg
abbrev RE:=RKn×DB
def rkc(l:List RE):List Value:=(l.map fun e=>e.1.cells).flatten
def rp(l:List RE):List (List UInt8×DB):=l.map fun e=>(e.1.fName,e.2)
def rkN(n:List UInt8)(e:RE):Bool:=decide (e.1.fName=n)
theorem rkc_len{l:List RE}(h:∀e∈l,e.1.ok):(rkc l).length=l.length*163:=by
  induction l with
  |nil=>rfl
  | cons a l ih=>
    have h1:rkc (a::l)=a.1.cells++rkc l:=rfl;rw[h1,La2,RKn.length (h a La9),ih fun e he=>h e (Laf _ he),Lay];omega
theorem rkc_app(a b:List RE):rkc (a++b)=rkc a++rkc b:=by simp[rkc]
theorem rkc_one(e:RE):rkc [e]=e.1.cells:=by simp[rkc]
theorem rkc_cell{l:List RE}(h:∀e∈l,e.1.ok):∀u∈rkc l,isCell u=true:=fun u hu=>by
  obtain⟨c,hc,h1⟩:=Lf6.1 hu;obtain⟨e,he,rfl⟩:=La6.1 hc;exact RKn.isCell (h e he) u h1
theorem rk_at{l:List RE}{e:RE}(h:De w b o (rkc l))(hok:∀e∈l,e.1.ok)(he:l[k]? =some e):De w b (o+k*163) e.1.cells:=fun j v hj=>by
  have hlt:=(Laa.1 hj).1;have h1:=flat_get (m:=163) (fun c hc=>by obtain⟨a,ha,rfl⟩:=La6.1 hc;exact RKn.length (hok a ha)) (show(l.map fun e=>e.1.cells)[k]? =some e.1.cells by rw[Lam,he];rfl) hlt;have h2:=h (k*163+j) v (by unfold rkc;rw[h1];exact hj);rwa[←Lcd]at h2
theorem rk_name{l:List RE}{e:RE}(h:De w b o (rkc l))(hok:∀e∈l,e.1.ok)(he:l[k]? =some e):De w b (o+k*163) (Aa e.1.fName):=fun j v hj=>by
  have h1:=rk_at h hok he j v (by have h2:=RKn.see_fName (hok e (Lax he)) j v hj;rwa[Lb2]at h2);exact h1
theorem rk_blk{l:List RE}{e:RE}(h:De w b o (rkc l))(hok:∀e∈l,e.1.ok)(he:l[k]? =some e):De w b (o+k*163+32) e.1.fBlock.cells:=fun j v hj=>by
  have h1:=rk_at h hok he (32+j) v (RKn.see_fBlock (hok e (Lax he)) j v hj);rwa[←Lcd]at h1
theorem rk_wr{l:List RE}{e:RE}(h:De w b o (rkc l))(hok:∀e∈l,e.1.ok)(he:l[k]? =some e):De w b (o+k*163+32) (Aa e.1.fBlock.fWriter):=fun j v hj=>by
  have h1:=rk_blk h hok he j v (by have h2:=Block.see_fWriter (hok e (Lax he)).o_fBlock j v hj;rwa[Lb2]at h2);exact h1
theorem rk_seq{l:List RE}{e:RE}(h:De w b o (rkc l))(hok:∀e∈l,e.1.ok)(he:l[k]? =some e):w.cell? ⟨b,o+k*163+32+32,none⟩=some (u64 e.1.fBlock.fSeq):=
  rk_blk h hok he 32 _ (Block.get_fSeq (hok e (Lax he)).o_fBlock)
theorem rp_any(l:List RE)(n:List UInt8):l.any (rkN n)=(Aj (rp l) n).isSome:=by
  unfold Aj rp;rw[Lea,List.find?_map,Lea,Lec,Lef,List.find?_isSome];exact Iff.rfl
theorem rd_found(l:List RE)(n:List UInt8):(fstBad (rkN n) l= -1∧Aj (rp l) n=none)∨∃(k:Nat) (e:RE),fstBad (rkN n) l=(k:Int)∧l[k]? =some e∧e.1.fName=n∧Aj (rp l) n=some e.2:=by
  cases ha:l.any (rkN n)with
  | false=>
    refine .inl ⟨if_neg (by rw[ha];decide),?_⟩;have h1:=rp_any l n;rw[ha]at h1;exact Lfq.1 (by rw[←Lgu,←h1];rfl)
  | true=>
    have hlt:l.findIdx (rkN n)<l.length:=List.findIdx_lt_length_of_exists (Lef.1 ha);have hp:rkN n l[l.findIdx (rkN n)]=true:=List.findIdx_getElem;refine .inr ⟨l.findIdx (rkN n),l[l.findIdx (rkN n)],if_pos ha,La3 hlt,of_decide_eq_true hp,?_⟩;unfold Aj rp;rw[List.find?_map,show List.find? ((fun p:List UInt8×DB=>decide (p.1=n))∘fun e:RE=>(e.1.fName,e.2)) l=some l[l.findIdx (rkN n)]from Ld5.2 ⟨hp,_,hlt,rfl,fun j hj=>by
      have h2:rkN n l[j]=false:=List.not_of_lt_findIdx hj;rw[show((fun p:List UInt8×DB=>decide (p.1=n))∘fun e:RE=>(e.1.fName,e.2)) l[j]=rkN n l[j]from rfl,h2];rfl⟩]
    rfl
theorem rd_hit{l:List RE}(h:0≤fstBad (rkN n) l):∃(k:Nat) (e:RE),fstBad (rkN n) l=(k:Int)∧l[k]? =some e∧e.1.fName=n∧Aj (rp l) n=some e.2:=by
  rcases rd_found l n with ⟨h1,_⟩|h1
  ·omega
  ·exact h1
theorem rd_no{l:List RE}(h:¬0≤fstBad (rkN n) l):Aj (rp l) n=none:=by
  rcases rd_found l n with ⟨_,h1⟩|⟨k,e,h1,_⟩
  ·exact h1
  ·omega
structure RD where
  sL:Sl
  bL:List Blk
  L:List RE
  sO:Sl
  bO:List Blk
  O:List RE
  cb:List Blk
def RD.blks(x:RD)(p:Nat):List Blk:=⟨p,[x.sL.v,x.sO.v],120,2⟩::(x.bL++(x.bO++x.cb))
structure RD.ok(x:RD):Prop where
  accL:Hw.Acc x.sL x.bL (rkc x.L) 122 x.L.length 163
  accO:Hw.Acc x.sO x.bO (rkc x.O) 122 x.O.length 163
  entL:∀e∈x.L,e.1.ok∧Held x.cb e.1.fBlock e.2∧e.2.ls.length≤16
  entO:∀e∈x.O,e.1.ok∧Held x.cb e.1.fBlock e.2∧e.2.ls.length≤16
  big:x.L.length+x.O.length≤20000
  few:x.O.length≤64
def RD.P(x:RD):List (List UInt8×DB):=rp x.L
def RD.Q(x:RD):List (List UInt8×DB):=rp x.O
theorem rd_L{x:RD}(h:Lies (x.blks p) W):W.cell? ⟨p,0,none⟩=some x.sL.v:=(h _ La9).cell (o:=0) rfl
theorem rd_seeL{x:RD}(hx:x.ok)(h:Lies (x.blks p) W):SeesP W x.sL.p (rkc x.L):=hx.accL.see fun b hb=>h b (Laf _ (Lao _ hb))
theorem rd_cb{x:RD}(h:Lies (x.blks p) W):Lies x.cb W:=fun b hb=>h b (Laf _ (Lau _ (Lau _ hb)))
theorem RD.ok.okL{x:RD}(h:x.ok):∀e∈x.L,e.1.ok:=fun e he=>(h.entL e he).1
theorem RD.ok.okO{x:RD}(h:x.ok):∀e∈x.O,e.1.ok:=fun e he=>(h.entO e he).1
theorem rd_open{l:List RE}(h:SeesP W s.p (rkc l))(hok:∀e∈l,e.1.ok)(hk:k<l.length):∃b o,s.p=some ⟨b,o,none⟩∧De W b o (rkc l):=h.at (by rw[rkc_len hok];omega)
theorem u64_dec(a b:UInt64):decide ((a.toNat:Int)=(b.toNat:Int))=decide (a=b):=by
  by_cases h:a=b
  ·rw[h];simp
  ·rw[decide_eq_false h,decide_eq_false (fun e=>h (Lbn.1 oM))]
theorem r15_parA(B:Block)(D:DB)(hn:D.ls.length≤500000):Meets prog 39 [agg B.cells] [] (fun W=>BlockIs W B D) (RowA (Bo D)):=fun W hW=>by
  have e1:=hW.ls.len;have hsq:=hW.seq;have hL:=parL_row hW.dok;by_cases hs:(B.fSeq.toNat:Int)=0
  · have hp:Bo D=D.ls:=if_pos (by rw[←hsq];exact Lbn.1 (by show B.fSeq.toNat=0;omega))
    rw[hp]at hL ⊢;by_cases h0:B.fLinks.n=0
    · have hl0:D.ls=[]:=Lag oM
      exact(r15_parents_nil B hW.ok D.ls oM hs h0 W hW.ls).mono fun e W' ⟨v,out,h1,⟨h2,h3⟩,h4⟩=>⟨v,out,h1,⟨Sl.nil,h2,by rw[hl0,h3];exact Acc.none⟩,h4⟩
    ·exact(r15_parents_0 B hW.ok D.ls oM hs oM W hW.ls).mono fun e W' ⟨v,out,h1,h2,h4⟩=>⟨v,out,h1,fresh_rowA hL e1 h2,h4⟩
  · have hp:Bo D=D.prev::D.ls:=if_neg (fun e=>hs (by rw[hsq,e];rfl))
    rw[hp]at hL ⊢;rw[←hW.prev]at hL ⊢;exact(r15_parents_s B hW.ok D.ls oM hs W hW.ls).mono fun e W' ⟨v,out,h1,h2,h4⟩=>⟨v,out,h1,fresh_rowA hL (by rw[Lay];omega) h2,h4⟩
theorem rd_new  :Meets prog 68 [] [] (fun _=>True) (fun v out=>∃p,v=ptr p 0∧out=(⟨Sl.nil,[],[],Sl.nil,[],[],[]⟩:RD).blks p):=by
 intro W hW;refine Ad func68 J 3 ntmps68 J (G7 ?_);refine .build (cs:=[.slice none 0 0, .slice none 0 0]) J J J (fun w=>by kernel_rfl) ?_;refine G1 ?_;intro n2 hn2 hf2;refine G3 ?_;refine G2 ?_;refine As (out:=(⟨n2,[.slice none 0 0, .slice none 0 0],120,2⟩::[])) (Af J J) (Ab rM Ae) ?_;exact⟨n2,rfl,rfl⟩
theorem rd_find(s:Sl)(l:List RE)(hl:l.length=s.n)(hok:∀e∈l,e.1.ok)(hb:s.n≤100000)(n:List UInt8)(h32:n.length=32):Mv 75 [s.v,agg (Aa n)] (fun W=>SeesP W s.p (rkc l)) (i64 (fstBad (rkN n) l)):=by
 intro W hW;have h32k:True:=trivial;refine Ad func75 J 20 ntmps75 J (.sr (.boxA J J ?_));intro n3 hn3 hf3;refine .a J J J (.na (.seq (.sr (.a J J J (.na (.block (.loop (ι:=Nat) (fun k=>⟨[(0,s.v),(3,ptr n3 0),(5,i64 (k:Int))],[⟨n3,Aa n,31,(Aa n).length⟩]⟩) (fun k=>k≤s.n∧∀j,j<k→(l.map (rkN n))[j]? =some false) (fun k=>s.n-k) (0) ?_ ?_ ?_)))))))
 ·exact⟨by omega,fun j hj=>by omega⟩
 ·exact Ah wN (wh1 Z0 wh0) nD
 rintro k ⟨hk,hg⟩;refine .seq (.sr (.m J J J (.m J J J (.lenSl J J J Y118.h (.lss J J J J J (.na (.condP J (fun hc0=>?_) (fun hc0=>?_))))))))
 ·
  have hk2:k<l.length:=by omega
  obtain⟨b,o,hbp,hbs⟩:=rd_open hW hok hk2;obtain⟨e,hd⟩:∃e,l[k]? =some e:=⟨_,La3 hk2⟩;have h32k:e.1.fName.length=32:=(hok e (Lax hd)).l_fName;refine .skip (A7 (.seq (.block (.seq (.draw (oPq [0,1,2,3,104,105,6]) Aq zK (.m J J J (.m J J J (.idxSlP 163 J J J hbp J Y118.h Sz122 k (by rfl) oM ?_))))))));refine .fld J J J Y122.h J Sz31 dE _ J (.loadEN (Aa e.1.fName) J J J Y31.h J Sz31 sP (by rw[Aa,La0];exact h32k) (rk_name hbs hok hd) ?_);refine .lA J J J Y31.h J Sz31 Z0 (by(simp[h32];done)) ?_;refine .eql_bytes J J J J eqGuardType31 Y31.h Y5.h Sz5 (by(simp[h32k];done)) (by(simp[h32];done)) J ?_;refine .na (.condP J (fun hc1=>?_) (fun hc1=>?_))
  ·
   refine .sr (.m J J J (.a J J J (.na ?_)));refine .ret (bl_r (at_r (at_r (bl_r (at_r (C6 ?_))))));refine⟨_,[],Af J J,sP,sP,?_,rfl⟩;exact congrArg i64 (fstBad_at hg (by rw[Lam,hd];simpa[rkN]using hc1)).symm
  refine .skip (bl_n (A7 (.region (.m J J J (.aI J J J J oM (.a J J J (.na ?_)))))));exact⟨k+1,⟨by omega,fun j hj=>by rcases Lcc.1 hj with h|rfl;exact hg j h;rw[Lam,hd];simpa[rkN]using hc1⟩,by omega,Ah wN (wh1 Z0 wh0) nD⟩
 obtain rfl:k=s.n:=by omega
 refine .exit (at_x (at_x (bl_h (A7 (.sr (.a J J J (.na ?_)))))));refine .ret (C6 ?_);refine⟨_,[],Af J J,sP,sP,?_,rfl⟩;exact congrArg i64 (fstBad_none (by intro j hj;exact hg j (by rw[hl]at hj;exact hj))).symm
theorem rd_has(x:RD)(hx:x.ok)(p:Nat)(n:List UInt8)(h32:n.length=32):Mv 31 [ptr p 0,agg (Aa n)] (fun W=>Lies (x.blks p) W) (.bool (Aj x.P n).isSome):=by
 intro W hW;have hbig:=hx.big;have hnL:=hx.accL.num;have hnO:=hx.accO.num;have hcL:=rd_L hW;have hsL:=rd_seeL hx hW;refine Ad func31 J 12 ntmps31 J (.sr (.boxA J J ?_));intro n3 hn3 hf3;refine .a J J J (.na (.seq (.draw (oPq [0,1,2,103,104,305,6,7]) Aq zK (.m J J J (.nC J J J (.fld J J J Y120.h J Sz118 dE _ J (.loadE J J J Y118.h J sP (hcL) (.lA J J J Y31.h J Sz31 Z0 (by(simp[h32];done)) ?_))))))));refine .cV J J J J Body75 (rd_find x.sL x.L hnL.symm hx.okL oM n h32) (fun w h=>A5 h J hsL) (.geq J J J J J (.a J J J (.na ?_)));refine .ret (C6 ?_);refine⟨_,[],Af J J,sP,sP,?_,rfl⟩;exact congrArg Value.bool ((fstBad_ge _ _).trans (rp_any _ _))
theorem rd_wrong(x:RD)(hx:x.ok)(p:Nat)(B:Block)(D:DB)(hB:SameB B D):Mv 105 [ptr p 0,agg B.cells] (fun W=>Lies (x.blks p) W) (.bool (wrongB x.P D)):=by
  intro W hW;have hbig:=hx.big;have hnL:=hx.accL.num;have hnO:=hx.accO.num;have hcL:=rd_L hW;have hsL:=rd_seeL hx hW;refine Ad func105 J 49 ntmps105 J (.sr (.boxA J J ?_));intro n3 hn3 hf3;refine .a J J J (.na (.seq (.draw (oPq [0,1,2,103,4,105,306,7]) Aq zK (.m J J J (.nC J J J (.fld J J J Y120.h J Sz118 dE _ J (.loadE J J J Y118.h J sP (hcL) (.fld J J J Y37.h J Sz31 dE _ J (.lN (Aa _) J J J Y31.h J Sz31 Z0 (Block.row_fPrev (by exact hB.ok)) (Block.rl_fPrev (by exact hB.ok)) ?_)))))))));refine .cV J J J J Body75 (rd_find x.sL x.L hnL.symm hx.okL oM B.fPrev hB.ok.l_fPrev) (fun w h=>A5 h J hsL) (.a J J J (.na (.seq (.draw (oPq [0,101,2,3,4,5,6,7,8,9,10,111,12,13,14,15,116,17,118,19,20,21,22,23,124,25,26,27,28,129,30,131,32,33,34,35,36]) Aq zK (.fld J J J Y37.h J Sz30 dE _ J (.load1 J J J Y30.h J Z0 (by exact Block.get_fSeq (by exact hB.ok)) ?_))))));refine two (fun r hr k=>Tr.gtr J J J J hr k) (fun hs2_20=>?_) (fun hs2_20=>?_)
  ·
    have hs2_2:=of_decide_eq_true hs2_20;refine .m J J J (.m J J J (two (fun r hr k=>Tr.geq J J J J hr k) (fun hs2_50=>?_) (fun hs2_50=>?_)))
    ·
      have hs2_5:=of_decide_eq_true hs2_50;obtain⟨k,e,hf,hk,hn,hm⟩:=rd_hit hs2_5;rw[hB.prev]at hm;have hek:=hx.entL e (Lax hk);have hel:=hek.1.o_fBlock.l_fWriter;have hkl:=(Laa.1 hk).1;obtain⟨b,o,hbp,hbs⟩:=rd_open hsL hx.okL hkl;refine .pick J J J J J J (.m J J J (.m J J J (.nC J J J (.fld J J J Y120.h J Sz118 dE _ J (.loadE J J J Y118.h J sP (hcL) (.m J J J (.idxSlP 163 J J J hbp J Y118.h Sz122 k oM oM (.fld J J J Y122.h J Sz37 dE _ J (.fld J J J Y37.h J Sz29 dE _ J (.loadEN (Aa e.1.fBlock.fWriter) J J J Y29.h J Sz29 sP (by rw[Aa,La0];exact hel) (rk_wr hbs hx.okL hk) ?_))))))))));refine .fld J J J Y37.h J Sz29 dE _ J (.lN (Aa _) J J J Y29.h J Sz29 Z0 (Block.row_fWriter (by exact hB.ok)) (Block.rl_fWriter (by exact hB.ok)) ?_);refine two (fun r hr k=>Tr.neq_bytes J J J J eqGuardType29 Y29.h Y5.h Sz5 zA (by(simp[hB.ok.l_fWriter];done)) hr k) (fun hs2_190=>?_) (fun hs2_190=>?_)
      ·
        have hs2_19:=nd_t hs2_190;refine .m J J J (.skp J J (.skp J J (.skp J J (.skp J J (.skp J J (.skp J J (.skp J J (.skp J J (.skp J J (.skp J J (.skp J J (.skp J J (.skp J J (.pick J J J J J J (.pick J J J J J J (.a J J J (.na ?_)))))))))))))))));refine .ret (C6 ?_);refine⟨_,[],Af J J,sP,sP,?_,rfl⟩;rw[show x.P=rp x.L from rfl];first
          |(simp[wrong_none hm];done)
          |(simp[wrong_seq (show D.seq=0 by rw[←hB.seq];exact u64_eq (b:=0) (by have h9:((0:UInt64).toNat:Int)=0:=rfl;omega))];done)
          | (have hsq:D.seq≠0:=fun h=>by rw[hB.seq,h]at hs2_2;simp at hs2_2
             rw[wrong_some hsq hm,←hek.2.1.1.w,←hek.2.1.1.seq,←hB.w,←hB.seq];simp[hs2_19])
      have hs2_19:=nd_f hs2_190;refine .m J J J (.m J J J (.nC J J J (.fld J J J Y120.h J Sz118 dE _ J (.loadE J J J Y118.h J sP (hcL) (.m J J J (.idxSlP 163 J J J hbp J Y118.h Sz122 k oM oM (.fld J J J Y122.h J Sz37 dE _ J (.fld J J J Y37.h J Sz30 dE _ J (.loadE J J J Y30.h J sP (rk_seq hbs hx.okL hk) (.fld J J J Y37.h J Sz30 dE _ J (.load1 J J J Y30.h J Z0 (by exact Block.get_fSeq (by exact hB.ok)) ?_)))))))))));refine .sub_u64 J J J (show Ai _ _=some (u64 1)from rfl) (.nei J J J J J (.pick J J J J J J (.pick J J J J J J (.a J J J (.na ?_)))));refine .ret (C6 ?_);refine⟨_,[],Af J J,sP,sP,?_,rfl⟩;rw[show x.P=rp x.L from rfl];first
        |(simp[wrong_none hm];done)
        |(simp[wrong_seq (show D.seq=0 by rw[←hB.seq];exact u64_eq (b:=0) (by have h9:((0:UInt64).toNat:Int)=0:=rfl;omega))];done)
        | (have hsq:D.seq≠0:=fun h=>by rw[hB.seq,h]at hs2_2;simp at hs2_2
           rw[wrong_some hsq hm,←hek.2.1.1.w,←hek.2.1.1.seq,←hB.w,←hB.seq];simp[hs2_19,u64_dec])
    have hs2_5:=of_decide_eq_false hs2_50;have hm:=rd_no hs2_5;rw[hB.prev]at hm;refine .pick J J J J J J (.m J J J (.skp J J (.skp J J (.skp J J (.skp J J (.skp J J (.skp J J (.skp J J (.skp J J (.skp J J (.skp J J (.skp J J (.skp J J (.skp J J (.skp J J (.skp J J (.skp J J (.skp J J (.skp J J (.skp J J (.skp J J (.skp J J (.skp J J (.skp J J (.skp J J (.skp J J (.skp J J (.skp J J (.pick J J J J J J (.a J J J (.na ?_)))))))))))))))))))))))))))))));refine .ret (C6 ?_);refine⟨_,[],Af J J,sP,sP,?_,rfl⟩;rw[show x.P=rp x.L from rfl];first
      |(simp[wrong_none hm];done)
      |(simp[wrong_seq (show D.seq=0 by rw[←hB.seq];exact u64_eq (b:=0) (by have h9:((0:UInt64).toNat:Int)=0:=rfl;omega))];done)
      | (have hsq:D.seq≠0:=fun h=>by rw[hB.seq,h]at hs2_2;simp at hs2_2
         rw[wrong_some hsq hm,←hek.2.1.1.w,←hek.2.1.1.seq,←hB.w,←hB.seq];simp[hs2_19,u64_dec])
  have hs2_2:=of_decide_eq_false hs2_20;refine .m J J J (.skp J J (.skp J J (.pick J J J J J J (.m J J J (.skp J J (.skp J J (.skp J J (.skp J J (.skp J J (.skp J J (.skp J J (.skp J J (.skp J J (.skp J J (.skp J J (.skp J J (.skp J J (.skp J J (.skp J J (.skp J J (.skp J J (.skp J J (.skp J J (.skp J J (.skp J J (.skp J J (.skp J J (.skp J J (.skp J J (.skp J J (.skp J J (.pick J J J J J J (.a J J J (.na ?_))))))))))))))))))))))))))))))))));refine .ret (C6 ?_);refine⟨_,[],Af J J,sP,sP,?_,rfl⟩;rw[show x.P=rp x.L from rfl];first
    |(simp[wrong_none hm];done)
    |(simp[wrong_seq (show D.seq=0 by rw[←hB.seq];exact u64_eq (b:=0) (by have h9:((0:UInt64).toNat:Int)=0:=rfl;omega))];done)
    | (have hsq:D.seq≠0:=fun h=>by rw[hB.seq,h]at hs2_2;simp at hs2_2
       rw[wrong_some hsq hm,←hek.2.1.1.w,←hek.2.1.1.seq,←hB.w,←hB.seq];simp[hs2_19,u64_dec])
theorem rd_ready(x:RD)(hx:x.ok)(p:Nat)(B:Block)(D:DB)(hB:SameB B D)(hs:D.ls.length≤16):Mv 106 [ptr p 0,agg B.cells] (fun W=>Lies (x.blks p) W∧BlockIs W B D) (.bool (readyB x.P D)):=by
 intro W hW;have hbig:=hx.big;have hnL:=hx.accL.num;have hnO:=hx.accO.num;have hcL:=rd_L hW.1;have hsL:=rd_seeL hx hW.1;have h32k:True:=trivial;have hprow:=parL_row hW.2.dok;have hpl:=parL_len D;refine Ad func106 J 22 ntmps106 J (G3 ?_);intro n3 hn3 hf3;refine G5 ?_;refine .lA J J J Y37.h J Sz37 Z0 (Block.length (by exact hB.ok)) ?_;refine .call4 J J J J J Body39 (r15_parA B D oM) (fun w h=>hW.2.ext h J) ?_;rintro v8 out8 ⟨s8,rfl,hac8⟩;have hn8:=hac8.num;refine G10 ?_;refine .loop (ι:=Nat) (fun k=>⟨[(0,ptr p 0),(5,s8.v),(6,i64 (k:Int))],(out8++[])⟩) (fun k=>k≤s8.n∧∀j,j<k→(Aj x.P ((Bo D).getD j [])).isSome=true) (fun k=>s8.n-k) (0) ?_ ?_ ?_
 ·exact⟨Lan _,fun j hj=>absurd hj (Leb _)⟩
 ·exact Ag wN (Ac sG Ae)
 rintro k ⟨hk,hg⟩;refine G9 ?_;refine .condP J (fun hc0=>?_) (fun hc0=>?_)
 ·
  have hk2:k<(Bo D).length:=by omega
  have h32k:((Bo D).getD k []).length=32:=hprow _ (getD_mem2 hk2);refine G9 ?_;obtain⟨b8,o8,hp8,see8⟩:=par_open hac8 oM hprow;refine .idxSlP 32 J J J hp8 J Y32.h Sz31 k J oM (.loadSN (n:=32) (Aa ((Bo D).getD k [])) J J J Y31.h J Sz31 (by rw[Aa,La0];exact h32k) (fun w h=>see8 w (Lies.of h (by repeat(exact Au))) k oM) ?_);refine .cV J J J J Body31 (rd_has x hx p ((Bo D).getD k []) h32k) (fun w h=>Bm hW.1 h) (G3 ?_);refine .cond J (fun hc1=>?_) (fun hc1=>?_)
  ·
   refine G5 ?_;refine G7 ?_;refine As (out:=[]) (Af J J) Ae ?_;refine⟨congrArg Value.bool (Eq.symm ?_),rfl⟩;unfold readyB;exact Lh0.2 ⟨_,getD_mem2 (show k<(Bo D).length by omega),by simpa using hc1⟩
  refine G9 ?_;exact⟨k+1,⟨by omega,fun j hj=>by rcases Lcc.1 hj with h|rfl;exact hg j h;simpa using hc1⟩,by omega,Ag wN (Ac sG Ae)⟩
 obtain rfl:k=s8.n:=by omega
 refine G10 ?_;refine G2 ?_;refine As (out:=[]) (Af J J) Ae ?_;refine⟨congrArg Value.bool (Eq.symm ?_),rfl⟩;unfold readyB;refine Lbv.2 fun n hn=>?_;obtain⟨j,hj,rfl⟩:=Lbo hn;have h9:=hg j oM;rwa[La4,La3 hj]at h9
theorem nodup_inj{α β:Type}{f:α→β}{l:List α}(h:(l.map f).Nodup)(a:α)(ha:a∈l)(b:α)(hb:b∈l)(e:f a=f b):a=b:=by
  obtain⟨i,hi,rfl⟩:=Lbo ha;obtain⟨j,hj,rfl⟩:=Lbo hb;have h2:=Ldr.1 h;rcases Lgf i j with h3|h3|h3
  ·exact absurd (by rw[Lfv,Lfv];exact e) (h2 i j (by simpa using hi) (by simpa using hj) h3)
  ·subst h3;rfl
  ·exact absurd (by rw[Lfv,Lfv];exact e.symm) (h2 j i (by simpa using hj) (by simpa using hi) h3)
theorem names_apart{A B:Blk}(h:HRep C hp w)(hA:A∈hp)(hB:B∈hp)(hc:¬A.cs.length=B.cs.length):A.n≠B.n:=fun e=>hc (by rw[nodup_inj h.nodup A hA B hB e])
theorem own_apart{hp L:List Blk}(h:HRep C hp w)(hB:B∈hp)(hL:Lies L C.W0)(hl:C.lent=[]:=by rfl):∀b∈L,b.n≠B.n:=fun b hb e=>by
  have h1:=(hL b hb).lt;rcases h.own B hB with h2|h2
  ·omega
  ·rw[hl]at h2;cases h2
def DepV(X:PD)(p a b c m:Nat)(fs:List (List UInt8×Int))(ks:List (List UInt8))(v:Value)(bl:List Blk):Prop:=
  v= .func (.func 185) #[] #[ptr a 0,ptr b 0,ptr c 0]∧bl=[A4 m (Ao 32 evI) fs,⟨c,[.func (.func 185) #[] #[ptr a 0,ptr b 0,ptr c 0]],181,1⟩,⟨a,[.map (some m)],58,1⟩,⟨b,[ptr p 0],25,1⟩]∧DMap X fs ks
def DepR(X:PD)(p:Nat)(ls:List (List UInt8))(v:Value)(out:List Blk):Prop:=∃a b c m fs ks,DepV X p a b c m fs ks v out∧∀n∈ls,n∈X.names→n∈ks
theorem mput_in[DecidableEq κ]{q:κ×ν}{a:κ}(hq:q∈fs):q.1∈(Bh fs a v).map (·.1):=by
  unfold Bh;cases h:midx fs a with
  |none=>exact La6.2 ⟨q,Lao _ hq,rfl⟩
  | some j=>
    simp only;obtain⟨i,hi,e⟩:=Lbo hq;unfold midx at h;rw[Lbq]at h;obtain⟨hl,he,_⟩:=h;by_cases hij:j=i
    · subst hij
      rw[e]at he;exact La6.2 ⟨(a,v),List.mem_set hl _,by rw[←of_decide_eq_true he]⟩
    · refine La6.2 ⟨q,?_,rfl⟩
      rw[←e];exact Ler.2 ⟨i,by rw[Lbs];exact hi,List.getElem_set_ne hij _⟩
theorem setP_keys(ls:List (List UInt8)):((setP ls).map (·.1)).Nodup∧∀n∈ls,n∈(setP ls).map (·.1):=by
  have key:∀(l:List (List UInt8)) (fs:List (List UInt8×Unit)),(fs.map (·.1)).Nodup→((l.foldl (fun fs n=>Bh fs n ()) fs).map (·.1)).Nodup∧∀n,(n∈l∨n∈fs.map (·.1))→n∈(l.foldl (fun fs n=>Bh fs n ()) fs).map (·.1):=by
    intro l
    induction l with
    |nil=>intro fs h;exact⟨h,fun n hn=>by rcases hn with h1|h1;cases h1;exact h1⟩
    | cons a l ih=>
      intro fs h;obtain⟨h1,h2⟩:=ih (Bh fs a ()) (mput_nodup h a ());refine⟨h1,fun n hn=>h2 n ?_⟩;by_cases e:n=a
      · right
        rw[e];cases hm:Aj fs a with
        |none=>exact La6.2 ⟨(a,()),Be (mget_new hm ()),rfl⟩
        |some u=>exact mput_in (q:=(a,u)) (Be hm)
      · rcases hn with hn|hn
        · rcases Laj.1 hn with hn|hn
          ·exact absurd hn e
          ·exact .inl hn
        · obtain⟨q,hq,rfl⟩:=La6.1 hn
          exact .inr (mput_in hq)
  obtain⟨h1,h2⟩:=key ls [] Ld0;exact⟨h1,fun n hn=>h2 n (.inl hn)⟩
theorem take_succ_getD(hk:k<L.length):L.take (k+1)=L.take k++[L.getD k []]:=by
  rw[Lar hk,La4,La3 hk];rfl
theorem not_before(h:L.Nodup)(hk:k<L.length):L.getD k []∉L.take k:=by
  have h2:(L.take (k+1)).Nodup:=h.sublist (List.take_sublist _ _);rw[take_succ_getD hk,Lb5]at h2;exact fun hm=>h2.2.2 _ hm _ La9 rfl
theorem lin_depths(x:DD)(hx:x.ok)(hI:x.pl.Inv)(hO:x.pl.Ord)(p:Nat)(s:Sl)(ls:List (List UInt8)):Meets prog 151 [ptr p 0,s.v] [] (fun W=>Lies (x.blks p) W∧RowsAt W s 32 ls) (DepR x.pl p ls):=by
  intro W hW;have h32k:True:=trivial;have hbig:=hx.big;have hnln:x.pl.names.length=x.names.length:=rfl;have hnd:x.pl.names.Nodup:=by rw[hI.nn];exact hI.nd
  refine Ad func151 J 31 ntmps151 J (.sr (.box1 J J J ?_));intro n2 hn2 hf2;refine .a J J J (.nsr (.mkMap (Ao 32 evI) J J ?_));intro m10;refine .alloc (cs:=[.map none]) J Zr58 J ?_;intro n5 hn5 hf5;refine .s1 J J J J J Sz58 Z0 sP (by rfl) zU ?_;refine .nsr (.alloc (cs:=[.nilFunc]) J Zr181 J ?_);intro n6 hn6 hf6;refine .nsr (.makeFunc J J J J (.s1 J J J J J Sz181 Z0 sP (by rfl) zU ?_));refine .nsr (.m J J J (.call4 J J J J J Body149 (lin_set s ls) (fun w h=>Cw h J hW.2) ?_));rintro v13 out13 ⟨m13,rfl,rfl⟩;refine .a J J J (.na (.seq (.sr (.load1 J J J Y25.h J Z4 (by rfl) ?_))));refine .call4 J J J J J Body16 (dag_names x hx p) (fun w h=>Bm hW.1 h) ?_;rintro v15 out15 ⟨s15,rfl,hac15⟩;have hn15:=hac15.num;refine .lenSl J J J Y32.h (.m J J J (.na (.block (.loop (ι:=Nat×List (List UInt8×Int)×List (List UInt8×Unit)) (fun r=>⟨[(2,ptr n2 0),(4, .nilFunc),(5,ptr n5 0),(6,ptr n6 0),(7, .map (some m13)),(15,s15.v),(16,i64 (s15.n:Int)),(17,i64 (r.1:Int))],(A4 m10 (Ao 32 evI) r.2.1::(A4 m13 (Ao 32 evU) r.2.2::(out15++(⟨n6,[.func (.func 185) #[] #[ptr n5 0,ptr n2 0,ptr n6 0]],181,1⟩::(⟨n5,[.map (some m10)],58,1⟩::(⟨n2,[ptr p 0],25,1⟩::[]))))))⟩) (fun r=>r.1≤s15.n∧DMap x.pl r.2.1 (x.pl.names.take r.1)∧(r.2.2.map (·.1)).Nodup∧∀n∈ls,n∈x.pl.names.take r.1∨n∈r.2.2.map (·.1)) (fun r=>s15.n-r.1) ((0,[],setP ls)) ?_ ?_ ?_))))
  ·exact⟨Lan _,DMap.none _,(setP_keys ls).1,fun n hn=> .inr ((setP_keys ls).2 n hn)⟩
  ·exact Ag wN (Ab rM (Ab (by repeat(first|exact A9|apply Ce)) (Ac sG (Ab rM (Ab rM (Ab rM Ae))))))
  rintro⟨k,fs,rs⟩ ⟨hk,hfs,hrn,hrs⟩;simp only at hk hfs hrn hrs ⊢;refine .sr (.lss J J J J J (.na (.seq (.condP J (fun hc0=>?_) (fun hc0=>?_)))))
  ·
    have hk3:k<x.pl.names.length:=by omega
    obtain⟨b15,o15,hp15,see15⟩:=par_open hac15 oM hx.n32;have h32k:(x.pl.names.getD k []).length=32:=hx.n32 _ (getD_mem2 hk3);obtain⟨D,hD,hbef,hdp⟩:=hO.before hI (k:=k) (n:=(x.pl.names.getD k [])) (by rw[La4,La3 hk3];rfl);have hno:Aj fs (x.pl.names.getD k [])=none:=by
      cases h9:Aj fs (x.pl.names.getD k [])with
      |none=>rfl
      |some v9=>exact absurd (hfs.only _ _ h9) (not_before hnd hk3)
    have hpar:∀q∈Bo D,Aj fs q=some (x.pl.dp q):=fun q hq=>hfs.all q (hbef q hq);refine .skip (A7 (.seq (.block (.sr (.idxSlP 32 J J J hp15 J Y32.h Sz31 k J oM (.loadSN (n:=32) (Aa (x.pl.names.getD k [])) J J J Y31.h J Sz31 (by rw[Aa,La0];exact h32k) (fun w h=>see15 w (Lies.of h (by repeat(first|exact Au|refine A3 ?_))) k hk3) ?_))))));refine .alloc (cs:=(Aa (List.replicate 32 0))) J Cj J ?_;intro n9 hn9 hf9;refine .sA J J J J zE Sz31 (by(rw[Aa,La0];assumption)) Z0 sP zU ?_;refine .na (.seq (.sr (.m J J J (.lenMap underlying178 J J J Z2 ?_))));refine .eqi J J J J J (.na (.condP J (fun hc1=>?_) (fun hc1=>?_)))
    ·
      have hfin:∀n∈ls,n∈x.pl.names→n∈x.pl.names.take k:=fun n hn _=>by
        rcases hrs n hn with h9|h9
        ·exact h9
        · have hz:rs=[]:=Lag oM
          rw[hz]at h9;cases h9
      refine .exit (at_x (bl_x J (at_x (at_x (bl_h (A7 (.sr (.load1 J J J underlying181 J mR (by rfl) ?_))))))));refine .a J J J (.na ?_);refine .ret (C6 (As (out:=(A4 m10 (Ao 32 evI) fs::(⟨n6,[.func (.func 185) #[] #[ptr n5 0,ptr n2 0,ptr n6 0]],181,1⟩::(⟨n5,[.map (some m10)],58,1⟩::(⟨n2,[ptr p 0],25,1⟩::[]))))) (Af J J) (Ab rM (Ab rM (Ab rM (Ab rM Ae)))) ?_));exact⟨n5,n2,n6,m10,fs,_,⟨rfl,rfl,hfs⟩,hfin⟩
    refine .skip (A7 (.sr (.load1 J J J underlying181 J mR (by rfl) ?_)));refine .lA J J J Y31.h J Sz31 Z0 (by(rw[Aa,La0];assumption)) ?_;refine .callCL (L:=[A4 m10 (Ao 32 evI) fs]) J J J J J J Body185 (depth_next x hx hI p (x.pl.names.getD k []) h32k D hD n5 n2 n6 m10 fs hno hpar hdp) (show List.Perm _ (A4 m10 (Ao 32 evI) fs::_)from rM) (C5 J) (fun w h=>⟨Lent.of h (by repeat(first|exact Df|apply sg_there)),Bm hW.1 h,own_apart (B:=A4 m10 (Ao 32 evI) fs) h Z1 hW.1,⟨(B5 (B:=⟨n5,[.map (some m10)],58,1⟩) h mR).cell (o:=0) J,names_apart (A:=⟨n5,[.map (some m10)],58,1⟩) (B:=A4 m10 (Ao 32 evI) fs) h mR Z1 (by show ¬(1:Nat)=0;decide)⟩,⟨(B5 (B:=⟨n2,[ptr p 0],25,1⟩) h mR).cell (o:=0) J,names_apart (A:=⟨n2,[ptr p 0],25,1⟩) (B:=A4 m10 (Ao 32 evI) fs) h mR Z1 (by show ¬(1:Nat)=0;decide)⟩,(B5 (B:=⟨n6,[.func (.func 185) #[] #[ptr n5 0,ptr n2 0,ptr n6 0]],181,1⟩) h mR).cell (o:=0) J,names_apart (A:=⟨n6,[.func (.func 185) #[] #[ptr n5 0,ptr n2 0,ptr n6 0]],181,1⟩) (B:=A4 m10 (Ao 32 evI) fs) h mR Z1 (by show ¬(1:Nat)=0;decide)⟩) ?_;rintro v26 out26 ⟨rfl,rfl⟩;refine .na (.region (.m J J J (.lA J J J Y31.h J Sz31 Z1 (by(rw[Aa,La0];assumption)) ?_)));refine .mapDel MN J J J J h32k rM ?_;refine .nil (bl_n (A7 (.region (.aI J J J J oM (.m J J J (.na ?_))))));refine⟨(k+1,Bh fs (x.pl.names.getD k []) (x.pl.dp (x.pl.names.getD k [])),mdel rs (x.pl.names.getD k [])),⟨by simp only;omega,?_,mdel_nodup hrn _,fun n hn=>?_⟩,by simp only;omega,Ag wN (Ab rM (Ab rM (Ac sG (Ab rM (Ab rM (Ab rM Ae))))))⟩
    ·simp only;rw[take_succ_getD hk3];exact hfs.put (not_before hnd hk3)
    · simp only
      by_cases e:n=(x.pl.names.getD k [])
      ·left;rw[take_succ_getD hk3,e];exact Lau _ La9
      · rcases hrs n hn with h9|h9
        ·left;rw[take_succ_getD hk3];exact Lao _ h9
        ·right;exact(mdel_keys hrn _ _).2 ⟨h9,e⟩
  have hfin:∀n∈ls,n∈x.pl.names→n∈x.pl.names.take k:=fun n _ hn=>by rw[La5 oM];exact hn
  refine .exit (at_x (at_x (bl_h (A7 (.sr (.load1 J J J underlying181 J mR (by rfl) ?_))))));refine .a J J J (.na ?_);refine .ret (C6 (As (out:=(A4 m10 (Ao 32 evI) fs::(⟨n6,[.func (.func 185) #[] #[ptr n5 0,ptr n2 0,ptr n6 0]],181,1⟩::(⟨n5,[.map (some m10)],58,1⟩::(⟨n2,[ptr p 0],25,1⟩::[]))))) (Af J J) (Ab rM (Ab rM (Ab rM (Ab rM Ae)))) ?_));exact⟨n5,n2,n6,m10,fs,_,⟨rfl,rfl,hfs⟩,hfin⟩
theorem heads_mem(X:PD)(n:List UInt8):n∈X.heads↔n∈X.hds.map (·.1):=(Br _).mem_iff
theorem seesP_left{p:Option Addr}{a b:List Value}(h:SeesP W p (a++b)):SeesP W p a:=fun j v hj=>h j v (by rw[Lb0 (Laa.1 hj).1];exact hj)
theorem rows_take{m:Nat}(h:SeesP W s.p (Av ls))(hr:∀l∈ls,l.length=32):SeesP W s.p (Av (ls.take m)):=by
  have e:Av ls=Av (ls.take m)++Av (ls.drop m):=by rw[←Cf,Lc6]
  rw[e]at h;exact seesP_left h
structure RRel(X:PD)(P Q:List (List UInt8×DB)):Prop where
  p:P=X.P
  q:Q.Perm X.orp
  s:SortB (Q.map (·.1))
theorem drop_get{a:α}(h:l[i]? =some a):l.drop i=a::l.drop (i+1):=by
  obtain⟨h1,h2⟩:=Laa.1 h;rw[←h2];exact Lbt h1
theorem perm_erase(h:i<l.length):(l[i]::l.eraseIdx i).Perm l:=by
  have e:l=l.take i++l[i]::l.drop (i+1):=by rw[←Lbt h,Lc6]
  rw[Ld2];refine Ldz.symm.trans ?_;exact List.Perm.of_eq e.symm
theorem mdel_perm[DecidableEq κ]{k:κ}(hn:(fs.map (·.1)).Nodup)(h:(k,v)∈fs):fs.Perm ((k,v)::mdel fs k):=by
  have hi:∃j,midx fs k=some j:=by
    cases hi:midx fs k with
    |some j=>exact⟨j,rfl⟩
    | none=>
      exfalso;unfold midx at hi;have h9:=Lda.1 hi _ h;simp at h9
  obtain⟨j,hj⟩:=hi;have h2:mdel fs k=fs.eraseIdx j:=by unfold mdel;rw[hj]
  unfold midx at hj;rw[Lbq]at hj;obtain⟨hl,he,_⟩:=hj;have h3:fs[j]=(k,v):=nodup_inj (f:=fun p:κ×ν=>p.1) hn _ (Lc7 hl) _ h (of_decide_eq_true he);rw[h2,←h3];exact(perm_erase hl).symm
section
variable{X:PD}{P Q:List (List UInt8×DB)}{i:Nat}{n:List UInt8}{D:DB}
variable{l:List RE}
theorem RRel.keys(h:RRel X P Q):Q.map (·.1)=isort (X.orp.map (·.1)):=isort_eq (h.q.map _) h.s
theorem RRel.at(h:RRel X P Q)(hI:X.Inv)(hi:Q[i]? =some (n,D)):(Q.map (·.1)).getD i []=n∧Aj X.orp n=some D:=by
  refine⟨by rw[La4,Lam,hi];rfl,?_⟩;obtain⟨j,hj,e⟩:=Lbo (h.q.mem_iff.1 (Lax hi));have h1:=mget_some hI.od (j:=j) (p:=(n,D)) (by rw[La3 hj,e]);exact h1
theorem RRel.waits(h:RRel X P Q)(hI:X.Inv)(hw:∀j,j<i→∀q,Q[j]? =some q→Bi X.P q.2=0)(hl:i≤Q.length):∀j,j<i→Bi X.P ((Aj X.orp ((Q.map (·.1)).getD j [])).getD DB.zero)=0:=fun j hj=>by
  have h1:Q[j]? =some (Q[j]'oM):=La3 oM;obtain⟨h2,h3⟩:=h.at hI (n:=(Q[j]'oM).1) (D:=(Q[j]'oM).2) h1;rw[h2,h3];exact hw j hj _ h1
theorem RRel.first(h:RRel X P Q)(hI:X.Inv)(hw:∀j,j<i→∀q,Q[j]? =some q→Bi X.P q.2=0)(hi:Q[i]? =some (n,D))(hj:Bi X.P D≠0):X.first=some n:=by
  have hlt:=(Laa.1 hi).1;obtain⟨h2,h3⟩:=h.at hI hi;have h4:=first_at h.keys (k:=i) (by rw[La0];exact hlt) (h.waits hI hw oM) (by rw[h2,h3];exact hj);rw[h4,h2]
theorem RRel.done(h:RRel X P Q)(hI:X.Inv)(hw:∀j,j<i→∀q,Q[j]? =some q→Bi X.P q.2=0)(hl:i=Q.length):X.first=none:=
  first_none h.keys (by rw[La0,←hl];exact h.waits hI hw oM)
theorem RRel.drop(h:RRel X P Q)(hI:X.Inv)(hi:Q[i]? =some (n,D)):RRel (X.drop1 n) P (Q.eraseIdx i) where
  p:=h.p
  q :=by
    have hlt:=(Laa.1 hi).1;have h1:=perm_erase hlt;rw[(Laa.1 hi).2]at h1;have h2:=mdel_perm hI.od (h.q.mem_iff.1 (Lax hi));exact((h1.trans h.q).trans h2).cons_inv
  s :=by
    have h1:((Q.eraseIdx i).map (·.1)).Sublist (Q.map (·.1)):=(Ldh Q i).map _;exact h.s.sublist h1
theorem RRel.adm(h:RRel X P Q)(hn:n∉X.P.map (·.1)):RRel (X.adm n D) (P++[(n,D)]) Q where
  p:=by rw[h.p];exact(mput_app (key_none hn) D).symm
  q:=h.q
  s:=h.s
theorem RRel.wait(h:RRel X P Q)(hn:Aj X.orp n=none)(h1:∀j,j<i→∀q,Q[j]? =some q→C7 q.1 n<0)(h2:∀q,Q[i]? =some q→¬C7 q.1 n<0):RRel { X with orp:=Bh X.orp n D } P (Q.take i++(n,D)::Q.drop i) where
  p:=h.p
  q :=by
    show(Q.take i++(n,D)::Q.drop i).Perm (Bh X.orp n D);rw[mput_app hn];refine Ldz.trans ?_;rw[Lc6];exact(List.Perm.cons _ h.q).trans (Ldf (l₁:=[(n,D)]))
  s :=by
    have h3:SortB ((Q.take i).map (·.1)++(Q.drop i).map (·.1)):=by rw[←Lae,Lc6];exact h.s
    unfold SortB at h3 ⊢;rw[Lfp]at h3;obtain⟨h4,h5,h6⟩:=h3;have h7:∀q∈Q.take i,C7 q.1 n≤0:=fun q hq=>by
      obtain⟨j,hj,rfl⟩:=Lbo hq;rw[Lac]at hj;have h9:=h1 j oM (Q[j]'oM) (La3 oM);rw[Lfk];omega
    have h8:∀q∈Q.drop i,C7 n q.1≤0:=fun q hq=>by
      cases hd:Q[i]? with
      |none=>rw[Lap (List.getElem?_eq_none_iff.1 hd)]at hq;cases hq
      | some e=>
        have he:=h2 e hd;have hn9:=cmpB_neg e.1 n;rw[drop_get hd]at hq h5;rcases Laj.1 hq with rfl|hq
        ·omega
        · rw[Laq,Ldk]at h5
          have h9:=h5.1 q.1 (La6.2 ⟨q,hq,rfl⟩);have:=cmpB_trans n e.1 q.1;omega
    rw[Lae,Laq,Lfp,Ldk];refine⟨h4,⟨fun b hb=>?_,h5⟩,fun a ha b hb=>?_⟩
    · obtain⟨q,hq,rfl⟩:=La6.1 hb
      exact h8 q hq
    · rcases Laj.1 hb with rfl|hb
      · obtain⟨q,hq,rfl⟩:=La6.1 ha
        exact h7 q hq
      ·exact h6 a ha b hb
theorem RRel.has(h:RRel X P Q)(n:List UInt8):Aj Q n=none→Aj X.orp n=none:=fun h1=>by
  refine key_none fun hm=>?_;rw[←(h.q.map _).mem_iff]at hm;obtain⟨v,hv⟩:=Cr hm;rw[h1]at hv;cases hv
theorem RRel.hasQ(h:RRel X P Q)(n:List UInt8):Aj X.orp n=none→Aj Q n=none:=fun h1=>by
  refine key_none fun hm=>?_;rw[(h.q.map _).mem_iff]at hm;obtain⟨v,hv⟩:=Cr hm;rw[h1]at hv;cases hv
theorem RRel.someQ(h:RRel X P Q)(n:List UInt8)(h1:(Aj Q n).isSome=true):(Aj X.orp n).isSome=true:=by
  cases hm:Aj X.orp n with
  |none=>rw[h.hasQ n hm]at h1;cases h1
  |some v=>rfl
theorem add_same(h:((Aj X.orp (Az D)).isSome||(Aj X.P (Az D)).isSome)=true):(X.add D).1=X:=by
  by_cases hg:dgood D=0
  ·rw[add_there hg h]
  ·rw[add_bad hg]
theorem rp_at{e:RE}(h:l[i]? =some e):(rp l)[i]? =some (e.1.fName,e.2):=by unfold rp;rw[Lam,h];rfl
theorem rp_of{q:List UInt8×DB}(h:(rp l)[i]? =some q):∃e,l[i]? =some e∧q=(e.1.fName,e.2):=by
  unfold rp at h;rw[Lam]at h;obtain⟨e,h1,h2⟩:=Lee.1 h;exact⟨e,h1,h2.symm⟩
theorem rp_app(a b:List RE):rp (a++b)=rp a++rp b:=Lae
theorem rp_take(l:List RE)(i:Nat):rp (l.take i)=(rp l).take i:=Lbe
theorem rp_drop(l:List RE)(i:Nat):rp (l.drop i)=(rp l).drop i:=Lej
theorem rp_erase(l:List RE)(i:Nat):rp (l.take i++l.drop (i+1))=(rp l).eraseIdx i:=by rw[Ld2,rp_app,rp_take,rp_drop]
end
variable{B:Block}{D:DB}{N i:Nat}{T:PD}{bl o:List Blk}{e:RE}{l:List RE}{s:Sl}{w:World}{x:RD}
theorem not_keyN{κ ν:Type}[DecidableEq κ]{ms:List (κ×ν)}{n:κ}(h:Aj ms n=none):n∉ms.map (·.1):=fun hm=>by
  obtain⟨v,hv⟩:=Cr hm;rw[h]at hv;cases hv
structure RG where
  x:RD
  X:PD
  i:Nat
  s:Sl
  bl:List Blk
  l:List (List UInt8)
structure RG.ok(g:RG)(N:Nat)(T:PD):Prop where
  ok:g.x.ok
  inv:g.X.Inv
  rel:RRel g.X g.x.P g.x.Q
  le:g.i≤g.x.O.length
  wt:∀j,j<g.i→∀q,g.x.Q[j]? =some q→Bi g.X.P q.2=0
  acc:Hw.Acc g.s g.bl (Av g.l) 31 g.l.length 32
  ll:g.l.length+g.x.O.length≤65
  sz:g.x.L.length+g.x.O.length≤N
  tgt:(PD.settle g.X.orp.length g.X).1=T
theorem RG.ok.more{g:RG}(h:g.ok N T)(he:g.x.O[g.i]? =some e)(hj:Bi g.X.P e.2=0):(⟨g.x,g.X,g.i+1,g.s,g.bl,g.l⟩:RG).ok N T:={ h with
  le:=(Laa.1 he).1
  wt :=fun j hj2 q hq=>by
    rcases Lcc.1 hj2 with h1|rfl
    ·exact h.wt j h1 q hq
    · obtain⟨e2,h2,rfl⟩:=rp_of hq
      rw[he]at h2;cases h2;exact hj }
def RD.less(x:RD)(i:Nat)(s:Sl)(bl:List Blk):RD:={ x with sO:=s,bO:=bl,O:=x.O.take i++x.O.drop (i+1) }
theorem RD.ok.less(h:x.ok)(hi:i<x.O.length)(hac:Hw.Acc s bl (rkc (x.O.take i++x.O.drop (i+1))) 122 (x.O.take i++x.O.drop (i+1)).length 163):(x.less i s bl).ok:={ h with
  accO:=hac
  entO:=fun e he=>h.entO e (by
    rcases Lab.1 he with h1|h1
    ·exact Lbf h1
    ·exact Lcx h1)
  big:=by
    have:=h.big;show x.L.length+(x.O.take i++x.O.drop (i+1)).length≤20000;rw[La2,Lac,Lb6];omega
  few:=by
    have:=h.few;show(x.O.take i++x.O.drop (i+1)).length≤64;rw[La2,Lac,Lb6];omega }
def RD.more(x:RD)(e:RE)(s:Sl)(bl o:List Blk):RD:={ x with sL:=s,bL:=bl,L:=x.L++[e],cb:=o }
theorem RD.ok.more(h:x.ok)(hac:Hw.Acc s bl (rkc x.L++e.1.cells) 122 (x.L.length+1) 163)(hsub:∀b∈x.cb,b∈o)(he:e.1.ok∧Held o e.1.fBlock e.2∧e.2.ls.length≤16)(hr:x.L.length+x.O.length<20000):(x.more e s bl o).ok where
  accL:=by
    show Hw.Acc s bl (rkc (x.L++[e])) 122 (x.L++[e]).length 163;rw[rkc_app,rkc_one,La2];exact hac
  accO:=h.accO
  entL:=fun q hq=>by
    rcases Lab.1 hq with h1|h1
    · have h2:=h.entL q h1
      exact⟨h2.1,h2.2.1.more hsub,h2.2.2⟩
    ·rw[La1.1 h1];exact he
  entO:=fun q hq=>by
    have h2:=h.entO q hq;exact⟨h2.1,h2.2.1.more hsub,h2.2.2⟩
  big:=by
    show(x.L++[e]).length+x.O.length≤20000;rw[La2,Lav];omega
  few:=h.few
def RD.wait(x:RD)(i:Nat)(e:RE)(s:Sl)(bl o:List Blk):RD:={ x with sO:=s,bO:=bl,O:=x.O.take i++e::x.O.drop i,cb:=x.cb++o }
theorem RD.ok.wait(h:x.ok)(hi:i≤x.O.length)(hac:Hw.Acc s bl (rkc (x.O.take i)++e.1.cells++rkc (x.O.drop i)) 122 (i+1+(x.O.length-i)) 163)(he:e.1.ok∧Held (x.cb++o) e.1.fBlock e.2∧e.2.ls.length≤16)(hr:x.L.length+x.O.length<20000)(h6:x.O.length<64):(x.wait i e s bl o).ok:=by
  have hlen:(x.O.take i++e::x.O.drop i).length=x.O.length+1:=by rw[La2,Lay,Lac,Lb6];omega
  exact {
    accL:=h.accL
    accO:=by
      show Hw.Acc s bl (rkc (x.O.take i++e::x.O.drop i)) 122 (x.O.take i++e::x.O.drop i).length 163;rw[hlen,show x.O.take i++e::x.O.drop i=x.O.take i++[e]++x.O.drop i by simp,rkc_app,rkc_app,rkc_one,show x.O.length+1=i+1+(x.O.length-i) by omega];exact hac
    entL:=fun q hq=>by
      have h2:=h.entL q hq;exact⟨h2.1,h2.2.1.more fun b hb=>Lao _ hb,h2.2.2⟩
    entO :=fun q hq=>by
      have h3:q=e∨q∈x.O:=by
        rcases Lab.1 hq with h1|h1
        ·exact .inr (Lbf h1)
        · rcases Laj.1 h1 with h1|h1
          ·exact .inl h1
          ·exact .inr (Lcx h1)
      rcases h3 with rfl|h3
      ·exact he
      · have h2:=h.entO q h3
        exact⟨h2.1,h2.2.1.more fun b hb=>Lao _ hb,h2.2.2⟩
    big:=by
      show x.L.length+(x.O.take i++e::x.O.drop i).length≤20000;omega
    few:=by
      show(x.O.take i++e::x.O.drop i).length≤64;omega }
theorem RG.ok.drop{g:RG}(h:g.ok N T)(he:g.x.O[g.i]? =some e)(hj:wrongB g.X.P e.2=true)(hac:Hw.Acc s bl (rkc (g.x.O.take g.i++g.x.O.drop (g.i+1))) 122 (g.x.O.take g.i++g.x.O.drop (g.i+1)).length 163):(⟨g.x.less g.i s bl,g.X.drop1 e.1.fName,0,g.s,g.bl,g.l⟩:RG).ok N T:=by
  have hlt:=(Laa.1 he).1;have hq:g.x.Q[g.i]? =some (e.1.fName,e.2):=rp_at he;have hjw:=judge_wrong hj;have hf:=h.rel.first h.inv h.wt hq (by rw[hjw];decide);have hD:=(h.rel.at h.inv hq).2;have hlen:(g.x.O.take g.i++g.x.O.drop (g.i+1)).length+1=g.x.O.length:=by rw[La2,Lac,Lb6];omega
  have hll:=h.ll;have hsz:=h.sz;exact{
    ok:=h.ok.less hlt hac
    inv:=h.inv.drop _
    rel:=by
      show RRel (g.X.drop1 e.1.fName) g.x.P (rp (g.x.O.take g.i++g.x.O.drop (g.i+1)));rw[rp_erase];exact h.rel.drop h.inv hq
    le:=Lan _
    wt:=fun j hj=>absurd hj (Leb _)
    acc:=h.acc
    ll:=by show g.l.length+(g.x.O.take g.i++g.x.O.drop (g.i+1)).length≤65;omega
    sz:=by show g.x.L.length+(g.x.O.take g.i++g.x.O.drop (g.i+1)).length≤N;omega
    tgt:=by
      have h1:=mdel_one hD;have h2:=h.tgt;rw[←h1,settle_wrong hf hD (by rw[hjw];decide)]at h2;exact h2 }
theorem RG.ok.fit{g:RG}(h:g.ok N T)(he:g.x.O[g.i]? =some e)(hj:wrongB g.X.P e.2=false)(hr:readyB g.X.P e.2=true){s s2 s3:Sl}{bl bl2 bl3:List Blk}(hac:Hw.Acc s bl (rkc (g.x.O.take g.i++g.x.O.drop (g.i+1))) 122 (g.x.O.take g.i++g.x.O.drop (g.i+1)).length 163)
    (hac2:Hw.Acc s2 bl2 (rkc g.x.L++e.1.cells) 122 (g.x.L.length+1) 163) (hac3:Hw.Acc s3 bl3 (Av g.l++Aa e.1.fName) 31 (g.l.length+1) 32):(⟨(g.x.less g.i s bl).more e s2 bl2 g.x.cb,(g.X.drop1 e.1.fName).adm e.1.fName e.2,0,s3,bl3,g.l++[e.1.fName]⟩:RG).ok N T:=by
  have hlt:=(Laa.1 he).1;have hq:g.x.Q[g.i]? =some (e.1.fName,e.2):=rp_at he;have hjf:Bi g.X.P e.2=1:=by unfold Bi;rw[hj,hr];rfl
  have hf:=h.rel.first h.inv h.wt hq (by rw[hjf];decide);have hD:=(h.rel.at h.inv hq).2;have hoc:=h.inv.oc _ (Be hD);have hlen:(g.x.O.take g.i++g.x.O.drop (g.i+1)).length+1=g.x.O.length:=by rw[La2,Lac,Lb6];omega
  have hll:=h.ll;have hsz:=h.sz;have hbig:=h.ok.big;have hen:=h.ok.entO e (Lax he);have hls:=h.ok.less hlt hac;exact{
    ok:=hls.more hac2 (fun b hb=>hb) hen (by show g.x.L.length+(g.x.O.take g.i++g.x.O.drop (g.i+1)).length<20000;omega)
    inv:=(h.inv.drop _).adm hoc.2 (fun h2=>((mdel_keys h.inv.od _ _).1 h2).2 rfl) hoc.1 hr
    rel:=by
      show RRel _ (rp (g.x.L++[e])) (rp (g.x.O.take g.i++g.x.O.drop (g.i+1)));rw[rp_erase,rp_app];exact(h.rel.drop h.inv hq).adm hoc.2
    le:=Lan _
    wt:=fun j hj=>absurd hj (Leb _)
    acc:=by
      show Hw.Acc s3 bl3 (Av (g.l++[e.1.fName])) 31 (g.l++[e.1.fName]).length 32;rw[Cf,La2,show Av [e.1.fName]=Aa e.1.fName by simp[Av]];exact hac3
    ll:=by show(g.l++[e.1.fName]).length+(g.x.O.take g.i++g.x.O.drop (g.i+1)).length≤65;rw[La2,Lav];omega
    sz:=by show(g.x.L++[e]).length+(g.x.O.take g.i++g.x.O.drop (g.i+1)).length≤N;rw[La2,Lav];omega
    tgt:=by
      have h1:=mdel_one hD;have h2:=h.tgt;rw[←h1,settle_fit hf hD hjf]at h2;exact h2 }
theorem RG.start(hx:x.ok){X:PD}(hI:X.Inv)(hR:RRel X x.P x.Q){q:Nat}(hroom:x.L.length+x.O.length<20000)(hac:Hw.Acc s bl (rkc x.L++(⟨Az D,B⟩:RKn).cells) 122 (x.L.length+1) 163)(he:(⟨Az D,B⟩:RKn).ok∧Held (x.cb++o) B D∧D.ls.length≤16)
    (hg:dgood D=0) (hP:Aj X.P (Az D)=none) (hQ:Aj X.orp (Az D)=none) (hj:Bi X.P D=1):(⟨x.more (⟨Az D,B⟩,D) s bl (x.cb++o),X.adm (Az D) D,0,⟨some ⟨q,0,none⟩,1,1⟩,[⟨q,Aa (Az D),31,32⟩],[Az D]⟩:RG).ok (x.L.length+x.O.length+1) (X.add D).1 where
  ok:=hx.more hac (fun b hb=>Lao _ hb) he hroom
  inv:=hI.adm (not_keyN hP) (not_keyN hQ) (good_check hg) (Dd hj)
  rel:=by
    show RRel _ (rp (x.L++[((⟨Az D,B⟩:RKn),D)])) (rp x.O);rw[rp_app];exact hR.adm (not_keyN hP)
  le:=Lan _
  wt:=fun j hj=>absurd hj (Leb _)
  acc:=by
    show Hw.Acc _ _ (Av [Az D]) 31 1 32;rw[show Av [Az D]=Aa (Az D) by simp[Av]];exact Acc.some (Lad 1) (show(Aa (Az D)).length=1*32 by rw[Aa,La0,nameD_length])
  ll:=by have:=hx.few;show 1+x.O.length≤65;omega
  sz:=by show(x.L++[_]).length+x.O.length≤_;rw[La2,Lav];omega
  tgt:=by
    have hth:((Aj X.orp (Az D)).isSome||(Aj X.P (Az D)).isSome)=false:=by rw[hP,hQ];rfl
    rw[add_fits hg hth hj]
theorem RG.ok.fin{g:RG}(h:g.ok N T)(hi:g.i=g.x.O.length):RRel T g.x.P g.x.Q:=by
  have h1:=h.tgt;rw[settle_done (h.rel.done h.inv h.wt (by rw[hi];exact(La0 _).symm))]at h1;rw[←h1];exact h.rel
def RAddR(x:RD)(p:Nat)(T:PD)(v:Value)(out:List Blk):Prop:=∃(x':RD) (e:Int) (s:Sl) (bl:List Blk),v= .tuple #[s.v,i64 e]∧out=x'.blks p++bl∧x'.ok∧RRel T x'.P x'.Q∧x'.L.length+x'.O.length≤x.L.length+x.O.length+1
theorem rd_of{C:Cx}{p:Nat}{hp:List Blk}(h:HRep C hp w)(h1:⟨p,[x.sL.v,x.sO.v],120,2⟩∈hp)(h2:Lies x.bL w)(h3:Lies x.bO w)(h4:Lies x.cb w):Lies (x.blks p) w:=fun b hb=>by
  rcases Laj.1 hb with rfl|hb
  ·exact h.cells _ h1
  · rcases Lab.1 hb with hb|hb
    ·exact h2 b hb
    · rcases Lab.1 hb with hb|hb
      ·exact h3 b hb
      ·exact h4 b hb
theorem rk_open(h:Hw.Acc s bl (rkc l) 122 l.length 163)(h0:0<l.length):∃b o,s.p=some ⟨b,o,none⟩∧∀w,Lies bl w→De w b o (rkc l):=by
  rcases h with ⟨_,_,_,e⟩|⟨q,c,rfl,h1,h2,rfl⟩
  ·omega
  ·exact⟨q,0,rfl,fun w hw=>sees_kok (hw _ La9) fun j v hj=>by rw[Lb2];exact hj⟩
theorem rk_take{p:Option Addr}(h:SeesP w p (rkc l)):SeesP w p (rkc (l.take i)):=by
  have e:rkc l=rkc (l.take i)++rkc (l.drop i):=by rw[←rkc_app,Lc6]
  rw[e]at h;exact seesP_left h
theorem rkc_drop(hok:∀e∈l,e.1.ok)(i:Nat):rkc (l.drop i)=(rkc l).drop (i*163):=by
  have e:rkc l=rkc (l.take i)++rkc (l.drop i):=by rw[←rkc_app,Lc6]
  have h1:=rkc_len (l:=l.take i) fun q hq=>hok q (Lbf hq);rw[Lac]at h1;rcases Nat.le_total i l.length with h2|h2
  · rw[Lc8 h2]at h1
    rw[e,←h1,List.drop_left]
  ·rw[Lap h2,Lap (by rw[rkc_len hok];omega)];rfl
theorem same_of{W:World}(h:BlockIs W B D):SameB B D:=⟨h.ok,h.w,h.seq,h.prev,h.sg,h.ls.len.symm,h.ds.len.symm⟩
section
variable{C:Cx}{ops:Array Oper}{rest:List (Nat×Oper)}{sl:List (Nat×Value)}{hp:List Blk}{Q:St→Prop}{c d:Nat}{ty:TypeId}{pos:String}{af:Array Edge}{g:Option (Nat×Bool)}
theorem Tr.sliceLoA{x lo:Operand}{s:Sl}{bl:List Blk}{cells:List Value}{n:Nat}{T E:TypeId}{kl:IntKind}{l:Int}{sz:Nat}(j:Nat)(hg:Ak ops sl g=true)(hk:okD c d C.N=true)(hx:Ai sl x=some s.v)(hl:Ai sl lo=some (.int kl l))(hj:l=j)(hac:Hw.Acc s bl cells E n sz)(hjn:j≤n)
    (hu:C.P.underlying T=some (.slice E)) (hs:Sz C.P E sz)
    (k:∀s':Sl,s'.n=n-j→(s'.p=none→s'.n=0)→(∀w,Lies bl w→SeesP w s'.p (cells.drop (j*sz)))→s'.n≤s'.c→(s'.p=none→s'.c=0)→Tr C ops rest ⟨(d,s'.v)::sl,hp⟩ Q):Tr C ops ((c,⟨some d, .slice T x (some lo) none none,ty,pos,af,g⟩)::rest) ⟨sl,hp⟩ Q:=by
  rcases hac with ⟨rfl,rfl,rfl,rfl⟩|⟨q,cp,rfl,h1,h2,rfl⟩
  · obtain rfl:j=0:=by omega
    subst hj;exact Tr.sliceLoNil hg hk hx hl hu hs (k Sl.nil rfl (fun _=>rfl) (fun w _=>by rw[List.drop_nil];exact SeesP.nil) (Lad _) (fun _=>rfl))
  · refine Tr.sliceLoN j hg hk hx hl hj hjn h1 hu hs (k ⟨some ⟨q,if cp=j then 0 else 0+j*sz,none⟩,n-j,cp-j⟩ rfl (fun e=>by cases e) (fun w hw=>?_) (by show n-j≤cp-j;omega) (fun e=>by cases e))
    have h3:De w q 0 cells:=sees_kok (hw _ La9) fun i v hi=>by rw[Lb2];exact hi
    by_cases hcp:cp=j
    · obtain rfl:n=j:=by omega
      rw[Lap oM];exact SeesP.nil
    · show SeesP w (some ⟨q,if cp=j then 0 else 0+j*sz,none⟩) _
      rw[if_neg hcp];refine SeesP.of fun i v hi=>?_;rw[Lb9]at hi;have h4:=h3 _ _ hi;rwa[show 0+(j*sz+i)=0+j*sz+i by omega]at h4
end
theorem rd_add(x:RD)(hx:x.ok)(X:PD)(hI:X.Inv)(hR:RRel X x.P x.Q)(p:Nat)(B:Block)(D:DB)(hroom:x.L.length+x.O.length<20000)(hs1:D.ls.length≤500000)(hs2:D.ds.length≤500000):Meets prog 69 [ptr p 0,agg B.cells] ((x.blks p).map (·.n)) (fun W=>Lent (x.blks p) W∧∀w2,Keeps ((x.blks p).map (·.n)) W w2→BlockIs w2 B D) (RAddR x p (X.add D).1):=by
 intro W hW;have hbk:=hW.2;have hbi0:=hbk W (Keeps.refl _ _);have hB:=same_of hbi0;have hdok:=hbi0.dok;have hn32:=nameD_length D;have hbig:=hx.big;have hfew:=hx.few;have hnL:=hx.accL.num;have hnO:=hx.accO.num;have hcO:=hx.accO.cap;generalize hlt:(x.blks p).map (·.n)=lt at hbk;refine calls_of (hp0:=(⟨p,[x.sL.v,x.sO.v],120,2⟩::(x.bL++(x.bO++x.cb)))) func69 J 178 ntmps69 J (hlt▸hW.1.rep) (.sr (.boxA J J ?_));intro n3 hn3 hf3;refine .a J J J (.a J J J (.na (.seq (.draw (oPq [100,102,301,303,4,205,406]) Aq zK (.lA J J J Y37.h J Sz37 Z0 (Block.length (by exact hB.ok)) ?_)))));refine .lA J J J Y37.h J Sz37 Z0 (Block.length (by exact hB.ok)) ?_;refine .cV J J J J Body37 (r15_Name B D hB.ok) (fun w h=>hbk w h.keeps) (.call J J J J Body85 (r15_Copy B D hB.ok hs1 hs2) (BlkV.loose D hdok) (fun w h=>hbk w h.keeps) ?_);rintro v16 out16 ⟨B2,hB2,rfl,hbi⟩;have hK6:(⟨Az D,B2⟩:RKn).ok:=⟨hn32,hB2.ok⟩;refine .build (cs:=(⟨Az D,B2⟩:RKn).cells) J J J (fun w=>run_build2 (a:=agg (Aa (Az D))) (b:=agg B2.cells) (ca:=Aa (Az D)) (cb:=B2.cells) RKn.zr Y122.h J J Sz31 Sz37 (RKn.length RKn.zero_ok) J J (by rw[Aa,La0];exact hn32) (Block.length hB2.ok) w) ?_;refine .alloc (cs:=RKn.zero.cells) J RKn.zr J ?_;intro n6 hn6 hf6;refine .sA J J J J (RKn.isCell (by exact hK6)) Sz122 (RKn.length (by exact hK6)) Z0 (RKn.length (by exact RKn.zero_ok)) zU ?_;refine .na (.join (ι:=Unit) (fun u=>⟨[(0,ptr p 0),(3,ptr n3 0),(6,ptr n6 0)],(⟨n6,(⟨Az D,B2⟩:RKn).cells,122,163⟩::(⟨n3,B.cells,37,B.cells.length⟩::(⟨p,[x.sL.v,x.sO.v],120,2⟩::(x.bL++(x.bO++(x.cb++(out16++[])))))))⟩) (fun u=>D.check=0→Aj x.P (Az D)=none∧Aj x.Q (Az D)=none) ?_ ?_)
 ·
  refine .seq (.draw (oPq [100,301,2,3,4,5,106,307,8,9,10,11,112,13,114,315,16,17,18]) Aq zK (.lA J J J Y37.h J Sz37 mR (Block.length (by exact hB.ok)) ?_));refine .cV J J J J Body103 (r15_Check B D) (fun w h=>hbk w h.keeps) (two (fun r hr k=>Tr.eqi J J J J hr k) (fun hs2_20=>?_) (fun hs2_20=>?_))
  ·
   have hs2_2:=of_decide_eq_true hs2_20;refine .m J J J (.m J J J (.fld J J J Y122.h J Sz31 dE _ J (.lN (Aa _) J J J Y31.h J Sz31 Z0 (RKn.row_fName (by exact hK6)) (RKn.rl_fName (by exact hK6)) ?_)));refine .callB J J J J Body31 (rd_has x hx p (Az D) hn32) (fun w h=>rd_of (x:=x) h mR (Lies.of h (by repeat(first|exact Au|refine A3 ?_|refine Bk ?_))) (Lies.of h (by repeat(first|exact Au|refine A3 ?_|refine Bk ?_))) (Lies.of h (by repeat(first|exact in_all|refine A3 ?_|refine Bk ?_)))) (fun hs2_70=>?_) (fun hs2_70=>?_)
   ·
    have hs2_7:=hs2_70;refine .m J J J (.skp J J (.skp J J (.skp J J (.skp J J (.skp J J (.skp J J (.skp J J (.skp J J (.pick J J J J J J (.pick J J J J J J (.na (.cond_t J J (.sr (.a J J J (.a J J J (.na ?_))))))))))))))));refine .ret (at_r (C6 (As (out:=(⟨p,[x.sL.v,x.sO.v],120,2⟩::(x.bL++(x.bO++(x.cb++[]))))) (Ca J J J) (Ab rM (Ac sG (Ac sG (Ac (by repeat(first|exact Df|apply sg_there|apply B6)) Ae)))) ?_)));exact⟨x,_,Sl.nil,[],rfl,(by simp[RD.blks]),hx,by rw[add_same (by rw[←hR.p,show(Aj x.P (Az D)).isSome=true from hs2_7];simp)];exact hR,by omega⟩
   have hs2_7:=hs2_70;refine .m J J J (.m J J J (.nC J J J (.fld J J J Y120.h J Sz118 dE _ J (.load1 J J J Y118.h J mR (by rfl) ?_))));refine .fld J J J Y122.h J Sz31 dE _ J (.lN (Aa _) J J J Y31.h J Sz31 Z0 (RKn.row_fName (by exact hK6)) (RKn.rl_fName (by exact hK6)) ?_);refine .cV J J J J Body75 (rd_find x.sO x.O hnO.symm hx.okO oM (Az D) hn32) (fun w h=>hx.accO.see (Lies.of h (by repeat(first|exact Au|refine A3 ?_|refine Bk ?_)))) ?_;refine .geq J J J J J (.pick J J J J J J (.pick J J J J J J (.na (.condP J (fun hc0=>?_) (fun hc0=>?_)))))
   ·
    refine .sr (.a J J J (.a J J J (.na ?_)));refine .ret (at_r (C6 (As (out:=(⟨p,[x.sL.v,x.sO.v],120,2⟩::(x.bL++(x.bO++(x.cb++[]))))) (Ca J J J) (Ab rM (Ac sG (Ac sG (Ac (by repeat(first|exact Df|apply sg_there|apply B6)) Ae)))) ?_)));exact⟨x,_,Sl.nil,[],rfl,(by simp[RD.blks]),hx,by rw[add_same (by rw[hR.someQ _ (show(Aj x.Q (Az D)).isSome=true by obtain⟨k9,e9,_,_,_,h9⟩:=rd_hit hc0;show(Aj (rp x.O) _).isSome=true;rw[h9];rfl)];rfl)];exact hR,by omega⟩
   refine .skip (A7 ?_);exact⟨(),fun _=>⟨by simpa using hs2_7,rd_no hc0⟩,Ag wN (Ab rM (Ab (by repeat(first|exact A9|apply Ce)) (Ab (by repeat(first|exact A9|apply Ce)) (Ac (by repeat(first|exact Bu|apply B6)) (Ac (by repeat(first|exact Bu|apply B6)) (Ac (by repeat(first|exact Df|apply B6)) (Ac sG Ae)))))))⟩
  have hs2_2:=of_decide_eq_false hs2_20;refine .m J J J (.skp J J (.skp J J (.skp J J (.skp J J (.skp J J (.skp J J (.skp J J (.skp J J (.skp J J (.skp J J (.skp J J (.skp J J (.skp J J (.skp J J (.pick J J J J J J (.na (.cond_f J J (.skip (A7 ?_)))))))))))))))))));exact⟨(),fun h9=>absurd h9 oM,Ag wN (Ab rM (Ab (by repeat(first|exact A9|apply Ce)) (Ab (by repeat(first|exact A9|apply Ce)) (Ac (by repeat(first|exact Bu|apply B6)) (Ac (by repeat(first|exact Bu|apply B6)) (Ac (by repeat(first|exact Df|apply B6)) (Ac sG Ae)))))))⟩
 intro u hj;skip;refine .sr (.lA J J J Y37.h J Sz37 Z1 (Block.length (by exact hB.ok)) ?_);refine .cV J J J J Body104 (r15_Good B D hB.ok) (fun w h=>hbk w h.keeps) (.a J J J (.na (.seq (.sr (.m J J J (.nei J J J J J (.na (.condNP J (fun hc1=>?_) (fun hc1=>?_)))))))))
 ·
  refine .sr (.m J J J (.a J J J (.a J J J (.na ?_))));refine .ret (at_r (C6 (As (out:=(⟨p,[x.sL.v,x.sO.v],120,2⟩::(x.bL++(x.bO++(x.cb++[]))))) (Ca J J J) (Ab rM (Ac sG (Ac sG (Ac sG Ae)))) ?_)));exact⟨x,_,Sl.nil,[],rfl,(by simp[RD.blks]),hx,by rw[add_bad oM];exact hR,by omega⟩
 have hgd:dgood D=0:=by omega
 have hck:=good_check hgd;have h16:D.ls.length≤16:=(ck_small hck).1;obtain⟨hP0,hQ0⟩:=hj hck;have hP1:Aj X.P (Az D)=none:=by rw[←hR.p];exact hP0
 have hQ1:=hR.has _ hQ0;have hth:((Aj X.orp (Az D)).isSome||(Aj X.P (Az D)).isSome)=false:=by rw[hP1,hQ1];rfl
 have hol:x.O.length=X.orp.length:=by have h9:=hR.q.length_eq;rw[←h9];exact(La0 _).symm
 have hPX:=hR.p;refine .skip (A7 (.seq (.sr (.m J J J (.lA J J J Y37.h J Sz37 Z1 (Block.length (by exact hB.ok)) ?_)))));refine .cV J J J J Body105 (rd_wrong x hx p B D hB) (fun w h=>rd_of (x:=x) h Z2 (Lies.of h (by repeat(first|exact Au|refine A3 ?_))) (Lies.of h (by repeat(first|exact Au|refine A3 ?_|refine Bk ?_))) (Lies.of h (by repeat(first|exact Au|refine A3 ?_|refine Bk ?_)))) ?_;refine .na (.cond J (fun hc2=>?_) (fun hc2=>?_))
 ·
  refine .sr (.a J J J (.a J J J (.na ?_)));refine .ret (at_r (C6 (As (out:=(⟨p,[x.sL.v,x.sO.v],120,2⟩::(x.bL++(x.bO++(x.cb++[]))))) (Ca J J J) (Ab rM (Ac sG (Ac sG (Ac sG Ae)))) ?_)));exact⟨x,_,Sl.nil,[],rfl,(by simp[RD.blks]),hx,by rw[add_wrong hgd hth (judge_wrong (by rw[←hPX];exact hc2))];exact hR,by omega⟩
 refine .skip (A7 (.seq (.sr (.m J J J (.lA J J J Y37.h J Sz37 Z1 (Block.length (by exact hB.ok)) ?_)))));refine .cV J J J J Body106 (rd_ready x hx p B D hB h16) (fun w h=>⟨rd_of (x:=x) h Z2 (Lies.of h (by repeat(first|exact Au|refine A3 ?_))) (Lies.of h (by repeat(first|exact Au|refine A3 ?_|refine Bk ?_))) (Lies.of h (by repeat(first|exact Au|refine A3 ?_|refine Bk ?_))),hbk w h.keeps⟩) ?_;refine .not J J J (.na (.cond J (fun hc3=>?_) (fun hc3=>?_)))
 ·
  have hj0:Bi X.P D=0:=by rw[hPX]at hc2 hc3;unfold Bi;rw[show wrongB X.P D=false by simpa using hc2,show readyB X.P D=false by simpa using hc3];rfl
  refine .seq (.sr (.m J J J (.nC J J J (.fld J J J Y120.h J Sz118 dE _ J (.load1 J J J Y118.h J Z2 (by rfl) ?_)))));refine .lenSl J J J Y118.h (.eqi J J J J J (.na (.condP J (fun hc4=>?_) (fun hc4=>?_))))
  ·
   refine .sr (.a J J J (.a J J J (.na ?_)));refine .ret (at_r (at_r (C6 (As (out:=(⟨p,[x.sL.v,x.sO.v],120,2⟩::(x.bL++(x.bO++(x.cb++[]))))) (Ca J J J) (Ab rM (Ac sG (Ac sG (Ac sG Ae)))) ?_))));exact⟨x,_,Sl.nil,[],rfl,(by simp[RD.blks]),hx,by rw[add_full hgd hth hj0 oM];exact hR,by omega⟩
  refine .skip (A7 (.sr (.a J J J (.na (.join (ι:=Nat) (fun k=>⟨[(0,ptr p 0),(6,ptr n6 0),(8,i64 (k:Int))],(⟨n6,(⟨Az D,B2⟩:RKn).cells,122,163⟩::(⟨p,[x.sL.v,x.sO.v],120,2⟩::(x.bL++(x.bO++(x.cb++(out16++[]))))))⟩) (fun k=>k≤x.O.length∧(∀j,j<k→∀q,x.Q[j]? =some q→C7 q.1 (Az D)<0)∧∀q,x.Q[k]? =some q→¬C7 q.1 (Az D)<0) ?_ ?_)))))
  ·
   refine .block (.loop (ι:=Nat) (fun k=>⟨[(0,ptr p 0),(6,ptr n6 0),(8,i64 (k:Int))],(⟨n6,(⟨Az D,B2⟩:RKn).cells,122,163⟩::(⟨p,[x.sL.v,x.sO.v],120,2⟩::(x.bL++(x.bO++(x.cb++(out16++[]))))))⟩) (fun k=>k≤x.O.length∧∀j,j<k→∀q,x.Q[j]? =some q→C7 q.1 (Az D)<0) (fun k=>x.O.length-k) (0) ?_ ?_ ?_)
   ·exact⟨Lan _,fun j hj=>absurd hj (Leb _)⟩
   ·exact Ag wN (Ab rM (Ab rM (Ac sG (Ac sG (Ac sG (Ac sG Ae))))))
   rintro k ⟨hk,hg⟩;refine .seq (.seq (.draw (oPq [0,1,2,3,104,5,6,7,8,9,10,111,12,13,14,115,16,117,318,19,20]) Aq zK (.m J J J (.m J J J (.nC J J J (.fld J J J Y120.h J Sz118 dE _ J (.load1 J J J Y118.h J Z1 (by rfl) ?_)))))));refine .lenSl J J J Y118.h (two (fun r hr k=>Tr.lss J J J J hr k) (fun hs13_60=>?_) (fun hs13_60=>?_))
   ·
    have hs13_6:=of_decide_eq_true hs13_60;have hk2:k<x.O.length:=by omega
    obtain⟨e,hd⟩:∃e,x.O[k]? =some e:=⟨_,La3 hk2⟩;have hek:=(hx.entO e (Lax hd)).1;obtain⟨b,o,hbp,hbs⟩:=rk_open hx.accO oM;refine .m J J J (.m J J J (.nC J J J (.fld J J J Y120.h J Sz118 dE _ J (.load1 J J J Y118.h J Z1 (by rfl) ?_))));refine .m J J J (.idxSlP 163 J J J hbp J Y118.h Sz122 k (by rfl) oM ?_);refine .fld J J J Y122.h J Sz31 dE _ J (.loadSN (n:=32) (Aa e.1.fName) J J J Y31.h J Sz31 (by rw[Aa,La0];exact hek.l_fName) (fun w h=>rk_name (hbs w (Lies.of h (by repeat(first|exact Au|refine A3 ?_|refine Bk ?_)))) hx.okO hd) ?_);refine .fld J J J Y122.h J Sz31 dE _ J (.lN (Aa _) J J J Y31.h J Sz31 Z0 (RKn.row_fName (by exact hK6)) (RKn.rl_fName (by exact hK6)) ?_);refine .cV J J J J Body14 (r15_cmp e.1.fName (Az D) hek.l_fName hn32) tV (.lss J J J J J (.pick J J J J J J (.na (.condP J (fun hc5=>?_) (fun hc5=>?_)))))
    ·
     refine .skip (A7 (.block (.region (.m J J J (.aI J J J J oM (.a J J J (.nil (bl_n (A7 ?_)))))))));exact⟨k+1,⟨by omega,fun j hj q hq=>by rcases Lcc.1 hj with h|rfl;exact hg j h q hq;obtain⟨e9,h9,rfl⟩:=rp_of hq;rw[hd]at h9;cases h9;exact hc5⟩,by omega,Ag wN (Ab rM (Ab rM (Ac sG (Ac sG (Ac sG (Ac sG Ae))))))⟩
    refine .exit (at_x (at_x (bl_h (A7 ?_))));exact⟨k,⟨by omega,hg,fun q hq=>by obtain⟨e9,h9,rfl⟩:=rp_of hq;rw[hd]at h9;cases h9;exact hc5⟩,Ag wN (Ab rM (Ab rM (Ac sG (Ac sG (Ac sG (Ac sG Ae))))))⟩
   have hs13_6:=of_decide_eq_false hs13_60;skip;refine .m J J J (.skp J J (.skp J J (.skp J J (.skp J J (.skp J J (.skp J J (.skp J J (.skp J J (.skp J J (.skp J J (.skp J J (.skp J J (.pick J J J J J J (.na (.cond_f J J (.exit (at_x (at_x (bl_h (A7 ?_))))))))))))))))))));exact⟨k,⟨by omega,hg,fun q hq=>by have h9:=(Laa.1 hq).1;have h8:x.Q.length=x.O.length:=La0 _;omega⟩,Ag wN (Ab rM (Ab rM (Ac sG (Ac sG (Ac sG (Ac sG Ae))))))⟩
  intro k hj;obtain⟨hk,hg,hat⟩:=hj;refine .seq ?_
  try simp only[Lgi,Lak,Lah,La8]
  refine .drawK (sp_k (sp_k (sp_x (sp_x (sp_x (sp_x sp_n)))))) J (oPq [0,2,3,4,5,6,7,9,12,13,14,15,16,17,201,308,210,411,418,19,20]) [(4,21)] Aq zK zK (.m J J J (.m J J J (.nC J J J (.fld J J J Y120.h J Sz118 dE _ J (.kload1 J J J Y118.h J Z1 (by rfl) ?_)))));refine .m J J J (.sliceHiA x.sO k J J J J J oM Y118.h Sz122 (.kloadAll J J J Y122.h J Sz122 Z0 (RKn.length (by exact hK6)) ?_));refine .m J J J (.nC J J J (.fld J J J Y120.h J Sz118 dE _ J (.kload1 J J J Y118.h J Z1 (by rfl) ?_)));refine .m J J J (Tr.sliceLoA k J J J J J hx.accO hk Y118.h Sz122 ?_);intro s95 hn95 hnil95 hsee95 _ _;refine .mkRow2 (z:=(agg RKn.zero.cells)) [] ([]) J J Y118.h Sz122 RKn.zr J J (by intro v hv;cases hv) dE J ?_;intro q79;refine .appendF (b:=q79) (m:=k) (z:=(agg RKn.zero.cells)) (by':=216) (rkc (x.O.take k)) J J J J Y118.h Y118.h Sz122 RKn.zr (by unfold By;kernel_rfl) J (fun w h=>rk_take (hx.accO.see (Lies.of h (by repeat(first|exact Au|refine A3 ?_|refine Bk ?_))))) (fun e=>by have:=hx.accO.nil e;omega) (rkc_cell (fun q hq=>hx.okO q (Lbf hq))) oM oM (by rw[rkc_len (fun q hq=>hx.okO q (Lbf hq)),Lac,Lc8 hk]) ?_;intro s86 bl86 hac86;refine .mkRow2 (z:=(agg RKn.zero.cells)) [agg (⟨Az D,B2⟩:RKn).cells] ((⟨Az D,B2⟩:RKn).cells) J J Y118.h Sz122 RKn.zr J J (by intro v hv;rw[La1.1 hv];exact RKn.length (by exact hK6)) dE (by simp[Value.cells,agg]) ?_;intro q88;refine .appendF2 [_] (n:=k) (z:=(agg RKn.zero.cells)) (by':=216) ((⟨Az D,B2⟩:RKn).cells) J J J J J Y118.h Y118.h Sz122 RKn.zr (by unfold By;kernel_rfl) J hac86 dE J (fun w h=>SeesP.of (An h Z0)) (fun e=>by cases e) (RKn.isCell hK6) oM oM (by rw[RKn.length hK6]) ?_;intro s89 bl89 hac89;refine .appendAcc (n:=(k+1)) (z:=(agg RKn.zero.cells)) (by':=216) (rkc (x.O.drop k)) J J J J J Y118.h Y118.h Sz122 RKn.zr (by unfold By;kernel_rfl) J hac89 sG (fun w h=>by rw[rkc_drop hx.okO];exact hsee95 w (Lies.of h (by repeat(first|exact Au|refine A3 ?_|refine Bk ?_)))) hnil95 (rkc_cell (fun q hq=>hx.okO q (Lcx hq))) oM oM (by rw[rkc_len (fun q hq=>hx.okO q (Lcx hq)),Lb6,hn95]) ?_;intro s96 bl96 hac96;refine .nC J J J (.fld J J J Y120.h J Sz118 dE _ J (.nil (.s1 J J J J J Sz118 Z1 sP (by rfl) zV ?_)));refine .nsr (.a J J J (.a J J J (.na ?_)));refine .ret (at_r (C6 (As (out:=(⟨p,[x.sL.v,s96.v],120,2⟩::(x.bL++(bl96++(x.cb++(out16++[])))))) (Ca J J J) (Ab rM (Ac sG (Ac sG (Ac sG (Ac sG Ae))))) ?_)))
  exact⟨x.wait k (⟨Az D,B2⟩,D) s96 bl96 out16,0,Sl.nil,[],rfl,(by simp[RD.blks,RD.wait]),hx.wait hk (by rw[hn95]at hac96;exact hac96) ⟨hK6,⟨hB2,fun w hw=>hbi w (hw.sub fun b hb=>Lau _ hb)⟩,h16⟩ hroom oM,by rw[add_keep hgd hth hj0 oM];show RRel _ x.P (rp (x.O.take k++(⟨Az D,B2⟩,D)::x.O.drop k));rw[rp_app,show rp (((⟨Az D,B2⟩:RKn),D)::x.O.drop k)=(Az D,D)::rp (x.O.drop k)from rfl,rp_take,rp_drop];exact hR.wait hQ1 hg hat,by show x.L.length+(x.O.take k++_::x.O.drop k).length≤_;rw[La2,Lay,Lac,Lb6];omega⟩
 have hj1:Bi X.P D=1:=by rw[hPX]at hc2 hc3;unfold Bi;rw[show wrongB X.P D=false by simpa using hc2,show readyB X.P D=true by simpa using hc3];rfl
 refine .skip (A7 (.seq ?_))
 try simp only[Lgi,Lak,Lah,La8]
 refine .drawK (sp_k (sp_v (sp_k (sp_x (sp_x (sp_x (sp_x sp_n))))))) J (oPq [0,1,2,3,4,5,206,407,8,9]) [(4,10)] Aq zK zK (.m J J J (.m J J J (.nC J J J (.fld J J J Y120.h J Sz118 dE _ J (.kload1 J J J Y118.h J Z1 (by rfl) ?_)))));refine .kloadAll J J J Y122.h J Sz122 Z0 (RKn.length (by exact hK6)) ?_;refine .mkRow2 (z:=(agg RKn.zero.cells)) [agg (⟨Az D,B2⟩:RKn).cells] ((⟨Az D,B2⟩:RKn).cells) J J Y118.h Sz122 RKn.zr J J (by intro v hv;rw[La1.1 hv];exact RKn.length (by exact hK6)) dE (by simp[Value.cells,agg]) ?_;intro q105;refine .appendAcc (n:=x.L.length) (z:=(agg RKn.zero.cells)) (by':=216) ((⟨Az D,B2⟩:RKn).cells) J J J J J Y118.h Y118.h Sz122 RKn.zr (by unfold By;kernel_rfl) J hx.accL sG (fun w h=>SeesP.of (An h Z0)) (fun e=>by cases e) (RKn.isCell hK6) oM oM (by rw[RKn.length hK6]) ?_;intro s106 bl106 hac106;refine .nC J J J (.fld J J J Y120.h J Sz118 dE _ J (.nil (.s1 J J J J J Sz118 Z1 sP (by rfl) zV ?_)));refine .nsr (.fld J J J Y122.h J Sz31 dE _ J (.lN (Aa _) J J J Y31.h J Sz31 Z0 (RKn.row_fName (by exact hK6)) (RKn.rl_fName (by exact hK6)) ?_));refine .mkRow2 (z:=agg (Aa (List.replicate 32 0))) [agg (Aa (Az D))] (Aa (Az D)) J J Y32.h Sz31 Cj J J (by intro v hv;rw[La1.1 hv];simp[Value.cells,Aa,hn32]) dE (by simp[Value.cells,agg]) ?_;intro q111;refine .a J J J (.na (.seq (.sr (.a J J J (.na (.block (.loop (ι:=RG) (fun g=>⟨[(0,ptr p 0),(9,g.s.v),(10,i64 (g.i:Int))],(⟨p,[g.x.sL.v,g.x.sO.v],120,2⟩::(g.x.bL++(g.x.bO++(g.x.cb++(g.bl++[])))))⟩) (fun g=>g.ok (x.L.length+x.O.length+1) (X.add D).1) (fun g=>g.x.O.length*100000-g.i) (⟨x.more (⟨Az D,B2⟩,D) s106 bl106 (x.cb++out16),X.adm (Az D) D,0,⟨some ⟨q111,0,none⟩,1,1⟩,[⟨q111,Aa (Az D),31,32⟩],[Az D]⟩) ?_ ?_ ?_)))))))
 ·exact RG.start hx hI hR hroom hac106 ⟨hK6,⟨hB2,fun w hw=>hbi w (hw.sub fun b hb=>Lau _ hb)⟩,h16⟩ hgd hP1 hQ1 hj1
 ·exact Ag wN (Ab rM (Ac sG (Ac sG (pm_two (Ac sG (Ac sG (pm_in0 (pm_consE rM rfl (by rw[Aa,La0,hn32]) Ae))))))))
 rintro g hG;have hgl:=hG.ll;have hgi:=hG.le;have hgb:=hG.ok.big;have hgf:=hG.ok.few;have hgn:=hG.ok.accO.num;have hgL:=hG.ok.accL.num;refine .seq (.sr (.m J J J (.m J J J (.nC J J J (.fld J J J Y120.h J Sz118 dE _ J (.load1 J J J Y118.h J Z0 (by rfl) ?_))))));refine .lenSl J J J Y118.h (.lss J J J J J (.na (.condP J (fun hc6=>?_) (fun hc6=>?_))))
 ·
  have hi2:g.i<g.x.O.length:=by omega
  obtain⟨e,hd⟩:∃e,g.x.O[g.i]? =some e:=⟨_,La3 hi2⟩;have hen:=hG.ok.entO e (Lax hd);have hek:=hen.1;have hel:=hek.l_fName;obtain⟨b,o,hbp,hbs⟩:=rk_open hG.ok.accO oM;refine .skip (A7 (.seq (.block (.sr (.m J J J (.nC J J J (.fld J J J Y120.h J Sz118 dE _ J (.load1 J J J Y118.h J Z0 (by rfl) ?_))))))));refine .m J J J (.idxSlP 163 J J J hbp J Y118.h Sz122 g.i (by rfl) oM ?_);refine .loadSN (n:=163) e.1.cells J J J Y122.h J Sz122 (RKn.length hek) (fun w h=>rk_at (hbs w (Lies.of h (by repeat(first|exact Au|refine A3 ?_|refine Bk ?_)))) hG.ok.okO hd) ?_;refine .alloc (cs:=RKn.zero.cells) J RKn.zr J ?_;intro n11 hn11 hf11;refine .sA J J J J (RKn.isCell (by exact hek)) Sz122 (RKn.length (by exact hek)) Z0 (RKn.length (by exact RKn.zero_ok)) zU ?_;refine .nsr (.m J J J (.fld J J J Y122.h J Sz37 dE _ J (.lN (Block.cells _) J J J Y37.h J Sz37 Z0 (RKn.row_fBlock (by exact hek)) (RKn.rl_fBlock (by exact hek)) ?_)));refine .callB J J J J Body105 (rd_wrong g.x hG.ok p e.1.fBlock e.2 hen.2.1.1) (fun w h=>rd_of (x:=g.x) h Z1 (Lies.of h (by repeat(first|exact Au|refine A3 ?_))) (Lies.of h (by repeat(first|exact Au|refine A3 ?_|refine Bk ?_))) (Lies.of h (by repeat(first|exact Au|refine A3 ?_|refine Bk ?_)))) (fun hs23_30=>?_) (fun hs23_30=>?_)
  ·
   have hs23_3:=hs23_30;refine .a J J J (.na (.seq (.sr (.m J J J (.not J J J (.m J J J (.skp J J (.skp J J (.skp J J (.skp J J (.skp J J (.pick J J J J J J (.na (.cond_f J J (.skip (A7 (.seq ?_)))))))))))))))))
   try simp only[Lgi,Lak,Lah,La8]
   refine .drawK (sp_v (sp_k (sp_x (sp_x (sp_x (sp_x sp_n)))))) J (oPq [0,2,3,4,5,6,7,9,10,11,12,13,14,15,201,408,416,17,18]) [(4,19)] Aq zK zK (.m J J J (.m J J J (.nC J J J (.fld J J J Y120.h J Sz118 dE _ J (.kload1 J J J Y118.h J Z0 (by rfl) ?_)))));refine .m J J J (.sliceHiA g.x.sO g.i J J J J J (by have:=hG.ok.accO.cap;have:=hG.ok.accO.num;omega) Y118.h Sz122 ?_);refine .m J J J (.nC J J J (.fld J J J Y120.h J Sz118 dE _ J (.kload1 J J J Y118.h J Z0 (by rfl) ?_)));refine .m J J J (.aI J J J J oM (Tr.sliceLoA (g.i+1) J J J J oM hG.ok.accO oM Y118.h Sz122 ?_));intro s156 hn156 hnil156 hsee156 _ _;refine .mkRow2 (z:=(agg RKn.zero.cells)) [] ([]) J J Y118.h Sz122 RKn.zr J J (by intro v hv;cases hv) dE J ?_;intro q142;refine .appendAcc (n:=0) (m:=g.i) (z:=(agg RKn.zero.cells)) (by':=216) (rkc (g.x.O.take g.i)) J J J J J Y118.h Y118.h Sz122 RKn.zr (by unfold By;kernel_rfl) J (Acc.some (cells:=[]) (E:=122) (Lad 0) J) (Ab rM Ae) (fun w h=>rk_take (hG.ok.accO.see (Lies.of h (by repeat(first|exact Au|refine A3 ?_|refine Bk ?_))))) (fun e=>by have:=hG.ok.accO.nil e;have:=hG.ok.accO.num;omega) (rkc_cell (fun q hq=>hG.ok.okO q (Lbf hq))) oM oM (by rw[rkc_len (fun q hq=>hG.ok.okO q (Lbf hq)),Lac,Lc8 oM]) ?_;intro s149 bl149 hac149;refine .appendAcc (n:=(0+g.i)) (z:=(agg RKn.zero.cells)) (by':=216) (rkc (g.x.O.drop (g.i+1))) J J J J J Y118.h Y118.h Sz122 RKn.zr (by unfold By;kernel_rfl) J hac149 sG (fun w h=>by rw[rkc_drop hG.ok.okO];exact hsee156 w (Lies.of h (by repeat(first|exact Au|refine A3 ?_|refine Bk ?_)))) hnil156 (rkc_cell (fun q hq=>hG.ok.okO q (Lcx hq))) oM oM (by rw[rkc_len (fun q hq=>hG.ok.okO q (Lcx hq)),Lb6,hn156]) ?_;intro s157 bl157 hac157;refine .nC J J J (.fld J J J Y120.h J Sz118 dE _ J (.nil (.s1 J J J J J Sz118 Z0 sP (by rfl) zU ?_)));refine .na (.seq (.sr (.m J J J (.not J J J (.na (.cond_f J J (.skip (A7 (.region (.a J J J (.nil (bl_n (A7 (.region (.m J J J (.aI J J J J oM (.a J J J (.na ?_))))))))))))))))));exact⟨⟨g.x.less g.i s157 bl157,g.X.drop1 e.1.fName,0,g.s,g.bl,g.l⟩,hG.drop hd (by rw[←hG.rel.p];exact hs23_3) (by simpa only[rkc_app,La2,Lac,Lb6,Lah,Lb2,hn156,Lc8 (Lfg hi2)]using hac157),(by show(g.x.O.take g.i++g.x.O.drop (g.i+1)).length*100000-0<g.x.O.length*100000-g.i;rw[La2,Lac,Lb6];omega),Ag wN (Ab rM (Ac sG (Ac sG (Ac sG (Ac sG Ae)))))⟩
  have hs23_3:=hs23_30;refine .a J J J (.na (.seq (.sr (.m J J J (.not J J J (.m J J J (.m J J J (.fld J J J Y122.h J Sz37 dE _ J (.lN (Block.cells _) J J J Y37.h J Sz37 Z0 (RKn.row_fBlock (by exact hek)) (RKn.rl_fBlock (by exact hek)) ?_)))))))));refine .cV J J J J Body106 (rd_ready g.x hG.ok p e.1.fBlock e.2 hen.2.1.1 hen.2.2) (fun w h=>⟨rd_of (x:=g.x) h Z1 (Lies.of h (by repeat(first|exact Au|refine A3 ?_))) (Lies.of h (by repeat(first|exact Au|refine A3 ?_|refine Bk ?_))) (Lies.of h (by repeat(first|exact Au|refine A3 ?_|refine Bk ?_))),hen.2.1.2 w (Lies.of h (by repeat(first|exact Au|refine A3 ?_|refine Bk ?_)))⟩) ?_;refine .not J J J (.pick J J J J J J (.na (.cond J (fun hc7=>?_) (fun hc7=>?_))))
  ·
   refine .exit (at_x (bl_h (A7 (.region (.m J J J (.aI J J J J oM (.a J J J (.na ?_))))))));exact⟨⟨g.x,g.X,g.i+1,g.s,g.bl,g.l⟩,hG.more hd (by rw[hG.rel.p]at hs23_3 hc7;unfold Bi;rw[show wrongB g.X.P e.2=false from hs23_3,show readyB g.X.P e.2=false by simpa using hc7];rfl),by simp only;omega,Ag wN (Ab rM (Ac sG (Ac sG (Ac sG (Ac sG Ae)))))⟩
  refine .skip (A7 (.seq ?_))
  try simp only[Lgi,Lak,Lah,La8]
  refine .drawK (sp_v (sp_k (sp_x (sp_x (sp_x (sp_x sp_n)))))) J (oPq [0,2,3,4,5,6,7,9,10,11,12,13,14,15,201,408,416,17,18]) [(4,19)] Aq zK zK (.m J J J (.m J J J (.nC J J J (.fld J J J Y120.h J Sz118 dE _ J (.kload1 J J J Y118.h J Z0 (by rfl) ?_)))));refine .m J J J (.sliceHiA g.x.sO g.i J J J J J (by have:=hG.ok.accO.cap;have:=hG.ok.accO.num;omega) Y118.h Sz122 ?_);refine .m J J J (.nC J J J (.fld J J J Y120.h J Sz118 dE _ J (.kload1 J J J Y118.h J Z0 (by rfl) ?_)));refine .m J J J (.aI J J J J oM (Tr.sliceLoA (g.i+1) J J J J oM hG.ok.accO oM Y118.h Sz122 ?_));intro s156 hn156 hnil156 hsee156 _ _;refine .mkRow2 (z:=(agg RKn.zero.cells)) [] ([]) J J Y118.h Sz122 RKn.zr J J (by intro v hv;cases hv) dE J ?_;intro q142;refine .appendAcc (n:=0) (m:=g.i) (z:=(agg RKn.zero.cells)) (by':=216) (rkc (g.x.O.take g.i)) J J J J J Y118.h Y118.h Sz122 RKn.zr (by unfold By;kernel_rfl) J (Acc.some (cells:=[]) (E:=122) (Lad 0) J) (Ab rM Ae) (fun w h=>rk_take (hG.ok.accO.see (Lies.of h (by repeat(first|exact Au|refine A3 ?_|refine Bk ?_))))) (fun e=>by have:=hG.ok.accO.nil e;have:=hG.ok.accO.num;omega) (rkc_cell (fun q hq=>hG.ok.okO q (Lbf hq))) oM oM (by rw[rkc_len (fun q hq=>hG.ok.okO q (Lbf hq)),Lac,Lc8 oM]) ?_;intro s149 bl149 hac149;refine .appendAcc (n:=(0+g.i)) (z:=(agg RKn.zero.cells)) (by':=216) (rkc (g.x.O.drop (g.i+1))) J J J J J Y118.h Y118.h Sz122 RKn.zr (by unfold By;kernel_rfl) J hac149 sG (fun w h=>by rw[rkc_drop hG.ok.okO];exact hsee156 w (Lies.of h (by repeat(first|exact Au|refine A3 ?_|refine Bk ?_)))) hnil156 (rkc_cell (fun q hq=>hG.ok.okO q (Lcx hq))) oM oM (by rw[rkc_len (fun q hq=>hG.ok.okO q (Lcx hq)),Lb6,hn156]) ?_;intro s157 bl157 hac157;refine .nC J J J (.fld J J J Y120.h J Sz118 dE _ J (.nil (.s1 J J J J J Sz118 Z0 sP (by rfl) zU ?_)));refine .na (.seq (.sr (.m J J J (.not J J J (.na (.cond_t J J (.seq ?_)))))))
  try simp only[Lgi,Lak,Lah,La8]
  refine .drawK (sp_k (sp_x (sp_k (sp_x (sp_x (sp_x (sp_x sp_n))))))) J (oPq [0,1,2,3,4,5,206,407,8,9]) [(4,10)] Aq zK zK (.m J J J (.m J J J (.nC J J J (.fld J J J Y120.h J Sz118 dE _ J (.kload1 J J J Y118.h J Z0 (by rfl) ?_)))));refine .kloadAll J J J Y122.h J Sz122 Z1 (RKn.length (by exact hek)) ?_;refine .mkRow2 (z:=(agg RKn.zero.cells)) [agg e.1.cells] (e.1.cells) J J Y118.h Sz122 RKn.zr J J (by intro v hv;rw[La1.1 hv];exact RKn.length (by exact hek)) dE (by simp[Value.cells,agg]) ?_;intro q168;refine .appendAcc (n:=g.x.L.length) (z:=(agg RKn.zero.cells)) (by':=216) (e.1.cells) J J J J J Y118.h Y118.h Sz122 RKn.zr (by unfold By;kernel_rfl) J hG.ok.accL sG (fun w h=>SeesP.of (An h Z0)) (fun e=>by cases e) (RKn.isCell hek) oM oM (by rw[RKn.length hek]) ?_;intro s169 bl169 hac169;refine .nC J J J (.fld J J J Y120.h J Sz118 dE _ J (.nil (.s1 J J J J J Sz118 Z0 sP (by rfl) zU ?_)));refine .na (.region (.m J J J (.fld J J J Y122.h J Sz31 dE _ J (.lN (Aa _) J J J Y31.h J Sz31 Z1 (RKn.row_fName (by exact hek)) (RKn.rl_fName (by exact hek)) ?_))));refine .mkRow2 (z:=agg (Aa (List.replicate 32 0))) [agg (Aa e.1.fName)] (Aa e.1.fName) J J Y32.h Sz31 Cj J J (by intro v hv;rw[La1.1 hv];simp[Value.cells,Aa,hel]) dE (by simp[Value.cells,agg]) ?_;intro q175;refine .appendAcc (n:=g.l.length) (z:=agg (Aa (List.replicate 32 0))) (by':=32) (Aa e.1.fName) J J J J J Y32.h Y32.h Sz31 Cj (by unfold By;kernel_rfl) J hG.acc sG (fun w h=>SeesP.of (An h Z0)) (fun e=>by cases e) (A0 _) oM oM (by rw[Aa,La0,hel]) ?_;intro s176 bl176 hac176;refine .a J J J (.na (.region (.a J J J (.nil (bl_n (A7 (.region (.m J J J (.aI J J J J oM (.a J J J (.na ?_)))))))))));exact⟨⟨(g.x.less g.i s157 bl157).more e s169 bl169 g.x.cb,(g.X.drop1 e.1.fName).adm e.1.fName e.2,0,s176,bl176,g.l++[e.1.fName]⟩,hG.fit hd (by rw[←hG.rel.p];exact hs23_3) (by rw[←hG.rel.p];simpa using hc7) (by simpa only[rkc_app,La2,Lac,Lb6,Lah,Lb2,hn156,Lc8 (Lfg hi2)]using hac157) hac169 hac176,(by show(g.x.O.take g.i++g.x.O.drop (g.i+1)).length*100000-0<g.x.O.length*100000-g.i;rw[La2,Lac,Lb6];omega),Ag wN (Ab rM (Ac sG (Ac sG (Ac sG (Ac sG Ae)))))⟩
 have hi2:g.i=g.x.O.length:=by omega
 refine .exit (at_x (at_x (bl_h (A7 (.sr (.m J J J (.a J J J (.a J J J (.na ?_)))))))));refine .ret (C6 (As (out:=(⟨p,[g.x.sL.v,g.x.sO.v],120,2⟩::(g.x.bL++(g.x.bO++(g.x.cb++(g.bl++[])))))) (Ca J J J) (Ab rM (Ac sG (Ac sG (Ac sG (Ac sG Ae))))) ?_));exact⟨g.x,0,g.s,g.bl,rfl,(by simp[RD.blks]),hG.ok,hG.fin hi2,hG.sz⟩
end Go.Proofs.YtgjnomgkddbhcaaGreat
namespace Go.Proofs.YtgjnomgkddbhcaaGreat
open Go Hw Ed
variable{j n:Nat}{k st w:List UInt64}{p:List UInt8}{α:Type}{l:List α}
theorem cons_of8(h:l.length=n+1):∃a t,l=a::t∧t.length=n:=by
  cases l with
  |nil=>cases h
  |cons a t=>exact⟨a,t,rfl,by simpa using h⟩
def forceA{α:Type}(s:Nat)(f:Nat→α):α:=Nat.casesOn (motive:=fun _=>α) s (f 0) (fun m=>f (m+1))
theorem forceA_eq(s:Nat)(f:Nat→α):forceA s f=f s:=by cases s<;>rfl
def aN(a b:Nat):Nat:=Nat.mod (Nat.add a b) 18446744073709551616
def shN(x s:Nat):Nat:=Nat.mod (Nat.mul x (Nat.pow 2 s)) 18446744073709551616
def rolN(x s:Nat):Nat:=Nat.lor (shN x s) (Nat.div x (Nat.pow 2 (Nat.sub 64 s)))
def o8N(x:Nat)(b:UInt8):Nat:=Nat.lor (shN x 8) b.toNat
def sg0N(x:Nat):Nat:=Nat.xor (Nat.xor (rolN x 63) (rolN x 56)) (Nat.div x (Nat.pow 2 7))
def sg1N(x:Nat):Nat:=Nat.xor (Nat.xor (rolN x 45) (rolN x 3)) (Nat.div x (Nat.pow 2 6))
def t1N(e f g h k w:Nat):Nat:=aN (aN (aN (aN h (Nat.xor (Nat.xor (rolN e 50) (rolN e 46)) (rolN e 23))) (Nat.xor (Nat.land e f) (Nat.land (Nat.xor 18446744073709551615 e) g))) k) w
def t2N(a b c:Nat):Nat:=aN (Nat.xor (Nat.xor (rolN a 36) (rolN a 30)) (rolN a 25)) (Nat.xor (Nat.xor (Nat.land a b) (Nat.land a c)) (Nat.land b c))
def wgo:List UInt8→List Nat→List Nat
  |a::b::c::d::e::f::g::h::t,r=>forceA (o8N (o8N (o8N (o8N (o8N (o8N (o8N (o8N 0 a) b) c) d) e) f) g) h) fun v=>wgo t (v::r)
  |_,r=>r
def nxN(r:List Nat):Nat:=aN (aN (aN (r.getD 15 0) (sg0N (r.getD 14 0))) (r.getD 6 0)) (sg1N (r.getD 1 0))
def sgo:Nat→List Nat→List Nat
  |0,r=>r
  |n+1,r=>forceA (nxN r) fun v=>sgo n (v::r)
def rgo:List Nat→List Nat→Nat→Nat→Nat→Nat→Nat→Nat→Nat→Nat→List Nat
  |k::ks,w::ws,a,b,c,d,e,f,g,h=>forceA (t1N e f g h k w) fun t=>forceA (aN t (t2N a b c)) fun a2=>forceA (aN d t) fun e2=>rgo ks ws a2 a b c e2 e f g
  |_,_,a,b,c,d,e,f,g,h=>[a,b,c,d,e,f,g,h]
def adN:List Nat→List Nat→List Nat
  |x::xs,y::ys=>forceA (aN x y) fun z=>z::adN xs ys
  |_,_=>[]
def rgoL(ks ws:List Nat):List Nat→List Nat
  | [a,b,c,d,e,f,g,h]=>rgo ks ws a b c d e f g h
  |_=>[]
def pieceN(ks st:List Nat)(p:List UInt8):List Nat:=adN st (rgoL ks (sgo 64 (wgo p [])).reverse st)
def runN(ks st:List Nat)(bs:List UInt8):Nat→List Nat
  |0=>st
  |i+1=>pieceN ks (runN ks st bs i) ((bs.drop (128*i)).take 128)
def padT(n:Nat):List UInt8:=128::(List.replicate (padZ n) 0++(beUp 0 8++beUp (UInt64.ofNat (8*n)) 8))
def allN(ks st:List Nat)(l:List UInt8):List Nat:=forceA l.length fun n=>runN ks st (l++padT n) ((n+17+padZ n)/128)
theorem padT_eq(l:List UInt8):padB l=l++padT l.length:=by simp[padB,padT]
theorem sh_hom(x:UInt64)(s:Nat):(A6 x s).toNat=shN x.toNat s:=by rw[A6,Lc4];rfl
theorem sr_hom(x:UInt64)(s:Nat):(Ax x s).toNat=Nat.div x.toNat (Nat.pow 2 s):=by
  have h:x.toNat/2^s<18446744073709551616:=Lfb (Ld8 _ _) x.toNat_lt;rw[Ax,Lc4];exact Lai h
theorem add_hom(x y:UInt64):(x+y).toNat=aN x.toNat y.toNat:=Lbj x y
theorem or_hom(x y:UInt64):(x|||y).toNat=Nat.lor x.toNat y.toNat:=Leu x y
theorem xor_hom(x y:UInt64):(x^^^y).toNat=Nat.xor x.toNat y.toNat:=UInt64.toNat_xor x y
theorem and_hom(x y:UInt64):(x&&&y).toNat=Nat.land x.toNat y.toNat:=Lfu x y
theorem rol_hom(x:UInt64)(s:Nat):(rolW x s).toNat=rolN x.toNat s:=by rw[rolW,or_hom,sh_hom,sr_hom];rfl
theorem sg0_hom(x:UInt64):(sig0 x).toNat=sg0N x.toNat:=by simp only[sig0,xor_hom,rol_hom,sr_hom];rfl
theorem sg1_hom(x:UInt64):(sig1 x).toNat=sg1N x.toNat:=by simp only[sig1,xor_hom,rol_hom,sr_hom];rfl
theorem t1_hom(s:W8)(k w:UInt64):(rndT1 s k w).toNat=t1N s.e.toNat s.f.toNat s.g.toNat s.h.toNat k.toNat w.toNat:=by
  simp only[rndT1,add_hom,xor_hom,and_hom,rol_hom];rfl
theorem t2_hom(s:W8):(rndT2 s).toNat=t2N s.a.toNat s.b.toNat s.c.toNat:=by
  simp only[rndT2,add_hom,xor_hom,and_hom,rol_hom];rfl
theorem o8_hom(x:UInt64)(b:UInt8):(A6 x 8|||b.toUInt64).toNat=o8N x.toNat b:=by
  rw[or_hom,sh_hom,Le2];rfl
def wU:List UInt8→List UInt64
  |a::b::c::d::e::f::g::h::t=>(A6 (A6 (A6 (A6 (A6 (A6 (A6 (A6 0 8|||a.toUInt64) 8|||b.toUInt64) 8|||c.toUInt64) 8|||d.toUInt64) 8|||e.toUInt64) 8|||f.toUInt64) 8|||g.toUInt64) 8|||h.toUInt64)::wU t
  |_=>[]
theorem wgo_eq:∀(n:Nat) (p:List UInt8) (r:List Nat),p.length=8*n→wgo p r=((wU p).map UInt64.toNat).reverse++r
  | 0,p,r,h=>by
    obtain rfl:=Lag h;rfl
  | n+1,p,r,h=>by
    have h:p.length=8*n+7+1:=h
    iterate 8 (obtain⟨a,l,e,h2⟩:=cons_of8 h;clear h;subst e;have h:=h2;clear h2)
    rw[wgo,forceA_eq,wgo_eq n _ _ h,wU,Laq,List.reverse_cons,La8];simp only[o8_hom];rfl
theorem schA_words(p:List UInt8)(h:p.length=128):schA p 128=wU p++List.replicate 64 0:=by
  iterate 128 (obtain⟨a,l,e,h2⟩:=cons_of8 h;clear h;subst e;have h:=h2;clear h2)
  obtain rfl:=Lag h;clear h;refine Eq.trans ?_ rfl;kernel_rfl
theorem wU_length:∀(n:Nat) (p:List UInt8),p.length=8*n→(wU p).length=n
  | 0,p,h=>by
    obtain rfl:=Lag h;rfl
  | n+1,p,h=>by
    have h:p.length=8*n+7+1:=h
    iterate 8 (obtain⟨a,l,e,h2⟩:=cons_of8 h;clear h;subst e;have h:=h2;clear h2)
    rw[wU,Lay,wU_length n _ h]
def SJ(w:List UInt64)(j:Nat):List Nat:=(((schB w j).take (16+j)).map UInt64.toNat).reverse
theorem take_set(h:n<l.length)(v:α):(l.set n v).take (n+1)=l.take n++[v]:=by
  have hl:(l.take n).length=n:=by rw[Lac];omega
  rw[Leg,if_pos h,Lbl,hl,La5 oM,show n+1-n=1 by omega];rfl
theorem SJ_get(hw:w.length=80){j i:Nat}(hj:j≤64)(hi:i<16+j):(SJ w j).getD i 0=((schB w j).getD (15+j-i) 0).toNat:=by
  have hl:((schB w j).take (16+j)).length=16+j:=by rw[Lac,schB_length,hw];omega
  have h1:15+j-i<(schB w j).length:=by rw[schB_length,hw];omega
  rw[SJ,La4,List.getElem?_reverse (by rw[La0,hl];exact hi),La0,hl,Lam,Lex oM,show 16+j-1-i=15+j-i by omega,La4,La3 h1];rfl
theorem SJ_succ(hw:w.length=80)(hj:j<64):SJ w (j+1)=nxN (SJ w j)::SJ w j:=by
  have h1:SJ w (j+1)=((schB w j).getD j 0+sig0 ((schB w j).getD (j+1) 0)+(schB w j).getD (j+9) 0+sig1 ((schB w j).getD (j+14) 0)).toNat::SJ w j:=by
    rw[SJ,schB,show 16+(j+1)=(16+j)+1 by omega,take_set (by rw[schB_length,hw];omega),Lae,List.reverse_append];rfl
  rw[h1,nxN,SJ_get hw oM oM,SJ_get hw oM oM,SJ_get hw oM oM,SJ_get hw oM oM,show 15+j-15=j by omega,show 15+j-14=j+1 by omega,show 15+j-6=j+9 by omega,show 15+j-1=j+14 by omega];simp only[add_hom,sg0_hom,sg1_hom]
theorem sgo_run{w:List UInt64}(hw:w.length=80):∀n j,j+n≤64→sgo n (SJ w j)=SJ w (j+n)
  |0,j,_=>rfl
  | n+1,j,h=>by
    rw[sgo,forceA_eq,←SJ_succ hw oM,sgo_run hw n (j+1) oM,show j+1+n=j+(n+1) by omega]
theorem sch_N(h:p.length=128):(sgo 64 (wgo p [])).reverse=(schW p).map UInt64.toNat:=by
  have hw:(schA p 128).length=80:=schA_length p 128;have e:wgo p []=SJ (schA p 128) 0:=by
    rw[wgo_eq 16 p [] h,SJ,Lat,schB,schA_words p h,Lcl (by rw[wU_length 16 p h];omega),La5 (by rw[wU_length 16 p h];omega)]
  rw[e,sgo_run hw 64 0 oM,SJ,List.reverse_reverse,schW,La5 (by rw[schB_length,hw];omega)]
def rndF(ks ws:List UInt64)(s:W8):W8:=(ks.zip ws).foldl (fun s p=>rnd1 s p.1 p.2) s
theorem rnds_F{k w:List UInt64}(s:W8)(hk:k.length=80)(hw:w.length=80):∀t,t≤80→rnds k w s t=rndF (k.take t) (w.take t) s
  |0,_=>by simp[rnds,rndF]
  | t +1,h=>by
    have e:rndF (k.take (t+1)) (w.take (t+1)) s=rnd1 (rndF (k.take t) (w.take t) s) (k[t]'oM) (w[t]'oM):=by
      rw[Lar oM,Lar oM,rndF,List.zip_append (by rw[Lac,Lac,hk,hw]),Ldq];rfl
    rw[rnds,rnds_F s hk hw t oM,e,La4,La4,La3 oM,La3 oM];rfl
theorem rgo_eq:∀(ks ws:List UInt64) (s:W8),rgo (ks.map UInt64.toNat) (ws.map UInt64.toNat) s.a.toNat s.b.toNat s.c.toNat s.d.toNat s.e.toNat s.f.toNat s.g.toNat s.h.toNat=(rndF ks ws s).l.map UInt64.toNat
  | [],ws,s=>by simp only[rndF,List.zip_nil_left,Lfs,Lei,rgo,W8.l,Laq]
  |_::_,[],s=>by simp only[rndF,List.zip_nil_right,Lfs,Lei,Laq,rgo,W8.l]
  | k::ks,w::ws,s=>by
    have e:rndF (k::ks) (w::ws) s=rndF ks ws (rnd1 s k w):=by simp only[rndF,List.zip_cons_cons,Ldl]
    rw[Laq,Laq,rgo,forceA_eq,forceA_eq,forceA_eq,e,←rgo_eq ks ws];simp only[rnd1,add_hom,t1_hom,t2_hom]
theorem add8{st xs:List UInt64}(h1:st.length=8)(h2:xs.length=8):(addUp st xs 8).map UInt64.toNat=adN (st.map UInt64.toNat) (xs.map UInt64.toNat):=by
  iterate 8 (obtain⟨a,l,e,h3⟩:=cons_of8 h1;clear h1;subst e;have h1:=h3;clear h3)
  obtain rfl:=Lag h1
  iterate 8 (obtain⟨a,l,e,h3⟩:=cons_of8 h2;clear h2;subst e;have h2:=h3;clear h3)
  obtain rfl:=Lag h2;simp only[Laq,Lei,adN,forceA_eq,←add_hom];rfl
theorem piece_N(hk:k.length=80)(hs:st.length=8)(hp:p.length=128):(pieceW k st p).map UInt64.toNat=pieceN (k.map UInt64.toNat) (st.map UInt64.toNat) p:=by
  have hw:(schW p).length=80:=by rw[schW,schB_length,schA_length]
  have e:rgoL (k.map UInt64.toNat) ((schW p).map UInt64.toNat) (st.map UInt64.toNat)=(rnds k (schW p) (W8.of st) 80).l.map UInt64.toNat:=by
    rw[rnds_F _ hk hw 80 oM,La5 oM,La5 oM,←rgo_eq]
    iterate 8 (obtain⟨a,l,e,h3⟩:=cons_of8 hs;clear hs;subst e;have hs:=h3;clear h3)
    obtain rfl:=Lag hs;rfl
  rw[pieceW,add8 hs rfl,pieceN,sch_N hp,e]
theorem run_N{k st:List UInt64}{bs:List UInt8}(hk:k.length=80)(hs:st.length=8):∀i,128*i≤bs.length→(runW k st bs i).map UInt64.toNat=runN (k.map UInt64.toNat) (st.map UInt64.toNat) bs i
  |0,_=>rfl
  | i+1,h=>by
    rw[runW,runN,piece_N hk (by rw[runW_length];exact hs) (by rw[Lac,Lb6];omega),run_N hk hs i oM]
theorem all_N(l:List UInt8)(hk:k.length=80)(hs:st.length=8):(allW k st l).map UInt64.toNat=allN (k.map UInt64.toNat) (st.map UInt64.toNat) l:=by
  rw[allW,run_N hk hs _ (by have:=padB_mod l;omega),allN,forceA_eq,padT_eq,←padB_length,padT_eq]
def kN:List Nat:=[4794697086780616226,8158064640168781261,13096744586834688815,16840607885511220156,4131703408338449720,6480981068601479193,10538285296894168987,12329834152419229976,15566598209576043074,1334009975649890238,2608012711638119052,6128411473006802146,8268148722764581231,9286055187155687089,11230858885718282805,13951009754708518548,16472876342353939154,17275323862435702243,1135362057144423861,2597628984639134821,3308224258029322869,5365058923640841347,6679025012923562964,8573033837759648693,10970295158949994411,12119686244451234320,12683024718118986047,13788192230050041572,14330467153632333762,15395433587784984357,489312712824947311,1452737877330783856,2861767655752347644,3322285676063803686,5560940570517711597,5996557281743188959,7280758554555802590,8532644243296465576,9350256976987008742,10552545826968843579,11727347734174303076,12113106623233404929,14000437183269869457,14369950271660146224,15101387698204529176,15463397548674623760,17586052441742319658,1182934255886127544,1847814050463011016,2177327727835720531,2830643537854262169,3796741975233480872,4115178125766777443,5681478168544905931,6601373596472566643,7507060721942968483,8399075790359081724,8693463985226723168,9568029438360202098,10144078919501101548,10430055236837252648,11840083180663258601,13761210420658862357,14299343276471374635,14566680578165727644,15097957966210449927,16922976911328602910,17689382322260857208,500013540394364858,748580250866718886,1242879168328830382,1977374033974150939,2944078676154940804,3659926193048069267,4368137639120453308,4836135668995329356,5532061633213252278,6448918945643986474,6902733635092675308,7801388544844847127]
def stN:List Nat:=[7640891576956012808,13503953896175478587,4354685564936845355,11912009170470909681,5840696475078001361,11170449401992604703,2270897969802886507,6620516959819538809]
def siN:List Nat:=[2463787394917988140,11481187982095705282,2563595384472711505,10824532655140301501,10819967247969091555,13717434660681038226,3098927326965381290,1060366662362279074]
theorem kN_eq:kW.map UInt64.toNat=kN:=by kernel_rfl
theorem stN_eq:startW.map UInt64.toNat=stN:=by kernel_rfl
theorem of_to(l:List UInt64):(l.map UInt64.toNat).map UInt64.ofNat=l:=by
  rw[Lhd];exact(List.map_congr_left fun x _=>UInt64.ofNat_toNat).trans (List.map_id l)
theorem sha512_N(l:List UInt8):sha512 l=sumUp ((allN kN stN l).map UInt64.ofNat) 64:=by
  rw[←kN_eq,←stN_eq,←all_N l rfl rfl,of_to];rfl
theorem siN_eq:shaI.map UInt64.toNat=siN:=by kernel_rfl
theorem sha256_N(l:List UInt8):sha256 l=(sumUp ((allN kN siN l).map UInt64.ofNat) 64).take 32:=by
  rw[←kN_eq,←siN_eq,←all_N l rfl shaI_length,of_to];rfl
end Go.Proofs.YtgjnomgkddbhcaaGreat
namespace Go.Proofs.YtgjnomgkddbhcaaGreat
open Go Hw _root_.Go.Proofs.Tryz
open Ed
def pbN(n:Nat):List UInt8:=forceA (fastN n) fun s=>forceA (pwm PF 256 (uz s%PF) (PF-2)) fun i=>pb ⟨fe (ux s*i%PF),fe (uy s*i%PF)⟩
variable{n:Nat}
theorem pbN_eq(h:n<2^256):pb (cv.mul n bP)=pbN n:=by
  rw[fast_at h rfl rfl,pbN,forceA_eq,forceA_eq,affX,affY,force_eq,force_eq]
def h512(l:List UInt8):List UInt8:=sumUp ((allN kN stN l).map UInt64.ofNat) 64
def h256(l:List UInt8):List UInt8:=(sumUp ((allN kN siN l).map UInt64.ofNat) 64).take 32
def blkD(K:List UInt8)(D0:DB)(e S:Nat):DB:=bsg D0 K (leb 32 e++leb 32 S)
def blkOk(H K:List UInt8)(n:Nat)(D0:DB)(r e S N:Nat):Bool:=
  Nat.beq (le (h512 (H.drop 32++btxt { D0 with w:=K }))%L) r&&(Nat.beq (le (pbN r)) e&&(Nat.beq ((le (h512 (leb 32 e++(K++btxt { D0 with w:=K })))%L*n+r)%L) S
    &&(Nat.beq (le (h256 (blkD K D0 e S).bytes)) N&&(decide (D0.check=0)&&decide ((blkD K D0 e S).check=0)))))
theorem le_32{l:List UInt8}{x:Nat}(h:l.length=32)(e:le l=x):l=leb 32 x:=by rw[←e,←h,leb_le]
def BlkF(seed K:List UInt8)(D0:DB)(e S N:Nat):Prop:=(blkD K D0 e S).ok∧Az (blkD K D0 e S)=leb 32 N∧dgood (blkD K D0 e S)=0∧∀B:Block,B.ok→Meets prog 116 [agg (Aa seed),agg B.cells] [] (fun W=>BlockIs W B D0) (BlkR 0 (blkD K D0 e S))
theorem blk_facts{seed H K:List UInt8}(h32:seed.length=32)(hH:sha512 seed=H)(hn:le (clampB (H.take 32))=n)(hK:sgK H=K){D0:DB}{r e S N:Nat}(hl:D0.ls.length≤40)(hd:D0.ds.length≤2000)(hD0:D0.ok)(h:blkOk H K n D0 r e S N=true):BlkF seed K D0 e S N:=by
  unfold blkOk at h;simp only[Lal,decide_eq_true_eq]at h;obtain⟨h1,h2,h3,h4,h5,h6⟩:=h;rw[h512,←sha512_N]at h1 h3;rw[h256,←sha256_N]at h4;have h1:=Lc9 h1;have h2:=Lc9 h2;have h3:=Lc9 h3;have h4:=Lc9 h4;have hr:r<2^256:=by rw[←h1];exact lm _
  have hKl:K.length=32:=by rw[←hK];exact sgK_length H
  obtain⟨T,hT⟩:∃T,T=btxt { D0 with w:=K }:=⟨_,rfl⟩;rw[←hT]at h1 h3;obtain⟨s1,hs1⟩:∃s1,sha512 (H.drop 32++T)=s1:=⟨_,rfl⟩;rw[hs1]at h1;have e1:le (sgR s1)=r:=by rw[sgR,le_leb32 (lm _),h1]
  have e2:sgF s1=leb 32 e:=by
    rw[sgF,e1,pbN_eq hr];refine le_32 ?_ h2;rw[←pbN_eq hr];exact Cp _
  obtain⟨s2,hs2⟩:∃s2,sha512 (leb 32 e++(K++T))=s2:=⟨_,rfl⟩;rw[hs2]at h3;have e3:sgS H s1 s2=leb 32 S:=by rw[sgS,e1,hn,sgR,le_leb32 (lm _),h3]
  have g:=good_self H s1 T (s2:=s2) (by rw[e2,hK];exact hs2);rw[hK,e2,e3]at g;refine⟨⟨hKl,hD0.prev,by show(leb 32 e++leb 32 S).length=64;rw[La2,Am,Am],hD0.ls⟩,?_,?_,fun B hB=>?_⟩
  · unfold Az
    rw[if_pos h6];exact le_32 (sha256_length _) h4
  · unfold dgood
    rw[if_pos h6];refine if_pos ?_;have e4:btxt (blkD K D0 e S)=T:=hT.symm;rw[e4];exact g
  · have c:=r15_Sign B D0 hB hl hd seed h32 H s1 s2 ⟨hH⟩ ⟨by rw[hK,←hT];exact hs1⟩ ⟨by rw[hK,←hT,e2];exact hs2⟩ h5
    rw[hK,e2,e3]at c;exact c
end Go.Proofs.YtgjnomgkddbhcaaGreat
namespace Go.Proofs.YtgjnomgkddbhcaaGreat
open Go Hw Ed
def s1B:List UInt8:=[1,0,0,0,0,0,0,0,0,0,0,0,0,0,0,0,0,0,0,0,0,0,0,0,0,0,0,0,0,0,0,77]
def s1H:List UInt8:=[87,159,104,236,80,14,38,174,240,0,164,75,108,245,33,87,115,113,131,28,237,105,185,222,57,145,233,242,112,190,170,213,35,11,137,144,70,23,17,214,148,220,86,67,25,124,131,91,42,247,30,195,63,213,16,142,181,57,199,82,96,7,203,83]
def s1K:List UInt8:=[96,107,246,169,182,86,212,252,106,138,137,108,60,10,195,142,100,120,65,80,61,64,193,87,241,248,221,83,126,228,255,164]
theorem s1_h:sha512 s1B=s1H:=by rw[sha512_N];kernel_rfl
theorem s1_n:le (clampB ((s1H).take 32))=38748270507491543869280182973643753799655646515636239770492563660028217171792:=by kernel_rfl
theorem s1_k:sgK s1H=s1K:=by
  rw[sgK,s1_n,pbN_eq dE];kernel_rfl
def mA0:DB:=DB.zero
def mAR:Nat×Nat×Nat×Nat:=(565907765622320541399421425701583650488762096448569470237382742425803974514,100601403375759064195258946539497424308391876113719775996124634348183556250024,3579687427427459069974335426959508808461923918647704402293925102387200652691,97113733480288696092322898458545537851336488749795256506728843684697484984565)
def mAN:List UInt8:=leb 32 mAR.2.2.2
def mAD:DB:=blkD s1K mA0 mAR.2.1 mAR.2.2.1
theorem mA_ok:blkOk s1H s1K 38748270507491543869280182973643753799655646515636239770492563660028217171792 mA0 mAR.1 mAR.2.1 mAR.2.2.1 mAR.2.2.2=true:=by kernel_rfl
theorem mA_len:mAN.length=32:=Am 32 _
theorem mA_f:BlkF s1B s1K mA0 mAR.2.1 mAR.2.2.1 mAR.2.2.2:=blk_facts (H:=s1H) rfl s1_h s1_n s1_k dE dE ⟨rfl,by rfl,rfl,fun l hl=>(by first|(cases hl;done)|(rw[La1.1 hl];rfl))⟩ mA_ok
def mB0:DB:={ DB.zero with seq:=1,prev:=mAN }
def mBR:Nat×Nat×Nat×Nat:=(1042854690461855033549293643297295419211154182590953024946931292553013138148,65806961080161634906959505977140487317327363723346420782109779725411984570611,7208915343660222524937526513360399956949480183635538504188365353118992172452,46058863218359618658494336369744020781322587224099048705861084924914012010741)
def mBN:List UInt8:=leb 32 mBR.2.2.2
def mBD:DB:=blkD s1K mB0 mBR.2.1 mBR.2.2.1
theorem mB_ok:blkOk s1H s1K 38748270507491543869280182973643753799655646515636239770492563660028217171792 mB0 mBR.1 mBR.2.1 mBR.2.2.1 mBR.2.2.2=true:=by kernel_rfl
theorem mB_len:mBN.length=32:=Am 32 _
theorem mB_f:BlkF s1B s1K mB0 mBR.2.1 mBR.2.2.1 mBR.2.2.2:=blk_facts (H:=s1H) rfl s1_h s1_n s1_k dE dE ⟨rfl,by rfl,rfl,fun l hl=>(by first|(cases hl;done)|(rw[La1.1 hl];rfl))⟩ mB_ok
end Go.Proofs.YtgjnomgkddbhcaaGreat
namespace Go.Proofs.YtgjnomgkddbhcaaGreat
open Go Hw _root_.Go.Proofs.Tryz
open Ed
variable{T:TypeId}{a b c:Block}{m q:Nat}{w:World}
theorem s1B_length:s1B.length=32:=rfl
theorem kitS1  :Mv 117 [i64 1] (fun _=>True) (agg (Aa s1B)):=by
 intro W hW;refine Ad func117 J 9 ntmps117 J (G2 ?_);refine .alloc (cs:=(Aa (List.replicate 32 0))) J Zr28 J ?_;intro n2 hn2 hf2;refine G5 ?_;refine .conv J J J Y3.h Y5.h (show Value.int .u8 (IntKind.u8.wrap 1)=u8 1 from rfl) (G1 ?_)
 refine .shrN 1 8 J J J J J dE (.conv J J J Y3.h Y5.h (show Value.int .u8 (IntKind.u8.wrap ((1/2^8:Nat):Int))=u8 0 from rfl) (.build (cs:=Aa s1B) J J J (fun w=>by kernel_rfl) ?_));refine .sA J J J J zE Sz28 (by(simp[s1B_length];done)) Z0 sP zU ?_;refine G2 ?_;refine G2 ?_;refine⟨_,[],Aw J J Y28.h J Sz28 Z0 (by simp[s1B_length]),sP,sP,?_,rfl⟩;rfl
def ChainS(Da Db Dc:DB)(v:Value)(out:List Blk):Prop:=∃(q:Nat) (Ba Bb Bc:Block) (bl:List Blk),SameB Ba Da∧SameB Bb Db∧SameB Bc Dc∧v= .slice (some ⟨q,0,none⟩) 3 3∧out=⟨q,tri Ba Bb Bc,37,(tri Ba Bb Bc).length⟩::bl∧∀W2,Lies bl W2→BlockIs W2 Ba Da∧BlockIs W2 Bb Db∧BlockIs W2 Bc Dc
theorem tri_sees(ha:a.ok)(hb:b.ok)(hc:c.ok)(h:BlkOk w ⟨q,tri a b c,T,m⟩):De w q (0+0*131) a.cells∧De w q (0+1*131) b.cells∧De w q (0+2*131) c.cells:=by
  have part:∀(o:Nat) (l:List Value),((tri a b c).drop o).take 131=l→De w q o l:=fun o l e=>sees_kok h fun j v hj=>by
    rw[←e]at hj;have h1:=(Laa.1 hj).1;rw[Lex (by rw[Lac]at h1;omega),Lb9]at hj;exact hj
  exact⟨part _ _ (tri_0 ha),part _ _ (tri_1 ha hb),part _ _ (tri_2 ha hb hc)⟩
theorem tri_blocks{Da Db Dc:DB}(h:BlkOk w ⟨q,tri a b c,T,m⟩)(hi:BlockIs w a Da∧BlockIs w b Db∧BlockIs w c Dc):BlocksAt w ⟨some ⟨q,0,none⟩,3,3⟩ [Da,Db,Dc]:=by
  obtain⟨ha,hb,hc⟩:=hi;refine⟨[a,b,c],rfl,rfl,fun i r d hr hd=>?_,fun r hr=>?_,Lad 3,?_,(by show 3≤maxLen;decide),fun e=>by cases e⟩
  · rcases i with _|_|_|i
    ·cases hr;cases hd;exact ha
    ·cases hr;cases hd;exact hb
    ·cases hr;cases hd;exact hc
    ·cases hr
  · simp only[Laj,Lbu,or_false]at hr
    rcases hr with rfl|rfl|rfl
    ·exact Block.length ha.ok
    ·exact Block.length hb.ok
    ·exact Block.length hc.ok
  · refine SeesP.of (sees_kok h fun j v hj=>?_)
    rw[Lb2];exact hj
theorem mA_g:dgood mAD=0:=mA_f.2.2.1
theorem mB_g:dgood mBD=0:=mB_f.2.2.1
theorem mA_nm:Az mAD=mAN:=mA_f.2.1
theorem mB_nm:Az mBD=mBN:=mB_f.2.1
def cX1:PD:=PD.new.adm mAN mAD
def cX2:PD:=cX1.adm mBN mBD
theorem c_add1:PD.new.add mAD=(cX1,[mAN],0):=by
  have h:=add_fits (X:=PD.new) mA_g (by rw[mA_nm];kernel_rfl) zK;rw[mA_nm]at h;have e:PD.settle (PD.new.adm mAN mAD).orp.length (PD.new.adm mAN mAD)=(cX1,[]):=by kernel_rfl
  rw[h,e]
theorem c_add2:cX1.add mBD=(cX2,[mBN],0):=by
  have h:=add_fits (X:=cX1) mB_g (by rw[mB_nm];kernel_rfl) zK;rw[mB_nm]at h;have e:PD.settle (cX1.adm mBN mBD).orp.length (cX1.adm mBN mBD)=(cX2,[]):=by kernel_rfl
  rw[h,e]
theorem reach_in{X:PD}(hI:X.Inv){L:List (List UInt8)}{n:List UInt8}{D:DB}(hn:n∈L)(hD:Aj X.P n=some D):X.Reach (-1) L n:= .base hn hD (by have:=hI.d0 n D hD;omega)
end Go.Proofs.YtgjnomgkddbhcaaGreat
namespace Go.Proofs.YtgjnomgkddbhcaaGreat
open Go Hw _root_.Go.Proofs.Tryz
variable{B:Block}{C:Cx}{D:DB}{L hp:List Blk}{w:World}{x:RD}
theorem seesP_far{w w2:World}(h:HRep C hp w)(hl:C.lent=[])(hL:∀b∈L,b∈hp)(hk:Keeps (L.map (·.n)) w w2){p:Option Addr}{cs:List Value}(hs:SeesP C.W0 p cs):SeesP w2 p cs:=fun j v hj=>by
  obtain⟨b,o,hp1,hc⟩:=hs j v hj;refine⟨b,o,hp1,?_⟩;have hlt:=cell_lt' hc;have h1:w.cell? ⟨b,o+j,none⟩=some v:=h.keeps.cell (by rw[hl];simp) hc;refine hk.cell (fun hm=>?_) h1;obtain⟨x,hx,e⟩:=La6.1 hm;rcases h.own x (hL x hx)with h2|h2
  · have e2:x.n=b:=e
    omega
  ·rw[hl]at h2;cases h2
theorem block_far(h:HRep C hp w)(hL:∀b∈L,b∈hp)(hb:BlockIs C.W0 B D)(hl:C.lent=[]:=by rfl):∀w2,Keeps (L.map (·.n)) w w2→BlockIs w2 B D:=fun w2 hk=>
  ⟨hb.ok,hb.w,hb.seq,hb.prev,⟨hb.ls.len,hb.ls.row,hb.ls.cap,seesP_far h hl hL hk hb.ls.see,hb.ls.max,hb.ls.nil⟩,⟨hb.ds.len,hb.ds.cap,seesP_far h hl hL hk hb.ds.see,hb.ds.max,hb.ds.nil⟩,hb.sg⟩
theorem rd_lent{hp keep:List Blk}{p:Nat}(h:HRep C hp w)(hp1:hp.Perm (x.blks p++keep))(hb:BlockIs C.W0 B D)(hl:C.lent=[]:=by rfl):Lent (x.blks p) w∧∀w2,Keeps ((x.blks p).map (·.n)) w w2→BlockIs w2 B D:=
  ⟨Lent.of h hp1,block_far h (fun b hb=>hp1.mem_iff.2 (Lao _ hb)) hb hl⟩
theorem RRel.new:RRel PD.new [] []:=⟨rfl,Ld1 _,List.Pairwise.nil⟩
theorem rd_new0:(⟨Sl.nil,[],[],Sl.nil,[],[],[]⟩:RD).ok:=⟨Acc.none,Acc.none,fun e he=>(by cases he),fun e he=>(by cases he),Lan _,Lan _⟩
def rkNames(x:RD):List (List UInt8):=x.L.map fun e=>e.1.fName
theorem rkNames_P(x:RD):rkNames x=x.P.map (·.1):=by unfold rkNames RD.P rp;rw[Lhd];rfl
theorem rkNames_at{k:Nat}{e:RE}(h:x.L[k]? =some e):(rkNames x).take (k+1)=(rkNames x).take k++[e.1.fName]:=by
  obtain⟨h1,h2⟩:=Laa.1 h;unfold rkNames;rw[←Lbe,←Lbe,Lar h1,Lae,h2];rfl
theorem rkNames_32(hx:x.ok):∀l∈rkNames x,l.length=32:=fun l hl=>by
  obtain⟨e,he,rfl⟩:=La6.1 hl;exact(hx.okL e he).l_fName
theorem rd_names(x:RD)(hx:x.ok)(p:Nat):Meets prog 45 [ptr p 0] [] (fun W=>Lies (x.blks p) W) (RowA (rkNames x)):=by
 intro W hW;have hbig:=hx.big;have hnL:=hx.accL.num;have hnO:=hx.accO.num;have hcL:=rd_L hW;have hsL:=rd_seeL hx hW;have h32:=rkNames_32 hx;have hnl:(rkNames x).length=x.L.length:=La0 _;refine Ad func45 J 26 ntmps45 J (G17 ?_);refine .loop (ι:=Nat×Sl×List Blk) (fun r=>⟨[(0,ptr p 0),(3,r.2.1.v),(4,i64 (r.1:Int))],(r.2.2++[])⟩) (fun r=>r.1≤x.L.length∧Hw.Acc r.2.1 r.2.2 (Av ((rkNames x).take r.1)) 31 r.1 32) (fun r=>x.L.length-r.1) ((0,Sl.nil,[])) ?_ ?_ ?_
 ·exact⟨Lan _,Acc.none⟩
 ·exact Ag wN (Ac (by repeat(exact Df)) Ae)
 rintro⟨k,s,bl⟩ ⟨hk,hac⟩;simp only at hk hac ⊢;have hnk:=hac.num;refine G7 ?_;refine .loadE J J J Y118.h J sP (hcL) (G4 ?_);refine .condP J (fun hc0=>?_) (fun hc0=>?_)
 ·
  have hk2:k<x.L.length:=by omega
  obtain⟨e,hd⟩:∃e,x.L[k]? =some e:=⟨_,La3 hk2⟩;have hel:=(hx.okL e (Lax hd)).l_fName;obtain⟨b,o,hbp,hbs⟩:=rd_open hsL hx.okL hk2;refine G9 ?_;refine .loadE J J J Y118.h J sP (hcL) (G1 ?_);refine .idxSlP 163 J J J hbp J Y118.h Sz122 k (by rfl) oM ?_;refine G1 ?_;refine .loadEN (Aa e.1.fName) J J J Y31.h J Sz31 sP (by rw[Aa,La0];exact hel) (rk_name hbs hx.okL hd) ?_;refine .mkRow2 (z:=agg (Aa (List.replicate 32 0))) [agg (Aa e.1.fName)] (Aa e.1.fName) J J Y32.h Sz31 Cj J J (by intro v hv;rw[La1.1 hv];simp[Value.cells,Aa,hel]) dE (by simp[Value.cells,agg]) ?_;intro q23;refine .appendAcc (n:=k) (z:=agg (Aa (List.replicate 32 0))) (by':=32) (Aa e.1.fName) J J J J J Y32.h Y32.h Sz31 Cj (by unfold By;kernel_rfl) J hac sG (fun w h=>SeesP.of (An h Z0)) (fun e=>by cases e) (A0 _) oM oM (by rw[Aa,La0,hel]) ?_;intro s24 bl24 hac24;refine G10 ?_;exact⟨(k+1,s24,bl24),⟨by simp only;omega,by simp only;rw[rkNames_at hd,Cf,show Av [e.1.fName]=Aa e.1.fName by simp[Av]];exact hac24⟩,by simp only;omega,Ag wN (Ac sG Ae)⟩
 have hke:k=x.L.length:=by omega
 refine G11 ?_;refine G2 ?_;refine As (out:=(bl++[])) (Af J J) (Ac sG Ae) ?_;rw[La5 oM]at hac;exact⟨s,rfl,by rw[hnl,←hke];simpa using hac⟩
theorem rd_get(x:RD)(hx:x.ok)(p:Nat)(X:PD)(hP:x.P=X.P)(hck:∀q∈X.P,q.2.check=0)(n:List UInt8)(h32:n.length=32):Meets prog 46 [ptr p 0,agg (Aa n)] [] (fun W=>Lies (x.blks p) W) (GetR X n):=by
 intro W hW;have hbig:=hx.big;have hnL:=hx.accL.num;have hnO:=hx.accO.num;have hcL:=rd_L hW;have hsL:=rd_seeL hx hW;refine Ad func46 J 25 ntmps46 J (G3 ?_);intro n3 hn3 hf3;refine .alloc (cs:=Block.zero.cells) J Block.zr J ?_;intro n4 hn4 hf4;refine G4 ?_;refine .draw (oPq [0,1,2,103,104,305,6]) Aq zK (G3 ?_);refine .loadE J J J Y118.h J sP (hcL) (.lA J J J Y31.h J Sz31 Z1 (by(simp[h32];done)) ?_);refine .cV J J J J Body75 (rd_find x.sL x.L hnL.symm hx.okL oM n h32) (fun w h=>A5 h J hsL) (G10 ?_);refine .condP J (fun hc0=>?_) (fun hc0=>?_)
 ·
  have hm:Aj X.P n=none:=by rw[←hP];exact rd_no oM
  refine G2 ?_;refine .build (cs:=Block.zero.cells) J J J (fun w=>by kernel_rfl) ?_;refine G4 ?_;refine G3 ?_;refine As (out:=[]) (Bg J J J Y37.h J Sz37 Z0 (by exact Block.length (by exact Block.zero_ok))) Ae ?_;exact .inl ⟨hm,rfl,rfl⟩
 obtain⟨k,e,hf,hk,hn,hm0⟩:=rd_hit (show 0≤fstBad (rkN n) x.L by omega);have hm:Aj X.P n=some e.2:=by rw[←hP];exact hm0
 have hen:=hx.entL e (Lax hk);have hek:=hen.1;have hkl:=(Laa.1 hk).1;obtain⟨b,o,hbp,hbs⟩:=rd_open hsL hx.okL hkl;have hsm:=ck_small (hck _ (Be hm));simp only at hsm;obtain⟨hsm1,hsm2⟩:=hsm;refine G7 ?_;refine .loadE J J J Y118.h J sP (hcL) (G1 ?_);refine .idxSlP 163 J J J hbp J Y118.h Sz122 k oM oM (G1 ?_);refine .loadEN e.1.fBlock.cells J J J Y37.h J Sz37 sP (Block.length hek.o_fBlock) (rk_blk hbs hx.okL hk) (.call4 J J J J J Body85 (r15_Copy e.1.fBlock e.2 hek.o_fBlock oM oM) (fun w h=>hen.2.1.2 w (rd_cb (Bm hW h))) ?_);rintro v24 out24 ⟨B2,hB2,rfl,hb2⟩;refine .sA J J J J (Block.isCell (by exact hB2.ok)) Sz37 (Block.length (by exact hB2.ok)) mR (Block.length (by exact Block.zero_ok)) (by(repeat(first|exact upd0|apply Upd.seg))) ?_;refine G3 ?_;refine G2 ?_;refine As (out:=(out24++[])) (Bg J J J Y37.h J Sz37 mR (by exact Block.length (by exact hB2.ok))) (Ac sG Ae) ?_;exact .inr ⟨e.2,B2,hm,hB2,rfl,fun W2 hl=>hb2 W2 (by simpa using hl)⟩
theorem rk_names{X:PD}(hP:x.P=X.P)(hI:X.Inv):X.names=rkNames x:=by rw[rkNames_P,hP,hI.nn]
open Go.RowKit Go.Shelf Go.Lib Go.Sort
set_option maxHeartbeats 2000000
variable{W w:World}{α:Type}
theorem ret_grow{W W':World}{out:List Blk}(h:Ret [] out W W'):∃q os',W'=grow (W.drewN q) os':=by
  have k:=h.keeps;refine⟨W'.drawn-W.drawn,W'.heap.extract W.heap.size W'.heap.size,?_⟩;have hd:W.drawn+(W'.drawn-W.drawn)=W'.drawn:=by have:=k.drawn;omega
  have hh:W.heap++W'.heap.extract W.heap.size W'.heap.size=W'.heap:=by
    refine Len fun i=>?_;rcases Lb7 i W.heap.size with h1|h1
    ·rw[Ldo h1];exact(k.block i h1 sP).symm
    · rw[Array.getElem?_append_right h1,Array.getElem?_extract]
      have:=k.size;split
      ·rw[show W.heap.size+(i-W.heap.size)=i by omega]
      ·rw[Lcm oM]
  obtain⟨hp,tp,dr,os,ot⟩:=W';obtain⟨hp0,tp0,dr0,os0,ot0⟩:=W;have e1:=k.os;have e2:=k.tape;have e3:=k.output;simp only at e1 e2 e3 hd hh;subst e1;subst e2;subst e3;simp only[grow,World.drewN,hd,hh]
theorem sort_keep[Inhabited α]{enc:α→List Value}{k q m:Nat}{dk:Array α}{os:Array Obj}{i:Nat}(hi:i<W.heap.size)(hne:i≠q):(sortWorldK enc k W q 0 m dk os).heap[i]? =W.heap[i]? :=by
  simp only[sortWorldK,grow,putRowK,putRow,mapBlock];rw[Ldo (by simpa using hi),Ldw,if_neg (fun e:q=i=>hne e.symm)];rfl
theorem flatK_any[Inhabited α](g:α→List UInt8)(hg:∀x,(g x).length=32)(d:Array α):∀(j:Nat) (v:Value),(Av (d.toList.map g))[j]? =some v→j<d.size*32∧(flatK (fun x=>Aa (g x)) 32 d)[j]! =v:=fun j v hj=>by
  have h32:∀l∈d.toList.map g,l.length=32:=fun l hl=>by obtain⟨x,_,rfl⟩:=La6.1 hl;exact hg x
  have hlen:=A2 h32;have hlt:=(Laa.1 hj).1;rw[hlen]at hlt;have hlt2:j<d.size*32:=by simpa using hlt
  refine⟨hlt2,?_⟩;rw[get_flatK _ _ _ _ hlt2];have hi:j/32<d.size:=by omega
  have hc:((d.toList.map g).map Aa)[j/32]? =some (Aa (g d[j/32]!)):=by
    rw[Lam,Lam];have:d.toList[j/32]? =some d[j/32]! :=by simp[hi]
    rw[this];rfl
  have hm:j%32<(Aa (g d[j/32]!)).length:=by rw[Aa,La0,hg];omega
  have:=flat_get (m:=32) (fun l hl=>flatB_all h32 l hl) hc hm;have e:j/32*32+j%32=j:=by omega
  rw[e]at this;have hj2:((d.toList.map g).map Aa).flatten[j]? =some v:=hj;rw[hj2]at this;rw[Lgk,←this];rfl
theorem sort_by(q n c m:Nat)(ks:List (List UInt8))(h32:∀l∈ks,l.length=32)(hl:ks.length=n)(h0:0<n)(hbig:n≤1000000)(hm:n*32≤m)(f:Nat)(caps:List Value)(cf:List UInt8→List UInt8→Int)(swo:SWO (ltOf fun x y: {l:List UInt8//l∈ks}=>cf x.1 y.1))(bl:List Blk)
    (eg:∀args w,(callFunc f args).run prog w= .ok (.enter f args) w) (hcm:∀x∈ks,∀y∈ks,Meets prog f ([agg (Aa x),agg (Aa y)]++caps) [] (Lies bl) (fun v out=>v=i64 (cf x y)∧out=[])):
    Meets prog 54 [.slice (some ⟨q,0,none⟩) n c, .func (.func f) #[] caps.toArray] [q] (fun W=>BlkOk W ⟨q,Av ks,31,m⟩∧Lies bl W∧∀b∈bl,b.n≠q)
    (fun v out=>v= .tuple #[]∧∃ks':List (List UInt8),ks'.Perm ks∧ks'.Pairwise (fun a b=>¬cf b a<0)∧out=[⟨q,Av ks',31,m⟩]):=fun W ⟨hb,hbl,hbq⟩=>by
  haveI:Inhabited {l:List UInt8//l∈ks}:=⟨⟨ks[0]'oM,Lc7 _⟩⟩
  obtain⟨d,hd⟩:∃d:Array {l:List UInt8//l∈ks},d=ks.attach.toArray:=⟨_,rfl⟩;have hdl:d.toList.map (·.1)=ks:=by rw[hd];simp
  have hds:d.size=n:=by rw[hd,←hl];simp
  have hg:∀x: {l:List UInt8//l∈ks},x.1.length=32:=fun x=>h32 x.1 x.2;have hb0:∃full fr,BlkAt W ⟨q,Av ks,31,m⟩ full fr:=hb;obtain⟨full,fr,hbk⟩:=hb0;have hfl:=A2 h32;have hH:HoldsK (fun x: {l:List UInt8//l∈ks}=>Aa x.1) 32 W q 0 d:=fun j hj=>by
    rw[size_flatK]at hj;have hj2:j<(Av ks).length:=by rw[hfl,hl,←hds];exact hj
    have h1:=La3 hj2;have h2:=(flatK_any (fun x: {l:List UInt8//l∈ks}=>x.1) hg d j _ (by rw[hdl];exact h1)).2;rw[h2];exact⟨hb.cell (b:=⟨q,Av ks,31,m⟩) (by rw[Lb2];exact h1),hbk.unfrozen (by show 0+j<m;omega)⟩
  have hcmp:CmpLays prog f caps.toArray (fun x: {l:List UInt8//l∈ks}=>Aa x.1) 32 (fun x y=>cf x.1 y.1) q 0 d.size W:=fun k os dk hk x y=>by
    have hl2:Lies bl (sortWorldK (fun x: {l:List UInt8//l∈ks}=>Aa x.1) 32 W q 0 k dk os):=fun b hb2=>(hbl b hb2).of_heap (sort_keep (hbl b hb2).lt (hbq b hb2));have h3:=hcm x.1 x.2 y.1 y.2 _ hl2;have e:([agg (Aa x.1),agg (Aa y.1)]++caps).toArray= #[.agg (Aa x.1).toArray, .agg (Aa y.1).toArray]++caps.toArray:=by simp[agg]
    rw[e]at h3;exact h3.mono fun e' W' ⟨v,out,he,⟨hv,_⟩,hr⟩=>⟨by rw[he,hv],ret_grow hr⟩
  have hz25:∀w,(Go.sizeOf (sortD_ren.t 24)).run prog w= .ok 32 w:=by
    intro w;have e:sortD_ren.t 24=31:=by rfl
    rw[e];exact Ck Sz31 w
  have hcon:=AnyQ.slices_SortFunc sortD 32 (fun w=>run_isAgg_arr Y31.h rfl w) (fun w=>hz25 w) (fun x: {l:List UInt8//l∈ks}=>Aa x.1) (fun x=>by rw[Aa,La0,hg x]) (fun x v hv=>by obtain⟨u,_,rfl⟩:=La6.1 hv;rfl) (fun x y=>cf x.1 y.1) swo f caps.toArray q 0 c d W eg hcmp hH hb.lt oM;have hcon2:Calls prog 54 #[.slice (some ⟨q,0,none⟩) d.size c, .func (.func f) #[] caps.toArray] W _:=hcon;rw[hds]at hcon2;refine hcon2.mono fun e W' ⟨he,d',k,os,hp,hs,hw⟩=>?_;subst hw;have hsz':d'.size=d.size:=hp.1;obtain⟨ks',hk'⟩:∃ks',ks'=d'.toList.map (·.1):=⟨_,rfl⟩;have h32':∀l∈ks',l.length=32:=fun l hl=>by rw[hk']at hl;obtain⟨x,_,rfl⟩:=La6.1 hl;exact hg x
  have hlen':ks'.length=n:=by rw[hk'];simp[hsz',hds]
  have hperm:ks'.Perm ks:=by
    have h4:(d'.toList.map (·.1)).Perm (d.toList.map (·.1)):=by
      refine List.Perm.map _ ?_;have h3:=hp.2.2;have e1:d.extract 0 d.size=d:=by simp
      have e2:d'.extract 0 d.size=d':=by rw[←hsz'];simp
      rw[←hds]at h3;rwa[e1,e2]at h3
    rw[hk'];rw[hdl]at h4;exact h4
  have hsort:ks'.Pairwise (fun a b=>¬cf b a<0):=by
    rw[hk'];refine Lgx.2 (Ldr.2 fun i j hi hj hij=>?_);have h4:=hs i j (Lan _) hij (by rw[←hds,←hsz'];simpa using hj);have h5:decide (cf d'[j]!.1 d'[i]!.1<0)=false:=h4;rw[decide_eq_false_iff_not]at h5;have hi2:i<d'.size:=by simpa using hi
    have hj2:j<d'.size:=by simpa using hj
    rw[getElem!_pos d' j hj2,getElem!_pos d' i hi2]at h5;simpa using h5
  refine⟨_,_,he,⟨rfl,ks',hperm,hsort,rfl⟩,⟨⟨rfl,rfl,rfl,?_,Lha W.drawn k,fun i hi hn=>?_⟩,fun b hb2=>?_,by simp,fun b hb2=>?_⟩⟩
  ·simp[sortWorldK,grow,putRowK]
  ·exact sort_keep hi (by simpa using hn)
  · rw[La1.1 hb2]
    have hq:W.heap[q]? =some (.cells full 31 fr):=hbk.heap;have hql:q<W.heap.size:=hb.lt;refine⟨putCells id 0 (flatK (fun x: {l:List UInt8//l∈ks}=>Aa x.1) 32 d') full,fr,?_,by simpa[putCells]using hbk.size,?_,hbk.free⟩
    · simp only[sortWorldK,grow,putRowK,putRow,mapBlock]
      rw[Ldo (by simpa using hql),Ldw,if_pos rfl,show(Go.Sort.ahead W k).heap[q]? =some (Obj.cells full 31 fr)from hq];rfl
    · have hms:=hbk.size
      simp only at hms;rw[prefix_iff];intro j v hj;simp only at hj;have hf:=flatK_any (fun x: {l:List UInt8//l∈ks}=>x.1) hg d' j v (by rw[←hk'];exact hj);simp only[putCells,Ldv,Array.getElem?_mapIdx];have hjf:j<full.size:=by rw[hms];have:=hf.1;omega
      rw[Lcw hjf];simp only[Lbg,La7,Lan,true_and,Lb2,size_flatK,Lgj];rw[if_pos hf.1,hf.2];rfl
  ·rw[La1.1 hb2];exact .inr sP
theorem sort_none_f(p:Option Addr)(c:Nat)(f:Value):Mv 54 [.slice p 0 c,f] (fun _=>True) (.tuple #[]):=fun W _=>by
  have hcon:=AnyF.slices_SortFunc_none sortD p c f W;have hcon2:Calls prog 54 #[.slice p 0 c,f] W _:=hcon;refine hcon2.mono fun e W' h=>?_;obtain⟨he,hw⟩:=h;subst hw;exact⟨_,[],he,⟨rfl,rfl⟩,⟨Keeps.refl _ _,fun b hb=>(by cases hb),Ld0,fun b hb=>(by cases hb)⟩⟩
def or2(x y:Int):Int:=if x≠0 then x else y
theorem cmp_or2(q:Nat)(x y:Int):Mv 56 [.slice (some ⟨q,0,none⟩) 2 2] (fun W=>De W q 0 [i64 x,i64 y]) (i64 (or2 x y)):=by
  intro W hW;refine Ad func56 J 18 ntmps56 J (G19 ?_);refine .loop (ι:=Nat) (fun k=>⟨[(0, .slice (some ⟨q,0,none⟩) 2 2),(3,i64 0),(6, .slice (some ⟨q,0,none⟩) 2 2),(7,i64 2),(8,i64 (k:Int))],[]⟩) (fun k=>k≤2∧(0<k→x=0)∧(1<k→y=0)) (fun k=>2-k) (0) ?_ ?_ ?_
  ·exact⟨by decide,fun h=>by omega,fun h=>by omega⟩
  ·exact Ah wN wh0 nD
  rintro k ⟨hk,hx,hy⟩;refine G6 ?_;refine .condP J (fun hc0=>?_) (fun hc0=>?_)
  ·
    have hk2:k<2:=by omega
    obtain⟨z,hz⟩:∃z,[x,y][k]? =some z:=⟨_,La3 (by simpa using hk2)⟩;have hzz:z=[x,y].getD k 0:=by rw[La4,hz];rfl
    have hzc:[i64 x,i64 y][k]? =some (i64 z):=by rcases(show k=0∨k=1 by omega)with rfl|rfl<;>(simp at hz;simp[hz])
    refine G6 ?_;refine .idxSlP 1 J J J J J Y50.h Sz3 k J oM (.loadE J J J Y3.h J sP ((by have:=hW k _ hzc;simpa using this)) ?_);refine G10 ?_;refine .condNP J (fun hc1=>?_) (fun hc1=>?_)
    ·
      refine G6 ?_;refine G7 ?_;refine⟨_,[],Af J J,sP,sP,?_,rfl⟩;first
        | (rcases(show k=0∨k=1 by omega)with rfl|rfl
           · obtain rfl:z=x:=by rw[hzz];rfl
             rw[or2,if_pos oM]
           · obtain rfl:z=y:=by rw[hzz];rfl
             rw[or2,if_neg (by have:=hx oM;omega)])
        |rw[or2,hx oM,hy oM];rfl
    refine G8 ?_;refine⟨k+1,⟨by omega,fun _=>?_,fun _=>?_⟩,by omega,Ah wN wh0 nD⟩
    · rcases(show k=0∨k=1 by omega)with rfl|rfl
      ·rw[hzz]at hc1;simpa using hc1
      ·exact hx oM
    · obtain rfl:k=1:=by omega
      rw[hzz]at hc1;simpa using hc1
  have hke:k=2:=by omega
  refine G11 ?_;refine G2 ?_;refine⟨_,[],Af J J,sP,sP,?_,rfl⟩;first
    | (rcases(show k=0∨k=1 by omega)with rfl|rfl
       · obtain rfl:z=x:=by rw[hzz];rfl
         rw[or2,if_pos oM]
       · obtain rfl:z=y:=by rw[hzz];rfl
         rw[or2,if_neg (by have:=hx oM;omega)])
    |rw[or2,hx oM,hy oM];rfl
def cmpD(X:PD)(a b:List UInt8):Int:=or2 (cmpI (X.dp a) (X.dp b)) (C7 a b)
def LeD(X:PD)(a b:List UInt8):Prop:=X.dp a<X.dp b∨X.dp a=X.dp b∧C7 a b≤0
theorem cmpD_neg(X:PD)(a b:List UInt8):cmpD X a b<0↔X.dp a<X.dp b∨X.dp a=X.dp b∧C7 a b<0:=by
  unfold cmpD or2 cmpI;split<;>(repeat split)<;>omega
theorem cmpD_le(X:PD)(a b:List UInt8):¬cmpD X b a<0↔LeD X a b:=by
  have:=cmpB_neg a b;rw[cmpD_neg];unfold LeD;omega
theorem swoD(X:PD)(ks:List (List UInt8)):SWO (ltOf fun x y: {l:List UInt8//l∈ks}=>cmpD X x.1 y.1):=by
  have e:∀x y: {l:List UInt8//l∈ks},ltOf (fun x y: {l:List UInt8//l∈ks}=>cmpD X x.1 y.1) x y=decide (cmpD X x.1 y.1<0):=fun _ _=>rfl;constructor
  · intro x
    rw[e,decide_eq_false_iff_not,cmpD_neg,cmpB_self];omega
  · intro x y z h1 h2
    rw[e,decide_eq_true_eq,cmpD_neg]at*;have:=cmpB_trans x.1 y.1 z.1;omega
  · intro x y z h1 h2
    rw[e,decide_eq_false_iff_not,cmpD_le]at*;have:=cmpB_trans z.1 y.1 x.1;unfold LeD at*;omega
def SortD(X:PD)(ks:List (List UInt8)):Prop:=ks.Pairwise (LeD X)
theorem sortD_unique{X:PD}{a b:List (List UInt8)}(hp:a.Perm b)(ha:SortD X a)(hb:SortD X b):a=b:=
  hp.eq_of_pairwise (fun x y _ _ h1 h2=>by
    have h3:=cmpB_neg x y;unfold LeD at h1 h2;exact(cmpB_zero x y).1 oM) ha hb
theorem Lies.app{a b:List Blk}(h1:Lies a w)(h2:Lies b w):Lies (a++b) w:=fun x hx=>by
  rcases Lab.1 hx with h|h
  ·exact h1 x h
  ·exact h2 x h
theorem sort_acc_by(s:Sl)(bl:List Blk)(ks:List (List UInt8))(h32:∀l∈ks,l.length=32)(hbig:ks.length≤1000000)(hac:Hw.Acc s bl (Av ks) 31 ks.length 32)(f:Nat)(caps:List Value)(cf:List UInt8→List UInt8→Int)(swo:SWO (ltOf fun x y: {l:List UInt8//l∈ks}=>cf x.1 y.1))(bl2:List Blk)
    (eg:∀args w,(callFunc f args).run prog w= .ok (.enter f args) w) (hcm:∀x∈ks,∀y∈ks,Meets prog f ([agg (Aa x),agg (Aa y)]++caps) [] (Lies bl2) (fun v out=>v=i64 (cf x y)∧out=[])):
    Meets prog 54 [s.v, .func (.func f) #[] caps.toArray] (bl.map (·.n)) (fun W=>Lies bl W∧Lies bl2 W∧∀b∈bl2,∀b'∈bl,b.n≠b'.n)
    (fun v out=>v= .tuple #[]∧∃ks':List (List UInt8),ks'.Perm ks∧ks'.Pairwise (fun a b=>¬cf b a<0)∧Hw.Acc s out (Av ks') 31 ks.length 32):=fun W ⟨h1,h2,h3⟩=>by
  rcases hac with ⟨rfl,rfl,hz,hn⟩|⟨q,c,rfl,hnc,hfl,rfl⟩
  · obtain rfl:=Lag hn
    exact(sort_none_f none 0 _ W trivial).mono fun e W' ⟨v,out,he,⟨hv,ho⟩,hr⟩=>⟨v,out,he,⟨hv,[],Ld1 _,List.Pairwise.nil, .inl ⟨rfl,ho,rfl,rfl⟩⟩,hr⟩
  · have hb:BlkOk W ⟨q,Av ks,31,c*32⟩:=h1 _ (La1.2 rfl)
    by_cases h0:ks.length=0
    · obtain rfl:=Lag h0
      refine(sort_none_f (some ⟨q,0,none⟩) c _ W trivial).mono fun e W' ⟨v,out,he,⟨hv,ho⟩,hr⟩=>⟨v,[⟨q,Av [],31,c*32⟩],he,⟨hv,[],Ld1 _,List.Pairwise.nil, .inr ⟨q,c,rfl,hnc,hfl,rfl⟩⟩,⟨hr.keeps.mono sP,fun b hb2=>?_,by simp,fun b hb2=>?_⟩⟩
      · rw[La1.1 hb2]
        exact hb.of_heap (hr.keeps.block q hb.lt sP)
      ·rw[La1.1 hb2];exact .inr sP
    · refine(sort_by q ks.length c (c*32) ks h32 rfl oM hbig (Lep 32 hnc) f caps cf swo bl2 eg hcm W ⟨hb,h2,fun b hb2=>h3 b hb2 _ (La1.2 rfl)⟩).mono fun e W' ⟨v,out,he,⟨hv,ks',hp,hs,ho⟩,hr⟩=>⟨v,out,he,⟨hv,ks',hp,hs,?_⟩,hr⟩
      have h32':∀l∈ks',l.length=32:=fun l hl=>h32 l (hp.mem_iff.1 hl);exact .inr ⟨q,c,rfl,hnc,by rw[A2 h32',hp.length_eq],ho⟩
theorem order_cmp(x:PD)(a b:List UInt8)(ha:a.length=32)(hb:b.length=32)(qf na nb nc m:Nat)(fs:List (List UInt8×Int))(hda:Aj fs a=some (x.dp a))(hdb:Aj fs b=some (x.dp b)):Mv 183 [agg (Aa a),agg (Aa b),ptr qf 0] (fun W=>W.cell? ⟨qf,0,none⟩=some (.func (.func 185) #[] #[ptr na 0,ptr nb 0,ptr nc 0])∧W.cell? ⟨na,0,none⟩=some (.map (some m))∧BlkOk W (A4 m (Ao 32 evI) fs)) (i64 (cmpD x a b)):=by
 intro W hW;refine Ad func183 J 18 ntmps183 J (G3 ?_);intro n3 hn3 hf3;refine G1 ?_;intro n4 hn4 hf4;refine G4 ?_;refine .draw (oPq [100,101,103,104,107,108,302,305,306,309,210,311,12]) Aq zK (.loadE J J J underlying181 J sP (hW.1) (.lA J J J Y31.h J Sz31 Z1 (by(simp[ha];done)) ?_));refine .loadE J J J underlying181 J sP (hW.1) (.lA J J J Y31.h J Sz31 Z0 (by(simp[hb];done)) ?_);refine .lA J J J Y31.h J Sz31 Z1 (by(simp[ha];done)) ?_;refine .lA J J J Y31.h J Sz31 Z0 (by(simp[hb];done)) ?_;refine .callCV J J J J J Body185 (depth_known a ha na nb nc m fs (x.dp a) hda) (fun w h=>⟨h.keeps.cell sP hW.2.1,mblk_keep hW.2.2 h⟩) (.callCV J J J J J Body185 (depth_known b hb na nb nc m fs (x.dp b) hdb) (fun w h=>⟨h.keeps.cell sP hW.2.1,mblk_keep hW.2.2 h⟩) (.cV J J J J Body184 (cmp_int (x.dp a) (x.dp b)) tV (.cV J J J J Body58 (block_cmp a b ha hb) tV (.mkRow2 (z:=i64 0) [i64 (cmpI (x.dp a) (x.dp b)),i64 (C7 a b)] [i64 (cmpI (x.dp a) (x.dp b)),i64 (C7 a b)] rfl J Y50.h Sz3 Zr3 J J (by intro v hv;simp only[Laj,Lbu,or_false]at hv;rcases hv with rfl|rfl<;>simp[Value.cells]) dE (by simp[Value.cells]) ?_))));intro q16;refine .cV J J J J Body56 (cmp_or2 q16 (cmpI (x.dp a) (x.dp b)) (C7 a b)) (fun w h=>An h Z0) ?_;refine G3 ?_;refine G2 ?_;refine As (out:=[]) (Af J J) Ae ?_;exact⟨rfl,rfl⟩
theorem order_pre{C:Cx}{hp bl keep L:List Blk}{B:Blk}(h:HRep C hp w)(hp1:hp.Perm (bl++keep))(hB:B∈hp)(hL:Lies L C.W0)(hd:∀b∈L,∀b2∈bl,b.n≠b2.n)(hl:C.lent=bl.map (·.n):=by rfl)(hBb:∀b2∈bl,B.n≠b2.n):Lies bl w∧Lies (B::L) w∧∀b∈B::L,∀b2∈bl,b.n≠b2.n:=by
  refine⟨fun b hb=>h.cells b (hp1.mem_iff.2 (Lao _ hb)),fun b hb=>?_,fun b hb=>?_⟩
  · rcases Laj.1 hb with rfl|hb
    ·exact h.cells _ hB
    · refine(hL b hb).of_heap (h.keeps.block b.n (hL b hb).lt fun hm=>?_)
      rw[hl]at hm;obtain⟨b2,h2,e⟩:=La6.1 hm;exact hd b hb b2 h2 e.symm
  · rcases Laj.1 hb with rfl|hb
    ·exact hBb
    ·exact hd b hb
theorem lin_order(x:PD)(s:Sl)(bl:List Blk)(ks:List (List UInt8))(h32:∀l∈ks,l.length=32)(hbig:ks.length≤1000000)(hac:Hw.Acc s bl (Av ks) 31 ks.length 32)(na nb nc m:Nat)(fs:List (List UInt8×Int))(hfs:∀n∈ks,Aj fs n=some (x.dp n)):Meets prog 150 [s.v, .func (.func 185) #[] #[ptr na 0,ptr nb 0,ptr nc 0]] (bl.map (·.n)) (fun W=>Lent bl W∧Lies [⟨na,[.map (some m)],58,1⟩,A4 m (Ao 32 evI) fs] W∧∀b∈ [⟨na,[.map (some m)],58,1⟩,A4 m (Ao 32 evI) fs],∀b2∈bl,b.n≠b2.n) (fun v out=>v= .tuple #[]∧∃ks2:List (List UInt8),ks2.Perm ks∧SortD x ks2∧Hw.Acc s out (Av ks2) 31 ks.length 32):=by
 intro W hW;have eg:∀args w,(callFunc 183 args).run prog w= .ok (.enter 183 args) w:=enters_of func183 zK rfl;refine calls_of (hp0:=bl) func150 J 7 ntmps150 J hW.1.rep (G2 ?_);refine .box1 J J J ?_;intro n3 hn3 hf3;refine G5 ?_;refine .callL (L:=bl) J J J J J Body54 (sort_acc_by s bl ks h32 hbig hac 183 [ptr n3 0] (cmpD x) (swoD x ks) (⟨n3,[.func (.func 185) #[] #[ptr na 0,ptr nb 0,ptr nc 0]],181,1⟩::[⟨na,[.map (some m)],58,1⟩,A4 m (Ao 32 evI) fs]) eg (fun a ha b hb=>(order_cmp x a b (h32 a ha) (h32 b hb) n3 na nb nc m fs (hfs a ha) (hfs b hb)).imp (fun w hl=>⟨(hl _ La9).cell (o:=0) J,(hl _ (Laf _ La9)).cell (o:=0) J,hl _ (Laf _ (Laf _ La9))⟩) fun v out h=>h)) (by repeat(first|exact Df|apply sg_there)) (C5 J) (fun w h=>order_pre (B:=⟨n3,[.func (.func 185) #[] #[ptr na 0,ptr nb 0,ptr nc 0]],181,1⟩) h (by repeat(first|exact Df|apply sg_there)) Z0 hW.2.1 hW.2.2 J (fun b2 h2 e=>hf3 b2 h2 e.symm)) ?_;rintro v6 out6 ⟨rfl,ks2,hp2,hs2,hac2⟩;refine G2 ?_;refine As (out:=(out6++[])) (res_none J) (Ac sG Ae) ?_;exact⟨rfl,ks2,hp2,hs2.imp fun h=>(cmpD_le x _ _).1 h,by simpa using hac2⟩
end Go.Proofs.YtgjnomgkddbhcaaGreat
namespace Go.Proofs.YtgjnomgkddbhcaaGreat
open Go Hw _root_.Go.Proofs.Tryz
def PD.has(X:PD)(n:List UInt8):Bool:=(Aj X.P n).isSome
variable{κ:Type}{n:κ}
theorem has_names{X:PD}(hI:X.Inv){n:List UInt8}(h:X.has n=true):n∈X.names:=(C9 hI n).2 (Laz.1 h)
theorem has_is(x:DD)(n:List UInt8):(Aj x.ent n).isSome=x.pl.has n:=by
  have e:Aj x.pl.P n=(Aj x.ent n).map (·.2):=x.getP n;unfold PD.has;rw[e];cases Aj x.ent n<;>rfl
theorem dag_hasP(x:DD)(hx:x.ok)(p:Nat)(n:List UInt8)(h32:n.length=32):Mv 66 [ptr p 0,agg (Aa n)] (fun W=>Lies (x.blks p) W) (.bool (x.pl.has n)):=by
  rw[←has_is];exact(dag_has x hx p n h32).imp (fun w h=>DagSee.lies h) fun v out h=>h
theorem keysP_put[DecidableEq κ]{ms:List (κ×Unit)}(h:Aj ms n=none):(Bh ms n ()).map (·.1)=ms.map (·.1)++[n]:=by rw[mput_app h,Lae];rfl
theorem not_key{κ ν:Type}[DecidableEq κ]{ms:List (κ×ν)}{n:κ}(h:Aj ms n=none):n∉ms.map (·.1):=fun hm=>by
  obtain⟨v,hv⟩:=Cr hm;rw[h]at hv;cases hv
section
variable{X:PD}{L dn l st:List (List UInt8)}{ms:List (List UInt8×Unit)}{n:List UInt8}
end
variable{X:PD}
theorem MS:MOk prog 114 31 110 (Ao 32 evU) (agg []):=bytesT_ok _ underlying114 A25 Y5.h size_pos K25 (zr_run Zr110)
theorem filter_take{L:List (List UInt8)}{k:Nat}(hk:k<L.length)(P:List UInt8→Bool):(L.take (k+1)).filter P=if P (L.getD k [])=true then(L.take k).filter P++[L.getD k []]else(L.take k).filter P:=by
  have e:L.getD k []=L[k]:=by rw[La4,La3 hk];rfl
  rw[Lar hk,Lel,e];cases h:P L[k]<;>simp[h]
theorem want_set(s:Sl)(ls:List (List UInt8)):Meets prog 71 [s.v] [] (fun W=>RowsAt W s 32 ls) (NSetR ls):=by
 intro W hW;have hlen:=hW.len;have hrow:=hW.row;have hmax:=hW.max;simp only[maxLen]at hmax;refine Ad func71 J 20 ntmps71 J (.sr (.a J J J (.nsr (.m J J J (.lenSl J J J Y32.h (.mkMapH (Ao 32 evU) MS J J J ?_))))));intro m8;refine .a J J J (.na (.seq (.sr (.m J J J (.lenSl J J J Y32.h (.m J J J (.na (.block (.loop (ι:=Nat×List (List UInt8×Unit)) (fun r=>⟨[(3, .map (some m8)),(9,s.v),(10,i64 (s.n:Int)),(11,i64 (r.1:Int))],[A4 m8 (Ao 32 evU) r.2]⟩) (fun r=>r.1≤s.n∧r.2=setP (ls.take r.1)) (fun r=>s.n-r.1) ((0,[])) ?_ ?_ ?_)))))))))
 ·exact⟨Lan _,rfl⟩
 ·exact Ag wN (Ab rM Ae)
 rintro⟨k,fs⟩ ⟨hk,hfs⟩;simp only at hk hfs ⊢;refine .sr (.lss J J J J J (.na (.seq (.condP J (fun hc0=>?_) (fun hc0=>?_)))))
 ·
  have hk2:k<s.n:=by omega
  obtain⟨b,o,hbp,hbs⟩:=hW.see.at (by rw[A2 hrow];omega);have h32k:(ls.getD k []).length=32:=Ch hrow oM;refine .skip (A7 (.seq (.block (.sr (.idxSlP 32 J J J hbp J Y32.h Sz31 k J oM (.loadEN (Aa (ls.getD k [])) J J J Y31.h J Sz31 sP (by rw[Aa,La0];exact h32k) (B0 hrow hbs oM) ?_))))));refine .alloc (cs:=(Aa (List.replicate 32 0))) J Cj J ?_;intro n5 hn5 hf5;refine .sA J J J J zE Sz31 (by(rw[Aa,La0];assumption)) Z0 sP zU ?_;refine .na (.region (.m J J J (.lA J J J Y31.h J Sz31 Z0 (by(rw[Aa,La0];assumption)) ?_)));refine .build (cs:=[]) J J J (fun w=>by kernel_rfl) ?_;refine .mapPut (v:=()) MS J J J J J h32k rM ?_;refine .nil (bl_n (A7 (.region (.aI J J J J oM (.m J J J (.na ?_))))));exact⟨(k+1,Bh fs (ls.getD k []) ()),⟨by simp only;omega,by simp only;rw[setP_step oM,hfs]⟩,by simp only;omega,Ag (wk1 rfl (wk1 rfl (wk1 rfl (wk1 (by rw[Lcn];rfl) wk0)))) (Ab rM Ae)⟩
 obtain rfl:k=s.n:=by omega
 refine .exit (at_x (at_x (bl_h (A7 (.sr (.m J J J (.a J J J (.na ?_))))))));refine .ret (C6 (As (out:=(A4 m8 (Ao 32 evU) fs::[])) (Af J J) (Ab rM Ae) ?_));exact⟨m8,rfl,by rw[hfs,La5 oM]⟩
theorem want_out2(n:List UInt8)(h32:n.length=32)(qa qb ma mb:Nat)(fa fb:List (List UInt8×Unit)):Mv 108 [agg (Aa n),ptr qa 0,ptr qb 0] (fun W=>W.cell? ⟨qa,0,none⟩=some (.map (some ma))∧W.cell? ⟨qb,0,none⟩=some (.map (some mb))∧BlkOk W (A4 ma (Ao 32 evU) fa)∧BlkOk W (A4 mb (Ao 32 evU) fb)) (.bool ((Aj fa n).isNone&&(Aj fb n).isNone)):=by
 intro W hW;refine Ad func108 J 27 ntmps108 J (.sr (.boxA J J ?_));intro n3 hn3 hf3;refine .a J J J (.nsr (.loadE J J J underlying114 J sP (hW.1) (.lA J J J Y31.h J Sz31 Z0 (by(simp[h32];done)) ?_)));refine .lookOkC MS hW.2.2.1 sP J J J J h32 ?_;rw[show((Aj fa n).map (Ao 32 evU).ev).getD (agg [])=agg []from by cases Aj fa n<;>rfl];refine .m J J J (.eX J J J J (.extractB J J J J (fun hs1_50=>?_) (fun hs1_50=>?_)))
 ·
  have hs1_5:=hs1_50;refine .alloc (cs:=[]) J Zr110 J ?_;intro n5 hn5 hf5;refine .sA J J J J zB Sz110 sP Z0 sP zU ?_;refine .a J J J (.nsr (.loadE J J J underlying114 J sP (hW.2.1) (.lA J J J Y31.h J Sz31 Z1 (by(simp[h32];done)) ?_)));refine .lookOkC MS hW.2.2.2 sP J J J J h32 ?_;rw[show((Aj fb n).map (Ao 32 evU).ev).getD (agg [])=agg []from by cases Aj fb n<;>rfl];refine .m J J J (.eX J J J J (.eX J J J J (.alloc (cs:=[]) J Zr110 J ?_)));intro n7 hn7 hf7;refine .sA J J J J zB Sz110 sP Z0 sP zU ?_;refine .a J J J (.nsr (.m J J J (.not J J J (.m J J J (.skp J J (.skp J J (.pick J J J J J J (.a J J J (.na ?_)))))))));refine .ret (C6 (As (out:=[]) (Af J J) Ae ?_));refine⟨?_,rfl⟩;cases ha9:Aj fa n<;>cases hb9:Aj fb n<;>simp_all
 have hs1_5:=hs1_50;refine .alloc (cs:=[]) J Zr110 J ?_;intro n5 hn5 hf5;refine .sA J J J J zB Sz110 sP Z0 sP zU ?_;refine .a J J J (.nsr (.loadE J J J underlying114 J sP (hW.2.1) (.lA J J J Y31.h J Sz31 Z1 (by(simp[h32];done)) ?_)));refine .lookOkC MS hW.2.2.2 sP J J J J h32 ?_;rw[show((Aj fb n).map (Ao 32 evU).ev).getD (agg [])=agg []from by cases Aj fb n<;>rfl];refine .m J J J (.eX J J J J (.eX J J J J (.alloc (cs:=[]) J Zr110 J ?_)));intro n7 hn7 hf7;refine .sA J J J J zB Sz110 sP Z0 sP zU ?_;refine .a J J J (.nsr (.m J J J (.not J J J (.m J J J (.m J J J (.not J J J (.pick J J J J J J (.a J J J (.na ?_)))))))));refine .ret (C6 (As (out:=[]) (Af J J) Ae ?_));refine⟨?_,rfl⟩;cases ha9:Aj fa n<;>cases hb9:Aj fb n<;>simp_all
theorem want_out1(n:List UInt8)(h32:n.length=32)(qa qb ma:Nat)(fa:List (List UInt8×Unit)):Mv 108 [agg (Aa n),ptr qa 0,ptr qb 0] (fun W=>W.cell? ⟨qa,0,none⟩=some (.map (some ma))∧W.cell? ⟨qb,0,none⟩=some (.map none)∧BlkOk W (A4 ma (Ao 32 evU) fa)) (.bool (Aj fa n).isNone):=by
 intro W hW;refine Ad func108 J 27 ntmps108 J (.sr (.boxA J J ?_));intro n3 hn3 hf3;refine .a J J J (.nsr (.loadE J J J underlying114 J sP (hW.1) (.lA J J J Y31.h J Sz31 Z0 (by(simp[h32];done)) ?_)));refine .lookOkC MS hW.2.2 sP J J J J h32 ?_;rw[show((Aj fa n).map (Ao 32 evU).ev).getD (agg [])=agg []from by cases Aj fa n<;>rfl];refine .m J J J (.eX J J J J (.extractB J J J J (fun hs1_50=>?_) (fun hs1_50=>?_)))
 ·
  have hs1_5:=hs1_50;refine .alloc (cs:=[]) J Zr110 J ?_;intro n5 hn5 hf5;refine .sA J J J J zB Sz110 sP Z0 sP zU ?_;refine .a J J J (.nsr (.loadE J J J underlying114 J sP (hW.2.1) (.lA J J J Y31.h J Sz31 Z1 (by(simp[h32];done)) ?_)));refine .lookNil MS J J J J h32 (.m J J J (.eX J J J J (.eX J J J J (.alloc (cs:=[]) J Zr110 J ?_))));intro n7 hn7 hf7;refine .sA J J J J zB Sz110 sP Z0 sP zU ?_;refine .a J J J (.nsr (.m J J J (.not J J J (.m J J J (.skp J J (.skp J J (.pick J J J J J J (.a J J J (.na ?_)))))))));refine .ret (C6 (As (out:=[]) (Af J J) Ae ?_));refine⟨?_,rfl⟩;cases ha9:Aj fa n<;>simp_all
 have hs1_5:=hs1_50;refine .alloc (cs:=[]) J Zr110 J ?_;intro n5 hn5 hf5;refine .sA J J J J zB Sz110 sP Z0 sP zU ?_;refine .a J J J (.nsr (.loadE J J J underlying114 J sP (hW.2.1) (.lA J J J Y31.h J Sz31 Z1 (by(simp[h32];done)) ?_)));refine .lookNil MS J J J J h32 (.m J J J (.eX J J J J (.eX J J J J (.alloc (cs:=[]) J Zr110 J ?_))));intro n7 hn7 hf7;refine .sA J J J J zB Sz110 sP Z0 sP zU ?_;refine .a J J J (.nsr (.m J J J (.not J J J (.m J J J (.m J J J (.not J J J (.pick J J J J J J (.a J J J (.na ?_)))))))));refine .ret (C6 (As (out:=[]) (Af J J) Ae ?_));refine⟨?_,rfl⟩;cases ha9:Aj fa n<;>simp_all
theorem want_outside(a b:Option Nat):Meets prog 74 [.map a, .map b] [] (fun _=>True) (fun v out=>∃qa qb,v= .func (.func 108) #[] #[ptr qa 0,ptr qb 0]∧out=[⟨qa,[.map a],114,1⟩,⟨qb,[.map b],114,1⟩]):=by
 intro W hW;refine Ad func74 J 6 ntmps74 J (.sr (.box1 J J J ?_));intro n2 hn2 hf2;refine .box1 J J J ?_;intro n3 hn3 hf3;refine .a J J J (.nsr (.makeFunc J J J J (.a J J J (.na ?_))));refine .ret (C6 (As (out:=(⟨n2,[.map a],114,1⟩::(⟨n3,[.map b],114,1⟩::[]))) (Af J J) (Ab rM (Ab rM Ae)) ?_));exact⟨n2,n3,rfl,rfl⟩
theorem filter_has(s:Sl)(ls:List (List UInt8))(x:DD)(hx:x.ok)(p:Nat)(hbig:ls.length≤1000000):Meets prog 72 [s.v, .func (.func 66) #[ptr p 0] #[]] [] (fun W=>RowsAt W s 32 ls∧Lies (x.blks p) W) (RowA (ls.filter (fun n=>x.pl.has n))):=by
 intro W hW;have h32k:True:=trivial;have hlen:=hW.1.len;have hrow:=hW.1.row;have hmax:=hW.1.max;simp only[maxLen]at hmax;have hln:ls.length≤1000000:=hbig;refine Ad func72 J 23 ntmps72 J (.sr (.a J J J (.nsr (.a J J J (.na (.seq (.sr (.m J J J (.lenSl J J J Y32.h (.m J J J (.na (.block (.loop (ι:=Nat×Sl×List Blk) (fun r=>⟨[(1, .func (.func 66) #[ptr p 0] #[]),(5,r.2.1.v),(8,s.v),(9,i64 (s.n:Int)),(10,i64 (r.1:Int))],(r.2.2++[])⟩) (fun r=>r.1≤s.n∧Hw.Acc r.2.1 r.2.2 (Av ((ls.take r.1).filter (fun n=>x.pl.has n))) 31 ((ls.take r.1).filter (fun n=>x.pl.has n)).length 32) (fun r=>s.n-r.1) ((0,Sl.nil,[])) ?_ ?_ ?_)))))))))))))
 ·exact⟨Lan _,Acc.none⟩
 ·exact Ag wN (Ac (by repeat(exact Df)) Ae)
 rintro⟨k,s5,bl5⟩ ⟨hk,hac5⟩;simp only at hk hac5 ⊢;have hfl:=Lch (fun n=>x.pl.has n) (ls.take k);rw[Lac]at hfl;refine .sr (.lss J J J J J (.na (.seq (.condP J (fun hc0=>?_) (fun hc0=>?_)))))
 ·
  have hk2:k<s.n:=by omega
  obtain⟨b,o,hbp,hbs⟩:=hW.1.see.at (by rw[A2 hrow];omega);obtain⟨kk,hkk⟩:∃kk,kk=ls.getD k []:=⟨_,rfl⟩;have h32k:kk.length=32:=by rw[hkk];exact Ch hrow oM
  refine .skip (A7 (.seq (.block (.sr (.idxSlP 32 J J J hbp J Y32.h Sz31 k J oM (.loadEN (Aa kk) J J J Y31.h J Sz31 sP (by rw[Aa,La0];exact h32k) (by rw[hkk];exact B0 hrow hbs oM) ?_))))));refine .alloc (cs:=(Aa (List.replicate 32 0))) J Cj J ?_;intro n7 hn7 hf7;refine .sA J J J J zE Sz31 (by(simp[h32k];done)) Z0 sP zU ?_;refine .nsr (.m J J J (.lA J J J Y31.h J Sz31 Z0 (by(simp[h32k];done)) ?_));refine .callCV J J J J J Body66 (dag_hasP x hx p kk h32k) (fun w h=>Bm hW.2 h) (.na (.cond J (fun hc1=>?_) (fun hc1=>?_)))
  ·
   refine .region (.m J J J (.lA J J J Y31.h J Sz31 Z0 (by(simp[h32k];done)) ?_));refine .mkRow2 (z:=agg (Aa (List.replicate 32 0))) [agg (Aa kk)] (Aa kk) J J Y32.h Sz31 Cj J J (by intro v hv;rw[La1.1 hv];simp[Value.cells,Aa,h32k]) dE (by simp[Value.cells,agg]) ?_;intro q19;refine .appendAcc (n:=((ls.take k).filter (fun n=>x.pl.has n)).length) (z:=agg (Aa (List.replicate 32 0))) (by':=32) (Aa kk) J J J J J Y32.h Y32.h Sz31 Cj (by unfold By;kernel_rfl) J hac5 sG (fun w h=>SeesP.of (An h Z0)) (fun e=>by cases e) (A0 _) oM oM (by rw[Aa,La0,h32k]) ?_;intro s20 bl20 hac20;refine .a J J J (.nil (bl_n (A7 (.region (.aI J J J J oM (.m J J J (.na ?_)))))));exact⟨(k+1,s20,bl20),⟨by simp only;omega,by simp only;rw[filter_take oM,←hkk,if_pos (by exact hc1),Cf,La2,show Av [kk]=Aa kk by simp[Av]];exact hac20⟩,by simp only;omega,Ag wN (Ac sG Ae)⟩
  refine .skip (bl_n (A7 (.region (.aI J J J J oM (.m J J J (.na ?_))))));exact⟨(k+1,s5,bl5),⟨by simp only;omega,by simp only;rw[filter_take oM,←hkk,if_neg (by(intro h9;simp_all;done))];exact hac5⟩,by simp only;omega,Ag wN (Ac sG Ae)⟩
 have hke:k=s.n:=by omega
 refine .exit (at_x (at_x (bl_h (A7 (.sr (.m J J J (.a J J J (.na ?_))))))));refine .ret (C6 (As (out:=(bl5++[])) (Af J J) (Ac sG Ae) ?_));rw[La5 oM]at hac5;exact⟨s5,rfl,by simpa using hac5⟩
theorem filter_out2(s:Sl)(ls:List (List UInt8))(qa qb ma mb:Nat)(fa fb:List (List UInt8×Unit))(hbig:ls.length≤1000000):Meets prog 72 [s.v, .func (.func 108) #[] #[ptr qa 0,ptr qb 0]] [] (fun W=>RowsAt W s 32 ls∧W.cell? ⟨qa,0,none⟩=some (.map (some ma))∧W.cell? ⟨qb,0,none⟩=some (.map (some mb))∧BlkOk W (A4 ma (Ao 32 evU) fa)∧BlkOk W (A4 mb (Ao 32 evU) fb)) (RowA (ls.filter (fun n=>(Aj fa n).isNone&&(Aj fb n).isNone))):=by
 intro W hW;have h32k:True:=trivial;have hlen:=hW.1.len;have hrow:=hW.1.row;have hmax:=hW.1.max;simp only[maxLen]at hmax;have hln:ls.length≤1000000:=hbig;refine Ad func72 J 23 ntmps72 J (.sr (.a J J J (.nsr (.a J J J (.na (.seq (.sr (.m J J J (.lenSl J J J Y32.h (.m J J J (.na (.block (.loop (ι:=Nat×Sl×List Blk) (fun r=>⟨[(1, .func (.func 108) #[] #[ptr qa 0,ptr qb 0]),(5,r.2.1.v),(8,s.v),(9,i64 (s.n:Int)),(10,i64 (r.1:Int))],(r.2.2++[])⟩) (fun r=>r.1≤s.n∧Hw.Acc r.2.1 r.2.2 (Av ((ls.take r.1).filter (fun n=>(Aj fa n).isNone&&(Aj fb n).isNone))) 31 ((ls.take r.1).filter (fun n=>(Aj fa n).isNone&&(Aj fb n).isNone)).length 32) (fun r=>s.n-r.1) ((0,Sl.nil,[])) ?_ ?_ ?_)))))))))))))
 ·exact⟨Lan _,Acc.none⟩
 ·exact Ag wN (Ac (by repeat(exact Df)) Ae)
 rintro⟨k,s5,bl5⟩ ⟨hk,hac5⟩;simp only at hk hac5 ⊢;have hfl:=Lch (fun n=>(Aj fa n).isNone&&(Aj fb n).isNone) (ls.take k);rw[Lac]at hfl;refine .sr (.lss J J J J J (.na (.seq (.condP J (fun hc0=>?_) (fun hc0=>?_)))))
 ·
  have hk2:k<s.n:=by omega
  obtain⟨b,o,hbp,hbs⟩:=hW.1.see.at (by rw[A2 hrow];omega);obtain⟨kk,hkk⟩:∃kk,kk=ls.getD k []:=⟨_,rfl⟩;have h32k:kk.length=32:=by rw[hkk];exact Ch hrow oM
  refine .skip (A7 (.seq (.block (.sr (.idxSlP 32 J J J hbp J Y32.h Sz31 k J oM (.loadEN (Aa kk) J J J Y31.h J Sz31 sP (by rw[Aa,La0];exact h32k) (by rw[hkk];exact B0 hrow hbs oM) ?_))))));refine .alloc (cs:=(Aa (List.replicate 32 0))) J Cj J ?_;intro n7 hn7 hf7;refine .sA J J J J zE Sz31 (by(simp[h32k];done)) Z0 sP zU ?_;refine .nsr (.m J J J (.lA J J J Y31.h J Sz31 Z0 (by(simp[h32k];done)) ?_));refine .callCV J J J J J Body108 (want_out2 kk h32k qa qb ma mb fa fb) (fun w h=>⟨h.keeps.cell sP hW.2.1,h.keeps.cell sP hW.2.2.1,mblk_keep hW.2.2.2.1 h,mblk_keep hW.2.2.2.2 h⟩) (.na (.cond J (fun hc1=>?_) (fun hc1=>?_)))
  ·
   refine .region (.m J J J (.lA J J J Y31.h J Sz31 Z0 (by(simp[h32k];done)) ?_));refine .mkRow2 (z:=agg (Aa (List.replicate 32 0))) [agg (Aa kk)] (Aa kk) J J Y32.h Sz31 Cj J J (by intro v hv;rw[La1.1 hv];simp[Value.cells,Aa,h32k]) dE (by simp[Value.cells,agg]) ?_;intro q19;refine .appendAcc (n:=((ls.take k).filter (fun n=>(Aj fa n).isNone&&(Aj fb n).isNone)).length) (z:=agg (Aa (List.replicate 32 0))) (by':=32) (Aa kk) J J J J J Y32.h Y32.h Sz31 Cj (by unfold By;kernel_rfl) J hac5 sG (fun w h=>SeesP.of (An h Z0)) (fun e=>by cases e) (A0 _) oM oM (by rw[Aa,La0,h32k]) ?_;intro s20 bl20 hac20;refine .a J J J (.nil (bl_n (A7 (.region (.aI J J J J oM (.m J J J (.na ?_)))))));exact⟨(k+1,s20,bl20),⟨by simp only;omega,by simp only;rw[filter_take oM,←hkk,if_pos (by exact hc1),Cf,La2,show Av [kk]=Aa kk by simp[Av]];exact hac20⟩,by simp only;omega,Ag wN (Ac sG Ae)⟩
  refine .skip (bl_n (A7 (.region (.aI J J J J oM (.m J J J (.na ?_))))));exact⟨(k+1,s5,bl5),⟨by simp only;omega,by simp only;rw[filter_take oM,←hkk,if_neg (by(intro h9;simp_all;done))];exact hac5⟩,by simp only;omega,Ag wN (Ac sG Ae)⟩
 have hke:k=s.n:=by omega
 refine .exit (at_x (at_x (bl_h (A7 (.sr (.m J J J (.a J J J (.na ?_))))))));refine .ret (C6 (As (out:=(bl5++[])) (Af J J) (Ac sG Ae) ?_));rw[La5 oM]at hac5;exact⟨s5,rfl,by simpa using hac5⟩
theorem filter_out1(s:Sl)(ls:List (List UInt8))(qa qb ma:Nat)(fa:List (List UInt8×Unit))(hbig:ls.length≤1000000):Meets prog 72 [s.v, .func (.func 108) #[] #[ptr qa 0,ptr qb 0]] [] (fun W=>RowsAt W s 32 ls∧W.cell? ⟨qa,0,none⟩=some (.map (some ma))∧W.cell? ⟨qb,0,none⟩=some (.map none)∧BlkOk W (A4 ma (Ao 32 evU) fa)) (RowA (ls.filter (fun n=>(Aj fa n).isNone))):=by
 intro W hW;have h32k:True:=trivial;have hlen:=hW.1.len;have hrow:=hW.1.row;have hmax:=hW.1.max;simp only[maxLen]at hmax;have hln:ls.length≤1000000:=hbig;refine Ad func72 J 23 ntmps72 J (.sr (.a J J J (.nsr (.a J J J (.na (.seq (.sr (.m J J J (.lenSl J J J Y32.h (.m J J J (.na (.block (.loop (ι:=Nat×Sl×List Blk) (fun r=>⟨[(1, .func (.func 108) #[] #[ptr qa 0,ptr qb 0]),(5,r.2.1.v),(8,s.v),(9,i64 (s.n:Int)),(10,i64 (r.1:Int))],(r.2.2++[])⟩) (fun r=>r.1≤s.n∧Hw.Acc r.2.1 r.2.2 (Av ((ls.take r.1).filter (fun n=>(Aj fa n).isNone))) 31 ((ls.take r.1).filter (fun n=>(Aj fa n).isNone)).length 32) (fun r=>s.n-r.1) ((0,Sl.nil,[])) ?_ ?_ ?_)))))))))))))
 ·exact⟨Lan _,Acc.none⟩
 ·exact Ag wN (Ac (by repeat(exact Df)) Ae)
 rintro⟨k,s5,bl5⟩ ⟨hk,hac5⟩;simp only at hk hac5 ⊢;have hfl:=Lch (fun n=>(Aj fa n).isNone) (ls.take k);rw[Lac]at hfl;refine .sr (.lss J J J J J (.na (.seq (.condP J (fun hc0=>?_) (fun hc0=>?_)))))
 ·
  have hk2:k<s.n:=by omega
  obtain⟨b,o,hbp,hbs⟩:=hW.1.see.at (by rw[A2 hrow];omega);obtain⟨kk,hkk⟩:∃kk,kk=ls.getD k []:=⟨_,rfl⟩;have h32k:kk.length=32:=by rw[hkk];exact Ch hrow oM
  refine .skip (A7 (.seq (.block (.sr (.idxSlP 32 J J J hbp J Y32.h Sz31 k J oM (.loadEN (Aa kk) J J J Y31.h J Sz31 sP (by rw[Aa,La0];exact h32k) (by rw[hkk];exact B0 hrow hbs oM) ?_))))));refine .alloc (cs:=(Aa (List.replicate 32 0))) J Cj J ?_;intro n7 hn7 hf7;refine .sA J J J J zE Sz31 (by(simp[h32k];done)) Z0 sP zU ?_;refine .nsr (.m J J J (.lA J J J Y31.h J Sz31 Z0 (by(simp[h32k];done)) ?_));refine .callCV J J J J J Body108 (want_out1 kk h32k qa qb ma fa) (fun w h=>⟨h.keeps.cell sP hW.2.1,h.keeps.cell sP hW.2.2.1,mblk_keep hW.2.2.2 h⟩) (.na (.cond J (fun hc1=>?_) (fun hc1=>?_)))
  ·
   refine .region (.m J J J (.lA J J J Y31.h J Sz31 Z0 (by(simp[h32k];done)) ?_));refine .mkRow2 (z:=agg (Aa (List.replicate 32 0))) [agg (Aa kk)] (Aa kk) J J Y32.h Sz31 Cj J J (by intro v hv;rw[La1.1 hv];simp[Value.cells,Aa,h32k]) dE (by simp[Value.cells,agg]) ?_;intro q19;refine .appendAcc (n:=((ls.take k).filter (fun n=>(Aj fa n).isNone)).length) (z:=agg (Aa (List.replicate 32 0))) (by':=32) (Aa kk) J J J J J Y32.h Y32.h Sz31 Cj (by unfold By;kernel_rfl) J hac5 sG (fun w h=>SeesP.of (An h Z0)) (fun e=>by cases e) (A0 _) oM oM (by rw[Aa,La0,h32k]) ?_;intro s20 bl20 hac20;refine .a J J J (.nil (bl_n (A7 (.region (.aI J J J J oM (.m J J J (.na ?_)))))));exact⟨(k+1,s20,bl20),⟨by simp only;omega,by simp only;rw[filter_take oM,←hkk,if_pos (by exact hc1),Cf,La2,show Av [kk]=Aa kk by simp[Av]];exact hac20⟩,by simp only;omega,Ag wN (Ac sG Ae)⟩
  refine .skip (bl_n (A7 (.region (.aI J J J J oM (.m J J J (.na ?_))))));exact⟨(k+1,s5,bl5),⟨by simp only;omega,by simp only;rw[filter_take oM,←hkk,if_neg (by(intro h9;simp_all;done))];exact hac5⟩,by simp only;omega,Ag wN (Ac sG Ae)⟩
 have hke:k=s.n:=by omega
 refine .exit (at_x (at_x (bl_h (A7 (.sr (.m J J J (.a J J J (.na ?_))))))));refine .ret (C6 (As (out:=(bl5++[])) (Af J J) (Ac sG Ae) ?_));rw[La5 oM]at hac5;exact⟨s5,rfl,by simpa using hac5⟩
def leD(X:PD)(a b:List UInt8):Bool:=decide (X.dp a<X.dp b)||(decide (X.dp a=X.dp b)&&decide (C7 a b≤0))
theorem leD_iff{a b:List UInt8}:leD X a b=true↔LeD X a b:=by unfold leD LeD;simp
def isortD(X:PD)(l:List (List UInt8)):List (List UInt8):=l.mergeSort (leD X)
theorem isortD_perm(X:PD)(l:List (List UInt8)):(isortD X l).Perm l:=List.mergeSort_perm l _
theorem isortD_sort(X:PD)(l:List (List UInt8)):SortD X (isortD X l):=by
  have h:=List.pairwise_mergeSort (le:=leD X) (fun a b c h1 h2=>by
    rw[leD_iff]at*;have:=cmpB_trans a b c;unfold LeD at*;omega) (fun a b=>by
    rw[Lbz,leD_iff,leD_iff];have:=cmpB_neg a b;unfold LeD;omega) l
  exact h.imp fun h=>leD_iff.1 h
theorem isortD_eq{a l:List (List UInt8)}(hp:a.Perm l)(hs:SortD X a):a=isortD X l:=sortD_unique (hp.trans (isortD_perm X l).symm) hs (isortD_sort X l)
theorem lent_pre{C:Cx}{hp bl keep L:List Blk}{w:World}(h:HRep C hp w)(hp1:hp.Perm (bl++keep))(hL:∀b∈L,b∈keep):Lent bl w∧Lies L w∧∀b∈L,∀b2∈bl,b.n≠b2.n:=by
  have h1:=h.perm hp1;refine⟨Lent.of h hp1,fun b hb=>h1.cells b (Lau _ (hL b hb)),fun b hb b2 hb2 e=>?_⟩;have h2:=h1.nodup;rw[Lae,Lb5]at h2;exact h2.2.2 _ (La6.2 ⟨b2,hb2,rfl⟩) _ (La6.2 ⟨b,hL b hb,rfl⟩) e.symm
theorem setP_len:∀(l:List (List UInt8)) (fs:List (List UInt8×Unit)),(l.foldl (fun fs n=>Bh fs n ()) fs).length≤fs.length+l.length∧((l.foldl (fun fs n=>Bh fs n ()) fs).length=fs.length+l.length↔l.Nodup∧∀n∈l,n∉fs.map (·.1))
  | [],fs=>⟨Lad _,⟨fun _=>⟨Ld0,fun n hn=>by cases hn⟩,fun _=>rfl⟩⟩
  | a ::l,fs=>by
    obtain⟨h1,h2⟩:=setP_len l (Bh fs a ());rw[Ldl,Lay,Lb4];cases hm:Aj fs a with
    | none=>
      have hl:(Bh fs a ()).length=fs.length+1:=by rw[mput_app hm];simp
      have hk:=keysP_put hm;refine⟨by omega,⟨fun h=>?_,fun h=>?_⟩⟩
      · obtain⟨h3,h4⟩:=h2.1 oM
        refine⟨⟨fun ha=>h4 a ha (by rw[hk];exact Lau _ La9),h3⟩,fun n hn=>?_⟩;rcases Laj.1 hn with rfl|hn
        ·exact not_key hm
        ·exact fun hf=>h4 n hn (by rw[hk];exact Lao _ hf)
      · have h5:=h2.2 ⟨h.1.2,fun n hn hf=>by
          rw[hk]at hf;rcases Lab.1 hf with h6|h6
          ·exact h.2 n (Laf _ hn) h6
          ·rw[La1.1 h6]at hn;exact h.1.1 hn⟩
        omega
    | some u=>
      have ha:a∈fs.map (·.1):=La6.2 ⟨(a,u),Be hm,rfl⟩;have hl:(Bh fs a ()).length=fs.length:=by
        unfold Bh;cases hi:midx fs a with
        | none=>
          exfalso;unfold midx at hi;rw[Lda]at hi;have h9:=hi _ (Be hm);simp at h9
        |some j=>simp only[Lbs]
      exact⟨by omega,⟨fun h=>by omega,fun h=>absurd ha (h.2 a La9)⟩⟩
theorem setP_full(ls:List (List UInt8)):(setP ls).length=ls.length↔ls.Nodup:=by
  have h:=(setP_len ls []).2;rw[Lew,Lb2]at h;exact⟨fun h1=>(h.1 h1).1,fun h1=>h.2 ⟨h1,fun n _ hn=>by cases hn⟩⟩
def SortR(X:PD)(ls:List (List UInt8))(v:Value)(out:List Blk):Prop:=
  ((∃n∈ls,X.has n=false)∧v= .tuple #[.slice none 0 0,i64 6]∧out=[])
  ∨ (∀n∈ls,X.has n=true)∧(¬ls.Nodup∧v= .tuple #[.slice none 0 0,i64 2]∧out=[]
    ∨ls.Nodup∧∃s:Sl,v= .tuple #[s.v,i64 0]∧Hw.Acc s out (Av (isortD X ls)) 31 ls.length 32)
theorem lin_sort(x:DD)(hx:x.ok)(hI:x.pl.Inv)(hO:x.pl.Ord)(p:Nat)(s:Sl)(ls:List (List UInt8))(hls:ls.length≤90000):Meets prog 110 [ptr p 0,s.v] [] (fun W=>Lies (x.blks p) W∧RowsAt W s 32 ls) (SortR x.pl ls):=by
 intro W hW;have h32k:True:=trivial;obtain⟨hlies,hrh⟩:=id hW;have hck:∀q∈x.P,q.2.check=0:=hI.ck;have h16:∀q∈x.P,q.2.ls.length≤16:=fun q hq=>(ck_small (hck q hq)).1;have hlen:=hrh.len;have hrow:=hrh.row;refine Ad func110 J 35 ntmps110 J (G10 ?_);refine .cV J J J J Body148 (lin_none x hx h16 p) (fun w h=>Bm hlies h) (G2 ?_);refine .cond_f J J (G11 ?_);refine .loop (ι:=Nat) (fun k=>⟨[(0,ptr p 0),(1,s.v),(4, .slice none 0 0),(5,i64 0),(10,s.v),(11,i64 (s.n:Int)),(12,i64 (k:Int))],[]⟩) (fun k=>k≤s.n∧∀j,j<k→x.pl.has (ls.getD j [])=true) (fun k=>s.n-k) (0) ?_ ?_ ?_
 ·exact⟨Lan _,fun j hj=>absurd hj (Leb _)⟩
 ·exact Ag wN Ae
 rintro k ⟨hk,hg⟩;refine G6 ?_;refine .condP J (fun hc1=>?_) (fun hc1=>?_)
 ·
  have hk2:k<s.n:=by omega
  obtain⟨b,o,hbp,hbs⟩:=hrh.see.at (by rw[A2 hrow];omega);have h32k:(ls.getD k []).length=32:=Ch hrow oM;refine G6 ?_;refine .idxSlP 32 J J J hbp J Y32.h Sz31 k J oM (.loadEN (Aa (ls.getD k [])) J J J Y31.h J Sz31 sP (by rw[Aa,La0];exact h32k) (B0 hrow hbs oM) ?_);refine .alloc (cs:=(Aa (List.replicate 32 0))) J Cj J ?_;intro n7 hn7 hf7;refine .sA J J J J zE Sz31 (by(rw[Aa,La0];assumption)) Z0 sP zU ?_;refine G5 ?_;refine .lA J J J Y31.h J Sz31 Z0 (by(rw[Aa,La0];assumption)) ?_;refine .cV J J J J Body66 (dag_hasP x hx p (ls.getD k []) h32k) (fun w h=>Bm hlies h) (G3 ?_);refine .cond J (fun hc2=>?_) (fun hc2=>?_)
  ·
   refine G6 ?_;refine G7 ?_;refine As (out:=[]) (Ca J J J) Ae ?_;exact .inl ⟨⟨_,getD_mem2 (show k<ls.length by omega),by simpa using hc2⟩,rfl,rfl⟩
  refine G8 ?_;exact⟨k+1,⟨by omega,fun j hj=>by rcases Lcc.1 hj with h|rfl;exact hg j h;simpa using hc2⟩,by omega,Ag (wk1 rfl (wk1 rfl (wk1 rfl (wk1 rfl (wk1 rfl (wk1 rfl (wk1 (by rw[Lcn];rfl) wk0))))))) Ae⟩
 obtain rfl:k=s.n:=by omega
 have hall:∀n∈ls,x.pl.has n=true:=fun n hn=>by
  obtain⟨j,hj,e⟩:=Lbo hn;have h9:=hg j oM;rw[La4,La3 hj]at h9;rw[←e];exact h9
 refine G9 ?_;refine .call4 J J J J J Body149 (lin_set s ls) (fun w h=>Cw h J hrh) ?_;rintro v22 out22 ⟨m22,rfl,rfl⟩;refine .lenMap underlying178 J J J Z0 ?_;refine G5 ?_;refine .condNP J (fun hc3=>?_) (fun hc3=>?_)
 ·
  have hnd:¬ls.Nodup:=fun h9=>by have h8:=(setP_full ls).2 h9;omega
  refine G6 ?_;refine G3 ?_;refine As (out:=[]) (Ca J J J) Ae ?_;exact .inr ⟨hall, .inl ⟨hnd,rfl,rfl⟩⟩
 have hnd:ls.Nodup:=(setP_full ls).1 oM;refine G5 ?_;refine .call4 J J J J J Body53 (cl_digs s ls oM) (fun w h=>Cw h J hrh) ?_;rintro v28 out28 ⟨s28,rfl,hac28⟩;rw[←hlen]at hac28;refine G8 ?_;refine .call4 J J J J J Body151 (lin_depths x hx hI hO p s28 ls) (fun w h=>⟨Bm hlies h,Ci hac28 (Lies.of h (by repeat(exact Au))) hrow J oM⟩) ?_;rintro v32 out32 ⟨aD,bD,cD,mD,fsD,ksD,⟨rfl,rfl,hfsD⟩,hksD⟩;have hdep:∀n∈ls,Aj fsD n=some (x.pl.dp n):=fun n hn=>hfsD.all n (hksD n hn (has_names hI (hall n hn)));simp only[Lak,Lah,La8];refine .callL (L:=out28) J J J J J Body150 (lin_order x.pl s28 out28 ls hrow oM hac28 aD bD cD mD fsD hdep) sG (C5 J) (fun w h=>by have h9:=lent_pre (bl:=out28) (L:=[⟨aD,[.map (some mD)],58,1⟩,A4 mD (Ao 32 evI) fsD]) h sG (by intro b hb;simp only[Laj,Lbu,or_false]at hb;rcases hb with rfl|rfl;exact Z2;exact Z0);exact h9) ?_;rintro v33 out33 ⟨rfl,ks2,hp2,hs2,hac33⟩;refine G9 ?_;refine G2 ?_;refine As (out:=(out33++[])) (Ca J J J) (Ac sG Ae) ?_;exact .inr ⟨hall, .inr ⟨hnd,s28,rfl,by rw[←isortD_eq hp2 hs2];simpa using hac33⟩⟩
end Go.Proofs.YtgjnomgkddbhcaaGreat
end
