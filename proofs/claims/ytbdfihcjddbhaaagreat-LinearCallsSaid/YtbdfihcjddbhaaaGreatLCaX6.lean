/- Contracts of functions of the loaded program, and the lemmas that they need (part 6). It proves no statement by itself; it has no conditions. -/
import Derived.Test.YtbdfihcjddbhaaaGreatLCaX5
set_option maxRecDepth 100000
set_option maxHeartbeats 8000000
set_option linter.unusedVariables false
set_option linter.unusedSimpArgs false
set_option linter.unusedSectionVars false
set_option linter.unnecessarySimpa false
section
namespace Go.Proofs.YtbdfihcjddbhaaaGreat
open Go Hw _root_.Go.Proofs.Tryz
noncomputable def PD.add(X:PD)(D:DB):PD×List (List UInt8)×Int:=
  if dgood D=0 then
    (if((An X.orp (A6 D)).isSome||(An X.P (A6 D)).isSome)=true then(X,[],8)
     else if Bv X.P D=2 then(X,[],4)
     else if Bv X.P D=0 then(if 64<=X.orp.length then(X,[],7)else({ X with orp:=Bh X.orp (A6 D) D },[],0))
     else((PD.settle (X.adm (A6 D) D).orp.length (X.adm (A6 D) D)).1,A6 D::(PD.settle (X.adm (A6 D) D).orp.length (X.adm (A6 D) D)).2,0))
  else(X,[],dgood D)
variable{B:Block}{D:DB}{X:PD}{al o:List Blk}{p:Nat}{w:World}{x:DD}
theorem add_bad(h:¬dgood D=0):X.add D=(X,[],dgood D):=if_neg h
theorem add_there(h:dgood D=0)(h2:((An X.orp (A6 D)).isSome||(An X.P (A6 D)).isSome)=true):X.add D=(X,[],8):=by unfold PD.add;rw[if_pos h,if_pos h2]
theorem add_wrong(h:dgood D=0)(h2:((An X.orp (A6 D)).isSome||(An X.P (A6 D)).isSome)=false)(h3:Bv X.P D=2):X.add D=(X,[],4):=by unfold PD.add;rw[if_pos h,if_neg (by rw[h2];decide),if_pos h3]
theorem add_full(h:dgood D=0)(h2:((An X.orp (A6 D)).isSome||(An X.P (A6 D)).isSome)=false)(h3:Bv X.P D=0)(h4:64<=X.orp.length):X.add D=(X,[],7):=by unfold PD.add;rw[if_pos h,if_neg (by rw[h2];decide),if_neg oM,if_pos h3,if_pos h4]
theorem add_keep(h:dgood D=0)(h2:((An X.orp (A6 D)).isSome||(An X.P (A6 D)).isSome)=false)(h3:Bv X.P D=0)(h4:¬64<=X.orp.length):X.add D=({ X with orp:=Bh X.orp (A6 D) D },[],0):=by unfold PD.add;rw[if_pos h,if_neg (by rw[h2];decide),if_neg oM,if_pos h3,if_neg h4]
theorem add_fits(h:dgood D=0)(h2:((An X.orp (A6 D)).isSome||(An X.P (A6 D)).isSome)=false)(h3:Bv X.P D=1):
    X.add D=((PD.settle (X.adm (A6 D) D).orp.length (X.adm (A6 D) D)).1,A6 D::(PD.settle (X.adm (A6 D) D).orp.length (X.adm (A6 D) D)).2,0):=by unfold PD.add;rw[if_pos h,if_neg (by rw[h2];decide),if_neg oM,if_neg oM]
theorem good_check(h:dgood D=0):D.check=0:=by
  unfold dgood at h;split at h
  .assumption
  .exact h
def DD.hold(x:DD)(o:List Blk):DD:={ x with cb:=x.cb++o }
theorem DD.ok.hold(h:x.ok)(o:List Blk):(x.hold o).ok:={ h with
  ent:=λp hp=>⟨(h.ent p hp).1,(h.ent p hp).2.1.more λb hb=>Lak _ hb,(h.ent p hp).2.2⟩
  orp:=λp hp=>⟨(h.orp p hp).1,(h.orp p hp).2.1.more λb hb=>Lak _ hb,(h.orp p hp).2.2⟩ }
def DD.wait(x:DD)(n:List UInt8)(B:Block)(D:DB)(o:List Blk):DD:={ x with orp:=Bh x.orp n (B,D),cb:=x.cb++o }
theorem DD.ok.wait(h:x.ok){n:List UInt8}(aa:n.length=32)(hB:SameB B D)(hi:∀W2,Lies o W2->BlockIs W2 B D)(hl:D.ls.length<=16)(ab:x.names.length+x.orp.length<20000)(ac:¬64<=x.orp.length):(x.wait n B D o).ok:={ h with
  orpn:=by
    have:=mput_len x.orp n (B,D);show(Bh x.orp n (B,D)).length<=64;omega
  big:=by
    have:=mput_len x.orp n (B,D);show x.names.length+(Bh x.orp n (B,D)).length<=20000;omega
  ent:=λp hp=>⟨(h.ent p hp).1,(h.ent p hp).2.1.more λb hb=>Lak _ hb,(h.ent p hp).2.2⟩
  orp:=λp hp=>by
    rcases mput_mem hp with hp|rfl
    .exact⟨(h.orp p hp).1,(h.orp p hp).2.1.more λb hb=>Lak _ hb,(h.orp p hp).2.2⟩
    .exact⟨aa,⟨hB,λW hW=>hi W (hW.sub λb hb=>Lat _ hb)⟩,hl⟩ }
theorem wait_pl(x:DD)(n:List UInt8)(B:Block)(D:DB)(o:List Blk):(x.wait n B D o).pl= { x.pl with orp:=Bh x.pl.orp n D }:=by
  unfold DD.pl DD.wait;simp only;rw[mput_map (λb:BV=>b.2)];rfl
def AddR(x:DD)(p:Nat)(D:DB)(al:List Blk)(v:Value)(out:List Blk):Prop:=∃(x':DD) (s:Sl) (bl:List Blk),v= .tuple #[s.v,i64 (x.pl.add D).2.2]/\out=x'.blks p++(bl++al)/\x'.ok/\Hw.Acc s bl (Aq (x.pl.add D).2.1) 31 (x.pl.add D).2.1.length 32/\(∀n∈(x.pl.add D).2.1,n.length=32)/\x'.pl=(x.pl.add D).1/\x'.names.length+x'.orp.length<=x.names.length+x.orp.length+1
def SetF(x0:DD)(p:Nat)(s:Sl)(out:List Blk):Prop:=∃(x:DD) (bl:List Blk),out=x.blks p++bl/\x.ok/\Hw.Acc s bl (Aq (PD.settle x0.orp.length x0.pl).2) 31 (PD.settle x0.orp.length x0.pl).2.length 32/\x.names.length+x.orp.length<=x0.names.length+x0.orp.length/\x.pl=(PD.settle x0.orp.length x0.pl).1
def SetL(x0:DD)(p:Nat)(v:Value)(out:List Blk):Prop:=∃s:Sl,v=s.v/\s.n=(PD.settle x0.orp.length x0.pl).2.length/\(s.p=none->s.n=0)/\(PD.settle x0.orp.length x0.pl).2.length<=20000/\(∀n∈(PD.settle x0.orp.length x0.pl).2,n.length=32)/\∀W2,Lies out W2->SetF x0 p s out
theorem settle_len:∀(f:Nat) (X:PD),(PD.settle f X).2.length<=f
  |0,X=>Lag _
  | f +1,X=>by
    unfold PD.settle;cases X.first with
    |none=>exact Laf _
    | some n=>
      simp only;split
      .simpa using settle_len f _
      .exact Nat.le_succ_of_le (settle_len f _)
theorem settle_32:∀(f:Nat) (X:PD),(∀p∈X.orp,p.1.length=32)->∀n∈(PD.settle f X).2,n.length=32
  |0,X,_,n,h=>by cases h
  | f + 1,X,hX,n,h=>by
    unfold PD.settle at h;cases hf:X.first with
    |none=>rw[hf]at h;cases h
    | some m=>
      have hd:∀p∈(X.drop1 m).orp,p.1.length=32:=λp hp=>hX p (mdel_mem hp);rw[hf]at h;simp only at h;split at h
      . rcases Lam.1 h with rfl|h
        . have:=Lfs hf
          obtain⟨q,hq,e⟩:=La6.1 ((isort_perm _).mem_iff.1 this);rw[<-e];exact hX q hq
        .exact settle_32 f _ (by exact hd) n h
      .exact settle_32 f _ hd n h
theorem there_eq(x:DD)(n:List UInt8):((An x.pl.orp n).isSome||(An x.pl.P n).isSome)=((An x.orp n).isSome||(An x.ent n).isSome):=by
  rw[x.getO,show x.pl.P=x.P from rfl,x.getP,Lfl,Lfl]
theorem addR_err{e:Int}(hx:x.ok)(h:x.pl.add D=(x.pl,[],e)):AddR x p D al (.tuple #[.slice none 0 0,i64 e]) (x.blks p++al):=by
  unfold AddR;rw[h];exact⟨x,Sl.nil,[],rfl,rfl,hx,Acc.none,(λn (h:n∈([]:List (List UInt8)))=>(by cases h)),rfl,Nat.le_succ _⟩
theorem addR_keep(hx:x.ok)(hB:SameB B D)(hi:∀W2,Lies o W2->BlockIs W2 B D)(hl:D.ls.length<=16)(aa:x.names.length+x.orp.length<20000)(ab:¬64<=x.orp.length)
    (h:x.pl.add D=({ x.pl with orp:=Bh x.pl.orp (A6 D) D },[],0)):AddR x p D al (.tuple #[.slice none 0 0,i64 0]) ((x.wait (A6 D) B D o).blks p++al):=by
  unfold AddR;rw[h];refine⟨x.wait (A6 D) B D o,Sl.nil,[],rfl,rfl,hx.wait (nameD_length D) hB hi hl aa ab,Acc.none,(λn (h:n∈([]:List (List UInt8)))=>(by cases h)),wait_pl ..,?_⟩;have:=mput_len x.orp (A6 D) (B,D);show x.names.length+(Bh x.orp (A6 D) (B,D)).length<=_;omega
theorem addR_fits{x x2 x3:DD}{al bl3 bl:List Blk}{s:Sl}(aa:x2.pl=x.pl.adm (A6 D) D)(ah:x2.names.length+x2.orp.length=x.names.length+x.orp.length+1)(ai:x2.ok)(ae:x3.ok)(ag:x3.names.length+x3.orp.length<=x2.names.length+x2.orp.length)(ab:x3.pl=(PD.settle x2.orp.length x2.pl).1)
    (ac:∀n∈(PD.settle x2.orp.length x2.pl).2,n.length=32) (ad:Hw.Acc s bl (Aa (A6 D)++Aq (PD.settle x2.orp.length x2.pl).2) 31 (1+(PD.settle x2.orp.length x2.pl).2.length) 32)
    (h:x.pl.add D=((PD.settle (x.pl.adm (A6 D) D).orp.length (x.pl.adm (A6 D) D)).1,A6 D::(PD.settle (x.pl.adm (A6 D) D).orp.length (x.pl.adm (A6 D) D)).2,0)):AddR x p D al (.tuple #[s.v,i64 0]) (x3.blks p++(bl++al)):=by
  have e:(x.pl.adm (A6 D) D).orp.length=x2.orp.length:=by rw[<-aa];show(x2.orp.map _).length=_;rw[La0]
  rw[e,<-aa]at h;unfold AddR;rw[h];refine⟨x3,s,bl,rfl,rfl,ae,?_,?_,ab,by omega⟩
  . show Hw.Acc s bl (Aq (A6 D::_)) 31 (A6 D::_).length 32
    rw[Lax,Lef];have e2:∀l:List (List UInt8),Aq (A6 D::l)=Aa (A6 D)++Aq l:=λl=>by simp[Aq]
    rw[e2];exact ad
  . intro n hn
    rcases Lam.1 hn with rfl|hn
    .exact nameD_length D
    .exact ac n hn
theorem dag_settleL(x0:DD)(aa:x0.ok)(p:Nat):Meets prog 87 [ptr p 0] ((x0.blks p).map (·.n)) (λW=>Lent (x0.blks p) W) (SetL x0 p):=
  (dag_settle x0 aa p).imp (λw h=>h) λv out ⟨x,s,bl,l,h1,h2,h3,h4,h5,h6,h7,h8,h9⟩=>by
    subst h9;exact⟨s,h1,h4.num,h4.nil,by have:=aa.big;omega,h5,λW2 _=>⟨x,bl,h2,h3,h4,h6,h8⟩⟩
theorem no_lieU{n:Nat}(h:Lies [⟨n,[undef],0,0⟩] w):False:=by
  exact lie_none h
theorem SetL.loose(x0:DD)(aa:x0.ok)(p:Nat)(lent:List Nat):LooseL lent (SetL x0 p):=λl hl _=>by
  obtain⟨n,_,hn⟩:=fresh_is 0 l;have ab:∀q∈x0.pl.orp,q.1.length=32:=λq hq=>by
    obtain⟨r,hr,rfl⟩:=La6.1 hq;exact(aa.orp r hr).1
  refine⟨_,[⟨n,[undef],0,0⟩],⟨⟨some ⟨0,0,none⟩,(PD.settle x0.orp.length x0.pl).2.length,0⟩,rfl,rfl,(λe=>by cases e),by have:=settle_len x0.orp.length x0.pl;have:=aa.big;omega,settle_32 _ _ ab,λW2 h=>(no_lieU h).elim⟩,?_⟩;simp only[Lcg,Lar,Lb6];exact⟨λh=>by obtain⟨b,hb,e⟩:=La6.1 h;exact hn b hb e,hl⟩
theorem dag_add(x:DD)(hx:x.ok)(p:Nat)(B:Block)(D:DB)(al:List Blk)(hB:Held al B D)(ag:x.names.length+x.orp.length<20000):Meets prog 42 [ptr p 0,agg B.cells] ((x.blks p++al).map (·.n)) (λW=>Lent (x.blks p++al) W) (AddR x p D al):=by
 intro W hW;have bj:=hx.big;have ax:=hB.2 W (hW.1.sub (λb hb=>Lat _ hb));have aa:=nameD_length D;generalize hlt:(x.blks p++al).map (·.n)=lt;have AGR:AddR x p D al=AddR x p D al:=rfl;refine calls_of (hp0:=(x.blks p++al)) func42 J 65 ntmps42 J (hlt▸hW.rep) (G2 ?_);simp only[DD.blks,Lan,Lah,Lab];refine G1 ?_;intro n3 bo bm;refine G8 ?_;refine .cV J J J J Body45 (dag_valid x p) (λw h=>DagSee.of h Z1 Z2) ?_;refine G3 ?_;refine .cond_f J J (G5 ?_);refine .lA J J J Y37.h J Sz37 Z0 (Block.length (by exact hB.1.ok)) ?_;refine .cV J J J J Body83 (db_good B D hB.1.ok) (λw h=>hB.2 w (Lies.of h (by repeat(first|exact in_all|refine A1 ?_|refine A5 ?_)))) ?_;refine G9 ?_;refine .condNP J (λay=>?_) (λay=>?_)
 ·
  refine G7 ?_;skip;refine G3 ?_;refine Ao (out:=(⟨p,[ptr p 0,x.nm.v, .map (some x.bE), .map (some x.bH), .map (some x.bO), .map (some x.bP), .map (some x.bW)],86,7⟩::(A3 x.bE (Ak 32 evE) x.ent::(A3 x.bH (Ak 32 evU) x.hds::(A3 x.bO (Ak 32 evB) x.orp::(A3 x.bP (placeT 32 evR) x.pls::(A3 x.bW (Ak 32 evR) x.wrs::(x.nb++(x.cb++(rbl x.pls++(rbl x.wrs++(al++[])))))))))))) (Bm J J J) (Ab rM (Ab rM (Ab rM (Ab rM (Ab rM (Ab rM (Ac sG (Ac sG (Ac sG (Ac sG (Ac (by repeat(first|exact C8|apply sg_there)) Ad))))))))))) ?_;have h9:=addR_err (p:=p) (al:=al) hx (add_bad ay);simp only[DD.blks,DD.wait,Lan,Lah,Law,Lab]at h9 ⊢;exact h9
 have ab:dgood D=0:=by omega
 have ba:=good_check ab;obtain⟨bq,bt⟩:=D.head_small ba;refine G4 ?_;refine .lA J J J Y37.h J Sz37 Z0 (Block.length (by exact hB.1.ok)) ?_;refine .cV J J J J Body84 (db_name B D) (λw h=>hB.2 w (Lies.of h (by repeat(first|exact in_all|refine A1 ?_|refine A5 ?_)))) ?_;refine .alloc (cs:=(Aa (List.replicate 32 0))) J Bz J ?_;intro n7 bp bn;refine .sA J J J J zE Sz31 (by(rw[Aa,La0];assumption)) Z0 sP zU ?_;refine G4 ?_;refine .draw (oPq [0,1,2,103,104,105,6,7,8,209,410,11]) Au zK (G4 ?_);refine .lA J J J Y31.h J Sz31 Z0 (by(rw[Aa,La0];assumption)) ?_;refine .lookF evB MO J J J J aa (by exact mem5) (λhg=>?_) (λe hg=>?_)
 ·
  skip;refine G3 ?_;refine .alloc (cs:=Block.zero.cells) J Block.zr J ?_;intro n8 bg bc;refine G9 ?_;refine .lA J J J Y31.h J Sz31 Z1 (by(rw[Aa,La0];assumption)) ?_;refine .cV J J J J Body59 (dag_has x hx p (A6 D) aa) (λw h=>DagSee.of h Z3 Z4) ?_;refine G3 ?_;refine .cond J (λhc2=>?_) (λhc2=>?_)
  ·
   refine G6 ?_;skip;refine G3 ?_;refine Ao (out:=(⟨p,[ptr p 0,x.nm.v, .map (some x.bE), .map (some x.bH), .map (some x.bO), .map (some x.bP), .map (some x.bW)],86,7⟩::(A3 x.bE (Ak 32 evE) x.ent::(A3 x.bH (Ak 32 evU) x.hds::(A3 x.bO (Ak 32 evB) x.orp::(A3 x.bP (placeT 32 evR) x.pls::(A3 x.bW (Ak 32 evR) x.wrs::(x.nb++(x.cb++(rbl x.pls++(rbl x.wrs++(al++[])))))))))))) (Bm J J J) (Ab rM (Ab rM (Ab rM (Ab rM (Ab rM (Ab rM (Ac sG (Ac sG (Ac sG (Ac sG (Ac (by repeat(first|exact C8|apply sg_there)) Ad))))))))))) ?_;have h9:=addR_err (p:=p) (al:=al) hx (add_there ab (by rw[there_eq,hg,hc2];rfl));simp only[DD.blks,DD.wait,Lan,Lah,Law,Lab]at h9 ⊢;exact h9
  refine G6 ?_;refine .lA J J J Y37.h J Sz37 Z2 (Block.length (by exact hB.1.ok)) ?_;refine .cV J J J J Body85 (dag_judge x hx p B D hB.1 oM) (λw h=>⟨DagSee.of h Z3 Z4,hB.2 w (Lies.of h (by repeat(first|exact in_all|refine A1 ?_|refine A5 ?_)))⟩) ?_;refine G9 ?_;refine .condP J (λaz=>?_) (λaz=>?_)
  ·
   refine G6 ?_;skip;refine G4 ?_;refine Ao (out:=(⟨p,[ptr p 0,x.nm.v, .map (some x.bE), .map (some x.bH), .map (some x.bO), .map (some x.bP), .map (some x.bW)],86,7⟩::(A3 x.bE (Ak 32 evE) x.ent::(A3 x.bH (Ak 32 evU) x.hds::(A3 x.bO (Ak 32 evB) x.orp::(A3 x.bP (placeT 32 evR) x.pls::(A3 x.bW (Ak 32 evR) x.wrs::(x.nb++(x.cb++(rbl x.pls++(rbl x.wrs++(al++[])))))))))))) (Bm J J J) (Ab rM (Ab rM (Ab rM (Ab rM (Ab rM (Ab rM (Ac sG (Ac sG (Ac sG (Ac sG (Ac (by repeat(first|exact C8|apply sg_there)) Ad))))))))))) ?_;have h9:=addR_err (p:=p) (al:=al) hx (add_wrong ab (by rw[there_eq,hg,hc2];rfl) az);simp only[DD.blks,DD.wait,Lan,Lah,Law,Lab]at h9 ⊢;exact h9
  refine G6 ?_;refine .condP J (λar=>?_) (λar=>?_)
  ·
   refine G7 ?_;refine .lenMap Y82.h J J J (by exact mem6) ?_;refine G3 ?_;refine .condP J (λa8=>?_) (λa8=>?_)
   ·
    refine G6 ?_;skip;refine G5 ?_;refine Ao (out:=(⟨p,[ptr p 0,x.nm.v, .map (some x.bE), .map (some x.bH), .map (some x.bO), .map (some x.bP), .map (some x.bW)],86,7⟩::(A3 x.bE (Ak 32 evE) x.ent::(A3 x.bH (Ak 32 evU) x.hds::(A3 x.bO (Ak 32 evB) x.orp::(A3 x.bP (placeT 32 evR) x.pls::(A3 x.bW (Ak 32 evR) x.wrs::(x.nb++(x.cb++(rbl x.pls++(rbl x.wrs++(al++[])))))))))))) (Bm J J J) (Ab rM (Ab rM (Ab rM (Ab rM (Ab rM (Ab rM (Ac sG (Ac sG (Ac sG (Ac sG (Ac (by repeat(first|exact C8|apply sg_there)) Ad))))))))))) ?_;have h9:=addR_err (p:=p) (al:=al) hx (add_full ab (by rw[there_eq,hg,hc2];rfl) ar (by show 64<=(x.orp.map _).length;rw[La0];omega));simp only[DD.blks,DD.wait,Lan,Lah,Law,Lab]at h9 ⊢;exact h9
   refine G3 ?_;refine .draw (oPq [0,1,2,103,104,105,306,407]) Au zK (G4 ?_);refine .lA J J J Y31.h J Sz31 Z1 (by(rw[Aa,La0];assumption)) ?_;refine .lA J J J Y37.h J Sz37 Z2 (Block.length (by exact hB.1.ok)) ?_;refine .call J J J J Body52 (dag_clone B D hB.1 oM oM) (BlkV.loose D ax.dok) (λw h=>hB.2 w (Lies.of h (by repeat(first|exact in_all|refine A1 ?_|refine A5 ?_)))) ?_;rintro b3 au ⟨B2,ao,rfl,aq⟩;refine .mapPut (v:=((B2,D):BV)) MO J J J J J aa rM ?_;refine G8 ?_;skip;refine G4 ?_;refine Ao (out:=(⟨p,[ptr p 0,x.nm.v, .map (some x.bE), .map (some x.bH), .map (some x.bO), .map (some x.bP), .map (some x.bW)],86,7⟩::(A3 x.bE (Ak 32 evE) x.ent::(A3 x.bH (Ak 32 evU) x.hds::(A3 x.bO (Ak 32 evB) (Bh x.orp (A6 D) (B2,D))::(A3 x.bP (placeT 32 evR) x.pls::(A3 x.bW (Ak 32 evR) x.wrs::(x.nb++(x.cb++(au++(rbl x.pls++(rbl x.wrs++(al++[]))))))))))))) (Bm J J J) (Ab rM (Ab rM (Ab rM (Ab rM (Ab rM (Ab rM (Ac sG (Ac sG (Ac sG (Ac sG (Ac sG (Ac (by repeat(first|exact C8|apply sg_there)) Ad)))))))))))) ?_;have h9:=addR_keep (p:=p) (al:=al) hx ao aq oM ag oM (add_keep ab (by rw[there_eq,hg,hc2];rfl) ar (by show ¬64<=(x.orp.map _).length;rw[La0];omega));simp only[DD.blks,DD.wait,Lan,Lah,Law,Lab]at h9 ⊢;exact h9
  refine G3 ?_;refine .join (ι:=Unit×DD) (λj=>⟨[(0,ptr p 0),(7,ptr n7 0)],(⟨n7,Aa (A6 D),31,32⟩::(⟨p,[ptr p 0,j.2.nm.v, .map (some j.2.bE), .map (some j.2.bH), .map (some j.2.bO), .map (some j.2.bP), .map (some j.2.bW)],86,7⟩::(A3 j.2.bE (Ak 32 evE) j.2.ent::(A3 j.2.bH (Ak 32 evU) j.2.hds::(A3 j.2.bO (Ak 32 evB) j.2.orp::(A3 j.2.bP (placeT 32 evR) j.2.pls::(A3 j.2.bW (Ak 32 evR) j.2.wrs::(j.2.nb++(j.2.cb++(rbl j.2.pls++(rbl j.2.wrs++(al++[]))))))))))))⟩) (λj=>j.2.ok/\j.2.pl=x.pl.adm (A6 D) D/\j.2.names.length=x.names.length+1/\j.2.orp.length=x.orp.length) ?_ ?_
  ·
   refine .draw (oPq [0,101,102,303,404]) Au zK (G1 ?_);refine .lA J J J Y31.h J Sz31 Z1 (by(rw[Aa,La0];assumption)) ?_;refine .lA J J J Y37.h J Sz37 Z2 (Block.length (by exact hB.1.ok)) ?_;refine .call J J J J Body52 (dag_clone B D hB.1 oM oM) (BlkV.loose D ax.dok) (λw h=>hB.2 w (Lies.of h (by repeat(first|exact in_all|refine A1 ?_|refine A5 ?_)))) ?_;rintro b4 ac ⟨B2,ao,rfl,aq⟩;refine .callL (L:=((x.hold ac).blks p)) J J J J J Body86 (dag_admit2 (x.hold ac) (hx.hold ac) p (A6 D) aa B2 D ⟨ao,λW hW=>aq W (hW.sub λb hb=>Lat _ hb)⟩ oM ag) (Ab rM (Ab rM (Ab rM (Ab rM (Ab rM (Ab rM (Ac sG (pm_two (Ac sG (Ac sG (Ac sG (Ac sG Ad)))))))))))) (lent_ok J) (λw h=>Lent.of h (Ab rM (Ab rM (Ab rM (Ab rM (Ab rM (Ab rM (Ac sG (pm_two (Ac sG (Ac sG (Ac sG (Ac sG Ad))))))))))))) ?_;rintro b5 bi ⟨rfl,x2,rfl,ah,ae,am,an⟩;simp only[DD.blks,Lan,Lah,Lab];refine G2 ?_;exact⟨((),x2),⟨ah,ae,am,an⟩,Af wN (Ab rM (Ab rM (Ab rM (Ab rM (Ab rM (Ab rM (Ab rM (Ac sG (Ac sG (Ac sG (Ac sG (Ac (by repeat(first|exact C8|apply sg_there)) Ad))))))))))))⟩
  intro j hj;obtain⟨j0,x2⟩:=j;simp only at hj ⊢;obtain⟨ah,ae,am,an⟩:=hj;refine .seq (.withK (sp_k (sp_v (sp_v (sp_v (sp_v (sp_v (sp_v (sp_x (sp_x (sp_x (sp_x (sp_x sp_n)))))))))))) J (.draw (oPq [0,2,503,201,404,5,6]) Au zK (.kloadAll J J J Y31.h J Sz31 Z0 (by(rw[Aa,La0];assumption)) ?_)));refine G1 ?_;refine .callL5 (L:=(x2.blks p)) J J J J J Body87 (dag_settleL x2 ah p) (SetL.loose x2 ah p _) (Ab rM (Ab rM (Ab rM (Ab rM (Ab rM (Ab rM (Ac sG (Ac sG (Ac sG (Ac sG Ad)))))))))) (lent_ok J) (λw h=>Lent.of h (Ab rM (Ab rM (Ab rM (Ab rM (Ab rM (Ab rM (Ac sG (Ac sG (Ac sG (Ac sG Ad))))))))))) ?_;rintro b6 av ⟨⟨bv,bu,bk⟩,rfl,ak,ai,be,ad,a6⟩;refine .mkRow2 (z:=agg (Aa (List.replicate 32 0))) [agg (Aa (A6 D))] (Aa (A6 D)) J J Y32.h Sz31 Bz J J (by intro v hv;rw[La1.1 hv];simp[Value.cells,Aa,aa]) dE (by simp[Value.cells,agg]) ?_;intro bw;refine .appendAcc (n:=1) (z:=agg (Aa (List.replicate 32 0))) (by':=32) (Aq (PD.settle x2.orp.length x2.pl).2) J J J J J Y32.h Y32.h Sz31 Bz (by unfold By;kernel_rfl) J (Acc.some (cells:=Aa (A6 D)) (Lag 1) (by rw[Aa,La0,aa])) (pm_consE rM J (by rw[Aa,La0,aa]) Ad) (λw h=>by have hL:Lies av w:=Lies.of h (by repeat(first|exact Ap|refine A1 ?_));obtain⟨x3,bl3,e3,a7,aj,a2⟩:=a6 w hL;exact aj.see (hL.sub (λb hb=>by rw[e3];exact Lat _ hb))) ai (Cu _) oM oM (by rw[As ad,<-ak]) ?_;intro bz aw ap;refine G4 ?_;simp only[Lan,Lah,Law,Lab];refine .know (λw h=>a6 w (Lies.of h (by repeat(first|exact Ap|refine A5 ?_)))) (λhF=>?_);obtain⟨x3,bl3,rfl,a7,aj,a2,a1⟩:=hF;simp only[DD.blks,Lan,Lah,Lab];refine G2 ?_;refine Ao (out:=(⟨p,[ptr p 0,x3.nm.v, .map (some x3.bE), .map (some x3.bH), .map (some x3.bO), .map (some x3.bP), .map (some x3.bW)],86,7⟩::(A3 x3.bE (Ak 32 evE) x3.ent::(A3 x3.bH (Ak 32 evU) x3.hds::(A3 x3.bO (Ak 32 evB) x3.orp::(A3 x3.bP (placeT 32 evR) x3.pls::(A3 x3.bW (Ak 32 evR) x3.wrs::(x3.nb++(x3.cb++(rbl x3.pls++(rbl x3.wrs++(aw++(al++[]))))))))))))) (Bm J J J) (Ab (by repeat(first|exact A4|apply Bq)) (Ab (by repeat(first|exact A4|apply Bq)) (Ab (by repeat(first|exact A4|apply Bq)) (Ab (by repeat(first|exact A4|apply Bq)) (Ab (by repeat(first|exact A4|apply Bq)) (Ab (by repeat(first|exact A4|apply Bq)) (Ac (by repeat(first|exact B9|apply Cj)) (Ac (by repeat(first|exact B9|apply Cj)) (Ac (by repeat(first|exact B9|apply Cj)) (Ac (by repeat(first|exact B9|apply Cj)) (Ac sG (Ac (by repeat(first|exact B9|apply Cj)) Ad)))))))))))) ?_
  have h9:=addR_fits (p:=p) (al:=al) (bl3:=bl3) ae oM ah a7 a2 a1 ad (by rw[<-ak];exact ap) (add_fits ab (by rw[there_eq,hg,hc2];rfl) (by rcases judge_cases x.P D with h8|h8|h8<;>first|exact h8|exact absurd h8 zA));simp only[DD.blks,DD.wait,Lan,Lah,Law,Lab]at h9 ⊢;exact h9
 skip;refine G3 ?_;refine .alloc (cs:=Block.zero.cells) J Block.zr J ?_;intro n8 bg bc;refine .sA J J J J (Block.isCell (by exact hx.orpOk hg)) Sz37 (Block.length (by exact hx.orpOk hg)) Z0 (Block.length (by exact Block.zero_ok)) zU ?_;refine G13 ?_;refine .cond_t J J (G6 ?_);skip;refine G3 ?_;refine Ao (out:=(⟨p,[ptr p 0,x.nm.v, .map (some x.bE), .map (some x.bH), .map (some x.bO), .map (some x.bP), .map (some x.bW)],86,7⟩::(A3 x.bE (Ak 32 evE) x.ent::(A3 x.bH (Ak 32 evU) x.hds::(A3 x.bO (Ak 32 evB) x.orp::(A3 x.bP (placeT 32 evR) x.pls::(A3 x.bW (Ak 32 evR) x.wrs::(x.nb++(x.cb++(rbl x.pls++(rbl x.wrs++(al++[])))))))))))) (Bm J J J) (Ab rM (Ab rM (Ab rM (Ab rM (Ab rM (Ab rM (Ac sG (Ac sG (Ac sG (Ac sG (Ac (by repeat(first|exact C8|apply sg_there)) Ad))))))))))) ?_;have h9:=addR_err (p:=p) (al:=al) hx (add_there ab (by rw[there_eq,hg];rfl));simp only[DD.blks,DD.wait,Lan,Lah,Law,Lab]at h9 ⊢;exact h9
theorem DD.m0(x:DD)(p:Nat):(⟨p,[ptr p 0,x.nm.v, .map (some x.bE), .map (some x.bH), .map (some x.bO), .map (some x.bP), .map (some x.bW)],86,7⟩:Blk)∈x.blks p:=by unfold DD.blks;exact La9
theorem DD.mE(x:DD)(p:Nat):A3 x.bE (Ak 32 evE) x.ent∈x.blks p:=by unfold DD.blks;exact mem1
theorem DD.mcb(x:DD)(p:Nat):∀b∈x.cb,b∈x.blks p:=by unfold DD.blks;exact(by repeat(first|exact Ap|refine A1 ?_|refine A5 ?_))
theorem DD.mnb(x:DD)(p:Nat):∀b∈x.nb,b∈x.blks p:=by unfold DD.blks;exact(by repeat(first|exact Ap|refine A1 ?_))
theorem DagSee.lies{W:World}(h:Lies (x.blks p) W):DagSee x p W:=⟨h _ (x.m0 p),h _ (x.mE p)⟩
theorem Bf{C:Cx}{hp L:List Blk}(h:Lies L C.W0)(hh:HRep C hp w)(hl:C.lent=[]:=by rfl):Lies L w:=λb hb=>mblk_keep (h b hb) hh hl
theorem keys_put{ν:Type}(fs:List (List UInt8×ν))(k:List UInt8)(v:ν)(n:List UInt8):n∈(Bh fs k v).map (·.1)↔n∈fs.map (·.1)\/n=k:=by
  have key:∀j,midx fs k=some j->(fs.set j (k,v)).map (·.1)=fs.map (·.1)/\k∈fs.map (·.1):=λj h=>by
    unfold midx at h;rw[Lbu]at h;obtain⟨hl,he,_⟩:=h;have e:fs[j].1=k:=by simpa using he
    refine⟨?_,La6.2 ⟨fs[j],Lcq hl,e⟩⟩;rw[Leg];refine Ld2 λi=>?_;rw[Lcu];split
    . rename_i aa
      subst aa;rw[if_pos (by simpa using hl),Lad,La4 hl];simp[e]
    .rfl
  unfold Bh;cases h:midx fs k with
  | some j=>
    simp only;rw[(key j h).1];exact⟨.inl,λh2=>by rcases h2 with h2|rfl;exact h2;exact(key j h).2⟩
  |none=>simp only[Lae,Lar,Lem,La8,La1]
end Go.Proofs.YtbdfihcjddbhaaaGreat
namespace Go.Proofs.YtbdfihcjddbhaaaGreat
open Go Hw Ed
def affX(n:Nat):Nat:=force (fastN n) λs=>ux s*pwm PF 256 (uz s%PF) (PF-2)%PF
def affY(n:Nat):Nat:=force (fastN n) λs=>uy s*pwm PF 256 (uz s%PF) (PF-2)%PF
theorem fast_at{n X Y:Nat}(hn:n<2^256)(hx:affX n=X)(hy:affY n=Y):cv.mul n bP=⟨fe X,fe Y⟩:=by
  refine fastN_pt hn ?_ ?_
  .rw[<-hx,affX,force_eq,fe_mod,fe_mul];rfl
  .rw[<-hy,affY,force_eq,fe_mod,fe_mul];rfl
end Go.Proofs.YtbdfihcjddbhaaaGreat
namespace Go.Proofs.YtbdfihcjddbhaaaGreat
open Go Hw _root_.Go.Proofs.Tryz
open Ed
def PD.new:PD:=⟨[],[],[],[],[],[],[]⟩
end Go.Proofs.YtbdfihcjddbhaaaGreat
namespace Go.Proofs.YtbdfihcjddbhaaaGreat
open Go Hw _root_.Go.Proofs.Tryz
section
variable{κ ν:Type}[DecidableEq κ]
variable{fs:List (κ×ν)}{k:κ}
theorem mget_cons(k:κ)(v:ν)(fs:List (κ×ν))(n:κ):An ((k,v)::fs) n=if k=n then some v else An fs n:=by
  unfold An;rw[List.find?_cons];by_cases h:k=n<;>simp[h]
theorem mget_no(h:An fs k=none):∀p∈fs,p.1≠k:=λp hp e=>by
  obtain⟨v,hv⟩:=C2 (fs:=fs) (La6.2 ⟨p,hp,e⟩);rw[h]at hv;cases hv
theorem mput_app(h:An fs k=none)(v:ν):Bh fs k v=fs++[(k,v)]:=by
  unfold Bh;rw[midx_none (mget_no h)]
theorem mget_app(fs:List (κ×ν))(k:κ)(v:ν)(n:κ):An (fs++[(k,v)]) n=if(An fs n).isSome then An fs n else if k=n then some v else none:=by
  induction fs with
  |nil=>rw[Lah,mget_cons];rfl
  | cons p fs ih=>
    obtain⟨a,b⟩:=p;rw[Lan,mget_cons,mget_cons,ih];by_cases h:a=n<;>simp[h]
theorem mget_new(h:An fs k=none)(v:ν):An (Bh fs k v) k=some v:=by rw[mput_app h,mget_app,h];simp
theorem mget_old(h:An fs k=none)(v:ν){n:κ}(hn:k≠n):An (Bh fs k v) n=An fs n:=by
  rw[mput_app h,mget_app];cases An fs n<;>simp[hn]
theorem mdel_head(k:κ)(v:ν)(fs:List (κ×ν)):mdel ((k,v)::fs) k=fs:=by
  have h:midx ((k,v)::fs) k=some 0:=by unfold midx;rw[List.findIdx?_cons];simp
  unfold mdel;rw[h];rfl
end
theorem first_no{X:PD}(ho:∀m∈X.orp.map (·.1),Bv X.P ((An X.orp m).getD DB.zero)=0):X.first=none:=by
  unfold PD.first;rw[Lg7];intro m hm;rw[ho m ((isort_perm _).mem_iff.1 hm)];simp
section
theorem ofNat_ne{i:Nat}(h:i<66):UInt64.ofNat (i+1)≠0:=λe=>by
  have:=congrArg UInt64.toNat e;simp at this;omega
end
variable{D:DB}{L st:List (List UInt8)}{X:PD}{a b c:Block}{above:Int}{ms:List (List UInt8×Unit)}{n prev:List UInt8}{x:DD}{α κ ν:Type}{fs:List (κ×ν)}{l:List α}
theorem cons_of{n:Nat}(h:l.length=n+1):∃a t,l=a::t/\t.length=n:=by
  cases l with
  |nil=>cases h
  |cons a t=>exact⟨a,t,rfl,by simpa using h⟩
theorem build_sp(s:UInt64)(prev:List UInt8)(h:prev.length=32)(w:World):(Instr.build 37 #[(1,u64 s),(2,agg (Aa prev))]).run prog w= .ok (agg ({ Block.zero with fSeq:=s,fPrev:=prev }:Block).cells) w:=by
  iterate 32 (obtain⟨a,l,e,h2⟩:=cons_of h;clear h;subst e;have h:=h2;clear h2)
  obtain rfl:=Lai h
  (refine Eq.trans ?_ rfl;kernel_rfl)
def tri(a b c:Block):List Value:=a.cells++(b.cells++(c.cells++[]))
theorem tri_0(ha:a.ok):((tri a b c).drop 0).take 131=a.cells:=by
  rw[tri,Ler,Lcp (by rw[Block.length ha];omega),La5 (by rw[Block.length ha];omega)]
theorem tri_1(ha:a.ok)(hb:b.ok):((tri a b c).drop 131).take 131=b.cells:=by
  have h1:=Block.length ha;rw[tri,Le8 oM,Lao oM,Lah,Lcp (by rw[Block.length hb];omega),La5 (by rw[Block.length hb];omega)]
theorem tri_2(ha:a.ok)(hb:b.ok)(hc:c.ok):((tri a b c).drop 262).take 131=c.cells:=by
  have h1:=Block.length ha;have h2:=Block.length hb;have e:(tri a b c)=(a.cells++b.cells)++(c.cells++[]):=by rw[tri,Lab]
  rw[e,Le8 (by rw[La2];omega),Lao (by rw[La2];omega),Lah,Law,La5 (by rw[Block.length hc];omega)]
theorem sp_is(W:World)(s:UInt64)(h:prev.length=32):BlockIs W ({ Block.zero with fSeq:=s,fPrev:=prev }:Block) { DB.zero with seq:=s,prev:=prev }:=⟨⟨rfl,h,rfl⟩,rfl,rfl,rfl,(zero_is W).ls,(zero_is W).ds,rfl⟩
theorem sp_ok(s:UInt64)(h:prev.length=32):({ Block.zero with fSeq:=s,fPrev:=prev }:Block).ok:=⟨rfl,h,rfl⟩
theorem new_ok(bE bH bO bP bW:Nat):(⟨Sl.nil,[],[],[],[],[],[],[],[],bE,bH,bO,bP,bW⟩:DD).ok:=⟨Acc.none,λl h=>(by cases h),Laf _,Laf _,λp h=>(by cases h),Laf _,λp h=>(by cases h),Laf _,λp h=>(by cases h),λp h=>(by cases h),λp h=>(by cases h)⟩
theorem dag_new2:Meets prog 41 [] [] (λ_=>True) (λv out=>∃(p:Nat) (x:DD),v=ptr p 0/\out=x.blks p/\x.ok/\x.pl=PD.new/\x.names.length+x.orp.length=0):=
  dag_new.imp (λw h=>h) λv out ⟨p,bE,bH,bO,bP,bW,h1,h2⟩=>⟨p,_,h1,h2,new_ok ..,rfl,rfl⟩
theorem Held.at{B:Block}(h:Held [] B D)(W:World):BlockIs W B D:=h.2 W (λb hb=>by cases hb)
theorem pm_in0{hp l R:List Blk}{x:Blk}(h:hp.Perm ((x::l)++R)):hp.Perm (([x]++l)++R):=h
theorem dag_names(x:DD)(hx:x.ok)(p:Nat):Meets prog 12 [ptr p 0] [] (λW=>Lies (x.blks p) W) (RowA x.pl.names):=by
 intro W hW;refine Ae func12 J 11 ntmps12 J (G9 ?_);refine .cV J J J J Body45 (dag_valid x p) (λw h=>DagSee.ext h (DagSee.lies hW)) (G3 ?_);refine .cond_f J J (G7 ?_);refine .loadE J J J Y32.h J sP ((DagSee.lies hW).at (o:=1) J) (.call4 J J J J J Body46 (cl_digs x.nm x.names (by have:=hx.nm.num;have:=hx.big;omega)) (λw h=>acc_rows hx.nm ((Bf hW h).sub (x.mnb p)) hx.n32 J (by have:=hx.nm.num;have:=hx.big;omega)) ?_);rintro v10 aa ⟨ad,rfl,ab⟩;have ac:=hx.nm.num;rw[ac]at ab;refine G3 ?_;refine G2 ?_;refine Ao (out:=(aa++[])) (Ag J J) (Ac sG Ad) ?_;refine⟨ad,rfl,?_⟩;rw[Law];exact ab
inductive PD.Reach(X:PD)(above:Int)(L:List (List UInt8)):List UInt8->Prop
  |base {n:List UInt8} {D:DB} (h:n∈L) (hP:An X.P n=some D) (hd:above<(An X.dep n).getD 0):Reach X above L n
  |step {m n:List UInt8} {D E:DB} (h:Reach X above L m) (hP:An X.P m=some D) (hn:n∈Bj D) (hE:An X.P n=some E) (hd:above<(An X.dep n).getD 0):Reach X above L n
def PD.Edge(X:PD)(L:List (List UInt8))(ms:List (List UInt8×Unit))(n:List UInt8):Prop:=n∈L\/∃m D,m∈ms.map (·.1)/\An X.P m=some D/\n∈Bj D
def cntW:List (List UInt8×DB)->List (List UInt8×Unit)->Nat
  | [],_=>0
  |p::P,ms=>(if(An ms p.1).isSome=true then 0 else 1)+cntW P ms
theorem put_some(h:An ms n=none)(k:List UInt8):(An (Bh ms n ()) k).isSome=(decide (n=k)||(An ms k).isSome):=by
  by_cases e:n=k
  .subst e;rw[mget_new h];simp
  .rw[mget_old h _ e];simp[e]
theorem cnt_le{ms:List (List UInt8×Unit)}{n:List UInt8}(h:An ms n=none):∀P:List (List UInt8×DB),cntW P (Bh ms n ())<=cntW P ms
  | []=>Lag _
  | p ::P=>by
    have ih:=cnt_le h P;have h1:(if(decide (n=p.1)||(An ms p.1).isSome)=true then 0 else 1)<=(if(An ms p.1).isSome=true then 0 else 1):=by
      cases(An ms p.1).isSome<;>cases decide (n=p.1)<;>decide
    rw[cntW,cntW,put_some h];omega
theorem cnt_put{ms:List (List UInt8×Unit)}{n:List UInt8}(h:An ms n=none):∀P:List (List UInt8×DB),n∈P.map (·.1)->cntW P (Bh ms n ())+1<=cntW P ms
  | [],hn=>by cases hn
  | p ::P,hn=>by
    have hle:=cnt_le h P;rw[cntW,cntW,put_some h];by_cases e:n=p.1
    . rw[<-e,h,decide_eq_true rfl,if_pos (by rfl),if_neg sP]
      omega
    . have aa:n∈P.map (·.1):=by
        rcases Lam.1 hn with h3|h3
        .exact absurd h3 e
        .exact h3
      have ih:=cnt_put h P aa;rw[decide_eq_false e,Lh7];omega
theorem cnt_nil:∀P:List (List UInt8×DB),cntW P []=P.length
  | []=>rfl
  | p::P=>by
    have h:An ([]:List (List UInt8×Unit)) p.1=none:=rfl;rw[cntW,cnt_nil P,h,Lax];simp;omega
structure WalkI(X:PD)(above:Int)(L:List (List UInt8))(ms:List (List UInt8×Unit))(st:List (List UInt8)):Prop where
  r32:∀q∈ms,q.1.length=32
  s32:∀n∈st,n.length=32
  nd:(ms.map (·.1)).Nodup
  snd:∀n∈ms.map (·.1),X.Reach above L n
  sub:∀n∈st,X.Edge L ms n
  cov:∀n,X.Edge L ms n->n∈st\/n∈ms.map (·.1)\/An X.P n=none\/(An X.dep n).getD 0<=above
  cnt:ms.length+cntW X.P ms<=X.P.length
  len:st.length+17*cntW X.P ms<=L.length+17*X.P.length
theorem WalkI.start(X:PD)(above:Int)(h:∀n∈L,n.length=32):WalkI X above L [] L where
  r32:=λq hq=>by cases hq
  s32:=h
  nd:=Lch
  snd:=λn hn=>by cases hn
  sub:=λn hn=> .inl hn
  cov:=λn hn=>by
    rcases hn with hn|⟨m,D,hm,_⟩
    .exact .inl hn
    .cases hm
  cnt:=by rw[cnt_nil];exact Ld5 (Lb0 _)
  len:=by rw[cnt_nil];exact Lag _
theorem WalkI.pass(h:WalkI X above L ms (st++[n]))(hn:n∈ms.map (·.1)\/An X.P n=none\/(An X.dep n).getD 0<=above):WalkI X above L ms st:={ h with
  s32:=λm hm=>h.s32 m (Lak _ hm)
  sub:=λm hm=>h.sub m (Lak _ hm)
  cov :=λm hm=>by
    rcases h.cov m hm with h1|h1
    . rcases La8.1 h1 with h2|h2
      .exact .inl h2
      .rw[La1.1 h2];exact .inr hn
    .exact .inr h1
  len:=by have:=h.len;rw[La2,Laq]at this;omega }
theorem keys_in(h:An X.P n=some D):n∈X.P.map (·.1):=La6.2 ⟨(n,D),Bi h,rfl⟩
theorem WalkI.meet(h:WalkI X above L ms (st++[n]))(hm:An ms n=none)(hP:An X.P n=some D)(hd:above<(An X.dep n).getD 0)(ab:∀l∈Bj D,l.length=32)(ac:(Bj D).length<=17):WalkI X above L (Bh ms n ()) (st++Bj D) where
  r32:=λq hq=>by
    rcases mput_mem hq with hq|rfl
    .exact h.r32 q hq
    .exact h.s32 n (Lat _ (La1.2 rfl))
  s32:=λm aa=>by
    rcases La8.1 aa with h1|h1
    .exact h.s32 m (Lak _ h1)
    .exact ab m h1
  nd:=mput_nodup h.nd n ()
  snd :=λm aa=>by
    rcases(keys_put ms n () m).1 aa with h1|rfl
    .exact h.snd m h1
    . rcases h.sub m (Lat _ (La1.2 rfl))with h1|⟨k,E,hk,hE,hn⟩
      .exact .base h1 hP hd
      .exact .step (h.snd k hk) hE hn hP hd
  sub :=λm aa=>by
    rcases La8.1 aa with h1|h1
    . rcases h.sub m (Lak _ h1)with h2|⟨k,E,hk,hE,hn⟩
      .exact .inl h2
      .exact .inr ⟨k,E,(keys_put ms n () k).2 (.inl hk),hE,hn⟩
    .exact .inr ⟨n,D,(keys_put ms n () n).2 (.inr rfl),hP,h1⟩
  cov :=λm aa=>by
    have old:X.Edge L ms m->m∈st++Bj D\/m∈(Bh ms n ()).map (·.1)\/An X.P m=none\/(An X.dep m).getD 0<=above:=λhe=>by
      rcases h.cov m he with h1|h1|h1
      . rcases La8.1 h1 with h2|h2
        .exact .inl (Lak _ h2)
        .exact .inr (.inl ((keys_put ms n () m).2 (.inr (La1.1 h2))))
      .exact .inr (.inl ((keys_put ms n () m).2 (.inl h1)))
      .exact .inr (.inr h1)
    rcases aa with h1|⟨k,E,hk,hE,hn⟩
    .exact old (.inl h1)
    . rcases(keys_put ms n () k).1 hk with h1|rfl
      .exact old (.inr ⟨k,E,h1,hE,hn⟩)
      . rw[hP]at hE
        rw[<-Leh hE]at hn;exact .inl (Lat _ hn)
  cnt:=by
    have h1:=h.cnt;have h2:=cnt_put hm X.P (keys_in hP);have h3:=mput_len ms n ();omega
  len:=by
    have h1:=h.len;have h2:=cnt_put hm X.P (keys_in hP);rw[La2,Laq]at h1;rw[La2];omega
theorem WalkI.fin(h:WalkI X above L ms [])(n:List UInt8):n∈ms.map (·.1)↔X.Reach above L n:=by
  refine⟨h.snd n,λhr=>?_⟩;have key:∀ {n D},X.Edge L ms n->An X.P n=some D->above<(An X.dep n).getD 0->n∈ms.map (·.1):=λ{n D} he hP hd=>by
    rcases h.cov n he with h1|h1|h1|h1
    .cases h1
    .exact h1
    .rw[hP]at h1;cases h1
    .omega
  induction hr with
  |base h1 hP hd=>exact key (.inl h1) hP hd
  |step h1 hP hn hE hd ih=>exact key (.inr ⟨_,_,ih,hP,hn⟩) hE hd
theorem DD.getDep(x:DD)(k:List UInt8):An x.pl.dep k=(An x.ent k).map (λe=>e.1.fDepth):=mget_map (λe:EV=>e.1.fDepth) x.ent k
theorem DD.atP{e:EV}(h:An x.ent n=some e):An x.pl.P n=some e.2/\(An x.pl.dep n).getD 0=e.1.fDepth:=⟨by rw[show x.pl.P=x.P from rfl,x.getP,h];rfl,by rw[x.getDep,h];rfl⟩
theorem DD.noP(h:An x.ent n=none):An x.pl.P n=none:=by rw[show x.pl.P=x.P from rfl,x.getP,h];rfl
theorem mget_keys(h:An ms n=some ()):n∈ms.map (·.1):=La6.2 ⟨(n,()),Bi h,rfl⟩
def WalkR(X:PD)(above:Int)(L:List (List UInt8))(v:Value)(out:List Blk):Prop:=∃(m:Nat) (ms:List (List UInt8×Unit)),v= .map (some m)/\out=[A3 m (Ak 32 evU) ms]/\WalkI X above L ms []
theorem sees_last{w:World}{b:Nat}{kk:List UInt8}(h:∀l∈st++[kk],l.length=32)(hs:Dd w b 0 (Aq (st++[kk]))):Dd w b (0+st.length*32) (Aa kk):=by
  have:=Bk h hs (k:=st.length) sP;simpa[La3]using this
theorem dag_walk(x:DD)(hx:x.ok)(a1:∀p∈x.P,p.2.ls.length<=16)(p:Nat)(s0:Sl)(L:List (List UInt8))(hL:s0.n<=90000)(above:Int):Meets prog 150 [ptr p 0,s0.v,i64 above] [] (λW=>Lies (x.blks p) W/\RowsAt W s0 32 L) (WalkR x.pl above L):=by
 intro W hW;have ai:=hW.1;have hd:=DagSee.lies hW.1;have bm:=hx.big;have bt:=hx.entn;have bq:x.pl.P.length=x.ent.length:=by show(x.ent.map _).length=_;rw[La0]
 have a6:=hW.2.len;refine Ae func150 J 66 ntmps150 J (G7 ?_);refine .mkMap (Ak 32 evU) J J ?_;intro an;refine G6 ?_;refine .call4 J J J J J Body46 (cl_digs s0 L hL) (λw h=>B4 h J hW.2) ?_;rintro b6 av ⟨bi,rfl,ag⟩;have bo:=ag.num;refine G5 ?_;refine .loop (ι:=List (List UInt8×Unit)×List (List UInt8)×Sl×List Blk) (λr=>⟨[(0,ptr p 0),(2,i64 above),(7, .map (some an)),(8,r.2.2.1.v)],(A3 an (Ak 32 evU) r.1::(r.2.2.2++[]))⟩) (λr=>WalkI x.pl above L r.1 r.2.1/\Hw.Acc r.2.2.1 r.2.2.2 (Aq r.2.1) 31 r.2.1.length 32) (λr=>r.2.1.length+18*cntW x.pl.P r.1) (([],L,bi,av)) ?_ ?_ ?_
 .exact⟨WalkI.start x.pl above hW.2.row,(by simp only;rw[a6];exact ag)⟩
 .exact Af wN (Ab (by repeat(first|exact A4|apply Bq)) (Ac sG Ad))
 rintro⟨ms,st,sl,bl⟩ ⟨hI,am⟩;simp only at hI am ⊢;have b4:=am.num;refine G8 ?_;refine .condP J (λa8=>?_) (λa8=>?_)
 ·
  have az:0<st.length:=by omega
  obtain⟨aa,kk,rfl⟩:=snoc_of az;have bn:(aa++[kk]).length=aa.length+1:=by simp
  have bw:=hI.len;obtain⟨NN,a7⟩:∃NN,NN=(aa++[kk]).length:=⟨_,rfl⟩;rw[<-a7]at am;have ab:kk.length=32:=hI.s32 kk sP;have aq:=λ(w:World) (b:Nat)=>sees_last (w:=w) (b:=b) hI.s32;rcases am with ⟨_,_,_,h0⟩|⟨qr,cr,rfl,b3,bv,rfl⟩
  .exfalso;omega
  refine G9 ?_;refine .idxSlP 32 J J J J J Y32.h Sz31 aa.length (by show(NN:Int)-1=(aa.length:Int);omega) (by show aa.length<NN;omega) ?_;refine .loadSN (n:=32) (Aa kk) J J J Y31.h J Sz31 (by rw[Aa,La0];exact ab) (λw h=>aq w qr (Ar h Z1)) ?_;refine .alloc (cs:=(Aa (List.replicate 32 0))) J Bz J ?_;intro n9 bz bu;refine .sA J J J J zE Sz31 (by(simp[ab];done)) Z0 sP zU ?_;refine G8 ?_;refine .sliceHiA ⟨some ⟨qr,0,none⟩,NN,cr⟩ aa.length J J J J (by show(NN:Int)-1=(aa.length:Int);omega) (by show aa.length<=cr;omega) Y32.h Sz31 ?_;refine G4 ?_;rw[Br];refine .trunc (q:=qr) rM ?_;have ac:Hw.Acc ⟨some ⟨qr,0,none⟩,aa.length,cr⟩ [⟨qr,Aq aa,31,cr*32⟩] (Aq aa) 31 aa.length 32:=Acc.some oM (As (λl hl=>hI.s32 l (Lak _ hl)));refine .draw (oPq [0,1,2,103,104,105,6,7,8,209,410,11]) Au zK (G3 ?_);refine .loadE J J J Y80.h J sP (hd.at (o:=2) J) (.lA J J J Y31.h J Sz31 Z1 (by(simp[ab];done)) ?_);refine .lookFC evE ME hd.2 sP J J J J ab (λhg=>?_) (λe hg=>?_)
  ·
   skip;refine G3 ?_;refine .alloc (cs:=DEnt.zero.cells) J DEnt.zr J ?_;intro be ay ax;refine G8 ?_;refine .lA J J J Y31.h J Sz31 Z2 (by(simp[ab];done)) ?_;refine .lookF evU MH J J J J ab Z3 (λae=>?_) (λe2 ae=>?_)
   ·
    skip;refine G3 ?_;refine .alloc (cs:=[]) J Zr105 J ?_;intro ar aj ah;refine .sA J J J J zB Sz105 sP Z0 sP zU ?_;refine G18 ?_;refine .cond_t J J (G4 ?_)
    (refine⟨(ms,aa,⟨some ⟨qr,0,none⟩,aa.length,cr⟩,[⟨qr,Aq aa,31,cr*32⟩]),⟨hI.pass (by exact .inr (.inl (DD.noP hg))),ac⟩,(by simp only[La2,Laq];omega),?_⟩;exact Af wN (Ab rM (pm_in0 (Ab rM Ad))))
   skip;refine G3 ?_;refine .alloc (cs:=[]) J Zr105 J ?_;intro ar aj ah;refine .sA J J J J zB Sz105 sP Z0 sP zU ?_;refine G18 ?_;refine .cond_t J J (G4 ?_)
   (refine⟨(ms,aa,⟨some ⟨qr,0,none⟩,aa.length,cr⟩,[⟨qr,Aq aa,31,cr*32⟩]),⟨hI.pass (by exact .inl (mget_keys ae)),ac⟩,(by simp only[La2,Laq];omega),?_⟩;exact Af wN (Ab rM (pm_in0 (Ab rM Ad))))
  have hP:=(DD.atP hg).1;have bc:=(DD.atP hg).2;have bk:e.2.ls.length<=16:=a1 _ (La6.2 ⟨_,Bi hg,rfl⟩);have a2:(Bj e.2).length<=17:=by have:=parL_len e.2;omega
  have ak:=parL_row ((hx.ent _ (Bi hg)).2.1.2 W (ai.sub (x.mcb p))).dok;refine G3 ?_;refine .alloc (cs:=DEnt.zero.cells) J DEnt.zr J ?_;intro be ay ax;refine .sA J J J J (DEnt.isCell (by exact hx.entOk hg)) Sz91 (DEnt.length (by exact hx.entOk hg)) Z0 (DEnt.length (by exact DEnt.zero_ok)) zU ?_;refine G7 ?_;refine .lA J J J Y31.h J Sz31 Z2 (by(simp[ab];done)) ?_;refine .lookF evU MH J J J J ab Z3 (λae=>?_) (λe2 ae=>?_)
  ·
   skip;refine G3 ?_;refine .alloc (cs:=[]) J Zr105 J ?_;intro ar aj ah;refine .sA J J J J zB Sz105 sP Z0 sP zU ?_;refine G12 ?_;refine .load1 J J J Y3.h J Z1 (DEnt.get_fDepth (hx.entOk hg)) ?_;refine G5 ?_;refine .condP J (λba=>?_) (λba=>?_)
   ·
    refine G4 ?_
    (refine⟨(ms,aa,⟨some ⟨qr,0,none⟩,aa.length,cr⟩,[⟨qr,Aq aa,31,cr*32⟩]),⟨hI.pass (by exact .inr (.inr (by rw[(DD.atP hg).2];omega))),ac⟩,(by simp only[La2,Laq];omega),?_⟩;exact Af wN (Ab rM (pm_in0 (Ab rM Ad))))
   refine G5 ?_;refine .lA J J J Y31.h J Sz31 Z3 (by(simp[ab];done)) ?_;refine .build (cs:=[]) J J J (λw=>by kernel_rfl) ?_;refine .mapPut (v:=()) MH J J J J J ab rM ?_;refine G5 ?_;refine .lN (Block.cells _) J J J Y37.h J Sz37 Z2 (DEnt.row_fBlock (by exact hx.entOk hg)) (DEnt.rl_fBlock (by exact hx.entOk hg)) ?_;refine .call4 J J J J J Body58 (db_parA e.1.fBlock e.2 oM) (λw h=>(hx.ent _ (Bi hg)).2.1.2 w ((Bf ai h).sub (x.mcb p))) ?_;rintro b7 bg ⟨⟨b5,au,bp⟩,rfl,ad⟩;have ao:au=(Bj e.2).length:=ad.num;refine .appendAcc (n:=aa.length) (z:=agg (Aa (List.replicate 32 0))) (by':=32) (Aq (Bj e.2)) J J J J J Y32.h Y32.h Sz31 Bz (by unfold By;kernel_rfl) J ac rM (λw h=>ad.see (Lies.of h (by repeat(exact Ap)))) (λe=>ad.nil e) (Cu _) (by show aa.length+au<=1000000;omega) (by show(aa.length+au)*32<=140737488355328;omega) (by rw[As ak,<-ao]) ?_;intro bj aw ap;refine G4 ?_
   (refine⟨(Bh ms kk (),aa++Bj e.2,bj,aw),⟨hI.meet ae hP (by rw[bc];omega) ak a2,by simp only;rw[Br,La2,<-ao];exact ap⟩,(by have:=cnt_put ae x.pl.P (keys_in hP);simp only[La2,Laq];omega),?_⟩;exact Af wN (Ab (by repeat(first|exact A4|apply Bq)) (Ac sG Ad)))
  skip;refine G3 ?_;refine .alloc (cs:=[]) J Zr105 J ?_;intro ar aj ah;refine .sA J J J J zB Sz105 sP Z0 sP zU ?_;refine G18 ?_;refine .cond_t J J (G4 ?_)
  (refine⟨(ms,aa,⟨some ⟨qr,0,none⟩,aa.length,cr⟩,[⟨qr,Aq aa,31,cr*32⟩]),⟨hI.pass (by exact .inl (mget_keys ae)),ac⟩,(by simp only[La2,Laq];omega),?_⟩;exact Af wN (Ab rM (pm_in0 (Ab rM Ad))))
 obtain rfl:st=[]:=Lai oM;refine G11 ?_;refine G2 ?_;refine Ao (out:=(A3 an (Ak 32 evU) ms::[])) (Ag J J) (Ab rM Ad) ?_;exact⟨an,ms,rfl,rfl,hI⟩
theorem WalkR.keys{ks:List (List UInt8)}(h:WalkI X above L ms [])(hp:ks.Perm (ms.map (·.1))):ks.Nodup/\∀n,n∈ks↔X.Reach above L n:=⟨hp.nodup_iff.2 h.nd,λn=>hp.mem_iff.trans (h.fin n)⟩
def ClosR(X:PD)(L:List (List UInt8))(v:Value)(out:List Blk):Prop:=
  (∃n∈L,An X.P n=none)/\v= .tuple #[.slice none 0 0,i64 6]/\out=[]
  \/(∀n∈L,(An X.P n).isSome=true)/\∃(s:Sl) (ks:List (List UInt8)),v= .tuple #[s.v,i64 0]/\Hw.Acc s out (Aq ks) 31 ks.length 32/\SortB ks/\ks.Nodup/\∀n,n∈ks↔X.Reach (-1) L n
theorem has_P(x:DD)(n:List UInt8):(An x.pl.P n).isSome=(An x.ent n).isSome:=by rw[show x.pl.P=x.P from rfl,x.getP,Lfl]
theorem dag_closure(x:DD)(hx:x.ok)(ai:∀p∈x.P,p.2.ls.length<=16)(p:Nat)(s0:Sl)(L:List (List UInt8))(hL:s0.n<=90000):Meets prog 108 [ptr p 0,s0.v] [] (λW=>Lies (x.blks p) W/\RowsAt W s0 32 L) (ClosR x.pl L):=by
  intro W hW;have ad:=hW.1;have hd:=DagSee.lies hW.1;have au:=hx.big;have ax:=hx.entn;have aw:x.pl.P.length=x.ent.length:=by show(x.ent.map _).length=_;rw[La0]
  have av:=hW.2.len;refine Ae func108 J 26 ntmps108 J (G10 ?_);refine .cV J J J J Body45 (dag_valid x p) (λw h=>hd.ext h) (G3 ?_);refine .cond_f J J (G11 ?_);refine .loop (ι:=Nat) (λk=>⟨[(0,ptr p 0),(1,s0.v),(11,s0.v),(12,i64 (s0.n:Int)),(13,i64 (k:Int))],[]⟩) (λk=>k<=s0.n/\∀j,j<k->(An x.pl.P (L.getD j [])).isSome=true) (λk=>s0.n-k) (0) ?_ ?_ ?_
  .exact⟨Laf _,λj hj=>by omega⟩
  .exact Af wN Ad
  rintro k ⟨hk,ac⟩;refine G6 ?_;refine .condP J (λak=>?_) (λak=>?_)
  ·
    have az:k<s0.n:=by omega
    refine G6 ?_;obtain⟨kk,ab⟩:∃kk,kk=L.getD k []:=⟨_,rfl⟩;have aa:kk.length=32:=by rw[ab,La3,La4 oM];exact hW.2.row _ (Lcq oM)
    obtain⟨b0,o0,ao,ae⟩:=hW.2.see.at (by rw[show(L.map Aa).flatten=Aq L from rfl,As hW.2.row];omega);refine .idxSlP 32 J J J ao J Y32.h Sz31 k J oM (.loadSN (n:=32) (Aa kk) J J J Y31.h J Sz31 (by rw[Aa,La0];exact aa) (λw h=>by rw[ab];exact Bk hW.2.row (λj v hj=>h.keeps.cell (p:=⟨b0,o0+j,none⟩) sP (ae j v hj)) oM) ?_);refine .alloc (cs:=(Aa (List.replicate 32 0))) J Bz J ?_;intro n7 a6 ay;refine .sA J J J J zE Sz31 (by(simp[aa];done)) Z0 sP zU ?_;refine G5 ?_;refine .lA J J J Y31.h J Sz31 Z0 (by(simp[aa];done)) ?_;refine .cV J J J J Body59 (dag_has x hx p kk aa) (λw h=>hd.ext h) (G3 ?_);refine .cond J (λhc2=>?_) (λhc2=>?_)
    ·
      refine G6 ?_;refine G7 ?_;refine Ao (out:=[]) (Bm J J J) Ad (.inl ⟨⟨kk,?_,?_⟩,rfl,rfl⟩)
      . rw[ab,La3,La4 oM]
        exact Lcq oM
      . cases h9:An x.ent kk with
        |none=>exact DD.noP h9
        |some e=>rw[h9]at hc2;simp at hc2
    refine G8 ?_;exact⟨k+1,⟨by omega,λj hj=>by rcases Lfb (Lgv hj)with h|h;exact ac j h;rw[h,<-ab,has_P];simpa using hc2⟩,by omega,Af wN Ad⟩
  have a1:k=s0.n:=by omega
  refine G9 ?_;refine .call4 J J J J J Body150 (dag_walk x hx ai p s0 L hL (-1)) (λw h=>⟨Bf ad h,B4 h J hW.2⟩) ?_;rintro a7 aq ⟨ap,ms,rfl,rfl,hI⟩;have a2:=hI.cnt;refine .call4 J J J J J Body60 (dag_sortedU MH ap ms hI.r32 oM) (λw h=>h.cells _ Z0) ?_;rintro v25 ag ⟨ar,ks,am,an,rfl,aj⟩;have ah:=WalkR.keys hI am;refine G4 ?_;refine G2 ?_;refine Ao (out:=(ag++[])) (Bm J J J) (Ac sG Ad) ?_;refine .inr ⟨λn hn=>?_,ar,ks,rfl,by simpa using aj,an,ah.1,ah.2⟩;obtain⟨j,hj,rfl⟩:=Lb8 hn;have h9:=ac j oM;rwa[La3,La4 hj]at h9
theorem mem_erase_nd(h:l.Nodup){j:Nat}(hj:j<l.length)(n:α):n∈l.eraseIdx j↔n≠l[j]/\n∈l:=by
  rw[Ld9,La8];have e:l=l.take j++l[j]::l.drop (j+1):=by rw[<-Lbo hj,Lbt]
  generalize hx:l[j]=x at*;have h2:=h;rw[e]at h2;obtain⟨h3,h4,h5⟩:=Lay.1 h2;have h6:=(Lb6.1 h4).1;constructor
  . rintro(h1|h1)
    .exact⟨λe2=>h5 n h1 x La9 e2,Lbi h1⟩
    .exact⟨λe2=>h6 (e2▸h1),Lct h1⟩
  . rintro⟨h1,h7⟩
    rw[e,La8,Lam]at h7;rcases h7 with h7|h7|h7
    .exact .inl h7
    .exact absurd h7 h1
    .exact .inr h7
theorem map_erase{α β:Type}(f:α->β)(l:List α)(j:Nat):(l.eraseIdx j).map f=(l.map f).eraseIdx j:=by
  rw[Ld9,Ld9,Lae,Lbh,Leb]
theorem mdel_keys[DecidableEq κ](hn:(fs.map (·.1)).Nodup)(k n:κ):n∈(mdel fs k).map (·.1)↔n∈fs.map (·.1)/\n≠k:=by
  unfold mdel;cases h:midx fs k with
  | none=>
    refine⟨λh1=>⟨h1,λe=>?_⟩,λh1=>h1.1⟩;unfold midx at h;rw[Ldg]at h;obtain⟨p,hp,e2⟩:=La6.1 h1;have:=h p hp;simp[e2,e]at this
  | some j=>
    unfold midx at h;rw[Lbu]at h;obtain⟨hj,he,_⟩:=h;have e:fs[j].1=k:=by simpa using he
    have aa:j<(fs.map (·.1)).length:=by rw[La0];exact hj
    have e2:(fs.map (·.1))[j]=k:=by rw[Lfv];exact e
    show n∈(fs.eraseIdx j).map (·.1)↔_;rw[map_erase,mem_erase_nd hn aa,e2];exact⟨λh=>⟨h.2,h.1⟩,λh=>⟨h.2,h.1⟩⟩
theorem delL_keys:∀(L:List (List UInt8)) {hds:List (List UInt8×Unit)},(hds.map (·.1)).Nodup->((delL hds L).map (·.1)).Nodup/\∀n,n∈(delL hds L).map (·.1)↔n∈hds.map (·.1)/\n∉L
  | [],hds,hn=>⟨hn,λn=>by simp[delL]⟩
  | k ::L,hds,hn=>by
    have ih:=delL_keys L (mdel_nodup hn k);have e:delL hds (k::L)=delL (mdel hds k) L:=rfl;rw[e];refine⟨ih.1,λn=>?_⟩;rw[ih.2,mdel_keys hn,Lam];constructor
    . rintro⟨⟨h1,h2⟩,h3⟩
      exact⟨h1,λh=>by rcases h with h|h;exact h2 h;exact h3 h⟩
    . rintro⟨h1,h2⟩
      exact⟨⟨h1,λh=>h2 (.inl h)⟩,λh=>h2 (.inr h)⟩
theorem key_some[DecidableEq κ]{n:κ}:n∈fs.map (·.1)↔∃v,An fs n=some v:=⟨C2,λ⟨v,h⟩=>La6.2 ⟨(n,v),Bi h,rfl⟩⟩
theorem key_none[DecidableEq κ]{n:κ}(h:n∉fs.map (·.1)):An fs n=none:=by
  cases h2:An fs n with
  |none=>rfl
  |some v=>exact absurd (key_some.2 ⟨v,h2⟩) h
theorem foldP_ge(dep:List (List UInt8×Int)):∀(L:List (List UInt8)) (d:Int),d<=L.foldl (stepP dep) d/\∀m∈L,(An dep m).getD 0<L.foldl (stepP dep) d
  | [],d=>⟨Int.le_refl d,λm hm=>by cases hm⟩
  | k::L,d=>by
    have ih:=foldP_ge dep L (stepP dep d k);have h1:d<=stepP dep d k/\(An dep k).getD 0<stepP dep d k:=by unfold stepP;split<;>omega
    refine⟨Int.le_trans h1.1 ih.1,λm hm=>?_⟩;rcases Lam.1 hm with rfl|hm
    .exact Int.lt_of_lt_of_le h1.2 ih.1
    .exact ih.2 m hm
theorem judge_ready{P:List (List UInt8×DB)}(h:Bv P D=1):readyB P D=true:=by
  unfold Bv at h;split at h
  .omega
  . split at h
    .assumption
    .omega
structure PD.Inv(X:PD):Prop where
  nn:X.names=X.P.map (·.1)
  dk:X.dep.map (·.1)=X.P.map (·.1)
  nd:(X.P.map (·.1)).Nodup
  ck:∀p∈X.P,p.2.check=0
  par:∀n D,An X.P n=some D->∀m∈Bj D,(∃E,An X.P m=some E)/\(An X.dep m).getD 0<(An X.dep n).getD 0
  d0:∀n D,An X.P n=some D->0<=(An X.dep n).getD 0
  hn:(X.hds.map (·.1)).Nodup
  hd:∀n,n∈X.hds.map (·.1)↔(∃D,An X.P n=some D)/\∀m D,An X.P m=some D->n∉Bj D
  od:(X.orp.map (·.1)).Nodup
  oc:∀p∈X.orp,p.2.check=0/\p.1∉X.P.map (·.1)
theorem PD.Inv.new:PD.new.Inv where
  nn:=rfl
  dk:=rfl
  nd:=Lch
  ck:=λp hp=>by cases hp
  par:=λn D h=>by cases h
  d0:=λn D h=>by cases h
  hn:=Lch
  hd:=λn=>⟨λh=>(by cases h),λ⟨⟨D,h⟩,_⟩=>(by cases h)⟩
  od:=Lch
  oc:=λp hp=>by cases hp
theorem PD.Inv.drop(h:X.Inv)(n:List UInt8):(X.drop1 n).Inv:={ h with
  od:=mdel_nodup h.od n
  oc:=λp hp=>h.oc p (mdel_mem hp) }
theorem PD.Inv.adm(h:X.Inv)(ae:n∉X.P.map (·.1))(ai:n∉X.orp.map (·.1))(hc:D.check=0)(hr:readyB X.P D=true):(X.adm n D).Inv:=by
  have ab:=key_none ae;have ad:An X.dep n=none:=key_none (by rw[h.dk];exact ae);have eP:(X.adm n D).P=X.P++[(n,D)]:=mput_app ab D;have eD:(X.adm n D).dep=X.dep++[(n,(Bj D).foldl (stepP X.dep) 0)]:=mput_app ad _;have gP:∀m,m≠n->An (X.adm n D).P m=An X.P m:=λm hm=>mget_old ab D (λe=>hm e.symm);have ac:An (X.adm n D).P n=some D:=mget_new ab D;have gD:∀m,m≠n->An (X.adm n D).dep m=An X.dep m:=λm hm=>mget_old ad _ (λe=>hm e.symm);have ag:An (X.adm n D).dep n=some ((Bj D).foldl (stepP X.dep) 0):=mget_new ad _;have ah:∀m∈Bj D,∃E,An X.P m=some E:=λm hm=>by
    have:=Lbf.1 hr m hm;exact Ldl.1 this
  have ne:∀ {m E},An X.P m=some E->m≠n:=λ{m E} hm e=>by rw[e,ab]at hm;cases hm
  have old:∀ {m E},An (X.adm n D).P m=some E->m=n/\E=D\/m≠n/\An X.P m=some E:=λ{m E} hm=>by
    by_cases e:m=n
    . rw[e,ac]at hm
      exact .inl ⟨e,(Leh hm).symm⟩
    . rw[gP m e]at hm
      exact .inr ⟨e,hm⟩
  have hk:=delL_keys (Bj D) h.hn;refine⟨?_,?_,?_,?_,?_,?_,?_,?_,h.od,?_⟩
  . show X.names++[n]=_
    rw[eP,Lae,h.nn];rfl
  .rw[eP,eD,Lae,Lae,h.dk];rfl
  . rw[eP,Lae]
    refine Lay.2 ⟨h.nd,by simp,λa ha b hb e=>?_⟩;rw[Lar,Lem,La1]at hb;rw[e,hb]at ha;exact ae ha
  . intro p hp
    rw[eP]at hp;rcases La8.1 hp with hp|hp
    .exact h.ck p hp
    .rw[La1.1 hp];exact hc
  . intro m E hm k aa
    rcases old hm with ⟨rfl,rfl⟩|⟨e,hm⟩
    . obtain⟨F,hF⟩:=ah k aa
      refine⟨⟨F,by rw[gP k (ne hF)];exact hF⟩,?_⟩;rw[gD k (ne hF),ag];exact(foldP_ge X.dep (Bj E) 0).2 k aa
    . obtain⟨⟨F,hF⟩,hlt⟩:=h.par m E hm k aa
      refine⟨⟨F,by rw[gP k (ne hF)];exact hF⟩,?_⟩;rw[gD k (ne hF),gD m e];exact hlt
  . intro m E hm
    rcases old hm with ⟨rfl,rfl⟩|⟨e,hm⟩
    . rw[ag]
      exact(foldP_ge X.dep (Bj E) 0).1
    .rw[gD m e];exact h.d0 m E hm
  .exact mput_nodup hk.1 n ()
  . intro k
    show k∈(Bh (delL X.hds (Bj D)) n ()).map (·.1)↔_;rw[keys_put,hk.2,h.hd];constructor
    . rintro(⟨⟨⟨E,hE⟩,h1⟩,h2⟩|rfl)
      . refine⟨⟨E,by rw[gP k (ne hE)];exact hE⟩,λm F hm=>?_⟩
        rcases old hm with ⟨rfl,rfl⟩|⟨e,hm⟩
        .exact h2
        .exact h1 m F hm
      . refine⟨⟨D,ac⟩,λm F hm aa=>?_⟩
        rcases old hm with ⟨rfl,rfl⟩|⟨e,hm⟩
        . obtain⟨G,hG⟩:=ah _ aa
          exact ne hG rfl
        . obtain⟨⟨G,hG⟩,_⟩:=h.par m F hm _ aa
          exact ne hG rfl
    . rintro⟨⟨E,hE⟩,h1⟩
      rcases old hE with ⟨rfl,rfl⟩|⟨e,hE⟩
      .exact .inr rfl
      .exact .inl ⟨⟨⟨E,hE⟩,λm F hm=>h1 m F (by rw[gP m (ne hm)];exact hm)⟩,h1 n D ac⟩
  . intro p hp
    have:=h.oc p hp;refine⟨this.1,λhm=>?_⟩;rw[eP,Lae]at hm;rcases La8.1 hm with hm|hm
    .exact this.2 hm
    . rw[Lar,Lem,La1]at hm
      have e9:p.1=n:=hm;exact ai (by rw[<-e9];exact La6.2 ⟨p,hp,rfl⟩)
theorem first_key(h:X.first=some n):∃D,An X.orp n=some D/\Bv X.P D≠0:=by
  have h1:=Lfs h;have h2:=List.find?_some h;obtain⟨D,hD⟩:=C2 ((isort_perm _).mem_iff.1 h1);refine⟨D,hD,?_⟩;rw[hD,Lbw]at h2;simpa using h2
theorem PD.Inv.settle:∀(f:Nat) {X:PD},X.Inv->(PD.settle f X).1.Inv
  |0,X,h=>h
  | f + 1,X,h=>by
    cases hf:X.first with
    |none=>rw[settle_done hf];exact h
    | some n=>
      obtain⟨D,hD,hj⟩:=first_key hf;have hm:=h.oc _ (Bi hD);by_cases h1:Bv X.P D=1
      . rw[settle_fit hf hD h1]
        exact PD.Inv.settle f ((h.drop n).adm hm.2 (λh2=>((mdel_keys h.od n n).1 h2).2 rfl) hm.1 (judge_ready h1))
      . rw[settle_wrong hf hD h1]
        exact PD.Inv.settle f (h.drop n)
theorem PD.Inv.add(h:X.Inv)(D:DB):(X.add D).1.Inv:=by
  by_cases hg:dgood D=0
  . cases ht:((An X.orp (A6 D)).isSome||(An X.P (A6 D)).isSome)with
    |true=>rw[add_there hg ht];exact h
    | false =>
      rw[Bool.or_eq_false_iff]at ht;have n1:A6 D∉X.orp.map (·.1):=λhm=>by
        obtain⟨v,hv⟩:=C2 hm;rw[hv]at ht;cases ht.1
      have n2:A6 D∉X.P.map (·.1):=λhm=>by
        obtain⟨v,hv⟩:=C2 hm;rw[hv]at ht;cases ht.2
      have hf:((An X.orp (A6 D)).isSome||(An X.P (A6 D)).isSome)=false:=by rw[ht.1,ht.2];rfl
      rcases judge_cases X.P D with hj|hj|hj
      . by_cases aa:64<=X.orp.length
        .rw[add_full hg hf hj aa];exact h
        . rw [add_keep hg hf hj aa]
          exact{ h with
            od:=mput_nodup h.od _ _
            oc:=λp hp=>by
              rcases mput_mem hp with hp|rfl
              .exact h.oc p hp
              .exact⟨good_check hg,n2⟩ }
      . rw[add_fits hg hf hj]
        exact PD.Inv.settle _ (h.adm n2 n1 (good_check hg) (judge_ready hj))
      .rw[add_wrong hg hf hj];exact h
  .rw[add_bad hg];exact h
noncomputable def fillP(X:PD)(ds:List DB):PD:=ds.foldl (λX D=>(X.add D).1) X
theorem PD.Inv.fill:∀(ds:List DB) {X:PD},X.Inv->(fillP X ds).Inv
  | [],X,h=>h
  |D::ds,X,h=>PD.Inv.fill ds (h.add D)
section
variable{X:PD}
theorem reach_P{a:Int}{L:List (List UInt8)}{n:List UInt8}(h:X.Reach a L n):∃D,An X.P n=some D:=by
  cases h with
  |base _ hP _=>exact⟨_,hP⟩
  |step _ _ _ hE _=>exact⟨_,hE⟩
end
section
variable{C:Cx}{ops:Array Oper}{rest:List (Nat×Oper)}{sl:List (Nat×Value)}{hp:List Blk}{Q:St->Prop}{c d:Nat}{ty:TypeId}{pos:String}{af:Array Edge}{g:Option (Nat×Bool)}
variable{xT yT:TypeId}{x y:Operand}{a b:Int}
end
def GetR(X:PD)(n:List UInt8)(v:Value)(out:List Blk):Prop:=
  An X.P n=none/\v= .tuple #[agg Block.zero.cells,i64 6]/\out=[]
  \/∃D B,An X.P n=some D/\SameB B D/\v= .tuple #[agg B.cells,i64 0]/\∀W2,Lies out W2->BlockIs W2 B D
theorem ck_small{D:DB}(h:D.check=0):D.ls.length<=16/\D.ds.length<=90000:=by
  obtain⟨h1,h2⟩:=D.head_small h;exact⟨by omega,by omega⟩
theorem dag_get(x:DD)(hx:x.ok)(ag:∀p∈x.P,p.2.check=0)(p:Nat)(n:List UInt8)(ad:n.length=32):Meets prog 9 [ptr p 0,agg (Aa n)] [] (λW=>Lies (x.blks p) W) (GetR x.pl n):=by
 intro W hW;have ab:=hW;have hd:=DagSee.lies hW;refine Ae func9 J 27 ntmps9 J (G3 ?_);intro n3 ao am;refine .alloc (cs:=Block.zero.cells) J Block.zr J ?_;intro n4 ap an;refine G7 ?_;refine .cV J J J J Body45 (dag_valid x p) (λw h=>hd.ext h) (G3 ?_);refine .cond_f J J (G3 ?_);refine .draw (oPq [0,1,2,103,104,105,6,7,8,209,410,11]) Au zK (G3 ?_);refine .loadE J J J Y80.h J sP (hd.at (o:=2) J) (.lA J J J Y31.h J Sz31 Z1 (by(simp[ad];done)) ?_);refine .lookFC evE ME hd.2 sP J J J J ad (λhg=>?_) (λe hg=>?_)
 ·
  skip;refine G3 ?_;refine .alloc (cs:=DEnt.zero.cells) J DEnt.zr J ?_;intro n6 ai ah;refine G11 ?_;refine .cond_t J J (G2 ?_);refine .build (cs:=Block.zero.cells) J J J (λw=>by kernel_rfl) ?_;refine G4 ?_;refine G3 ?_;refine Ao (out:=[]) (Bg J J J Y37.h J Sz37 Z1 (by exact Block.length (by exact Block.zero_ok))) Ad ?_;exact .inl ⟨DD.noP hg,rfl,rfl⟩
 obtain⟨aj,ak⟩:=ck_small (ag _ (La6.2 ⟨_,Bi hg,rfl⟩));simp only at aj ak;refine G3 ?_;refine .alloc (cs:=DEnt.zero.cells) J DEnt.zr J ?_;intro n6 ai ah;refine .sA J J J J (DEnt.isCell (by exact hx.entOk hg)) Sz91 (DEnt.length (by exact hx.entOk hg)) Z0 (DEnt.length (by exact DEnt.zero_ok)) zU ?_;refine G10 ?_;refine .cond_f J J (G5 ?_);refine .lN (Block.cells _) J J J Y37.h J Sz37 Z0 (DEnt.row_fBlock (by exact hx.entOk hg)) (DEnt.rl_fBlock (by exact hx.entOk hg)) ?_;refine .call4 J J J J J Body52 (dag_clone e.1.fBlock e.2 (hx.ent _ (Bi hg)).2.1.1 oM oM) (λw h=>(hx.ent _ (Bi hg)).2.1.2 w ((Bf ab h).sub (x.mcb p))) ?_;rintro aq ac ⟨B26,aa,rfl,ae⟩;refine .sA J J J J (Block.isCell (by exact aa.ok)) Sz37 (Block.length (by exact aa.ok)) mR (Block.length (by exact Block.zero_ok)) uU ?_;refine G3 ?_;refine G2 ?_;refine Ao (out:=(ac++[])) (Bg J J J Y37.h J Sz37 mR (by exact Block.length (by exact aa.ok))) (Ac sG Ad) ?_;exact .inr ⟨e.2,B26,(DD.atP hg).1,aa,rfl,λW2 hl=>ae W2 (by simpa using hl)⟩
theorem row_one{q:Nat}{w:World}{a:List UInt8}(ha:a.length=32)(h:Dd w q 0 (Aa a)):RowsAt w ⟨some ⟨q,0,none⟩,1,1⟩ 32 [a]:=⟨rfl,λl hl=>by rw[La1.1 hl];exact ha,Lag 1,SeesP.of (by simpa using h),(by show 1<=maxLen;decide),λe=>by cases e⟩
open Classical in
noncomputable def rB(X:PD)(above:Int)(L:List (List UInt8))(n:List UInt8):Bool:=decide (X.Reach above L n)
theorem rB_iff{X:PD}{above:Int}{L:List (List UInt8)}{n:List UInt8}:rB X above L n=true↔X.Reach above L n:=by unfold rB;simp
theorem fillP_snoc(X:PD)(l:List DB)(d:DB):fillP X (l++[d])=((fillP X l).add d).1:=by unfold fillP;rw[Ldx];rfl
end Go.Proofs.YtbdfihcjddbhaaaGreat
namespace Go.Proofs.YtbdfihcjddbhaaaGreat
open Go Hw _root_.Go.Proofs.Tryz
variable{B:Blk}{C:Cx}{D:DB}{L ks ls:List (List UInt8)}{W w:World}{X:PD}{b i k o p:Nat}{hp:List Blk}{n:List UInt8}{s:Sl}{x:DD}{α κ ν:Type}{fs:List (κ×ν)}{l:List α}{v:ν}
theorem nil_rows(W:World):RowsAt W Sl.nil 32 []:=rows_none
theorem Cm(h:k<L.length):L.getD k []∈L:=by
  rw[La3,La4 h];exact Lcq h
theorem P32(hx:x.ok)(h:∃D,An x.pl.P n=some D):n.length=32:=by
  obtain⟨D,hD⟩:=h;obtain⟨p,hp,e⟩:=La6.1 (Bi (show An x.P n=some D from hD));rw[<-(Prod.mk.inj e).1];exact(hx.ent p hp).1
theorem names_mem(hI:X.Inv)(n:List UInt8):n∈X.names↔∃D,An X.P n=some D:=by rw[hI.nn];exact key_some
theorem nd_len:∀ {l m:List (List UInt8)},l.Nodup->(∀n∈l,n∈m)->l.length<=m.length
  | [],m,_,_=>Laf _
  | a::l,m,h,hs=>by
    obtain⟨h1,h2⟩:=Lb6.1 h;have ha:=hs a La9;have ih:=nd_len (l:=l) (m:=m.erase a) h2 (λn hn=>(List.mem_erase_of_ne (λe=>h1 (by rw[<-e];exact hn))).2 (hs n (Laj _ hn)));have hl:=List.length_erase_of_mem ha;have hp:=List.length_pos_of_mem ha;rw[Lax];omega
theorem reach_len(hI:X.Inv)(ab:ks.Nodup)(aa:∀n,n∈ks↔X.Reach (-1) L n):ks.length<=X.names.length:=nd_len ab λn hn=>(names_mem hI n).2 (reach_P ((aa n).1 hn))
theorem hB_ok(hx:x.ok){q:Nat}(hl:Lies (x.blks q) W)(h:An x.pl.P n=some D):D.ok:=by
  obtain⟨p,hp,e⟩:=La6.1 (Bi (show An x.P n=some D from h));have:=((hx.ent p hp).2.1.2 W (hl.sub (x.mcb q))).dok;rw[<-(Prod.mk.inj e).2];exact this
structure PD.Ord(X:PD):Prop where
  par:∀k p,X.P[k]? =some p->∀m∈Bj p.2,m∈(X.P.take k).map (·.1)
  dep:∀n D,An X.P n=some D->(An X.dep n).getD 0=(Bj D).foldl (stepP X.dep) 0
theorem step_congr{d1 d2:List (List UInt8×Int)}:∀(l:List (List UInt8)) (a:Int),(∀n∈l,An d1 n=An d2 n)->l.foldl (stepP d1) a=l.foldl (stepP d2) a
  | [],_,_=>rfl
  | n::l,a,h=>by
    rw[Le2,Le2,show stepP d1 a n=stepP d2 a n from by unfold stepP;rw[h n La9]];exact step_congr l _ λm hm=>h m (Laj _ hm)
theorem PD.Ord.new:PD.new.Ord where
  par:=λk p h=>by
    have h2:([]:List (List UInt8×DB))[k]? =some p:=h;simp at h2
  dep:=λn D h=>by cases h
theorem PD.Ord.drop(h:X.Ord)(n:List UInt8):(X.drop1 n).Ord:={ h with }
theorem PD.Ord.adm(hO:X.Ord)(hI:X.Inv)(ad:n∉X.P.map (·.1))(hr:readyB X.P D=true):(X.adm n D).Ord:=by
  have ab:An X.P n=none:=by
    cases h:An X.P n with
    |none=>rfl
    |some E=>exact absurd (La6.2 ⟨(n,E),Bi h,rfl⟩) ad
  have aj:(X.adm n D).P=X.P++[(n,D)]:=mput_app ab D;have ai:∀m∈Bj D,m∈X.P.map (·.1):=λm hm=>by
    have:=Lbf.1 hr m hm;obtain⟨E,hE⟩:=Ldl.1 this;exact La6.2 ⟨(m,E),Bi hE,rfl⟩
  have ag:An X.dep n=none:=by
    cases h:An X.dep n with
    |none=>rfl
    |some E=>exact absurd (by rw[<-hI.dk];exact La6.2 ⟨(n,E),Bi h,rfl⟩) ad
  have ac:∀m,m≠n->An (X.adm n D).dep m=An X.dep m:=λm hm=>mget_old ag _ (Ne.symm hm);constructor
  . intro k p hk m hm
    rw[aj]at hk ⊢;rcases Lb5 k X.P.length with h1|h1
    . rw[Lb1 h1]at hk
      rw[Lcp oM];exact hO.par k p hk m hm
    . have ak:k=X.P.length:=by
        have:=(Laa.1 hk).1;simp at this;omega
      subst ak;rw[Lb2 (Lag _),Lf0]at hk;cases hk;rw[Lcp (Lag _),Lci];exact ai m hm
  . intro q E hq
    have aa:An (Bh X.P n D) q=some E:=hq;have ah:∀m∈X.P.map (·.1),m≠n:=λm hm e=>ad (e▸hm);by_cases ae:q=n
    . subst ae
      rw[mget_new ab]at aa;cases aa;have e1:An (X.adm q D).dep q=some ((Bj D).foldl (stepP X.dep) 0):=mget_new ag _;rw[e1,Lbw];exact step_congr _ _ λm hm=>(ac m (ah m (ai m hm))).symm
    . rw[mget_old ab _ (Ne.symm ae)]at aa
      rw[ac q ae,hO.dep q E aa];exact step_congr _ _ λm hm=>(ac m (ah m (by
        obtain⟨F,hF⟩:=(hI.par q E aa m hm).1;exact La6.2 ⟨(m,F),Bi hF,rfl⟩))).symm
theorem PD.Ord.settle:∀(f:Nat) {X:PD},X.Inv->X.Ord->(PD.settle f X).1.Ord
  |0,X,_,h=>h
  | f + 1,X,hI,h=>by
    cases hf:X.first with
    |none=>rw[settle_done hf];exact h
    | some n=>
      obtain⟨D,hD,hj⟩:=first_key hf;have hm:=hI.oc _ (Bi hD);by_cases h1:Bv X.P D=1
      . rw[settle_fit hf hD h1]
        exact PD.Ord.settle f ((hI.drop n).adm hm.2 (λh2=>((mdel_keys hI.od n n).1 h2).2 rfl) hm.1 (judge_ready h1)) ((h.drop n).adm (hI.drop n) hm.2 (judge_ready h1))
      . rw[settle_wrong hf hD h1]
        exact PD.Ord.settle f (hI.drop n) (h.drop n)
theorem PD.Ord.add(hI:X.Inv)(h:X.Ord)(D:DB):(X.add D).1.Ord:=by
  by_cases hg:dgood D=0
  . cases ht:((An X.orp (A6 D)).isSome||(An X.P (A6 D)).isSome)with
    |true=>rw[add_there hg ht];exact h
    | false=>
      have aa:=ht;rw[Bool.or_eq_false_iff]at aa;have n1:A6 D∉X.orp.map (·.1):=λhm=>by
        obtain⟨v,hv⟩:=C2 hm;rw[hv]at aa;cases aa.1
      have n2:A6 D∉X.P.map (·.1):=λhm=>by
        obtain⟨v,hv⟩:=C2 hm;rw[hv]at aa;cases aa.2
      rcases judge_cases X.P D with hj|hj|hj
      . by_cases ab:64<=X.orp.length
        .rw[add_full hg ht hj ab];exact h
        .rw[add_keep hg ht hj ab];exact{ h with }
      . rw[add_fits hg ht hj]
        exact PD.Ord.settle _ (hI.adm n2 n1 (good_check hg) (judge_ready hj)) (h.adm hI n2 (judge_ready hj))
      .rw[add_wrong hg ht hj];exact h
  .rw[add_bad hg];exact h
theorem PD.Ord.fill:∀(ds:List DB) {X:PD},X.Inv->X.Ord->(fillP X ds).Ord
  | [],X,_,h=>h
  |D::ds,X,hI,h=>PD.Ord.fill ds (hI.add D) (PD.Ord.add hI h D)
def PD.dp(X:PD)(n:List UInt8):Int:=(An X.dep n).getD 0
theorem PD.Ord.before(hI:X.Inv)(hO:X.Ord)(hk:X.names[k]? =some n):∃D,An X.P n=some D/\(∀m∈Bj D,m∈X.names.take k)/\X.dp n=(Bj D).foldl (stepP X.dep) 0:=by
  rw[hI.nn,Lad]at hk;obtain⟨p,hp,rfl⟩:=Lek.1 hk;have hm:=mget_some hI.nd hp;refine⟨p.2,hm,λm aa=>?_,hO.dep _ _ hm⟩;rw[hI.nn,<-Lbh];exact hO.par k p hp m aa
abbrev evI(x:Int):Value:=i64 x
theorem MI:MOk prog 117 31 3 (Ak 32 evI) (i64 0):=bytesT_ok _ underlying117 A25 Y5.h size_pos K25 (zr_run Zr3)
theorem MN:MOk prog 119 31 105 (Ak 32 evU) (agg []):=bytesT_ok _ Y119.h A25 Y5.h size_pos K25 (zr_run Zr105)
def setP(ls:List (List UInt8)):List (List UInt8×Unit):=ls.foldl (λfs n=>Bh fs n ()) []
theorem setP_step(hk:k<ls.length):setP (ls.take (k+1))=Bh (setP (ls.take k)) (ls.getD k []) ():=by
  unfold setP;have e:ls.getD k []=ls[k]:=by rw[La3,La4 hk];rfl
  rw[Las hk,Ldx,e];rfl
def NSetR(ls:List (List UInt8))(v:Value)(out:List Blk):Prop:=∃m,v= .map (some m)/\out=[A3 m (Ak 32 evU) (setP ls)]
theorem lin_none(x:DD)(hx:x.ok)(aa:∀p∈x.P,p.2.ls.length<=16)(p:Nat):Mv 64 [ptr p 0] (λW=>Lies (x.blks p) W) (.bool false):=by
 intro W hW;refine Ae func64 J 12 ntmps64 J (G8 ?_);refine .call4 J J J J J Body108 (dag_closure x hx aa p Sl.nil [] (Laf _)) (λw h=>⟨Bf hW h,nil_rows w⟩) ?_;rintro v7 ab (⟨⟨n,hn,_⟩,_⟩|⟨_,s7,ks,rfl,_⟩)
 .cases hn
 refine G10 ?_;refine .nei J J J J (show(!decide _)=false from congrArg not (decide_eq_true (rfl))) (G3 ?_);refine G2 ?_;refine Ao (out:=[]) (Ag J J) Ad ?_;exact⟨rfl,rfl⟩
theorem lin_set(s:Sl)(ls:List (List UInt8)):Meets prog 69 [s.v] [] (λW=>RowsAt W s 32 ls) (NSetR ls):=by
 intro W hW;have ai:=hW.len;have aa:=hW.row;have ad:=hW.max;simp only[maxLen]at ad;refine Ae func69 J 18 ntmps69 J (G7 ?_);refine .mkMap (Ak 32 evU) J J ?_;intro m6;refine G12 ?_;refine .loop (ι:=Nat×List (List UInt8×Unit)) (λr=>⟨[(2, .map none),(3, .map (some m6)),(7,s.v),(8,i64 (s.n:Int)),(9,i64 (r.1:Int))],[A3 m6 (Ak 32 evU) r.2]⟩) (λr=>r.1<=s.n/\r.2=setP (ls.take r.1)) (λr=>s.n-r.1) ((0,[])) ?_ ?_ ?_
 .exact⟨Laf _,rfl⟩
 .exact Af wN (Ab rM Ad)
 rintro⟨k,fs⟩ ⟨hk,ac⟩;simp only at hk ac ⊢;refine G6 ?_;refine .condP J (λah=>?_) (λah=>?_)
 ·
  have ak:k<s.n:=by omega
  obtain⟨b,o,ae,ag⟩:=hW.see.at (by rw[As aa];omega);have ab:(ls.getD k []).length=32:=Bn aa oM;refine G6 ?_;refine .idxSlP 32 J J J ae J Y32.h Sz31 k J oM (.loadEN (Aa (ls.getD k [])) J J J Y31.h J Sz31 sP (by rw[Aa,La0];exact ab) (Bk aa ag oM) ?_);refine .alloc (cs:=(Aa (List.replicate 32 0))) J Bz J ?_;intro n5 am aj;refine .sA J J J J zE Sz31 (by(rw[Aa,La0];assumption)) Z0 sP zU ?_;refine G4 ?_;refine .lA J J J Y31.h J Sz31 Z0 (by(rw[Aa,La0];assumption)) ?_;refine .build (cs:=[]) J J J (λw=>by kernel_rfl) ?_;refine .mapPut (v:=()) MN J J J J J ab rM ?_;refine G8 ?_;exact⟨(k+1,Bh fs (ls.getD k []) ()),⟨by simp only;omega,by simp only;rw[setP_step oM,ac]⟩,by simp only;omega,Af (wk1 rfl (wk1 rfl (wk1 rfl (wk1 rfl (wk1 (by rw[Lcd];rfl) wk0))))) (Ab rM Ad)⟩
 obtain rfl:k=s.n:=by omega
 refine G11 ?_;refine G2 ?_;refine Ao (out:=(A3 m6 (Ak 32 evU) fs::[])) (Ag J J) (Ab rM Ad) ?_;exact⟨m6,rfl,by rw[ac,La5 oM]⟩
theorem lin_has(m:Nat)(fs:List (List UInt8×Unit))(n:List UInt8)(aa:n.length=32):Mv 75 [.map (some m),agg (Aa n)] (λW=>BlkOk W (A3 m (Ak 32 evU) fs)) (.bool (An fs n).isSome):=by
 intro W hW;refine Ae func75 J 14 ntmps75 J (G3 ?_);intro n3 ae ad;refine G6 ?_;refine .lA J J J Y31.h J Sz31 Z0 (by(simp[aa];done)) ?_;refine .lookFC evU MN hW sP J J J J aa (λhg=>?_) (λe hg=>?_)
 ·
  skip;refine G3 ?_;refine .alloc (cs:=[]) J Zr105 J ?_;intro n5 ac ab;refine .sA J J J J zB Sz105 sP Z0 sP zU ?_;refine G9 ?_;refine G2 ?_;refine⟨_,[],Ag J J,sP,sP,?_,rfl⟩;rw[hg];rfl
 skip;refine G3 ?_;refine .alloc (cs:=[]) J Zr105 J ?_;intro n5 ac ab;refine .sA J J J J zB Sz105 sP Z0 sP zU ?_;refine G9 ?_;refine G2 ?_;refine⟨_,[],Ag J J,sP,sP,?_,rfl⟩;rw[hg];rfl
structure DMap(X:PD)(fs:List (List UInt8×Int))(ks:List (List UInt8)):Prop where
  all:∀n∈ks,An fs n=some (X.dp n)
  only:∀n v,An fs n=some v->n∈ks
theorem DMap.none(X:PD):DMap X [] []:=⟨λn hn=>(by cases hn),λn v h=>(by cases h)⟩
theorem DMap.put{fs:List (List UInt8×Int)}(h:DMap X fs ks)(hn:n∉ks):DMap X (Bh fs n (X.dp n)) (ks++[n]):=by
  have h0:An fs n=Option.none:=by
    cases hm:An fs n with
    |none=>rfl
    |some v=>exact absurd (h.only n v hm) hn
  constructor
  . intro m hm
    rcases La8.1 hm with h1|h1
    .rw[mget_old h0 _ (λe=>hn (e▸h1))];exact h.all m h1
    .rw[La1.1 h1];exact mget_new h0 _
  . intro m v hm
    by_cases e:n=m
    .rw[<-e];exact Lat _ La9
    . rw[mget_old h0 _ e]at hm
      exact Lak _ (h.only m v hm)
theorem dp_le(hI:X.Inv)(n:List UInt8):0<=X.dp n:=by
  unfold PD.dp;cases h:An X.P n with
  |some D=>exact hI.d0 n D h
  | none=>
    cases h2:An X.dep n with
    |none=>exact Int.le_refl _
    | some v=>
      exfalso;have h3:n∈X.P.map (·.1):=by rw[<-hI.dk];exact La6.2 ⟨(n,v),Bi h2,rfl⟩
      obtain⟨D,hD⟩:=C2 h3;rw[h]at hD;cases hD
theorem dp_big(hx:x.ok)(n:List UInt8):x.pl.dp n<=x.names.length:=by
  unfold PD.dp;have e:An x.pl.dep n=(An x.ent n).map λe=>e.1.fDepth:=mget_map (λe:EV=>e.1.fDepth) x.ent n;rw[e];cases h:An x.ent n with
  |none=>simp
  |some e=>exact(hx.ent _ (Bi h)).2.2.2
theorem step_take(hk:k<L.length):(L.take (k+1)).foldl (stepP X.dep) 0=if X.dp (L.getD k [])+1>(L.take k).foldl (stepP X.dep) 0 then X.dp (L.getD k [])+1 else(L.take k).foldl (stepP X.dep) 0:=by
  have e:L.getD k []=L[k]:=by rw[La3,La4 hk];rfl
  rw[Las hk,Ldx,e];rfl
theorem step_bound{x:DD}(hx:x.ok)(hI:x.pl.Inv):∀(L:List (List UInt8)) (d:Int),0<=d->d<=20001->0<=L.foldl (stepP x.pl.dep) d/\L.foldl (stepP x.pl.dep) d<=20001
  | [],d,h0,h1=>⟨h0,h1⟩
  | a::L,d,h0,h1=>by
    have h2:=dp_big hx a;have h3:=dp_le hI a;have h4:=hx.big;unfold PD.dp at h2 h3;refine step_bound hx hI L _ ?_ ?_<;>unfold stepP<;>split<;>omega
theorem par_open{bl:List Blk}(h:Hw.Acc s bl (Aq L) 31 L.length 32)(h0:0<L.length)(aa:∀l∈L,l.length=32):∃b o,s.p=some ⟨b,o,none⟩/\∀w,Lies bl w->∀k,k<L.length->Dd w b (o+k*32) (Aa (L.getD k [])):=by
  rcases h with ⟨_,_,_,e⟩|⟨q,c,rfl,h1,h2,rfl⟩
  .omega
  .exact⟨q,0,rfl,λw hw k hk=>Bk aa (sees_kok (hw _ La9) λj v hj=>by rw[Lb0];exact hj) hk⟩
theorem depth_known(n:List UInt8)(aa:n.length=32)(a b c m:Nat)(fs:List (List UInt8×Int))(k:Int)(hk:An fs n=some k):Mv 109 [agg (Aa n),ptr a 0,ptr b 0,ptr c 0] (λW=>W.cell? ⟨a,0,none⟩=some (.map (some m))/\BlkOk W (A3 m (Ak 32 evI) fs)) (i64 k):=by
 intro W hW;refine Ae func109 J 45 ntmps109 J (G3 ?_);intro n4 ac ab;refine G6 ?_;refine .loadE J J J underlying117 J sP (hW.1) (.lA J J J Y31.h J Sz31 Z0 (by(simp[aa];done)) ?_);refine .lookFC evI MI hW.2 sP J J J J aa (λhg=>?_) (λv hg=>?_)
 ·
  exfalso;rw[hk]at hg;cases hg
 obtain rfl:v=k:=by rw[hk]at hg;exact(Leh hg).symm
 refine G12 ?_;refine .cond_t J J (G6 ?_);refine G3 ?_;refine⟨_,[],Ag J J,sP,sP,?_,rfl⟩;rfl
theorem depth_next(x:DD)(hx:x.ok)(hI:x.pl.Inv)(p:Nat)(n:List UInt8)(ab:n.length=32)(D:DB)(hD:An x.pl.P n=some D)(a b c m:Nat)(fs:List (List UInt8×Int))(a7:An fs n=none)(aq:∀q∈Bj D,An fs q=some (x.pl.dp q))(a6:x.pl.dp n=(Bj D).foldl (stepP x.pl.dep) 0):Meets prog 109 [agg (Aa n),ptr a 0,ptr b 0,ptr c 0] [m] (λW=>Lent [A3 m (Ak 32 evI) fs] W/\Lies (x.blks p) W/\(∀b∈x.blks p,b.n≠m)/\(W.cell? ⟨a,0,none⟩=some (.map (some m))/\a≠m)/\(W.cell? ⟨b,0,none⟩=some (ptr p 0)/\b≠m)/\W.cell? ⟨c,0,none⟩=some (.func (.func 109) #[] #[ptr a 0,ptr b 0,ptr c 0])/\c≠m) (λv out=>v=i64 (x.pl.dp n)/\out=[A3 m (Ak 32 evI) (Bh fs n (x.pl.dp n))]):=by
 intro W hW;have ac:True:=trivial;obtain⟨_,ae,a8,⟨ak,av⟩,⟨ay,bo⟩,az,bp⟩:=id hW;have ao:∀q∈x.P,q.2.check=0:=hI.ck;have bm:D.ls.length<=16:=(ck_small (ao _ (Bi hD))).1;have bn:(Bj D).length<=17:=by have:=parL_len D;omega
 have a2:∀k,0<=((Bj D).take k).foldl (stepP x.pl.dep) 0/\((Bj D).take k).foldl (stepP x.pl.dep) 0<=20001:=λk=>step_bound hx hI _ 0 (Int.le_refl _) dE;have ba:=hx.big;refine calls_of (hp0:=[A3 m (Ak 32 evI) fs]) func109 J 45 ntmps109 J hW.1.rep (G3 ?_);intro n4 bu bq;refine G6 ?_;refine .loadE J J J underlying117 J (by(simp;omega)) (ak) ?_;refine .lA J J J Y31.h J Sz31 Z0 (by(simp[ab];done)) ?_;refine .lookF evI MI J J J J ab Z1 (λhg=>?_) (λv hg=>?_)
 ·
  skip;refine G12 ?_;refine .cond_f J J (G4 ?_);refine .loadE J J J Y25.h J (by(simp;omega)) (ay) ?_;refine .lA J J J Y31.h J Sz31 Z0 (by(simp[ab];done)) ?_;refine .call4 J J J J J Body9 (dag_get x hx ao p n ab) (λw h=>Lies.keep ae h.keeps (λb hb=>by simpa using a8 b hb)) ?_;rintro b3 am (⟨h0,_⟩|⟨D2,B,aj,hB,rfl,aw⟩)
  .exfalso;rw[h0]at hD;cases hD
  obtain rfl:D2=D:=by rw[hD]at aj;exact(Leh aj).symm
  refine G3 ?_;refine .alloc (cs:=Block.zero.cells) J Block.zr J ?_;intro n8 bv bt;refine .sA J J J J (Block.isCell (by exact hB.ok)) Sz37 (Block.length (by exact hB.ok)) Z0 (Block.length (by exact Block.zero_ok)) zU ?_;refine G11 ?_;refine .lA J J J Y37.h J Sz37 Z0 (Block.length (by exact hB.ok)) ?_;refine .call4 J J J J J Body58 (db_parA B D2 oM) (λw h=>aw w (Lies.of h (by repeat(first|exact Ap|refine A1 ?_)))) ?_;rintro b4 ag ⟨⟨ar,n28,au⟩,rfl,ad⟩;have bj:n28=(Bj D2).length:=ad.num;have aa:∀l∈Bj D2,l.length=32:=parL_row (hB_ok hx ae aj);refine G5 ?_;refine .loop (ι:=Nat×Int) (λr=>⟨[(1,ptr a 0),(2,ptr b 0),(3,ptr c 0),(4,ptr n4 0),(5,i64 0),(10,i64 r.2),(28, .slice ar n28 au),(29,i64 (n28:Int)),(30,i64 (r.1:Int))],(ag++(am++(⟨n4,Aa n,31,(Aa n).length⟩::(A3 m (Ak 32 evI) fs::[]))))⟩) (λr=>r.1<=n28/\r.2=((Bj D2).take r.1).foldl (stepP x.pl.dep) 0) (λr=>n28-r.1) ((0,0)) ?_ ?_ ?_
  .exact⟨Laf _,rfl⟩
  .exact Af wN (Ac sG (Ac sG (Ab rM (Ab rM Ad))))
  rintro⟨k,dv⟩ ⟨hk,ah⟩;simp only at hk ah ⊢;have a1:=a2 k;rw[<-ah]at a1;have bc:=dp_le hI ((Bj D2).getD k []);have be:=dp_big hx ((Bj D2).getD k []);refine .seq ?_;skip;refine G5 ?_;refine .condP J (λax=>?_) (λax=>?_)
  ·
   have ai:k<(Bj D2).length:=by omega
   obtain⟨bk,bz,ap,an⟩:∃b o,ar=some ⟨b,o,none⟩/\∀w,Lies ag w->∀k,k<(Bj D2).length->Dd w b (o+k*32) (Aa ((Bj D2).getD k [])):=par_open ad oM aa;have ac:((Bj D2).getD k []).length=32:=aa _ (Cm ai);refine G6 ?_;refine .idxSlP 32 J J J ap J Y32.h Sz31 k J oM (.loadSN (n:=32) (Aa ((Bj D2).getD k [])) J J J Y31.h J Sz31 (by rw[Aa,La0];exact ac) (λw h=>an w (Lies.of h (by repeat(exact Ap))) k ai) ?_);refine .alloc (cs:=(Aa (List.replicate 32 0))) J Bz J ?_;intro bw bi bg;refine .sA J J J J zE Sz31 (by(rw[Aa,La0];assumption)) Z0 sP zU ?_;refine G4 ?_;refine .loadE J J J Y115.h J (by(simp;omega)) (az) ?_;refine .lA J J J Y31.h J Sz31 Z0 (by(rw[Aa,La0];assumption)) ?_;refine .callCV J J J J J Body109 (depth_known ((Bj D2).getD k []) ac a b c m fs (x.pl.dp ((Bj D2).getD k [])) (aq _ (Cm ai))) (λw h=>⟨h.keeps.cell (by simpa using av) ak,Cd h mR⟩) ?_;refine G1 ?_;refine .max2 J J J J (rfl) (G9 ?_);refine⟨(k+1,_),⟨by simp only;omega,?_⟩,by simp only;omega,Af wN (Ac sG (Ac sG (Ab rM (Ab rM Ad))))⟩;simp only;rw[step_take ai,<-ah];rfl
  obtain rfl:k=n28:=by omega
  obtain rfl:dv=x.pl.dp n:=by rw[ah,a6,La5 oM]
  refine G7 ?_;refine .loadE J J J underlying117 J (by(simp;omega)) (ak) ?_;refine .lA J J J Y31.h J Sz31 mR (by(simp[ab];done)) ?_;refine G1 ?_;refine .mapPut (v:=x.pl.dp n) MI J J J J J ab rM ?_;refine G8 ?_;refine G2 ?_;refine Ao (out:=(A3 m (Ak 32 evI) (Bh fs n (x.pl.dp n))::[])) (Ag J J) (Ab rM Ad) ?_;exact⟨rfl,rfl⟩
 exfalso;rw[a7]at hg;cases hg
abbrev RE:=RKn×DB
def rkc(l:List RE):List Value:=(l.map λe=>e.1.cells).flatten
def rp(l:List RE):List (List UInt8×DB):=l.map λe=>(e.1.fName,e.2)
def rkN(n:List UInt8)(e:RE):Bool:=decide (e.1.fName=n)
theorem rkc_len{l:List RE}(h:∀e∈l,e.1.ok):(rkc l).length=l.length*163:=by
  induction l with
  |nil=>rfl
  | cons a l ih=>
    have h1:rkc (a::l)=a.1.cells++rkc l:=rfl;rw[h1,La2,RKn.length (h a La9),ih λe he=>h e (Laj _ he),Lax];omega
theorem rkc_app(a b:List RE):rkc (a++b)=rkc a++rkc b:=by simp[rkc]
theorem rkc_one(e:RE):rkc [e]=e.1.cells:=by simp[rkc]
theorem rkc_cell{l:List RE}(h:∀e∈l,e.1.ok):∀u∈rkc l,isCell u=true:=λu hu=>by
  obtain⟨c,hc,h1⟩:=Lhb.1 hu;obtain⟨e,he,rfl⟩:=La6.1 hc;exact RKn.isCell (h e he) u h1
theorem rk_at{l:List RE}{e:RE}(h:Dd w b o (rkc l))(aa:∀e∈l,e.1.ok)(he:l[k]? =some e):Dd w b (o+k*163) e.1.cells:=λj v hj=>by
  have hlt:=(Laa.1 hj).1;have h1:=flat_get (m:=163) (λc hc=>by obtain⟨a,ha,rfl⟩:=La6.1 hc;exact RKn.length (aa a ha)) (show(l.map λe=>e.1.cells)[k]? =some e.1.cells by rw[Lad,he];rfl) hlt;have h2:=h (k*163+j) v (by unfold rkc;rw[h1];exact hj);rwa[<-Lcs]at h2
theorem rk_name{l:List RE}{e:RE}(h:Dd w b o (rkc l))(aa:∀e∈l,e.1.ok)(he:l[k]? =some e):Dd w b (o+k*163) (Aa e.1.fName):=λj v hj=>by
  have h1:=rk_at h aa he j v (by have h2:=RKn.see_fName (aa e (Lau he)) j v hj;rwa[Lb0]at h2);exact h1
theorem rk_blk{l:List RE}{e:RE}(h:Dd w b o (rkc l))(aa:∀e∈l,e.1.ok)(he:l[k]? =some e):Dd w b (o+k*163+32) e.1.fBlock.cells:=λj v hj=>by
  have h1:=rk_at h aa he (32+j) v (RKn.see_fBlock (aa e (Lau he)) j v hj);rwa[<-Lcs]at h1
theorem rk_wr{l:List RE}{e:RE}(h:Dd w b o (rkc l))(aa:∀e∈l,e.1.ok)(he:l[k]? =some e):Dd w b (o+k*163+32) (Aa e.1.fBlock.fWriter):=λj v hj=>by
  have h1:=rk_blk h aa he j v (by have h2:=Block.see_fWriter (aa e (Lau he)).o_fBlock j v hj;rwa[Lb0]at h2);exact h1
theorem rk_seq{l:List RE}{e:RE}(h:Dd w b o (rkc l))(aa:∀e∈l,e.1.ok)(he:l[k]? =some e):w.cell? ⟨b,o+k*163+32+32,none⟩=some (u64 e.1.fBlock.fSeq):=
  rk_blk h aa he 32 _ (Block.get_fSeq (aa e (Lau he)).o_fBlock)
theorem rp_any(l:List RE)(n:List UInt8):l.any (rkN n)=(An (rp l) n).isSome:=by
  unfold An rp;rw[Lfl,List.find?_map,Lfl,Lei,Lc2,List.find?_isSome];exact Iff.rfl
theorem rd_found(l:List RE)(n:List UInt8):(fstBad (rkN n) l= -1/\An (rp l) n=none)\/∃(k:Nat) (e:RE),fstBad (rkN n) l=(k:Int)/\l[k]? =some e/\e.1.fName=n/\An (rp l) n=some e.2:=by
  cases ha:l.any (rkN n)with
  | false=>
    refine .inl ⟨if_neg (by rw[ha];decide),?_⟩;have h1:=rp_any l n;rw[ha]at h1;exact Leq.1 (by rw[<-Option.not_isSome,<-h1];rfl)
  | true=>
    have hlt:l.findIdx (rkN n)<l.length:=Lga (Lc2.1 ha);have hp:rkN n l[l.findIdx (rkN n)]=true:=List.findIdx_getElem;refine .inr ⟨l.findIdx (rkN n),l[l.findIdx (rkN n)],if_pos ha,La4 hlt,of_decide_eq_true hp,?_⟩;unfold An rp;rw[List.find?_map,show List.find? ((λp:List UInt8×DB=>decide (p.1=n))∘λe:RE=>(e.1.fName,e.2)) l=some l[l.findIdx (rkN n)]from Ldb.2 ⟨hp,_,hlt,rfl,λj hj=>by
      have h2:rkN n l[j]=false:=List.not_of_lt_findIdx hj;rw[show((λp:List UInt8×DB=>decide (p.1=n))∘λe:RE=>(e.1.fName,e.2)) l[j]=rkN n l[j]from rfl,h2];rfl⟩]
    rfl
theorem rd_hit{l:List RE}(h:0<=fstBad (rkN n) l):∃(k:Nat) (e:RE),fstBad (rkN n) l=(k:Int)/\l[k]? =some e/\e.1.fName=n/\An (rp l) n=some e.2:=by
  rcases rd_found l n with ⟨h1,_⟩|h1
  .omega
  .exact h1
theorem rd_no{l:List RE}(h:¬0<=fstBad (rkN n) l):An (rp l) n=none:=by
  rcases rd_found l n with ⟨_,h1⟩|⟨k,e,h1,_⟩
  .exact h1
  .omega
structure RD where
  sL:Sl
  bL:List Blk
  L:List RE
  sO:Sl
  bO:List Blk
  O:List RE
  cb:List Blk
def RD.blks(x:RD)(p:Nat):List Blk:=⟨p,[x.sL.v,x.sO.v],111,2⟩::(x.bL++(x.bO++x.cb))
structure RD.ok(x:RD):Prop where
  accL:Hw.Acc x.sL x.bL (rkc x.L) 113 x.L.length 163
  accO:Hw.Acc x.sO x.bO (rkc x.O) 113 x.O.length 163
  entL:∀e∈x.L,e.1.ok/\Held x.cb e.1.fBlock e.2/\e.2.ls.length<=16
  entO:∀e∈x.O,e.1.ok/\Held x.cb e.1.fBlock e.2/\e.2.ls.length<=16
  big:x.L.length+x.O.length<=20000
  few:x.O.length<=64
def RD.P(x:RD):List (List UInt8×DB):=rp x.L
def RD.Q(x:RD):List (List UInt8×DB):=rp x.O
theorem rd_L{x:RD}(h:Lies (x.blks p) W):W.cell? ⟨p,0,none⟩=some x.sL.v:=(h _ La9).cell (o:=0) rfl
theorem rd_seeL{x:RD}(hx:x.ok)(h:Lies (x.blks p) W):SeesP W x.sL.p (rkc x.L):=hx.accL.see λb hb=>h b (Laj _ (Lak _ hb))
theorem rd_cb{x:RD}(h:Lies (x.blks p) W):Lies x.cb W:=λb hb=>h b (Laj _ (Lat _ (Lat _ hb)))
theorem RD.ok.okL{x:RD}(h:x.ok):∀e∈x.L,e.1.ok:=λe he=>(h.entL e he).1
theorem RD.ok.okO{x:RD}(h:x.ok):∀e∈x.O,e.1.ok:=λe he=>(h.entO e he).1
theorem rd_open{l:List RE}(h:SeesP W s.p (rkc l))(aa:∀e∈l,e.1.ok)(hk:k<l.length):∃b o,s.p=some ⟨b,o,none⟩/\Dd W b o (rkc l):=h.at (by rw[rkc_len aa];omega)
theorem u64_dec(a b:UInt64):decide ((a.toNat:Int)=(b.toNat:Int))=decide (a=b):=by
  by_cases h:a=b
  .rw[h];simp
  .rw[decide_eq_false h,decide_eq_false (λe=>h (Lbq.1 oM))]
theorem r15_parA(B:Block)(D:DB)(hn:D.ls.length<=500000):Meets prog 80 [agg B.cells] [] (λW=>BlockIs W B D) (RowA (Bj D)):=λW hW=>by
  have e1:=hW.ls.len;have aa:=hW.seq;have hL:=parL_row hW.dok;by_cases hs:(B.fSeq.toNat:Int)=0
  . have hp:Bj D=D.ls:=if_pos (by rw[<-aa];exact Lbq.1 (by show B.fSeq.toNat=0;omega))
    rw[hp]at hL ⊢;by_cases h0:B.fLinks.n=0
    . have ab:D.ls=[]:=Lai oM
      exact(r15_parents_nil B hW.ok D.ls oM hs h0 W hW.ls).mono λe W' ⟨v,out,h1,⟨h2,h3⟩,h4⟩=>⟨v,out,h1,⟨Sl.nil,h2,by rw[ab,h3];exact Acc.none⟩,h4⟩
    .exact(r15_parents_0 B hW.ok D.ls oM hs oM W hW.ls).mono λe W' ⟨v,out,h1,h2,h4⟩=>⟨v,out,h1,fresh_rowA hL e1 h2,h4⟩
  . have hp:Bj D=D.prev::D.ls:=if_neg (λe=>hs (by rw[aa,e];rfl))
    rw[hp]at hL ⊢;rw[<-hW.prev]at hL ⊢;exact(r15_parents_s B hW.ok D.ls oM hs W hW.ls).mono λe W' ⟨v,out,h1,h2,h4⟩=>⟨v,out,h1,fresh_rowA hL (by rw[Lax];omega) h2,h4⟩
theorem rd_new  :Meets prog 62 [] [] (λ_=>True) (λv out=>∃p,v=ptr p 0/\out=(⟨Sl.nil,[],[],Sl.nil,[],[],[]⟩:RD).blks p):=by
 intro W hW;refine Ae func62 J 3 ntmps62 J (G7 ?_);refine .build (cs:=[.slice none 0 0, .slice none 0 0]) J J J (λw=>by kernel_rfl) ?_;refine G1 ?_;intro n2 ab aa;refine G3 ?_;refine G2 ?_;refine Ao (out:=(⟨n2,[.slice none 0 0, .slice none 0 0],111,2⟩::[])) (Ag J J) (Ab rM Ad) ?_;exact⟨n2,rfl,rfl⟩
theorem rd_find(s:Sl)(l:List RE)(hl:l.length=s.n)(ac:∀e∈l,e.1.ok)(hb:s.n<=100000)(n:List UInt8)(ad:n.length=32):Mv 104 [s.v,agg (Aa n)] (λW=>SeesP W s.p (rkc l)) (i64 (fstBad (rkN n) l)):=by
 intro W hW;have aa:True:=trivial;refine Ae func104 J 20 ntmps104 J (G3 ?_);intro n3 ak aj;refine G10 ?_;refine .loop (ι:=Nat) (λk=>⟨[(0,s.v),(3,ptr n3 0),(5,i64 (k:Int))],[⟨n3,Aa n,31,(Aa n).length⟩]⟩) (λk=>k<=s.n/\∀j,j<k->(l.map (rkN n))[j]? =some false) (λk=>s.n-k) (0) ?_ ?_ ?_
 .exact⟨by omega,λj hj=>by omega⟩
 .exact Ah wN (wh1 Z0 wh0) nD
 rintro k ⟨hk,hg⟩;refine G9 ?_;refine .condP J (λai=>?_) (λai=>?_)
 ·
  have ae:k<l.length:=by omega
  obtain⟨b,o,ag,ah⟩:=rd_open hW ac ae;obtain⟨e,hd⟩:∃e,l[k]? =some e:=⟨_,La4 ae⟩;have aa:e.1.fName.length=32:=(ac e (Lau hd)).l_fName;refine G5 ?_;refine .draw (oPq [0,1,2,3,104,105,6]) Au zK (G2 ?_);refine .idxSlP 163 J J J ag J Y109.h Sz113 k (by rfl) oM ?_;refine G1 ?_;refine .loadEN (Aa e.1.fName) J J J Y31.h J Sz31 sP (by rw[Aa,La0];exact aa) (rk_name ah ac hd) ?_;refine .lA J J J Y31.h J Sz31 Z0 (by(simp[ad];done)) ?_;refine .eql_bytes J J J J eqGuardType31 Y31.h Y5.h Sz5 (by(simp[aa];done)) (by(simp[ad];done)) J ?_;refine G2 ?_;refine .condP J (λab=>?_) (λab=>?_)
  ·
   refine G6 ?_;refine G7 ?_;refine⟨_,[],Ag J J,sP,sP,?_,rfl⟩;exact congrArg i64 (fstBad_at hg (by rw[Lad,hd];simpa[rkN]using ab)).symm
  refine G9 ?_;exact⟨k+1,⟨by omega,λj hj=>by rcases Lb4.1 hj with h|rfl;exact hg j h;rw[Lad,hd];simpa[rkN]using ab⟩,by omega,Ah wN (wh1 Z0 wh0) nD⟩
 obtain rfl:k=s.n:=by omega
 refine G10 ?_;refine G2 ?_;refine⟨_,[],Ag J J,sP,sP,?_,rfl⟩;exact congrArg i64 (fstBad_none (by intro j hj;exact hg j (by rw[hl]at hj;exact hj))).symm
theorem rd_has(x:RD)(hx:x.ok)(p:Nat)(n:List UInt8)(aa:n.length=32):Mv 66 [ptr p 0,agg (Aa n)] (λW=>Lies (x.blks p) W) (.bool (An x.P n).isSome):=by
 intro W hW;have ae:=hx.big;have ac:=hx.accL.num;have ai:=hx.accO.num;have ab:=rd_L hW;have ad:=rd_seeL hx hW;refine Ae func66 J 12 ntmps66 J (G3 ?_);intro n3 ah ag;refine G4 ?_;refine .draw (oPq [0,1,2,103,104,305,6,7]) Au zK (G3 ?_);refine .loadE J J J Y109.h J sP (ab) (.lA J J J Y31.h J Sz31 Z0 (by(simp[aa];done)) ?_);refine .cV J J J J Body104 (rd_find x.sL x.L ac.symm hx.okL oM n aa) (λw h=>A8 h J ad) (G4 ?_);refine G2 ?_;refine⟨_,[],Ag J J,sP,sP,?_,rfl⟩;exact congrArg Value.bool ((fstBad_ge _ _).trans (rp_any _ _))
theorem rd_wrong(x:RD)(hx:x.ok)(p:Nat)(B:Block)(D:DB)(hB:SameB B D):Mv 106 [ptr p 0,agg B.cells] (λW=>Lies (x.blks p) W) (.bool (wrongB x.P D)):=by
  intro W hW;have ar:=hx.big;have aq:=hx.accL.num;have aw:=hx.accO.num;have aj:=rd_L hW;have an:=rd_seeL hx hW;refine Ae func106 J 49 ntmps106 J (G3 ?_);intro n3 av au;refine G4 ?_;refine .draw (oPq [0,1,2,103,4,105,306,7]) Au zK (G3 ?_);refine .loadE J J J Y109.h J sP (aj) (G1 ?_);refine .lN (Aa _) J J J Y31.h J Sz31 Z0 (Block.row_fPrev (by exact hB.ok)) (Block.rl_fPrev (by exact hB.ok)) ?_;refine .cV J J J J Body104 (rd_find x.sL x.L aq.symm hx.okL oM B.fPrev hB.ok.l_fPrev) (λw h=>A8 h J an) (G4 ?_);refine .draw (oPq [0,101,2,3,4,5,6,7,8,9,10,111,12,13,14,15,116,17,118,19,20,21,22,23,124,25,26,27,28,129,30,131,32,33,34,35,36]) Au zK (G1 ?_);refine .load1 J J J Y30.h J Z0 (by exact Block.get_fSeq (by exact hB.ok)) ?_;refine two (λr hr k=>Tr.gtr J J J J hr k) (λae=>?_) (λae=>?_)
  ·
    have aa:=of_decide_eq_true ae;refine G2 ?_;refine two (λr hr k=>Tr.geq J J J J hr k) (λag=>?_) (λag=>?_)
    ·
      have ah:=of_decide_eq_true ag;obtain⟨k,e,hf,hk,hn,hm⟩:=rd_hit ah;rw[hB.prev]at hm;have ad:=hx.entL e (Lau hk);have ao:=ad.1.o_fBlock.l_fWriter;have ap:=(Laa.1 hk).1;obtain⟨b,o,ak,am⟩:=rd_open an hx.okL ap;refine G5 ?_;refine .loadE J J J Y109.h J sP (aj) (G1 ?_);refine .idxSlP 163 J J J ak J Y109.h Sz113 k oM oM (G2 ?_);refine .loadEN (Aa e.1.fBlock.fWriter) J J J Y29.h J Sz29 sP (by rw[Aa,La0];exact ao) (rk_wr am hx.okL hk) ?_;refine G1 ?_;refine .lN (Aa _) J J J Y29.h J Sz29 Z0 (Block.row_fWriter (by exact hB.ok)) (Block.rl_fWriter (by exact hB.ok)) ?_;refine two (λr hr k=>Tr.neq_bytes J J J J eqGuardType29 Y29.h Y5.h Sz5 zA (by(simp[hB.ok.l_fWriter];done)) hr k) (λac=>?_) (λac=>?_)
      ·
        have ab:=nd_t ac;refine G19 ?_;refine G2 ?_;refine⟨_,[],Ag J J,sP,sP,?_,rfl⟩;rw[show x.P=rp x.L from rfl];first
          |(simp[wrong_none hm];done)
          |(simp[wrong_seq (show D.seq=0 by rw[<-hB.seq];exact u64_eq (b:=0) (by have h9:((0:UInt64).toNat:Int)=0:=rfl;omega))];done)
          | (have ai:D.seq≠0:=λh=>by rw[hB.seq,h]at aa;simp at aa
             rw[wrong_some ai hm,<-ad.2.1.1.w,<-ad.2.1.1.seq,<-hB.w,<-hB.seq];simp[ab])
      have ab:=nd_f ac;refine G4 ?_;refine .loadE J J J Y109.h J sP (aj) (G1 ?_);refine .idxSlP 163 J J J ak J Y109.h Sz113 k oM oM (G2 ?_);refine .loadE J J J Y30.h J sP (rk_seq am hx.okL hk) (G1 ?_);refine .load1 J J J Y30.h J Z0 (by exact Block.get_fSeq (by exact hB.ok)) ?_;refine .sub_u64 J J J (show Ai _ _=some (u64 1)from rfl) (G6 ?_);refine G2 ?_;refine⟨_,[],Ag J J,sP,sP,?_,rfl⟩;rw[show x.P=rp x.L from rfl];first
        |(simp[wrong_none hm];done)
        |(simp[wrong_seq (show D.seq=0 by rw[<-hB.seq];exact u64_eq (b:=0) (by have h9:((0:UInt64).toNat:Int)=0:=rfl;omega))];done)
        | (have ai:D.seq≠0:=λh=>by rw[hB.seq,h]at aa;simp at aa
           rw[wrong_some ai hm,<-ad.2.1.1.w,<-ad.2.1.1.seq,<-hB.w,<-hB.seq];simp[ab,u64_dec])
    have ah:=of_decide_eq_false ag;have hm:=rd_no ah;rw[hB.prev]at hm;refine G33 ?_;refine G2 ?_;refine⟨_,[],Ag J J,sP,sP,?_,rfl⟩;rw[show x.P=rp x.L from rfl];first
      |(simp[wrong_none hm];done)
      |(simp[wrong_seq (show D.seq=0 by rw[<-hB.seq];exact u64_eq (b:=0) (by have h9:((0:UInt64).toNat:Int)=0:=rfl;omega))];done)
      | (have ai:D.seq≠0:=λh=>by rw[hB.seq,h]at aa;simp at aa
         rw[wrong_some ai hm,<-ad.2.1.1.w,<-ad.2.1.1.seq,<-hB.w,<-hB.seq];simp[ab,u64_dec])
  have aa:=of_decide_eq_false ae;refine G36 ?_;refine G2 ?_;refine⟨_,[],Ag J J,sP,sP,?_,rfl⟩;rw[show x.P=rp x.L from rfl];first
    |(simp[wrong_none hm];done)
    |(simp[wrong_seq (show D.seq=0 by rw[<-hB.seq];exact u64_eq (b:=0) (by have h9:((0:UInt64).toNat:Int)=0:=rfl;omega))];done)
    | (have ai:D.seq≠0:=λh=>by rw[hB.seq,h]at aa;simp at aa
       rw[wrong_some ai hm,<-ad.2.1.1.w,<-ad.2.1.1.seq,<-hB.w,<-hB.seq];simp[ab,u64_dec])
theorem rd_ready(x:RD)(hx:x.ok)(p:Nat)(B:Block)(D:DB)(hB:SameB B D)(hs:D.ls.length<=16):Mv 107 [ptr p 0,agg B.cells] (λW=>Lies (x.blks p) W/\BlockIs W B D) (.bool (readyB x.P D)):=by
 intro W hW;have ak:=hx.big;have aq:=hx.accL.num;have ar:=hx.accO.num;have am:=rd_L hW.1;have av:=rd_seeL hx hW.1;have aa:True:=trivial;have ab:=parL_row hW.2.dok;have au:=parL_len D;refine Ae func107 J 22 ntmps107 J (G3 ?_);intro n3 ao an;refine G5 ?_;refine .lA J J J Y37.h J Sz37 Z0 (Block.length (by exact hB.ok)) ?_;refine .call4 J J J J J Body80 (r15_parA B D oM) (λw h=>hW.2.ext h J) ?_;rintro v8 ae ⟨s8,rfl,ac⟩;have ap:=ac.num;refine G10 ?_;refine .loop (ι:=Nat) (λk=>⟨[(0,ptr p 0),(5,s8.v),(6,i64 (k:Int))],(ae++[])⟩) (λk=>k<=s8.n/\∀j,j<k->(An x.P ((Bj D).getD j [])).isSome=true) (λk=>s8.n-k) (0) ?_ ?_ ?_
 .exact⟨Laf _,λj hj=>absurd hj (Lcj _)⟩
 .exact Af wN (Ac sG Ad)
 rintro k ⟨hk,hg⟩;refine G9 ?_;refine .condP J (λah=>?_) (λah=>?_)
 ·
  have ai:k<(Bj D).length:=by omega
  have aa:((Bj D).getD k []).length=32:=ab _ (Cm ai);refine G9 ?_;obtain⟨b8,o8,aj,ag⟩:=par_open ac oM ab;refine .idxSlP 32 J J J aj J Y32.h Sz31 k J oM (.loadSN (n:=32) (Aa ((Bj D).getD k [])) J J J Y31.h J Sz31 (by rw[Aa,La0];exact aa) (λw h=>ag w (Lies.of h (by repeat(exact Ap))) k oM) ?_);refine .cV J J J J Body66 (rd_has x hx p ((Bj D).getD k []) aa) (λw h=>Bf hW.1 h) (G3 ?_);refine .cond J (λad=>?_) (λad=>?_)
  ·
   refine G5 ?_;refine G7 ?_;refine Ao (out:=[]) (Ag J J) Ad ?_;refine⟨congrArg Value.bool (Eq.symm ?_),rfl⟩;unfold readyB;exact Lh0.2 ⟨_,Cm (show k<(Bj D).length by omega),by simpa using ad⟩
  refine G9 ?_;exact⟨k+1,⟨by omega,λj hj=>by rcases Lb4.1 hj with h|rfl;exact hg j h;simpa using ad⟩,by omega,Af wN (Ac sG Ad)⟩
 obtain rfl:k=s8.n:=by omega
 refine G10 ?_;refine G2 ?_;refine Ao (out:=[]) (Ag J J) Ad ?_;refine⟨congrArg Value.bool (Eq.symm ?_),rfl⟩;unfold readyB;refine Lbf.2 λn hn=>?_;obtain⟨j,hj,rfl⟩:=Lb8 hn;have h9:=hg j oM;rwa[La3,La4 hj]at h9
theorem nodup_inj{α β:Type}{f:α->β}{l:List α}(h:(l.map f).Nodup)(a:α)(ha:a∈l)(b:α)(hb:b∈l)(e:f a=f b):a=b:=by
  obtain⟨i,hi,rfl⟩:=Lb8 ha;obtain⟨j,hj,rfl⟩:=Lb8 hb;have h2:=Lde.1 h;rcases Lgf i j with h3|h3|h3
  .exact absurd (by rw[Lfv,Lfv];exact e) (h2 i j (by simpa using hi) (by simpa using hj) h3)
  .subst h3;rfl
  .exact absurd (by rw[Lfv,Lfv];exact e.symm) (h2 j i (by simpa using hj) (by simpa using hi) h3)
theorem names_apart{A B:Blk}(h:HRep C hp w)(hA:A∈hp)(hB:B∈hp)(hc:¬A.cs.length=B.cs.length):A.n≠B.n:=λe=>hc (by rw[nodup_inj h.nodup A hA B hB e])
theorem own_apart{hp L:List Blk}(h:HRep C hp w)(hB:B∈hp)(hL:Lies L C.W0)(hl:C.lent=[]:=by rfl):∀b∈L,b.n≠B.n:=λb hb e=>by
  have h1:=(hL b hb).lt;rcases h.own B hB with h2|h2
  .omega
  .rw[hl]at h2;cases h2
def DepV(X:PD)(p a b c m:Nat)(fs:List (List UInt8×Int))(ks:List (List UInt8))(v:Value)(bl:List Blk):Prop:=
  v= .func (.func 109) #[] #[ptr a 0,ptr b 0,ptr c 0]/\bl=[A3 m (Ak 32 evI) fs,⟨c,[.func (.func 109) #[] #[ptr a 0,ptr b 0,ptr c 0]],115,1⟩,⟨a,[.map (some m)],117,1⟩,⟨b,[ptr p 0],25,1⟩]/\DMap X fs ks
def DepR(X:PD)(p:Nat)(ls:List (List UInt8))(v:Value)(out:List Blk):Prop:=∃a b c m fs ks,DepV X p a b c m fs ks v out/\∀n∈ls,n∈X.names->n∈ks
theorem mput_in[DecidableEq κ]{q:κ×ν}{a:κ}(hq:q∈fs):q.1∈(Bh fs a v).map (·.1):=by
  unfold Bh;cases h:midx fs a with
  |none=>exact La6.2 ⟨q,Lak _ hq,rfl⟩
  | some j=>
    simp only;obtain⟨i,hi,e⟩:=Lb8 hq;unfold midx at h;rw[Lbu]at h;obtain⟨hl,he,_⟩:=h;by_cases aa:j=i
    . subst aa
      rw[e]at he;exact La6.2 ⟨(a,v),List.mem_set hl _,by rw[<-of_decide_eq_true he]⟩
    . refine La6.2 ⟨q,?_,rfl⟩
      rw[<-e];exact List.mem_iff_getElem.2 ⟨i,by rw[Lbc];exact hi,List.getElem_set_ne aa _⟩
theorem setP_keys(ls:List (List UInt8)):((setP ls).map (·.1)).Nodup/\∀n∈ls,n∈(setP ls).map (·.1):=by
  have key:∀(l:List (List UInt8)) (fs:List (List UInt8×Unit)),(fs.map (·.1)).Nodup->((l.foldl (λfs n=>Bh fs n ()) fs).map (·.1)).Nodup/\∀n,(n∈l\/n∈fs.map (·.1))->n∈(l.foldl (λfs n=>Bh fs n ()) fs).map (·.1):=by
    intro l
    induction l with
    |nil=>intro fs h;exact⟨h,λn hn=>by rcases hn with h1|h1;cases h1;exact h1⟩
    | cons a l ih=>
      intro fs h;obtain⟨h1,h2⟩:=ih (Bh fs a ()) (mput_nodup h a ());refine⟨h1,λn hn=>h2 n ?_⟩;by_cases e:n=a
      . right
        rw[e];cases hm:An fs a with
        |none=>exact La6.2 ⟨(a,()),Bi (mget_new hm ()),rfl⟩
        |some u=>exact mput_in (q:=(a,u)) (Bi hm)
      . rcases hn with hn|hn
        . rcases Lam.1 hn with hn|hn
          .exact absurd hn e
          .exact .inl hn
        . obtain⟨q,hq,rfl⟩:=La6.1 hn
          exact .inr (mput_in hq)
  obtain⟨h1,h2⟩:=key ls [] Lch;exact⟨h1,λn hn=>h2 n (.inl hn)⟩
theorem Bt(hk:k<L.length):L.take (k+1)=L.take k++[L.getD k []]:=by
  rw[Las hk,La3,La4 hk];rfl
theorem not_before(h:L.Nodup)(hk:k<L.length):L.getD k []∉L.take k:=by
  have h2:(L.take (k+1)).Nodup:=h.sublist (List.take_sublist _ _);rw[Bt hk,Lay]at h2;exact λhm=>h2.2.2 _ hm _ La9 rfl
theorem lin_depths(x:DD)(hx:x.ok)(hI:x.pl.Inv)(hO:x.pl.Ord)(p:Nat)(s:Sl)(ls:List (List UInt8)):Meets prog 65 [ptr p 0,s.v] [] (λW=>Lies (x.blks p) W/\RowsAt W s 32 ls) (DepR x.pl p ls):=by
  intro W hW;have ac:True:=trivial;have a1:=hx.big;have a6:x.pl.names.length=x.names.length:=rfl;have ao:x.pl.names.Nodup:=by rw[hI.nn];exact hI.nd
  refine Ae func65 J 31 ntmps65 J (G2 ?_);refine .box1 J J J ?_;intro n2 bg a8;refine G5 ?_;refine .mkMap (Ak 32 evI) J J ?_;intro aa;refine .alloc (cs:=[.map none]) J Zr117 J ?_;intro n5 bi ba;refine .s1 J J J J J Sz117 Z0 sP (by rfl) zU ?_;refine G4 ?_;refine .alloc (cs:=[.nilFunc]) J Zr115 J ?_;intro n6 bj bc;refine G5 ?_;refine .s1 J J J J J Sz115 Z0 sP (by rfl) zU ?_;refine G5 ?_;refine .call4 J J J J J Body69 (lin_set s ls) (λw h=>B4 h J hW.2) ?_;rintro bn ay ⟨ar,rfl,rfl⟩;refine G7 ?_;refine .call4 J J J J J Body12 (dag_names x hx p) (λw h=>Bf hW.1 h) ?_;rintro bo ak ⟨ah,rfl,ae⟩;have a2:=ae.num;refine G5 ?_;refine .loop (ι:=Nat×List (List UInt8×Int)×List (List UInt8×Unit)) (λr=>⟨[(2,ptr n2 0),(4, .nilFunc),(5,ptr n5 0),(6,ptr n6 0),(7, .map (some ar)),(15,ah.v),(16,i64 (ah.n:Int)),(17,i64 (r.1:Int))],(A3 aa (Ak 32 evI) r.2.1::(A3 ar (Ak 32 evU) r.2.2::(ak++(⟨n6,[.func (.func 109) #[] #[ptr n5 0,ptr n2 0,ptr n6 0]],115,1⟩::(⟨n5,[.map (some aa)],117,1⟩::(⟨n2,[ptr p 0],25,1⟩::[]))))))⟩) (λr=>r.1<=ah.n/\DMap x.pl r.2.1 (x.pl.names.take r.1)/\(r.2.2.map (·.1)).Nodup/\∀n∈ls,n∈x.pl.names.take r.1\/n∈r.2.2.map (·.1)) (λr=>ah.n-r.1) ((0,[],setP ls)) ?_ ?_ ?_
  .exact⟨Laf _,DMap.none _,(setP_keys ls).1,λn hn=> .inr ((setP_keys ls).2 n hn)⟩
  .exact Af wN (Ab rM (Ab (by repeat(first|exact A4|apply Bq)) (Ac sG (Ab rM (Ab rM (Ab rM Ad))))))
  rintro⟨k,fs,rs⟩ ⟨hk,ad,ai,aj⟩;simp only at hk ad ai aj ⊢;refine G6 ?_;refine .condP J (λau=>?_) (λau=>?_)
  ·
    have ab:k<x.pl.names.length:=by omega
    obtain⟨a7,bm,ap,am⟩:=par_open ae oM hx.n32;have ac:(x.pl.names.getD k []).length=32:=hx.n32 _ (Cm ab);obtain⟨D,hD,an,aw⟩:=hO.before hI (k:=k) (n:=(x.pl.names.getD k [])) (by rw[La3,La4 ab];rfl);have ax:An fs (x.pl.names.getD k [])=none:=by
      cases h9:An fs (x.pl.names.getD k [])with
      |none=>rfl
      |some v9=>exact absurd (ad.only _ _ h9) (not_before ao ab)
    have aq:∀q∈Bj D,An fs q=some (x.pl.dp q):=λq hq=>ad.all q (an q hq);refine G6 ?_;refine .idxSlP 32 J J J ap J Y32.h Sz31 k J oM (.loadSN (n:=32) (Aa (x.pl.names.getD k [])) J J J Y31.h J Sz31 (by rw[Aa,La0];exact ac) (λw h=>am w (Lies.of h (by repeat(first|exact Ap|refine A1 ?_))) k ab) ?_);refine .alloc (cs:=(Aa (List.replicate 32 0))) J Bz J ?_;intro n9 bk be;refine .sA J J J J zE Sz31 (by(rw[Aa,La0];assumption)) Z0 sP zU ?_;refine G6 ?_;refine .lenMap Y119.h J J J Z2 ?_;refine G3 ?_;refine .condP J (λav=>?_) (λav=>?_)
    ·
      have ag:∀n∈ls,n∈x.pl.names->n∈x.pl.names.take k:=λn hn _=>by
        rcases aj n hn with h9|h9
        .exact h9
        . have hz:rs=[]:=Lai oM
          rw[hz]at h9;cases h9
      refine G2 ?_;refine bl_x J (G10 ?_);refine G2 ?_;refine Ao (out:=(A3 aa (Ak 32 evI) fs::(⟨n6,[.func (.func 109) #[] #[ptr n5 0,ptr n2 0,ptr n6 0]],115,1⟩::(⟨n5,[.map (some aa)],117,1⟩::(⟨n2,[ptr p 0],25,1⟩::[]))))) (Ag J J) (Ab rM (Ab rM (Ab rM (Ab rM Ad)))) ?_;exact⟨n5,n2,n6,aa,fs,_,⟨rfl,rfl,ad⟩,ag⟩
    refine G5 ?_;refine .lA J J J Y31.h J Sz31 Z0 (by(rw[Aa,La0];assumption)) ?_;refine .callCL (L:=[A3 aa (Ak 32 evI) fs]) J J J J J J Body109 (depth_next x hx hI p (x.pl.names.getD k []) ac D hD n5 n2 n6 aa fs ax aq aw) (show List.Perm _ (A3 aa (Ak 32 evI) fs::_)from rM) (lent_ok J) (λw h=>⟨Lent.of h (by repeat(first|exact C8|apply sg_there)),Bf hW.1 h,own_apart (B:=A3 aa (Ak 32 evI) fs) h Z1 hW.1,⟨(Cd (B:=⟨n5,[.map (some aa)],117,1⟩) h mR).cell (o:=0) J,names_apart (A:=⟨n5,[.map (some aa)],117,1⟩) (B:=A3 aa (Ak 32 evI) fs) h mR Z1 (by show ¬(1:Nat)=0;decide)⟩,⟨(Cd (B:=⟨n2,[ptr p 0],25,1⟩) h mR).cell (o:=0) J,names_apart (A:=⟨n2,[ptr p 0],25,1⟩) (B:=A3 aa (Ak 32 evI) fs) h mR Z1 (by show ¬(1:Nat)=0;decide)⟩,(Cd (B:=⟨n6,[.func (.func 109) #[] #[ptr n5 0,ptr n2 0,ptr n6 0]],115,1⟩) h mR).cell (o:=0) J,names_apart (A:=⟨n6,[.func (.func 109) #[] #[ptr n5 0,ptr n2 0,ptr n6 0]],115,1⟩) (B:=A3 aa (Ak 32 evI) fs) h mR Z1 (by show ¬(1:Nat)=0;decide)⟩) ?_;rintro bp az ⟨rfl,rfl⟩;refine G4 ?_;refine .lA J J J Y31.h J Sz31 Z1 (by(rw[Aa,La0];assumption)) ?_;refine .mapDel MN J J J J ac rM ?_;refine G8 ?_;refine⟨(k+1,Bh fs (x.pl.names.getD k []) (x.pl.dp (x.pl.names.getD k [])),mdel rs (x.pl.names.getD k [])),⟨by simp only;omega,?_,mdel_nodup ai _,λn hn=>?_⟩,by simp only;omega,Af wN (Ab rM (Ab rM (Ac sG (Ab rM (Ab rM (Ab rM Ad))))))⟩
    .simp only;rw[Bt ab];exact ad.put (not_before ao ab)
    . simp only
      by_cases e:n=(x.pl.names.getD k [])
      .left;rw[Bt ab,e];exact Lat _ La9
      . rcases aj n hn with h9|h9
        .left;rw[Bt ab];exact Lak _ h9
        .right;exact(mdel_keys ai _ _).2 ⟨h9,e⟩
  have ag:∀n∈ls,n∈x.pl.names->n∈x.pl.names.take k:=λn _ hn=>by rw[La5 oM];exact hn
  refine G11 ?_;refine G2 ?_;refine Ao (out:=(A3 aa (Ak 32 evI) fs::(⟨n6,[.func (.func 109) #[] #[ptr n5 0,ptr n2 0,ptr n6 0]],115,1⟩::(⟨n5,[.map (some aa)],117,1⟩::(⟨n2,[ptr p 0],25,1⟩::[]))))) (Ag J J) (Ab rM (Ab rM (Ab rM (Ab rM Ad)))) ?_;exact⟨n5,n2,n6,aa,fs,_,⟨rfl,rfl,ad⟩,ag⟩
noncomputable def Cl(X:PD)(L:List (List UInt8)):List (List UInt8):=(X.P.map (·.1)).filter λn=>rB X (-1) L n
theorem clos_len(hI:X.Inv)(ab:ks.Nodup)(aa:∀n,n∈ks↔X.Reach (-1) L n):ks.length=(Cl X L).length:=by
  refine((Lfo ab (hI.nd.filter _)).2 λn=>?_).length_eq;rw[aa,Lb7,rB_iff];refine⟨λh=>⟨?_,h⟩,λh=>h.2⟩;obtain⟨D,hD⟩:=reach_P h;exact La6.2 ⟨(n,D),Bi hD,rfl⟩
theorem seesP_left{p:Option Addr}{a b:List Value}(h:SeesP W p (a++b)):SeesP W p a:=λj v hj=>h j v (by rw[Lb1 (Laa.1 hj).1];exact hj)
theorem rows_take{m:Nat}(h:SeesP W s.p (Aq ls))(hr:∀l∈ls,l.length=32):SeesP W s.p (Aq (ls.take m)):=by
  have e:Aq ls=Aq (ls.take m)++Aq (ls.drop m):=by rw[<-Br,Lbt]
  rw[e]at h;exact seesP_left h
theorem reach_nil{a:Int}(h:X.Reach a [] n):False:=by
  induction h with
  |base h1 _ _=>cases h1
  |step _ _ _ _ _ ih=>exact ih
structure RRel(X:PD)(P Q:List (List UInt8×DB)):Prop where
  p:P=X.P
  q:Q.Perm X.orp
  s:SortB (Q.map (·.1))
theorem drop_get{a:α}(h:l[i]? =some a):l.drop i=a::l.drop (i+1):=by
  obtain⟨h1,h2⟩:=Laa.1 h;rw[<-h2];exact Lbo h1
theorem perm_erase(h:i<l.length):(l[i]::l.eraseIdx i).Perm l:=by
  have e:l=l.take i++l[i]::l.drop (i+1):=by rw[<-Lbo h,Lbt]
  rw[Ld9];refine Ldu.symm.trans ?_;exact List.Perm.of_eq e.symm
theorem mdel_perm[DecidableEq κ]{k:κ}(hn:(fs.map (·.1)).Nodup)(h:(k,v)∈fs):fs.Perm ((k,v)::mdel fs k):=by
  have hi:∃j,midx fs k=some j:=by
    cases hi:midx fs k with
    |some j=>exact⟨j,rfl⟩
    | none=>
      exfalso;unfold midx at hi;have h9:=Ldg.1 hi _ h;simp at h9
  obtain⟨j,hj⟩:=hi;have h2:mdel fs k=fs.eraseIdx j:=by unfold mdel;rw[hj]
  unfold midx at hj;rw[Lbu]at hj;obtain⟨hl,he,_⟩:=hj;have h3:fs[j]=(k,v):=nodup_inj (f:=λp:κ×ν=>p.1) hn _ (Lcq hl) _ h (of_decide_eq_true he);rw[h2,<-h3];exact(perm_erase hl).symm
section
variable{X:PD}{P Q:List (List UInt8×DB)}{i:Nat}{n:List UInt8}{D:DB}
variable{l:List RE}
theorem RRel.keys(h:RRel X P Q):Q.map (·.1)=isort (X.orp.map (·.1)):=isort_eq (h.q.map _) h.s
theorem RRel.at(h:RRel X P Q)(hI:X.Inv)(hi:Q[i]? =some (n,D)):(Q.map (·.1)).getD i []=n/\An X.orp n=some D:=by
  refine⟨by rw[La3,Lad,hi];rfl,?_⟩;obtain⟨j,hj,e⟩:=Lb8 (h.q.mem_iff.1 (Lau hi));have h1:=mget_some hI.od (j:=j) (p:=(n,D)) (by rw[La4 hj,e]);exact h1
theorem RRel.waits(h:RRel X P Q)(hI:X.Inv)(hw:∀j,j<i->∀q,Q[j]? =some q->Bv X.P q.2=0)(hl:i<=Q.length):∀j,j<i->Bv X.P ((An X.orp ((Q.map (·.1)).getD j [])).getD DB.zero)=0:=λj hj=>by
  have h1:Q[j]? =some (Q[j]'oM):=La4 oM;obtain⟨h2,h3⟩:=h.at hI (n:=(Q[j]'oM).1) (D:=(Q[j]'oM).2) h1;rw[h2,h3];exact hw j hj _ h1
theorem RRel.first(h:RRel X P Q)(hI:X.Inv)(hw:∀j,j<i->∀q,Q[j]? =some q->Bv X.P q.2=0)(hi:Q[i]? =some (n,D))(hj:Bv X.P D≠0):X.first=some n:=by
  have hlt:=(Laa.1 hi).1;obtain⟨h2,h3⟩:=h.at hI hi;have h4:=first_at h.keys (k:=i) (by rw[La0];exact hlt) (h.waits hI hw oM) (by rw[h2,h3];exact hj);rw[h4,h2]
theorem RRel.done(h:RRel X P Q)(hI:X.Inv)(hw:∀j,j<i->∀q,Q[j]? =some q->Bv X.P q.2=0)(hl:i=Q.length):X.first=none:=
  first_none h.keys (by rw[La0,<-hl];exact h.waits hI hw oM)
theorem RRel.drop(h:RRel X P Q)(hI:X.Inv)(hi:Q[i]? =some (n,D)):RRel (X.drop1 n) P (Q.eraseIdx i) where
  p:=h.p
  q :=by
    have hlt:=(Laa.1 hi).1;have h1:=perm_erase hlt;rw[(Laa.1 hi).2]at h1;have h2:=mdel_perm hI.od (h.q.mem_iff.1 (Lau hi));exact((h1.trans h.q).trans h2).cons_inv
  s :=by
    have h1:((Q.eraseIdx i).map (·.1)).Sublist (Q.map (·.1)):=(Ldo Q i).map _;exact h.s.sublist h1
theorem RRel.adm(h:RRel X P Q)(hn:n∉X.P.map (·.1)):RRel (X.adm n D) (P++[(n,D)]) Q where
  p:=by rw[h.p];exact(mput_app (key_none hn) D).symm
  q:=h.q
  s:=h.s
theorem RRel.wait(h:RRel X P Q)(hn:An X.orp n=none)(h1:∀j,j<i->∀q,Q[j]? =some q->Cn q.1 n<0)(h2:∀q,Q[i]? =some q->¬Cn q.1 n<0):RRel { X with orp:=Bh X.orp n D } P (Q.take i++(n,D)::Q.drop i) where
  p:=h.p
  q :=by
    show(Q.take i++(n,D)::Q.drop i).Perm (Bh X.orp n D);rw[mput_app hn];refine Ldu.trans ?_;rw[Lbt];exact(List.Perm.cons _ h.q).trans (Lcy (l₁:=[(n,D)]))
  s :=by
    have h3:SortB ((Q.take i).map (·.1)++(Q.drop i).map (·.1)):=by rw[<-Lae,Lbt];exact h.s
    unfold SortB at h3 ⊢;rw[Lfr]at h3;obtain⟨h4,h5,h6⟩:=h3;have h7:∀q∈Q.take i,Cn q.1 n<=0:=λq hq=>by
      obtain⟨j,hj,rfl⟩:=Lb8 hq;rw[Lac]at hj;have h9:=h1 j oM (Q[j]'oM) (La4 oM);rw[Lgg];omega
    have h8:∀q∈Q.drop i,Cn n q.1<=0:=λq hq=>by
      cases hd:Q[i]? with
      |none=>rw[Lao (List.getElem?_eq_none_iff.1 hd)]at hq;cases hq
      | some e=>
        have he:=h2 e hd;have aa:=cmpB_neg e.1 n;rw[drop_get hd]at hq h5;rcases Lam.1 hq with rfl|hq
        .omega
        . rw[Lar,Ld4]at h5
          have h9:=h5.1 q.1 (La6.2 ⟨q,hq,rfl⟩);have:=cmpB_trans n e.1 q.1;omega
    rw[Lae,Lar,Lfr,Ld4];refine⟨h4,⟨λb hb=>?_,h5⟩,λa ha b hb=>?_⟩
    . obtain⟨q,hq,rfl⟩:=La6.1 hb
      exact h8 q hq
    . rcases Lam.1 hb with rfl|hb
      . obtain⟨q,hq,rfl⟩:=La6.1 ha
        exact h7 q hq
      .exact h6 a ha b hb
theorem RRel.has(h:RRel X P Q)(n:List UInt8):An Q n=none->An X.orp n=none:=λh1=>by
  refine key_none λhm=>?_;rw[<-(h.q.map _).mem_iff]at hm;obtain⟨v,hv⟩:=C2 hm;rw[h1]at hv;cases hv
theorem RRel.hasQ(h:RRel X P Q)(n:List UInt8):An X.orp n=none->An Q n=none:=λh1=>by
  refine key_none λhm=>?_;rw[(h.q.map _).mem_iff]at hm;obtain⟨v,hv⟩:=C2 hm;rw[h1]at hv;cases hv
theorem RRel.someQ(h:RRel X P Q)(n:List UInt8)(h1:(An Q n).isSome=true):(An X.orp n).isSome=true:=by
  cases hm:An X.orp n with
  |none=>rw[h.hasQ n hm]at h1;cases h1
  |some v=>rfl
theorem add_same(h:((An X.orp (A6 D)).isSome||(An X.P (A6 D)).isSome)=true):(X.add D).1=X:=by
  by_cases hg:dgood D=0
  .rw[add_there hg h]
  .rw[add_bad hg]
theorem rp_at{e:RE}(h:l[i]? =some e):(rp l)[i]? =some (e.1.fName,e.2):=by unfold rp;rw[Lad,h];rfl
theorem rp_of{q:List UInt8×DB}(h:(rp l)[i]? =some q):∃e,l[i]? =some e/\q=(e.1.fName,e.2):=by
  unfold rp at h;rw[Lad]at h;obtain⟨e,h1,h2⟩:=Lek.1 h;exact⟨e,h1,h2.symm⟩
theorem rp_app(a b:List RE):rp (a++b)=rp a++rp b:=Lae
theorem rp_take(l:List RE)(i:Nat):rp (l.take i)=(rp l).take i:=Lbh
theorem rp_drop(l:List RE)(i:Nat):rp (l.drop i)=(rp l).drop i:=Leb
theorem rp_erase(l:List RE)(i:Nat):rp (l.take i++l.drop (i+1))=(rp l).eraseIdx i:=by rw[Ld9,rp_app,rp_take,rp_drop]
end
variable{B:Block}{D:DB}{N i:Nat}{T:PD}{bl o:List Blk}{e:RE}{l:List RE}{s:Sl}{w:World}{x:RD}
theorem not_keyN{κ ν:Type}[DecidableEq κ]{ms:List (κ×ν)}{n:κ}(h:An ms n=none):n∉ms.map (·.1):=λhm=>by
  obtain⟨v,hv⟩:=C2 hm;rw[h]at hv;cases hv
structure RG where
  x:RD
  X:PD
  i:Nat
  s:Sl
  bl:List Blk
  l:List (List UInt8)
structure RG.ok(g:RG)(N:Nat)(T:PD):Prop where
  ok:g.x.ok
  inv:g.X.Inv
  rel:RRel g.X g.x.P g.x.Q
  le:g.i<=g.x.O.length
  wt:∀j,j<g.i->∀q,g.x.Q[j]? =some q->Bv g.X.P q.2=0
  acc:Hw.Acc g.s g.bl (Aq g.l) 31 g.l.length 32
  ll:g.l.length+g.x.O.length<=65
  sz:g.x.L.length+g.x.O.length<=N
  tgt:(PD.settle g.X.orp.length g.X).1=T
theorem RG.ok.more{g:RG}(h:g.ok N T)(he:g.x.O[g.i]? =some e)(hj:Bv g.X.P e.2=0):(⟨g.x,g.X,g.i+1,g.s,g.bl,g.l⟩:RG).ok N T:={ h with
  le:=(Laa.1 he).1
  wt :=λj aa q hq=>by
    rcases Lb4.1 aa with h1|rfl
    .exact h.wt j h1 q hq
    . obtain⟨e2,h2,rfl⟩:=rp_of hq
      rw[he]at h2;cases h2;exact hj }
def RD.less(x:RD)(i:Nat)(s:Sl)(bl:List Blk):RD:={ x with sO:=s,bO:=bl,O:=x.O.take i++x.O.drop (i+1) }
theorem RD.ok.less(h:x.ok)(hi:i<x.O.length)(aa:Hw.Acc s bl (rkc (x.O.take i++x.O.drop (i+1))) 113 (x.O.take i++x.O.drop (i+1)).length 163):(x.less i s bl).ok:={ h with
  accO:=aa
  entO:=λe he=>h.entO e (by
    rcases La8.1 he with h1|h1
    .exact Lbi h1
    .exact Lct h1)
  big:=by
    have:=h.big;show x.L.length+(x.O.take i++x.O.drop (i+1)).length<=20000;rw[La2,Lac,Laz];omega
  few:=by
    have:=h.few;show(x.O.take i++x.O.drop (i+1)).length<=64;rw[La2,Lac,Laz];omega }
def RD.more(x:RD)(e:RE)(s:Sl)(bl o:List Blk):RD:={ x with sL:=s,bL:=bl,L:=x.L++[e],cb:=o }
theorem RD.ok.more(h:x.ok)(ab:Hw.Acc s bl (rkc x.L++e.1.cells) 113 (x.L.length+1) 163)(aa:∀b∈x.cb,b∈o)(he:e.1.ok/\Held o e.1.fBlock e.2/\e.2.ls.length<=16)(hr:x.L.length+x.O.length<20000):(x.more e s bl o).ok where
  accL:=by
    show Hw.Acc s bl (rkc (x.L++[e])) 113 (x.L++[e]).length 163;rw[rkc_app,rkc_one,La2];exact ab
  accO:=h.accO
  entL:=λq hq=>by
    rcases La8.1 hq with h1|h1
    . have h2:=h.entL q h1
      exact⟨h2.1,h2.2.1.more aa,h2.2.2⟩
    .rw[La1.1 h1];exact he
  entO:=λq hq=>by
    have h2:=h.entO q hq;exact⟨h2.1,h2.2.1.more aa,h2.2.2⟩
  big:=by
    show(x.L++[e]).length+x.O.length<=20000;rw[La2,Laq];omega
  few:=h.few
def RD.wait(x:RD)(i:Nat)(e:RE)(s:Sl)(bl o:List Blk):RD:={ x with sO:=s,bO:=bl,O:=x.O.take i++e::x.O.drop i,cb:=x.cb++o }
theorem RD.ok.wait(h:x.ok)(hi:i<=x.O.length)(ab:Hw.Acc s bl (rkc (x.O.take i)++e.1.cells++rkc (x.O.drop i)) 113 (i+1+(x.O.length-i)) 163)(he:e.1.ok/\Held (x.cb++o) e.1.fBlock e.2/\e.2.ls.length<=16)(hr:x.L.length+x.O.length<20000)(h6:x.O.length<64):(x.wait i e s bl o).ok:=by
  have aa:(x.O.take i++e::x.O.drop i).length=x.O.length+1:=by rw[La2,Lax,Lac,Laz];omega
  exact {
    accL:=h.accL
    accO:=by
      show Hw.Acc s bl (rkc (x.O.take i++e::x.O.drop i)) 113 (x.O.take i++e::x.O.drop i).length 163;rw[aa,show x.O.take i++e::x.O.drop i=x.O.take i++[e]++x.O.drop i by simp,rkc_app,rkc_app,rkc_one,show x.O.length+1=i+1+(x.O.length-i) by omega];exact ab
    entL:=λq hq=>by
      have h2:=h.entL q hq;exact⟨h2.1,h2.2.1.more λb hb=>Lak _ hb,h2.2.2⟩
    entO :=λq hq=>by
      have h3:q=e\/q∈x.O:=by
        rcases La8.1 hq with h1|h1
        .exact .inr (Lbi h1)
        . rcases Lam.1 h1 with h1|h1
          .exact .inl h1
          .exact .inr (Lct h1)
      rcases h3 with rfl|h3
      .exact he
      . have h2:=h.entO q h3
        exact⟨h2.1,h2.2.1.more λb hb=>Lak _ hb,h2.2.2⟩
    big:=by
      show x.L.length+(x.O.take i++e::x.O.drop i).length<=20000;omega
    few:=by
      show(x.O.take i++e::x.O.drop i).length<=64;omega }
theorem RG.ok.drop{g:RG}(h:g.ok N T)(he:g.x.O[g.i]? =some e)(hj:wrongB g.X.P e.2=true)(ab:Hw.Acc s bl (rkc (g.x.O.take g.i++g.x.O.drop (g.i+1))) 113 (g.x.O.take g.i++g.x.O.drop (g.i+1)).length 163):(⟨g.x.less g.i s bl,g.X.drop1 e.1.fName,0,g.s,g.bl,g.l⟩:RG).ok N T:=by
  have hlt:=(Laa.1 he).1;have hq:g.x.Q[g.i]? =some (e.1.fName,e.2):=rp_at he;have aa:=judge_wrong hj;have hf:=h.rel.first h.inv h.wt hq (by rw[aa];decide);have hD:=(h.rel.at h.inv hq).2;have ac:(g.x.O.take g.i++g.x.O.drop (g.i+1)).length+1=g.x.O.length:=by rw[La2,Lac,Laz];omega
  have ad:=h.ll;have ae:=h.sz;exact{
    ok:=h.ok.less hlt ab
    inv:=h.inv.drop _
    rel:=by
      show RRel (g.X.drop1 e.1.fName) g.x.P (rp (g.x.O.take g.i++g.x.O.drop (g.i+1)));rw[rp_erase];exact h.rel.drop h.inv hq
    le:=Laf _
    wt:=λj hj=>absurd hj (Lcj _)
    acc:=h.acc
    ll:=by show g.l.length+(g.x.O.take g.i++g.x.O.drop (g.i+1)).length<=65;omega
    sz:=by show g.x.L.length+(g.x.O.take g.i++g.x.O.drop (g.i+1)).length<=N;omega
    tgt:=by
      have h1:=mdel_one hD;have h2:=h.tgt;rw[<-h1,settle_wrong hf hD (by rw[aa];decide)]at h2;exact h2 }
theorem RG.ok.fit{g:RG}(h:g.ok N T)(he:g.x.O[g.i]? =some e)(hj:wrongB g.X.P e.2=false)(hr:readyB g.X.P e.2=true){s s2 s3:Sl}{bl bl2 bl3:List Blk}(ae:Hw.Acc s bl (rkc (g.x.O.take g.i++g.x.O.drop (g.i+1))) 113 (g.x.O.take g.i++g.x.O.drop (g.i+1)).length 163)
    (ab:Hw.Acc s2 bl2 (rkc g.x.L++e.1.cells) 113 (g.x.L.length+1) 163) (ac:Hw.Acc s3 bl3 (Aq g.l++Aa e.1.fName) 31 (g.l.length+1) 32):(⟨(g.x.less g.i s bl).more e s2 bl2 g.x.cb,(g.X.drop1 e.1.fName).adm e.1.fName e.2,0,s3,bl3,g.l++[e.1.fName]⟩:RG).ok N T:=by
  have hlt:=(Laa.1 he).1;have hq:g.x.Q[g.i]? =some (e.1.fName,e.2):=rp_at he;have ad:Bv g.X.P e.2=1:=by unfold Bv;rw[hj,hr];rfl
  have hf:=h.rel.first h.inv h.wt hq (by rw[ad];decide);have hD:=(h.rel.at h.inv hq).2;have aa:=h.inv.oc _ (Bi hD);have aj:(g.x.O.take g.i++g.x.O.drop (g.i+1)).length+1=g.x.O.length:=by rw[La2,Lac,Laz];omega
  have ak:=h.ll;have am:=h.sz;have ai:=h.ok.big;have ag:=h.ok.entO e (Lau he);have ah:=h.ok.less hlt ae;exact{
    ok:=ah.more ab (λb hb=>hb) ag (by show g.x.L.length+(g.x.O.take g.i++g.x.O.drop (g.i+1)).length<20000;omega)
    inv:=(h.inv.drop _).adm aa.2 (λh2=>((mdel_keys h.inv.od _ _).1 h2).2 rfl) aa.1 hr
    rel:=by
      show RRel _ (rp (g.x.L++[e])) (rp (g.x.O.take g.i++g.x.O.drop (g.i+1)));rw[rp_erase,rp_app];exact(h.rel.drop h.inv hq).adm aa.2
    le:=Laf _
    wt:=λj hj=>absurd hj (Lcj _)
    acc:=by
      show Hw.Acc s3 bl3 (Aq (g.l++[e.1.fName])) 31 (g.l++[e.1.fName]).length 32;rw[Br,La2,show Aq [e.1.fName]=Aa e.1.fName by simp[Aq]];exact ac
    ll:=by show(g.l++[e.1.fName]).length+(g.x.O.take g.i++g.x.O.drop (g.i+1)).length<=65;rw[La2,Laq];omega
    sz:=by show(g.x.L++[e]).length+(g.x.O.take g.i++g.x.O.drop (g.i+1)).length<=N;rw[La2,Laq];omega
    tgt:=by
      have h1:=mdel_one hD;have h2:=h.tgt;rw[<-h1,settle_fit hf hD ad]at h2;exact h2 }
theorem RG.start(hx:x.ok){X:PD}(hI:X.Inv)(hR:RRel X x.P x.Q){q:Nat}(aa:x.L.length+x.O.length<20000)(ab:Hw.Acc s bl (rkc x.L++(⟨A6 D,B⟩:RKn).cells) 113 (x.L.length+1) 163)(he:(⟨A6 D,B⟩:RKn).ok/\Held (x.cb++o) B D/\D.ls.length<=16)
    (hg:dgood D=0) (hP:An X.P (A6 D)=none) (hQ:An X.orp (A6 D)=none) (hj:Bv X.P D=1):(⟨x.more (⟨A6 D,B⟩,D) s bl (x.cb++o),X.adm (A6 D) D,0,⟨some ⟨q,0,none⟩,1,1⟩,[⟨q,Aa (A6 D),31,32⟩],[A6 D]⟩:RG).ok (x.L.length+x.O.length+1) (X.add D).1 where
  ok:=hx.more ab (λb hb=>Lak _ hb) he aa
  inv:=hI.adm (not_keyN hP) (not_keyN hQ) (good_check hg) (judge_ready hj)
  rel:=by
    show RRel _ (rp (x.L++[((⟨A6 D,B⟩:RKn),D)])) (rp x.O);rw[rp_app];exact hR.adm (not_keyN hP)
  le:=Laf _
  wt:=λj hj=>absurd hj (Lcj _)
  acc:=by
    show Hw.Acc _ _ (Aq [A6 D]) 31 1 32;rw[show Aq [A6 D]=Aa (A6 D) by simp[Aq]];exact Acc.some (Lag 1) (show(Aa (A6 D)).length=1*32 by rw[Aa,La0,nameD_length])
  ll:=by have:=hx.few;show 1+x.O.length<=65;omega
  sz:=by show(x.L++[_]).length+x.O.length<=_;rw[La2,Laq];omega
  tgt:=by
    have ac:((An X.orp (A6 D)).isSome||(An X.P (A6 D)).isSome)=false:=by rw[hP,hQ];rfl
    rw[add_fits hg ac hj]
theorem RG.ok.fin{g:RG}(h:g.ok N T)(hi:g.i=g.x.O.length):RRel T g.x.P g.x.Q:=by
  have h1:=h.tgt;rw[settle_done (h.rel.done h.inv h.wt (by rw[hi];exact(La0 _).symm))]at h1;rw[<-h1];exact h.rel
def RAddR(x:RD)(p:Nat)(T:PD)(v:Value)(out:List Blk):Prop:=∃(x':RD) (e:Int) (s:Sl) (bl:List Blk),v= .tuple #[s.v,i64 e]/\out=x'.blks p++bl/\x'.ok/\RRel T x'.P x'.Q/\x'.L.length+x'.O.length<=x.L.length+x.O.length+1
theorem rd_of{C:Cx}{p:Nat}{hp:List Blk}(h:HRep C hp w)(h1:⟨p,[x.sL.v,x.sO.v],111,2⟩∈hp)(h2:Lies x.bL w)(h3:Lies x.bO w)(h4:Lies x.cb w):Lies (x.blks p) w:=λb hb=>by
  rcases Lam.1 hb with rfl|hb
  .exact h.cells _ h1
  . rcases La8.1 hb with hb|hb
    .exact h2 b hb
    . rcases La8.1 hb with hb|hb
      .exact h3 b hb
      .exact h4 b hb
theorem rk_open(h:Hw.Acc s bl (rkc l) 113 l.length 163)(h0:0<l.length):∃b o,s.p=some ⟨b,o,none⟩/\∀w,Lies bl w->Dd w b o (rkc l):=by
  rcases h with ⟨_,_,_,e⟩|⟨q,c,rfl,h1,h2,rfl⟩
  .omega
  .exact⟨q,0,rfl,λw hw=>sees_kok (hw _ La9) λj v hj=>by rw[Lb0];exact hj⟩
theorem rk_take{p:Option Addr}(h:SeesP w p (rkc l)):SeesP w p (rkc (l.take i)):=by
  have e:rkc l=rkc (l.take i)++rkc (l.drop i):=by rw[<-rkc_app,Lbt]
  rw[e]at h;exact seesP_left h
theorem rkc_drop(aa:∀e∈l,e.1.ok)(i:Nat):rkc (l.drop i)=(rkc l).drop (i*163):=by
  have e:rkc l=rkc (l.take i)++rkc (l.drop i):=by rw[<-rkc_app,Lbt]
  have h1:=rkc_len (l:=l.take i) λq hq=>aa q (Lbi hq);rw[Lac]at h1;rcases Nat.le_total i l.length with h2|h2
  . rw[Lc6 h2]at h1
    rw[e,<-h1,List.drop_left]
  .rw[Lao h2,Lao (by rw[rkc_len aa];omega)];rfl
theorem same_of{W:World}(h:BlockIs W B D):SameB B D:=⟨h.ok,h.w,h.seq,h.prev,h.sg,h.ls.len.symm,h.ds.len.symm⟩
section
variable{C:Cx}{ops:Array Oper}{rest:List (Nat×Oper)}{sl:List (Nat×Value)}{hp:List Blk}{Q:St->Prop}{c d:Nat}{ty:TypeId}{pos:String}{af:Array Edge}{g:Option (Nat×Bool)}
theorem Tr.sliceLoA{x lo:Operand}{s:Sl}{bl:List Blk}{cells:List Value}{n:Nat}{T E:TypeId}{kl:IntKind}{l:Int}{sz:Nat}(j:Nat)(hg:Al ops sl g=true)(hk:okD c d C.N=true)(hx:Ai sl x=some s.v)(hl:Ai sl lo=some (.int kl l))(hj:l=j)(aa:Hw.Acc s bl cells E n sz)(hjn:j<=n)
    (hu:C.P.underlying T=some (.slice E)) (hs:Sz C.P E sz)
    (k:∀s':Sl,s'.n=n-j->(s'.p=none->s'.n=0)->(∀w,Lies bl w->SeesP w s'.p (cells.drop (j*sz)))->s'.n<=s'.c->(s'.p=none->s'.c=0)->Tr C ops rest ⟨(d,s'.v)::sl,hp⟩ Q):Tr C ops ((c,⟨some d, .slice T x (some lo) none none,ty,pos,af,g⟩)::rest) ⟨sl,hp⟩ Q:=by
  rcases aa with ⟨rfl,rfl,rfl,rfl⟩|⟨q,cp,rfl,h1,h2,rfl⟩
  . obtain rfl:j=0:=by omega
    subst hj;exact Tr.sliceLoNil hg hk hx hl hu hs (k Sl.nil rfl (λ_=>rfl) (λw _=>by rw[List.drop_nil];exact SeesP.nil) (Lag _) (λ_=>rfl))
  . refine Tr.sliceLoN j hg hk hx hl hj hjn h1 hu hs (k ⟨some ⟨q,if cp=j then 0 else 0+j*sz,none⟩,n-j,cp-j⟩ rfl (λe=>by cases e) (λw hw=>?_) (by show n-j<=cp-j;omega) (λe=>by cases e))
    have h3:Dd w q 0 cells:=sees_kok (hw _ La9) λi v hi=>by rw[Lb0];exact hi
    by_cases ab:cp=j
    . obtain rfl:n=j:=by omega
      rw[Lao oM];exact SeesP.nil
    . show SeesP w (some ⟨q,if cp=j then 0 else 0+j*sz,none⟩) _
      rw[if_neg ab];refine SeesP.of λi v hi=>?_;rw[Lba]at hi;have h4:=h3 _ _ hi;rwa[show 0+(j*sz+i)=0+j*sz+i by omega]at h4
end
theorem rd_add(x:RD)(hx:x.ok)(X:PD)(hI:X.Inv)(hR:RRel X x.P x.Q)(p:Nat)(B:Block)(D:DB)(a1:x.L.length+x.O.length<20000)(c5:D.ls.length<=500000)(c6:D.ds.length<=500000):Meets prog 63 [ptr p 0,agg B.cells] ((x.blks p).map (·.n)) (λW=>Lent (x.blks p) W/\∀w2,Keeps ((x.blks p).map (·.n)) W w2->BlockIs w2 B D) (RAddR x p (X.add D).1):=by
 intro W hW;have ar:=hW.2;have bk:=ar W (Keeps.refl _ _);have hB:=same_of bk;have cf:=bk.dok;have ag:=nameD_length D;have da:=hx.big;have dc:=hx.few;have dy:=hx.accL.num;have c4:=hx.accO.num;have di:=hx.accO.cap;generalize hlt:(x.blks p).map (·.n)=lt at ar;refine calls_of (hp0:=(⟨p,[x.sL.v,x.sO.v],111,2⟩::(x.bL++(x.bO++x.cb)))) func63 J 178 ntmps63 J (hlt▸hW.1.rep) (G3 ?_);intro n3 dw dj;refine G5 ?_;refine .draw (oPq [100,102,301,303,4,205,406]) Au zK (.lA J J J Y37.h J Sz37 Z0 (Block.length (by exact hB.ok)) ?_);refine .lA J J J Y37.h J Sz37 Z0 (Block.length (by exact hB.ok)) ?_;refine .cV J J J J Body43 (r15_Name B D hB.ok) (λw h=>ar w h.keeps) (.call J J J J Body102 (r15_Copy B D hB.ok c5 c6) (BlkV.loose D cf) (λw h=>ar w h.keeps) ?_);rintro d6 ad ⟨B2,a6,rfl,cd⟩;have aa:(⟨A6 D,B2⟩:RKn).ok:=⟨ag,a6.ok⟩;refine .build (cs:=(⟨A6 D,B2⟩:RKn).cells) J J J (λw=>run_build2 (a:=agg (Aa (A6 D))) (b:=agg B2.cells) (ca:=Aa (A6 D)) (cb:=B2.cells) RKn.zr Y113.h J J Sz31 Sz37 (RKn.length RKn.zero_ok) J J (by rw[Aa,La0];exact ag) (Block.length a6.ok) w) ?_;refine .alloc (cs:=RKn.zero.cells) J RKn.zr J ?_;intro n6 dx dl;refine .sA J J J J (RKn.isCell (by exact aa)) Sz113 (RKn.length (by exact aa)) Z0 (RKn.length (by exact RKn.zero_ok)) zU ?_;refine G2 ?_;refine .join (ι:=Unit) (λu=>⟨[(0,ptr p 0),(3,ptr n3 0),(6,ptr n6 0)],(⟨n6,(⟨A6 D,B2⟩:RKn).cells,113,163⟩::(⟨n3,B.cells,37,B.cells.length⟩::(⟨p,[x.sL.v,x.sO.v],111,2⟩::(x.bL++(x.bO++(x.cb++(ad++[])))))))⟩) (λu=>D.check=0->An x.P (A6 D)=none/\An x.Q (A6 D)=none) ?_ ?_
 ·
  refine .seq (.draw (oPq [100,301,2,3,4,5,106,307,8,9,10,11,112,13,114,315,16,17,18]) Au zK (.lA J J J Y37.h J Sz37 mR (Block.length (by exact hB.ok)) ?_));refine .cV J J J J Body103 (r15_Check B D) (λw h=>ar w h.keeps) (two (λr hr k=>Tr.eqi J J J J hr k) (λao=>?_) (λao=>?_))
  ·
   have b8:=of_decide_eq_true ao;refine G3 ?_;refine .lN (Aa _) J J J Y31.h J Sz31 Z0 (RKn.row_fName (by exact aa)) (RKn.rl_fName (by exact aa)) ?_;refine .callB J J J J Body66 (rd_has x hx p (A6 D) ag) (λw h=>rd_of (x:=x) h mR (Lies.of h (by repeat(first|exact Ap|refine A1 ?_|refine A5 ?_))) (Lies.of h (by repeat(first|exact Ap|refine A1 ?_|refine A5 ?_))) (Lies.of h (by repeat(first|exact in_all|refine A1 ?_|refine A5 ?_)))) (λap=>?_) (λap=>?_)
   ·
    have au:=ap;refine G13 ?_;refine .cond_t J J (G6 ?_);refine G3 ?_;refine Ao (out:=(⟨p,[x.sL.v,x.sO.v],111,2⟩::(x.bL++(x.bO++(x.cb++[]))))) (Bm J J J) (Ab rM (Ac sG (Ac sG (Ac (by repeat(first|exact C8|apply sg_there|apply Cj)) Ad)))) ?_;exact⟨x,_,Sl.nil,[],rfl,(by simp[RD.blks]),hx,by rw[add_same (by rw[<-hR.p,show(An x.P (A6 D)).isSome=true from au];simp)];exact hR,by omega⟩
   have au:=ap;refine G6 ?_;refine .lN (Aa _) J J J Y31.h J Sz31 Z0 (RKn.row_fName (by exact aa)) (RKn.rl_fName (by exact aa)) ?_;refine .cV J J J J Body104 (rd_find x.sO x.O c4.symm hx.okO oM (A6 D) ag) (λw h=>hx.accO.see (Lies.of h (by repeat(first|exact Ap|refine A1 ?_|refine A5 ?_)))) ?_;refine G5 ?_;refine .condP J (λb6=>?_) (λb6=>?_)
   ·
    refine G6 ?_;refine G3 ?_;refine Ao (out:=(⟨p,[x.sL.v,x.sO.v],111,2⟩::(x.bL++(x.bO++(x.cb++[]))))) (Bm J J J) (Ab rM (Ac sG (Ac sG (Ac (by repeat(first|exact C8|apply sg_there|apply Cj)) Ad)))) ?_;exact⟨x,_,Sl.nil,[],rfl,(by simp[RD.blks]),hx,by rw[add_same (by rw[hR.someQ _ (show(An x.Q (A6 D)).isSome=true by obtain⟨k9,e9,_,_,_,h9⟩:=rd_hit b6;show(An (rp x.O) _).isSome=true;rw[h9];rfl)];rfl)];exact hR,by omega⟩
   refine G2 ?_;exact⟨(),λ_=>⟨by simpa using au,rd_no b6⟩,Af wN (Ab rM (Ab (by repeat(first|exact A4|apply Bq)) (Ab (by repeat(first|exact A4|apply Bq)) (Ac (by repeat(first|exact B9|apply Cj)) (Ac (by repeat(first|exact B9|apply Cj)) (Ac (by repeat(first|exact C8|apply Cj)) (Ac sG Ad)))))))⟩
  have b8:=of_decide_eq_false ao;refine G18 ?_;refine .cond_f J J (G2 ?_);exact⟨(),λh9=>absurd h9 oM,Af wN (Ab rM (Ab (by repeat(first|exact A4|apply Bq)) (Ab (by repeat(first|exact A4|apply Bq)) (Ac (by repeat(first|exact B9|apply Cj)) (Ac (by repeat(first|exact B9|apply Cj)) (Ac (by repeat(first|exact C8|apply Cj)) (Ac sG Ad)))))))⟩
 intro u hj;skip;refine G2 ?_;refine .lA J J J Y37.h J Sz37 Z1 (Block.length (by exact hB.ok)) ?_;refine .cV J J J J Body105 (r15_Good B D hB.ok) (λw h=>ar w h.keeps) (G10 ?_);refine .condNP J (λcx=>?_) (λcx=>?_)
 ·
  refine G7 ?_;refine G3 ?_;refine Ao (out:=(⟨p,[x.sL.v,x.sO.v],111,2⟩::(x.bL++(x.bO++(x.cb++[]))))) (Bm J J J) (Ab rM (Ac sG (Ac sG (Ac sG Ad)))) ?_;exact⟨x,_,Sl.nil,[],rfl,(by simp[RD.blks]),hx,by rw[add_bad oM];exact hR,by omega⟩
 have ay:dgood D=0:=by omega
 have ce:=good_check ay;have bu:D.ls.length<=16:=(ck_small ce).1;obtain⟨ct,cu⟩:=hj ce;have cc:An X.P (A6 D)=none:=by rw[<-hR.p];exact ct
 have bw:=hR.has _ cu;have b9:((An X.orp (A6 D)).isSome||(An X.P (A6 D)).isSome)=false:=by rw[cc,bw];rfl
 have dz:x.O.length=X.orp.length:=by have h9:=hR.q.length_eq;rw[<-h9];exact(La0 _).symm
 have bv:=hR.p;refine G6 ?_;refine .lA J J J Y37.h J Sz37 Z1 (Block.length (by exact hB.ok)) ?_;refine .cV J J J J Body106 (rd_wrong x hx p B D hB) (λw h=>rd_of (x:=x) h Z2 (Lies.of h (by repeat(first|exact Ap|refine A1 ?_))) (Lies.of h (by repeat(first|exact Ap|refine A1 ?_|refine A5 ?_))) (Lies.of h (by repeat(first|exact Ap|refine A1 ?_|refine A5 ?_)))) ?_;refine G2 ?_;refine .cond J (λhc2=>?_) (λhc2=>?_)
 ·
  refine G6 ?_;refine G3 ?_;refine Ao (out:=(⟨p,[x.sL.v,x.sO.v],111,2⟩::(x.bL++(x.bO++(x.cb++[]))))) (Bm J J J) (Ab rM (Ac sG (Ac sG (Ac sG Ad)))) ?_;exact⟨x,_,Sl.nil,[],rfl,(by simp[RD.blks]),hx,by rw[add_wrong ay b9 (judge_wrong (by rw[<-bv];exact hc2))];exact hR,by omega⟩
 refine G6 ?_;refine .lA J J J Y37.h J Sz37 Z1 (Block.length (by exact hB.ok)) ?_;refine .cV J J J J Body107 (rd_ready x hx p B D hB bu) (λw h=>⟨rd_of (x:=x) h Z2 (Lies.of h (by repeat(first|exact Ap|refine A1 ?_))) (Lies.of h (by repeat(first|exact Ap|refine A1 ?_|refine A5 ?_))) (Lies.of h (by repeat(first|exact Ap|refine A1 ?_|refine A5 ?_))),ar w h.keeps⟩) ?_;refine G3 ?_;refine .cond J (λaw=>?_) (λaw=>?_)
 ·
  have ci:Bv X.P D=0:=by rw[bv]at hc2 aw;unfold Bv;rw[show wrongB X.P D=false by simpa using hc2,show readyB X.P D=false by simpa using aw];rfl
  refine G11 ?_;refine .condP J (λcy=>?_) (λcy=>?_)
  ·
   refine G6 ?_;refine G4 ?_;refine Ao (out:=(⟨p,[x.sL.v,x.sO.v],111,2⟩::(x.bL++(x.bO++(x.cb++[]))))) (Bm J J J) (Ab rM (Ac sG (Ac sG (Ac sG Ad)))) ?_;exact⟨x,_,Sl.nil,[],rfl,(by simp[RD.blks]),hx,by rw[add_full ay b9 ci oM];exact hR,by omega⟩
  refine G7 ?_;refine .join (ι:=Nat) (λk=>⟨[(0,ptr p 0),(6,ptr n6 0),(8,i64 (k:Int))],(⟨n6,(⟨A6 D,B2⟩:RKn).cells,113,163⟩::(⟨p,[x.sL.v,x.sO.v],111,2⟩::(x.bL++(x.bO++(x.cb++(ad++[]))))))⟩) (λk=>k<=x.O.length/\(∀j,j<k->∀q,x.Q[j]? =some q->Cn q.1 (A6 D)<0)/\∀q,x.Q[k]? =some q->¬Cn q.1 (A6 D)<0) ?_ ?_
  ·
   refine .block (.loop (ι:=Nat) (λk=>⟨[(0,ptr p 0),(6,ptr n6 0),(8,i64 (k:Int))],(⟨n6,(⟨A6 D,B2⟩:RKn).cells,113,163⟩::(⟨p,[x.sL.v,x.sO.v],111,2⟩::(x.bL++(x.bO++(x.cb++(ad++[]))))))⟩) (λk=>k<=x.O.length/\∀j,j<k->∀q,x.Q[j]? =some q->Cn q.1 (A6 D)<0) (λk=>x.O.length-k) (0) ?_ ?_ ?_)
   .exact⟨Laf _,λj hj=>absurd hj (Lcj _)⟩
   .exact Af wN (Ab rM (Ab rM (Ac sG (Ac sG (Ac sG (Ac sG Ad))))))
   rintro k ⟨hk,hg⟩;refine G2 ?_;refine .draw (oPq [0,1,2,3,104,5,6,7,8,9,10,111,12,13,14,115,16,117,318,19,20]) Au zK (G6 ?_);refine two (λr hr k=>Tr.lss J J J J hr k) (λai=>?_) (λai=>?_)
   ·
    have bg:=of_decide_eq_true ai;have c3:k<x.O.length:=by omega
    obtain⟨e,hd⟩:∃e,x.O[k]? =some e:=⟨_,La4 c3⟩;have ab:=(hx.entO e (Lau hd)).1;obtain⟨b,o,b4,b5⟩:=rk_open hx.accO oM;refine G6 ?_;refine .idxSlP 163 J J J b4 J Y109.h Sz113 k (by rfl) oM ?_;refine G1 ?_;refine .loadSN (n:=32) (Aa e.1.fName) J J J Y31.h J Sz31 (by rw[Aa,La0];exact ab.l_fName) (λw h=>rk_name (b5 w (Lies.of h (by repeat(first|exact Ap|refine A1 ?_|refine A5 ?_)))) hx.okO hd) ?_;refine G1 ?_;refine .lN (Aa _) J J J Y31.h J Sz31 Z0 (RKn.row_fName (by exact aa)) (RKn.rl_fName (by exact aa)) ?_;refine .cV J J J J Body10 (r15_cmp e.1.fName (A6 D) ab.l_fName ag) tV (G4 ?_);refine .condP J (λb7=>?_) (λb7=>?_)
    ·
     refine G10 ?_;exact⟨k+1,⟨by omega,λj hj q hq=>by rcases Lb4.1 hj with h|rfl;exact hg j h q hq;obtain⟨e9,h9,rfl⟩:=rp_of hq;rw[hd]at h9;cases h9;exact b7⟩,by omega,Af wN (Ab rM (Ab rM (Ac sG (Ac sG (Ac sG (Ac sG Ad))))))⟩
    refine G5 ?_;exact⟨k,⟨by omega,hg,λq hq=>by obtain⟨e9,h9,rfl⟩:=rp_of hq;rw[hd]at h9;cases h9;exact b7⟩,Af wN (Ab rM (Ab rM (Ac sG (Ac sG (Ac sG (Ac sG Ad))))))⟩
   have bg:=of_decide_eq_false ai;skip;refine G16 ?_;refine .cond_f J J (G5 ?_);exact⟨k,⟨by omega,hg,λq hq=>by have h9:=(Laa.1 hq).1;have h8:x.Q.length=x.O.length:=La0 _;omega⟩,Af wN (Ab rM (Ab rM (Ac sG (Ac sG (Ac sG (Ac sG Ad))))))⟩
  intro k hj;obtain⟨hk,hg,cw⟩:=hj;refine .seq ?_
  try simp only[Lft,Lan,Lah,Lab]
  refine .drawK (sp_k (sp_k (sp_x (sp_x (sp_x (sp_x sp_n)))))) J (oPq [0,2,3,4,5,6,7,9,12,13,14,15,16,17,201,308,210,411,418,19,20]) [(4,21)] Au zK zK (G4 ?_);refine .kload1 J J J Y109.h J Z1 (by rfl) ?_;refine G1 ?_;refine .sliceHiA x.sO k J J J J J oM Y109.h Sz113 (.kloadAll J J J Y113.h J Sz113 Z0 (RKn.length (by exact aa)) ?_);refine G3 ?_;refine .kload1 J J J Y109.h J Z1 (by rfl) ?_;refine G1 ?_;refine Tr.sliceLoA k J J J J J hx.accO hk Y109.h Sz113 ?_;intro d5 bm be bi _ _;refine .mkRow2 (z:=(agg RKn.zero.cells)) [] ([]) J J Y109.h Sz113 RKn.zr J J (by intro v hv;cases hv) dE J ?_;intro c7;refine .appendF (b:=c7) (m:=k) (z:=(agg RKn.zero.cells)) (by':=216) (rkc (x.O.take k)) J J J J Y109.h Y109.h Sz113 RKn.zr (by unfold By;kernel_rfl) J (λw h=>rk_take (hx.accO.see (Lies.of h (by repeat(first|exact Ap|refine A1 ?_|refine A5 ?_))))) (λe=>by have:=hx.accO.nil e;omega) (rkc_cell (λq hq=>hx.okO q (Lbi hq))) oM oM (by rw[rkc_len (λq hq=>hx.okO q (Lbi hq)),Lac,Lc6 hk]) ?_;intro d3 c8 bz;refine .mkRow2 (z:=(agg RKn.zero.cells)) [agg (⟨A6 D,B2⟩:RKn).cells] ((⟨A6 D,B2⟩:RKn).cells) J J Y109.h Sz113 RKn.zr J J (by intro v hv;rw[La1.1 hv];exact RKn.length (by exact aa)) dE (by simp[Value.cells,agg]) ?_;intro d2;refine .appendF2 [_] (n:=k) (z:=(agg RKn.zero.cells)) (by':=216) ((⟨A6 D,B2⟩:RKn).cells) J J J J J Y109.h Y109.h Sz113 RKn.zr (by unfold By;kernel_rfl) J bz dE J (λw h=>SeesP.of (Ar h Z0)) (λe=>by cases e) (RKn.isCell aa) oM oM (by rw[RKn.length aa]) ?_;intro d4 c9 b3;refine .appendAcc (n:=(k+1)) (z:=(agg RKn.zero.cells)) (by':=216) (rkc (x.O.drop k)) J J J J J Y109.h Y109.h Sz113 RKn.zr (by unfold By;kernel_rfl) J b3 sG (λw h=>by rw[rkc_drop hx.okO];exact bi w (Lies.of h (by repeat(first|exact Ap|refine A1 ?_|refine A5 ?_)))) be (rkc_cell (λq hq=>hx.okO q (Lct hq))) oM oM (by rw[rkc_len (λq hq=>hx.okO q (Lct hq)),Laz,bm]) ?_;intro cq bj av;refine G3 ?_;refine .s1 J J J J J Sz109 Z1 sP (by rfl) zV ?_;refine G8 ?_;refine G3 ?_;refine Ao (out:=(⟨p,[x.sL.v,cq.v],111,2⟩::(x.bL++(bj++(x.cb++(ad++[])))))) (Bm J J J) (Ab rM (Ac sG (Ac sG (Ac sG (Ac sG Ad))))) ?_
  exact⟨x.wait k (⟨A6 D,B2⟩,D) cq bj ad,0,Sl.nil,[],rfl,(by simp[RD.blks,RD.wait]),hx.wait hk (by rw[bm]at av;exact av) ⟨aa,⟨a6,λw hw=>cd w (hw.sub λb hb=>Lat _ hb)⟩,bu⟩ a1 oM,by rw[add_keep ay b9 ci oM];show RRel _ x.P (rp (x.O.take k++(⟨A6 D,B2⟩,D)::x.O.drop k));rw[rp_app,show rp (((⟨A6 D,B2⟩:RKn),D)::x.O.drop k)=(A6 D,D)::rp (x.O.drop k)from rfl,rp_take,rp_drop];exact hR.wait bw hg cw,by show x.L.length+(x.O.take k++_::x.O.drop k).length<=_;rw[La2,Lax,Lac,Laz];omega⟩
 have c0:Bv X.P D=1:=by rw[bv]at hc2 aw;unfold Bv;rw[show wrongB X.P D=false by simpa using hc2,show readyB X.P D=true by simpa using aw];rfl
 refine G3 ?_
 try simp only[Lft,Lan,Lah,Lab]
 refine .drawK (sp_k (sp_v (sp_k (sp_x (sp_x (sp_x (sp_x sp_n))))))) J (oPq [0,1,2,3,4,5,206,407,8,9]) [(4,10)] Au zK zK (G4 ?_);refine .kload1 J J J Y109.h J Z1 (by rfl) ?_;refine .kloadAll J J J Y113.h J Sz113 Z0 (RKn.length (by exact aa)) ?_;refine .mkRow2 (z:=(agg RKn.zero.cells)) [agg (⟨A6 D,B2⟩:RKn).cells] ((⟨A6 D,B2⟩:RKn).cells) J J Y109.h Sz113 RKn.zr J J (by intro v hv;rw[La1.1 hv];exact RKn.length (by exact aa)) dE (by simp[Value.cells,agg]) ?_;intro de;refine .appendAcc (n:=x.L.length) (z:=(agg RKn.zero.cells)) (by':=216) ((⟨A6 D,B2⟩:RKn).cells) J J J J J Y109.h Y109.h Sz113 RKn.zr (by unfold By;kernel_rfl) J hx.accL sG (λw h=>SeesP.of (Ar h Z0)) (λe=>by cases e) (RKn.isCell aa) oM oM (by rw[RKn.length aa]) ?_;intro cl bo a7;refine G3 ?_;refine .s1 J J J J J Sz109 Z1 sP (by rfl) zV ?_;refine G5 ?_;refine .lN (Aa _) J J J Y31.h J Sz31 Z0 (RKn.row_fName (by exact aa)) (RKn.rl_fName (by exact aa)) ?_;refine .mkRow2 (z:=agg (Aa (List.replicate 32 0))) [agg (Aa (A6 D))] (Aa (A6 D)) J J Y32.h Sz31 Bz J J (by intro v hv;rw[La1.1 hv];simp[Value.cells,Aa,ag]) dE (by simp[Value.cells,agg]) ?_;intro bn;refine G10 ?_;refine .loop (ι:=RG) (λg=>⟨[(0,ptr p 0),(9,g.s.v),(10,i64 (g.i:Int))],(⟨p,[g.x.sL.v,g.x.sO.v],111,2⟩::(g.x.bL++(g.x.bO++(g.x.cb++(g.bl++[])))))⟩) (λg=>g.ok (x.L.length+x.O.length+1) (X.add D).1) (λg=>g.x.O.length*100000-g.i) (⟨x.more (⟨A6 D,B2⟩,D) cl bo (x.cb++ad),X.adm (A6 D) D,0,⟨some ⟨bn,0,none⟩,1,1⟩,[⟨bn,Aa (A6 D),31,32⟩],[A6 D]⟩) ?_ ?_ ?_
 .exact RG.start hx hI hR a1 a7 ⟨aa,⟨a6,λw hw=>cd w (hw.sub λb hb=>Lat _ hb)⟩,bu⟩ ay cc bw c0
 .exact Af wN (Ab rM (Ac sG (Ac sG (pm_two (Ac sG (Ac sG (pm_in0 (pm_consE rM rfl (by rw[Aa,La0,ag]) Ad))))))))
 rintro g hG;have du:=hG.ll;have dt:=hG.le;have dq:=hG.ok.big;have dr:=hG.ok.few;have dv:=hG.ok.accO.num;have dm:=hG.ok.accL.num;refine G12 ?_;refine .condP J (λcz=>?_) (λcz=>?_)
 ·
  have az:g.i<g.x.O.length:=by omega
  obtain⟨e,hd⟩:∃e,g.x.O[g.i]? =some e:=⟨_,La4 az⟩;have ax:=hG.ok.entO e (Lau hd);have ab:=ax.1;have cg:=ab.l_fName;obtain⟨b,o,b4,b5⟩:=rk_open hG.ok.accO oM;refine G11 ?_;refine .idxSlP 163 J J J b4 J Y109.h Sz113 g.i (by rfl) oM ?_;refine .loadSN (n:=163) e.1.cells J J J Y113.h J Sz113 (RKn.length ab) (λw h=>rk_at (b5 w (Lies.of h (by repeat(first|exact Ap|refine A1 ?_|refine A5 ?_)))) hG.ok.okO hd) ?_;refine .alloc (cs:=RKn.zero.cells) J RKn.zr J ?_;intro d1 dd db;refine .sA J J J J (RKn.isCell (by exact ab)) Sz113 (RKn.length (by exact ab)) Z0 (RKn.length (by exact RKn.zero_ok)) zU ?_;refine G6 ?_;refine .lN (Block.cells _) J J J Y37.h J Sz37 Z0 (RKn.row_fBlock (by exact ab)) (RKn.rl_fBlock (by exact ab)) ?_;refine .callB J J J J Body106 (rd_wrong g.x hG.ok p e.1.fBlock e.2 ax.2.1.1) (λw h=>rd_of (x:=g.x) h Z1 (Lies.of h (by repeat(first|exact Ap|refine A1 ?_))) (Lies.of h (by repeat(first|exact Ap|refine A1 ?_|refine A5 ?_))) (Lies.of h (by repeat(first|exact Ap|refine A1 ?_|refine A5 ?_)))) (λaj=>?_) (λaj=>?_)
  ·
   have ac:=aj;refine G17 ?_;refine .cond_f J J (G3 ?_)
   try simp only[Lft,Lan,Lah,Lab]
   refine .drawK (sp_v (sp_k (sp_x (sp_x (sp_x (sp_x sp_n)))))) J (oPq [0,2,3,4,5,6,7,9,10,11,12,13,14,15,201,408,416,17,18]) [(4,19)] Au zK zK (G4 ?_);refine .kload1 J J J Y109.h J Z0 (by rfl) ?_;refine G1 ?_;refine .sliceHiA g.x.sO g.i J J J J J (by have:=hG.ok.accO.cap;have:=hG.ok.accO.num;omega) Y109.h Sz113 ?_;refine G3 ?_;refine .kload1 J J J Y109.h J Z0 (by rfl) ?_;refine G2 ?_;refine Tr.sliceLoA (g.i+1) J J J J oM hG.ok.accO oM Y109.h Sz113 ?_;intro cn ae ah ak _ _;refine .mkRow2 (z:=(agg RKn.zero.cells)) [] ([]) J J Y109.h Sz113 RKn.zr J J (by intro v hv;cases hv) dE J ?_;intro cj;refine .appendAcc (n:=0) (m:=g.i) (z:=(agg RKn.zero.cells)) (by':=216) (rkc (g.x.O.take g.i)) J J J J J Y109.h Y109.h Sz113 RKn.zr (by unfold By;kernel_rfl) J (Acc.some (cells:=[]) (E:=113) (Lag 0) J) (Ab rM Ad) (λw h=>rk_take (hG.ok.accO.see (Lies.of h (by repeat(first|exact Ap|refine A1 ?_|refine A5 ?_))))) (λe=>by have:=hG.ok.accO.nil e;have:=hG.ok.accO.num;omega) (rkc_cell (λq hq=>hG.ok.okO q (Lbi hq))) oM oM (by rw[rkc_len (λq hq=>hG.ok.okO q (Lbi hq)),Lac,Lc6 oM]) ?_;intro cm bp am;refine .appendAcc (n:=(0+g.i)) (z:=(agg RKn.zero.cells)) (by':=216) (rkc (g.x.O.drop (g.i+1))) J J J J J Y109.h Y109.h Sz113 RKn.zr (by unfold By;kernel_rfl) J am sG (λw h=>by rw[rkc_drop hG.ok.okO];exact ak w (Lies.of h (by repeat(first|exact Ap|refine A1 ?_|refine A5 ?_)))) ah (rkc_cell (λq hq=>hG.ok.okO q (Lct hq))) oM oM (by rw[rkc_len (λq hq=>hG.ok.okO q (Lct hq)),Laz,ae]) ?_;intro a2 aq an;refine G3 ?_;refine .s1 J J J J J Sz109 Z0 sP (by rfl) zU ?_;refine G9 ?_;refine .cond_f J J (G13 ?_);exact⟨⟨g.x.less g.i a2 aq,g.X.drop1 e.1.fName,0,g.s,g.bl,g.l⟩,hG.drop hd (by rw[<-hG.rel.p];exact ac) (by simpa only[rkc_app,La2,Lac,Laz,Lah,Lb0,ae,Lc6 (Lfi az)]using an),(by show(g.x.O.take g.i++g.x.O.drop (g.i+1)).length*100000-0<g.x.O.length*100000-g.i;rw[La2,Lac,Laz];omega),Af wN (Ab rM (Ac sG (Ac sG (Ac sG (Ac sG Ad)))))⟩
  have ac:=aj;refine G11 ?_;refine .lN (Block.cells _) J J J Y37.h J Sz37 Z0 (RKn.row_fBlock (by exact ab)) (RKn.rl_fBlock (by exact ab)) ?_;refine .cV J J J J Body107 (rd_ready g.x hG.ok p e.1.fBlock e.2 ax.2.1.1 ax.2.2) (λw h=>⟨rd_of (x:=g.x) h Z1 (Lies.of h (by repeat(first|exact Ap|refine A1 ?_))) (Lies.of h (by repeat(first|exact Ap|refine A1 ?_|refine A5 ?_))) (Lies.of h (by repeat(first|exact Ap|refine A1 ?_|refine A5 ?_))),ax.2.1.2 w (Lies.of h (by repeat(first|exact Ap|refine A1 ?_|refine A5 ?_)))⟩) ?_;refine G4 ?_;refine .cond J (λbc=>?_) (λbc=>?_)
  ·
   refine G10 ?_;exact⟨⟨g.x,g.X,g.i+1,g.s,g.bl,g.l⟩,hG.more hd (by rw[hG.rel.p]at ac bc;unfold Bv;rw[show wrongB g.X.P e.2=false from ac,show readyB g.X.P e.2=false by simpa using bc];rfl),by simp only;omega,Af wN (Ab rM (Ac sG (Ac sG (Ac sG (Ac sG Ad)))))⟩
  refine G3 ?_
  try simp only[Lft,Lan,Lah,Lab]
  refine .drawK (sp_v (sp_k (sp_x (sp_x (sp_x (sp_x sp_n)))))) J (oPq [0,2,3,4,5,6,7,9,10,11,12,13,14,15,201,408,416,17,18]) [(4,19)] Au zK zK (G4 ?_);refine .kload1 J J J Y109.h J Z0 (by rfl) ?_;refine G1 ?_;refine .sliceHiA g.x.sO g.i J J J J J (by have:=hG.ok.accO.cap;have:=hG.ok.accO.num;omega) Y109.h Sz113 ?_;refine G3 ?_;refine .kload1 J J J Y109.h J Z0 (by rfl) ?_;refine G2 ?_;refine Tr.sliceLoA (g.i+1) J J J J oM hG.ok.accO oM Y109.h Sz113 ?_;intro cn ae ah ak _ _;refine .mkRow2 (z:=(agg RKn.zero.cells)) [] ([]) J J Y109.h Sz113 RKn.zr J J (by intro v hv;cases hv) dE J ?_;intro cj;refine .appendAcc (n:=0) (m:=g.i) (z:=(agg RKn.zero.cells)) (by':=216) (rkc (g.x.O.take g.i)) J J J J J Y109.h Y109.h Sz113 RKn.zr (by unfold By;kernel_rfl) J (Acc.some (cells:=[]) (E:=113) (Lag 0) J) (Ab rM Ad) (λw h=>rk_take (hG.ok.accO.see (Lies.of h (by repeat(first|exact Ap|refine A1 ?_|refine A5 ?_))))) (λe=>by have:=hG.ok.accO.nil e;have:=hG.ok.accO.num;omega) (rkc_cell (λq hq=>hG.ok.okO q (Lbi hq))) oM oM (by rw[rkc_len (λq hq=>hG.ok.okO q (Lbi hq)),Lac,Lc6 oM]) ?_;intro cm bp am;refine .appendAcc (n:=(0+g.i)) (z:=(agg RKn.zero.cells)) (by':=216) (rkc (g.x.O.drop (g.i+1))) J J J J J Y109.h Y109.h Sz113 RKn.zr (by unfold By;kernel_rfl) J am sG (λw h=>by rw[rkc_drop hG.ok.okO];exact ak w (Lies.of h (by repeat(first|exact Ap|refine A1 ?_|refine A5 ?_)))) ah (rkc_cell (λq hq=>hG.ok.okO q (Lct hq))) oM oM (by rw[rkc_len (λq hq=>hG.ok.okO q (Lct hq)),Laz,ae]) ?_;intro a2 aq an;refine G3 ?_;refine .s1 J J J J J Sz109 Z0 sP (by rfl) zU ?_;refine G9 ?_;refine .cond_t J J (.seq ?_)
  try simp only[Lft,Lan,Lah,Lab]
  refine .drawK (sp_k (sp_x (sp_k (sp_x (sp_x (sp_x (sp_x sp_n))))))) J (oPq [0,1,2,3,4,5,206,407,8,9]) [(4,10)] Au zK zK (G4 ?_);refine .kload1 J J J Y109.h J Z0 (by rfl) ?_;refine .kloadAll J J J Y113.h J Sz113 Z1 (RKn.length (by exact ab)) ?_;refine .mkRow2 (z:=(agg RKn.zero.cells)) [agg e.1.cells] (e.1.cells) J J Y109.h Sz113 RKn.zr J J (by intro v hv;rw[La1.1 hv];exact RKn.length (by exact ab)) dE (by simp[Value.cells,agg]) ?_;intro df;refine .appendAcc (n:=g.x.L.length) (z:=(agg RKn.zero.cells)) (by':=216) (e.1.cells) J J J J J Y109.h Y109.h Sz113 RKn.zr (by unfold By;kernel_rfl) J hG.ok.accL sG (λw h=>SeesP.of (Ar h Z0)) (λe=>by cases e) (RKn.isCell ab) oM oM (by rw[RKn.length ab]) ?_;intro co bq a8;refine G3 ?_;refine .s1 J J J J J Sz109 Z0 sP (by rfl) zU ?_;refine G5 ?_;refine .lN (Aa _) J J J Y31.h J Sz31 Z1 (RKn.row_fName (by exact ab)) (RKn.rl_fName (by exact ab)) ?_;refine .mkRow2 (z:=agg (Aa (List.replicate 32 0))) [agg (Aa e.1.fName)] (Aa e.1.fName) J J Y32.h Sz31 Bz J J (by intro v hv;rw[La1.1 hv];simp[Value.cells,Aa,cg]) dE (by simp[Value.cells,agg]) ?_;intro dh;refine .appendAcc (n:=g.l.length) (z:=agg (Aa (List.replicate 32 0))) (by':=32) (Aa e.1.fName) J J J J J Y32.h Y32.h Sz31 Bz (by unfold By;kernel_rfl) J hG.acc sG (λw h=>SeesP.of (Ar h Z0)) (λe=>by cases e) (Ay _) oM oM (by rw[Aa,La0,cg]) ?_;intro cp bt ba;refine G14 ?_;exact⟨⟨(g.x.less g.i a2 aq).more e co bq g.x.cb,(g.X.drop1 e.1.fName).adm e.1.fName e.2,0,cp,bt,g.l++[e.1.fName]⟩,hG.fit hd (by rw[<-hG.rel.p];exact ac) (by rw[<-hG.rel.p];simpa using bc) (by simpa only[rkc_app,La2,Lac,Laz,Lah,Lb0,ae,Lc6 (Lfi az)]using an) a8 ba,(by show(g.x.O.take g.i++g.x.O.drop (g.i+1)).length*100000-0<g.x.O.length*100000-g.i;rw[La2,Lac,Laz];omega),Af wN (Ab rM (Ac sG (Ac sG (Ac sG (Ac sG Ad)))))⟩
 have az:g.i=g.x.O.length:=by omega
 refine G12 ?_;refine G2 ?_;refine Ao (out:=(⟨p,[g.x.sL.v,g.x.sO.v],111,2⟩::(g.x.bL++(g.x.bO++(g.x.cb++(g.bl++[])))))) (Bm J J J) (Ab rM (Ac sG (Ac sG (Ac sG (Ac sG Ad))))) ?_;exact⟨g.x,0,g.s,g.bl,rfl,(by simp[RD.blks]),hG.ok,hG.fin az,hG.sz⟩
end Go.Proofs.YtbdfihcjddbhaaaGreat
namespace Go.Proofs.YtbdfihcjddbhaaaGreat
open Go Hw Ed
variable{j n:Nat}{k st w:List UInt64}{p:List UInt8}{α:Type}{l:List α}
theorem cons_of8(h:l.length=n+1):∃a t,l=a::t/\t.length=n:=by
  cases l with
  |nil=>cases h
  |cons a t=>exact⟨a,t,rfl,by simpa using h⟩
def forceA{α:Type}(s:Nat)(f:Nat->α):α:=Nat.casesOn (motive:=λ_=>α) s (f 0) (λm=>f (m+1))
theorem forceA_eq(s:Nat)(f:Nat->α):forceA s f=f s:=by cases s<;>rfl
def aN(a b:Nat):Nat:=Nat.mod (Nat.add a b) 18446744073709551616
def shN(x s:Nat):Nat:=Nat.mod (Nat.mul x (Nat.pow 2 s)) 18446744073709551616
def rolN(x s:Nat):Nat:=Nat.lor (shN x s) (Nat.div x (Nat.pow 2 (Nat.sub 64 s)))
def o8N(x:Nat)(b:UInt8):Nat:=Nat.lor (shN x 8) b.toNat
def sg0N(x:Nat):Nat:=Nat.xor (Nat.xor (rolN x 63) (rolN x 56)) (Nat.div x (Nat.pow 2 7))
def sg1N(x:Nat):Nat:=Nat.xor (Nat.xor (rolN x 45) (rolN x 3)) (Nat.div x (Nat.pow 2 6))
def t1N(e f g h k w:Nat):Nat:=aN (aN (aN (aN h (Nat.xor (Nat.xor (rolN e 50) (rolN e 46)) (rolN e 23))) (Nat.xor (Nat.land e f) (Nat.land (Nat.xor 18446744073709551615 e) g))) k) w
def t2N(a b c:Nat):Nat:=aN (Nat.xor (Nat.xor (rolN a 36) (rolN a 30)) (rolN a 25)) (Nat.xor (Nat.xor (Nat.land a b) (Nat.land a c)) (Nat.land b c))
def wgo:List UInt8->List Nat->List Nat
  |a::b::c::d::e::f::g::h::t,r=>forceA (o8N (o8N (o8N (o8N (o8N (o8N (o8N (o8N 0 a) b) c) d) e) f) g) h) λv=>wgo t (v::r)
  |_,r=>r
def nxN(r:List Nat):Nat:=aN (aN (aN (r.getD 15 0) (sg0N (r.getD 14 0))) (r.getD 6 0)) (sg1N (r.getD 1 0))
def sgo:Nat->List Nat->List Nat
  |0,r=>r
  |n+1,r=>forceA (nxN r) λv=>sgo n (v::r)
def rgo:List Nat->List Nat->Nat->Nat->Nat->Nat->Nat->Nat->Nat->Nat->List Nat
  |k::ks,w::ws,a,b,c,d,e,f,g,h=>forceA (t1N e f g h k w) λt=>forceA (aN t (t2N a b c)) λa2=>forceA (aN d t) λe2=>rgo ks ws a2 a b c e2 e f g
  |_,_,a,b,c,d,e,f,g,h=>[a,b,c,d,e,f,g,h]
def adN:List Nat->List Nat->List Nat
  |x::xs,y::ys=>forceA (aN x y) λz=>z::adN xs ys
  |_,_=>[]
def rgoL(ks ws:List Nat):List Nat->List Nat
  | [a,b,c,d,e,f,g,h]=>rgo ks ws a b c d e f g h
  |_=>[]
def pieceN(ks st:List Nat)(p:List UInt8):List Nat:=adN st (rgoL ks (sgo 64 (wgo p [])).reverse st)
def runN(ks st:List Nat)(bs:List UInt8):Nat->List Nat
  |0=>st
  |i+1=>pieceN ks (runN ks st bs i) ((bs.drop (128*i)).take 128)
def padT(n:Nat):List UInt8:=128::(List.replicate (padZ n) 0++(beUp 0 8++beUp (UInt64.ofNat (8*n)) 8))
def allN(ks st:List Nat)(l:List UInt8):List Nat:=forceA l.length λn=>runN ks st (l++padT n) ((n+17+padZ n)/128)
theorem padT_eq(l:List UInt8):padB l=l++padT l.length:=by simp[padB,padT]
theorem sh_hom(x:UInt64)(s:Nat):(A7 x s).toNat=shN x.toNat s:=by rw[A7,Lc4];rfl
theorem sr_hom(x:UInt64)(s:Nat):(Az x s).toNat=Nat.div x.toNat (Nat.pow 2 s):=by
  have h:x.toNat/2^s<18446744073709551616:=Lfc (Ldd _ _) x.toNat_lt;rw[Az,Lc4];exact Lal h
theorem add_hom(x y:UInt64):(x+y).toNat=aN x.toNat y.toNat:=Lbm x y
theorem or_hom(x y:UInt64):(x|||y).toNat=Nat.lor x.toNat y.toNat:=Lev x y
theorem xor_hom(x y:UInt64):(x^^^y).toNat=Nat.xor x.toNat y.toNat:=UInt64.toNat_xor x y
theorem and_hom(x y:UInt64):(x&&&y).toNat=Nat.land x.toNat y.toNat:=Lfu x y
theorem rol_hom(x:UInt64)(s:Nat):(rolW x s).toNat=rolN x.toNat s:=by rw[rolW,or_hom,sh_hom,sr_hom];rfl
theorem sg0_hom(x:UInt64):(sig0 x).toNat=sg0N x.toNat:=by simp only[sig0,xor_hom,rol_hom,sr_hom];rfl
theorem sg1_hom(x:UInt64):(sig1 x).toNat=sg1N x.toNat:=by simp only[sig1,xor_hom,rol_hom,sr_hom];rfl
theorem t1_hom(s:W8)(k w:UInt64):(rndT1 s k w).toNat=t1N s.e.toNat s.f.toNat s.g.toNat s.h.toNat k.toNat w.toNat:=by
  simp only[rndT1,add_hom,xor_hom,and_hom,rol_hom];rfl
theorem t2_hom(s:W8):(rndT2 s).toNat=t2N s.a.toNat s.b.toNat s.c.toNat:=by
  simp only[rndT2,add_hom,xor_hom,and_hom,rol_hom];rfl
theorem o8_hom(x:UInt64)(b:UInt8):(A7 x 8|||b.toUInt64).toNat=o8N x.toNat b:=by
  rw[or_hom,sh_hom,Le9];rfl
def wU:List UInt8->List UInt64
  |a::b::c::d::e::f::g::h::t=>(A7 (A7 (A7 (A7 (A7 (A7 (A7 (A7 0 8|||a.toUInt64) 8|||b.toUInt64) 8|||c.toUInt64) 8|||d.toUInt64) 8|||e.toUInt64) 8|||f.toUInt64) 8|||g.toUInt64) 8|||h.toUInt64)::wU t
  |_=>[]
theorem wgo_eq:∀(n:Nat) (p:List UInt8) (r:List Nat),p.length=8*n->wgo p r=((wU p).map UInt64.toNat).reverse++r
  | 0,p,r,h=>by
    obtain rfl:=Lai h;rfl
  | n+1,p,r,h=>by
    have h:p.length=8*n+7+1:=h
    iterate 8 (obtain⟨a,l,e,h2⟩:=cons_of8 h;clear h;subst e;have h:=h2;clear h2)
    rw[wgo,forceA_eq,wgo_eq n _ _ h,wU,Lar,List.reverse_cons,Lab];simp only[o8_hom];rfl
theorem schA_words(p:List UInt8)(h:p.length=128):schA p 128=wU p++List.replicate 64 0:=by
  iterate 128 (obtain⟨a,l,e,h2⟩:=cons_of8 h;clear h;subst e;have h:=h2;clear h2)
  obtain rfl:=Lai h;clear h;refine Eq.trans ?_ rfl;kernel_rfl
theorem wU_length:∀(n:Nat) (p:List UInt8),p.length=8*n->(wU p).length=n
  | 0,p,h=>by
    obtain rfl:=Lai h;rfl
  | n+1,p,h=>by
    have h:p.length=8*n+7+1:=h
    iterate 8 (obtain⟨a,l,e,h2⟩:=cons_of8 h;clear h;subst e;have h:=h2;clear h2)
    rw[wU,Lax,wU_length n _ h]
def SJ(w:List UInt64)(j:Nat):List Nat:=(((schB w j).take (16+j)).map UInt64.toNat).reverse
theorem take_set(h:n<l.length)(v:α):(l.set n v).take (n+1)=l.take n++[v]:=by
  have hl:(l.take n).length=n:=by rw[Lac];omega
  rw[Ldr,if_pos h,Lbe,hl,La5 oM,show n+1-n=1 by omega];rfl
theorem SJ_get(hw:w.length=80){j i:Nat}(hj:j<=64)(hi:i<16+j):(SJ w j).getD i 0=((schB w j).getD (15+j-i) 0).toNat:=by
  have hl:((schB w j).take (16+j)).length=16+j:=by rw[Lac,schB_length,hw];omega
  have h1:15+j-i<(schB w j).length:=by rw[schB_length,hw];omega
  rw[SJ,La3,List.getElem?_reverse (by rw[La0,hl];exact hi),La0,hl,Lad,Lex oM,show 16+j-1-i=15+j-i by omega,La3,La4 h1];rfl
theorem SJ_succ(hw:w.length=80)(hj:j<64):SJ w (j+1)=nxN (SJ w j)::SJ w j:=by
  have h1:SJ w (j+1)=((schB w j).getD j 0+sig0 ((schB w j).getD (j+1) 0)+(schB w j).getD (j+9) 0+sig1 ((schB w j).getD (j+14) 0)).toNat::SJ w j:=by
    rw[SJ,schB,show 16+(j+1)=(16+j)+1 by omega,take_set (by rw[schB_length,hw];omega),Lae,List.reverse_append];rfl
  rw[h1,nxN,SJ_get hw oM oM,SJ_get hw oM oM,SJ_get hw oM oM,SJ_get hw oM oM,show 15+j-15=j by omega,show 15+j-14=j+1 by omega,show 15+j-6=j+9 by omega,show 15+j-1=j+14 by omega];simp only[add_hom,sg0_hom,sg1_hom]
theorem sgo_run{w:List UInt64}(hw:w.length=80):∀n j,j+n<=64->sgo n (SJ w j)=SJ w (j+n)
  |0,j,_=>rfl
  | n+1,j,h=>by
    rw[sgo,forceA_eq,<-SJ_succ hw oM,sgo_run hw n (j+1) oM,show j+1+n=j+(n+1) by omega]
theorem sch_N(h:p.length=128):(sgo 64 (wgo p [])).reverse=(schW p).map UInt64.toNat:=by
  have hw:(schA p 128).length=80:=schA_length p 128;have e:wgo p []=SJ (schA p 128) 0:=by
    rw[wgo_eq 16 p [] h,SJ,Law,schB,schA_words p h,Lcp (by rw[wU_length 16 p h];omega),La5 (by rw[wU_length 16 p h];omega)]
  rw[e,sgo_run hw 64 0 oM,SJ,List.reverse_reverse,schW,La5 (by rw[schB_length,hw];omega)]
def rndF(ks ws:List UInt64)(s:W8):W8:=(ks.zip ws).foldl (λs p=>rnd1 s p.1 p.2) s
theorem rnds_F{k w:List UInt64}(s:W8)(hk:k.length=80)(hw:w.length=80):∀t,t<=80->rnds k w s t=rndF (k.take t) (w.take t) s
  |0,_=>by simp[rnds,rndF]
  | t +1,h=>by
    have e:rndF (k.take (t+1)) (w.take (t+1)) s=rnd1 (rndF (k.take t) (w.take t) s) (k[t]'oM) (w[t]'oM):=by
      rw[Las oM,Las oM,rndF,List.zip_append (by rw[Lac,Lac,hk,hw]),Ldx];rfl
    rw[rnds,rnds_F s hk hw t oM,e,La3,La3,La4 oM,La4 oM];rfl
theorem rgo_eq:∀(ks ws:List UInt64) (s:W8),rgo (ks.map UInt64.toNat) (ws.map UInt64.toNat) s.a.toNat s.b.toNat s.c.toNat s.d.toNat s.e.toNat s.f.toNat s.g.toNat s.h.toNat=(rndF ks ws s).l.map UInt64.toNat
  | [],ws,s=>by simp only[rndF,List.zip_nil_left,Lgj,Lem,rgo,W8.l,Lar]
  |_::_,[],s=>by simp only[rndF,List.zip_nil_right,Lgj,Lem,Lar,rgo,W8.l]
  | k::ks,w::ws,s=>by
    have e:rndF (k::ks) (w::ws) s=rndF ks ws (rnd1 s k w):=by simp only[rndF,List.zip_cons_cons,Le2]
    rw[Lar,Lar,rgo,forceA_eq,forceA_eq,forceA_eq,e,<-rgo_eq ks ws];simp only[rnd1,add_hom,t1_hom,t2_hom]
theorem add8{st xs:List UInt64}(h1:st.length=8)(h2:xs.length=8):(addUp st xs 8).map UInt64.toNat=adN (st.map UInt64.toNat) (xs.map UInt64.toNat):=by
  iterate 8 (obtain⟨a,l,e,h3⟩:=cons_of8 h1;clear h1;subst e;have h1:=h3;clear h3)
  obtain rfl:=Lai h1
  iterate 8 (obtain⟨a,l,e,h3⟩:=cons_of8 h2;clear h2;subst e;have h2:=h3;clear h3)
  obtain rfl:=Lai h2;simp only[Lar,Lem,adN,forceA_eq,<-add_hom];rfl
theorem piece_N(hk:k.length=80)(hs:st.length=8)(hp:p.length=128):(pieceW k st p).map UInt64.toNat=pieceN (k.map UInt64.toNat) (st.map UInt64.toNat) p:=by
  have hw:(schW p).length=80:=by rw[schW,schB_length,schA_length]
  have e:rgoL (k.map UInt64.toNat) ((schW p).map UInt64.toNat) (st.map UInt64.toNat)=(rnds k (schW p) (W8.of st) 80).l.map UInt64.toNat:=by
    rw[rnds_F _ hk hw 80 oM,La5 oM,La5 oM,<-rgo_eq]
    iterate 8 (obtain⟨a,l,e,h3⟩:=cons_of8 hs;clear hs;subst e;have hs:=h3;clear h3)
    obtain rfl:=Lai hs;rfl
  rw[pieceW,add8 hs rfl,pieceN,sch_N hp,e]
theorem run_N{k st:List UInt64}{bs:List UInt8}(hk:k.length=80)(hs:st.length=8):∀i,128*i<=bs.length->(runW k st bs i).map UInt64.toNat=runN (k.map UInt64.toNat) (st.map UInt64.toNat) bs i
  |0,_=>rfl
  | i+1,h=>by
    rw[runW,runN,piece_N hk (by rw[runW_length];exact hs) (by rw[Lac,Laz];omega),run_N hk hs i oM]
theorem all_N(l:List UInt8)(hk:k.length=80)(hs:st.length=8):(allW k st l).map UInt64.toNat=allN (k.map UInt64.toNat) (st.map UInt64.toNat) l:=by
  rw[allW,run_N hk hs _ (by have:=padB_mod l;omega),allN,forceA_eq,padT_eq,<-padB_length,padT_eq]
def kN:List Nat:=[4794697086780616226,8158064640168781261,13096744586834688815,16840607885511220156,4131703408338449720,6480981068601479193,10538285296894168987,12329834152419229976,15566598209576043074,1334009975649890238,2608012711638119052,6128411473006802146,8268148722764581231,9286055187155687089,11230858885718282805,13951009754708518548,16472876342353939154,17275323862435702243,1135362057144423861,2597628984639134821,3308224258029322869,5365058923640841347,6679025012923562964,8573033837759648693,10970295158949994411,12119686244451234320,12683024718118986047,13788192230050041572,14330467153632333762,15395433587784984357,489312712824947311,1452737877330783856,2861767655752347644,3322285676063803686,5560940570517711597,5996557281743188959,7280758554555802590,8532644243296465576,9350256976987008742,10552545826968843579,11727347734174303076,12113106623233404929,14000437183269869457,14369950271660146224,15101387698204529176,15463397548674623760,17586052441742319658,1182934255886127544,1847814050463011016,2177327727835720531,2830643537854262169,3796741975233480872,4115178125766777443,5681478168544905931,6601373596472566643,7507060721942968483,8399075790359081724,8693463985226723168,9568029438360202098,10144078919501101548,10430055236837252648,11840083180663258601,13761210420658862357,14299343276471374635,14566680578165727644,15097957966210449927,16922976911328602910,17689382322260857208,500013540394364858,748580250866718886,1242879168328830382,1977374033974150939,2944078676154940804,3659926193048069267,4368137639120453308,4836135668995329356,5532061633213252278,6448918945643986474,6902733635092675308,7801388544844847127]
def stN:List Nat:=[7640891576956012808,13503953896175478587,4354685564936845355,11912009170470909681,5840696475078001361,11170449401992604703,2270897969802886507,6620516959819538809]
def siN:List Nat:=[2463787394917988140,11481187982095705282,2563595384472711505,10824532655140301501,10819967247969091555,13717434660681038226,3098927326965381290,1060366662362279074]
theorem kN_eq:kW.map UInt64.toNat=kN:=by kernel_rfl
theorem stN_eq:startW.map UInt64.toNat=stN:=by kernel_rfl
theorem of_to(l:List UInt64):(l.map UInt64.toNat).map UInt64.ofNat=l:=by
  rw[Lgt];exact(List.map_congr_left λx _=>UInt64.ofNat_toNat).trans (List.map_id l)
theorem sha512_N(l:List UInt8):sha512 l=sumUp ((allN kN stN l).map UInt64.ofNat) 64:=by
  rw[<-kN_eq,<-stN_eq,<-all_N l rfl rfl,of_to];rfl
theorem siN_eq:shaI.map UInt64.toNat=siN:=by kernel_rfl
theorem sha256_N(l:List UInt8):sha256 l=(sumUp ((allN kN siN l).map UInt64.ofNat) 64).take 32:=by
  rw[<-kN_eq,<-siN_eq,<-all_N l rfl shaI_length,of_to];rfl
end Go.Proofs.YtbdfihcjddbhaaaGreat
namespace Go.Proofs.YtbdfihcjddbhaaaGreat
open Go Hw _root_.Go.Proofs.Tryz
open Ed
def pbN(n:Nat):List UInt8:=forceA (fastN n) λs=>forceA (pwm PF 256 (uz s%PF) (PF-2)) λi=>pb ⟨fe (ux s*i%PF),fe (uy s*i%PF)⟩
variable{n:Nat}
theorem pbN_eq(h:n<2^256):pb (cv.mul n bP)=pbN n:=by
  rw[fast_at h rfl rfl,pbN,forceA_eq,forceA_eq,affX,affY,force_eq,force_eq]
def h512(l:List UInt8):List UInt8:=sumUp ((allN kN stN l).map UInt64.ofNat) 64
def h256(l:List UInt8):List UInt8:=(sumUp ((allN kN siN l).map UInt64.ofNat) 64).take 32
def blkD(K:List UInt8)(D0:DB)(e S:Nat):DB:=bsg D0 K (leb 32 e++leb 32 S)
def blkOk(H K:List UInt8)(n:Nat)(D0:DB)(r e S N:Nat):Bool:=
  Nat.beq (le (h512 (H.drop 32++btxt { D0 with w:=K }))%L) r&&(Nat.beq (le (pbN r)) e&&(Nat.beq ((le (h512 (leb 32 e++(K++btxt { D0 with w:=K })))%L*n+r)%L) S
    &&(Nat.beq (le (h256 (blkD K D0 e S).bytes)) N&&(decide (D0.check=0)&&decide ((blkD K D0 e S).check=0)))))
theorem le_32{l:List UInt8}{x:Nat}(h:l.length=32)(e:le l=x):l=leb 32 x:=by rw[<-e,<-h,leb_le]
def BlkF(seed K:List UInt8)(D0:DB)(e S N:Nat):Prop:=(blkD K D0 e S).ok/\A6 (blkD K D0 e S)=leb 32 N/\dgood (blkD K D0 e S)=0/\∀B:Block,B.ok->Meets prog 115 [agg (Aa seed),agg B.cells] [] (λW=>BlockIs W B D0) (BlkR 0 (blkD K D0 e S))
theorem blk_facts{aa H K:List UInt8}(ae:aa.length=32)(hH:sha512 aa=H)(hn:le (clampB (H.take 32))=n)(hK:sgK H=K){D0:DB}{r e S N:Nat}(hl:D0.ls.length<=40)(hd:D0.ds.length<=2000)(ac:D0.ok)(h:blkOk H K n D0 r e S N=true):BlkF aa K D0 e S N:=by
  unfold blkOk at h;simp only[Lap,decide_eq_true_eq]at h;obtain⟨h1,h2,h3,h4,h5,h6⟩:=h;rw[h512,<-sha512_N]at h1 h3;rw[h256,<-sha256_N]at h4;have h1:=Lca h1;have h2:=Lca h2;have h3:=Lca h3;have h4:=Lca h4;have hr:r<2^256:=by rw[<-h1];exact lm _
  have ag:K.length=32:=by rw[<-hK];exact sgK_length H
  obtain⟨T,hT⟩:∃T,T=btxt { D0 with w:=K }:=⟨_,rfl⟩;rw[<-hT]at h1 h3;obtain⟨s1,ad⟩:∃s1,sha512 (H.drop 32++T)=s1:=⟨_,rfl⟩;rw[ad]at h1;have e1:le (sgR s1)=r:=by rw[sgR,le_leb32 (lm _),h1]
  have e2:sgF s1=leb 32 e:=by
    rw[sgF,e1,pbN_eq hr];refine le_32 ?_ h2;rw[<-pbN_eq hr];exact Cs _
  obtain⟨s2,ab⟩:∃s2,sha512 (leb 32 e++(K++T))=s2:=⟨_,rfl⟩;rw[ab]at h3;have e3:sgS H s1 s2=leb 32 S:=by rw[sgS,e1,hn,sgR,le_leb32 (lm _),h3]
  have g:=good_self H s1 T (s2:=s2) (by rw[e2,hK];exact ab);rw[hK,e2,e3]at g;refine⟨⟨ag,ac.prev,by show(leb 32 e++leb 32 S).length=64;rw[La2,Am,Am],ac.ls⟩,?_,?_,λB hB=>?_⟩
  . unfold A6
    rw[if_pos h6];exact le_32 (sha256_length _) h4
  . unfold dgood
    rw[if_pos h6];refine if_pos ?_;have e4:btxt (blkD K D0 e S)=T:=hT.symm;rw[e4];exact g
  . have c:=r15_Sign B D0 hB hl hd aa ae H s1 s2 ⟨hH⟩ ⟨by rw[hK,<-hT];exact ad⟩ ⟨by rw[hK,<-hT,e2];exact ab⟩ h5
    rw[hK,e2,e3]at c;exact c
end Go.Proofs.YtbdfihcjddbhaaaGreat
namespace Go.Proofs.YtbdfihcjddbhaaaGreat
open Go Hw Ed
def s1B:List UInt8:=[1,0,0,0,0,0,0,0,0,0,0,0,0,0,0,0,0,0,0,0,0,0,0,0,0,0,0,0,0,0,0,77]
def s1H:List UInt8:=[87,159,104,236,80,14,38,174,240,0,164,75,108,245,33,87,115,113,131,28,237,105,185,222,57,145,233,242,112,190,170,213,35,11,137,144,70,23,17,214,148,220,86,67,25,124,131,91,42,247,30,195,63,213,16,142,181,57,199,82,96,7,203,83]
def s1K:List UInt8:=[96,107,246,169,182,86,212,252,106,138,137,108,60,10,195,142,100,120,65,80,61,64,193,87,241,248,221,83,126,228,255,164]
theorem s1_h:sha512 s1B=s1H:=by rw[sha512_N];kernel_rfl
theorem s1_n:le (clampB ((s1H).take 32))=38748270507491543869280182973643753799655646515636239770492563660028217171792:=by kernel_rfl
theorem s1_k:sgK s1H=s1K:=by
  rw[sgK,s1_n,pbN_eq dE];kernel_rfl
def s2B:List UInt8:=[2,0,0,0,0,0,0,0,0,0,0,0,0,0,0,0,0,0,0,0,0,0,0,0,0,0,0,0,0,0,0,77]
def s2H:List UInt8:=[159,230,160,217,19,92,134,97,221,29,151,92,173,55,201,96,247,140,202,26,171,176,42,66,5,66,179,216,185,188,163,0,78,178,17,189,220,26,113,236,223,171,6,169,230,174,14,221,86,213,3,69,84,255,54,249,11,147,29,173,100,208,56,60]
def s2K:List UInt8:=[135,111,12,209,122,16,16,190,105,170,2,71,173,200,90,26,237,46,45,107,189,50,216,58,186,203,54,244,172,156,8,66]
theorem s2_h:sha512 s2B=s2H:=by rw[sha512_N];kernel_rfl
theorem s2_n:le (clampB ((s2H).take 32))=29237320919612452970742533751157944247979243399322251012381788756161947821720:=by kernel_rfl
theorem s2_k:sgK s2H=s2K:=by
  rw[sgK,s2_n,pbN_eq dE];kernel_rfl
def mA0:DB:=DB.zero
def mAR:Nat×Nat×Nat×Nat:=(565907765622320541399421425701583650488762096448569470237382742425803974514,100601403375759064195258946539497424308391876113719775996124634348183556250024,3579687427427459069974335426959508808461923918647704402293925102387200652691,97113733480288696092322898458545537851336488749795256506728843684697484984565)
def mAN:List UInt8:=leb 32 mAR.2.2.2
def mAD:DB:=blkD s1K mA0 mAR.2.1 mAR.2.2.1
theorem mA_ok:blkOk s1H s1K 38748270507491543869280182973643753799655646515636239770492563660028217171792 mA0 mAR.1 mAR.2.1 mAR.2.2.1 mAR.2.2.2=true:=by kernel_rfl
theorem mA_len:mAN.length=32:=Am 32 _
theorem mA_f:BlkF s1B s1K mA0 mAR.2.1 mAR.2.2.1 mAR.2.2.2:=blk_facts (H:=s1H) rfl s1_h s1_n s1_k dE dE ⟨rfl,by rfl,rfl,λl hl=>(by first|(cases hl;done)|(rw[La1.1 hl];rfl))⟩ mA_ok
def mB0:DB:={ DB.zero with seq:=1,prev:=mAN }
def mBR:Nat×Nat×Nat×Nat:=(1042854690461855033549293643297295419211154182590953024946931292553013138148,65806961080161634906959505977140487317327363723346420782109779725411984570611,7208915343660222524937526513360399956949480183635538504188365353118992172452,46058863218359618658494336369744020781322587224099048705861084924914012010741)
def mBN:List UInt8:=leb 32 mBR.2.2.2
def mBD:DB:=blkD s1K mB0 mBR.2.1 mBR.2.2.1
theorem mB_ok:blkOk s1H s1K 38748270507491543869280182973643753799655646515636239770492563660028217171792 mB0 mBR.1 mBR.2.1 mBR.2.2.1 mBR.2.2.2=true:=by kernel_rfl
theorem mB_len:mBN.length=32:=Am 32 _
theorem mB_f:BlkF s1B s1K mB0 mBR.2.1 mBR.2.2.1 mBR.2.2.2:=blk_facts (H:=s1H) rfl s1_h s1_n s1_k dE dE ⟨rfl,by rfl,rfl,λl hl=>(by first|(cases hl;done)|(rw[La1.1 hl];rfl))⟩ mB_ok
def mL0:DB:={ DB.zero with ls:=[mAN] }
def mLR:Nat×Nat×Nat×Nat:=(7069382373975793937875983969631401300928334206707799924608693727060737855406,89380441118362541782232043895724461995795574022816857334645768520515379073692,1378832678657371214062331319605579238817782231700001298769674763842384625692,60935820018387094301093397927544635555409945960002560190348470472531323507425)
def mLN:List UInt8:=leb 32 mLR.2.2.2
def mLD:DB:=blkD s2K mL0 mLR.2.1 mLR.2.2.1
theorem mL_ok:blkOk s2H s2K 29237320919612452970742533751157944247979243399322251012381788756161947821720 mL0 mLR.1 mLR.2.1 mLR.2.2.1 mLR.2.2.2=true:=by kernel_rfl
theorem mL_len:mLN.length=32:=Am 32 _
theorem mL_f:BlkF s2B s2K mL0 mLR.2.1 mLR.2.2.1 mLR.2.2.2:=blk_facts (H:=s2H) rfl s2_h s2_n s2_k dE dE ⟨rfl,by rfl,rfl,λl hl=>(by first|(cases hl;done)|(rw[La1.1 hl];rfl))⟩ mL_ok
end Go.Proofs.YtbdfihcjddbhaaaGreat
namespace Go.Proofs.YtbdfihcjddbhaaaGreat
open Go Hw _root_.Go.Proofs.Tryz
open Ed
variable{T:TypeId}{a b c:Block}{m q:Nat}{n:List UInt8}{w:World}
theorem s1B_length:s1B.length=32:=rfl
theorem s2B_length:s2B.length=32:=rfl
theorem kitS1  :Mv 116 [i64 1] (λ_=>True) (agg (Aa s1B)):=by
 intro W hW;refine Ae func116 J 9 ntmps116 J (G2 ?_);refine .alloc (cs:=(Aa (List.replicate 32 0))) J Zr28 J ?_;intro n2 ab aa;refine G5 ?_;refine .conv J J J Y3.h Y5.h (show Value.int .u8 (IntKind.u8.wrap 1)=u8 1 from rfl) (G1 ?_)
 refine .shrN 1 8 J J J J J dE (.conv J J J Y3.h Y5.h (show Value.int .u8 (IntKind.u8.wrap ((1/2^8:Nat):Int))=u8 0 from rfl) (.build (cs:=Aa s1B) J J J (λw=>by kernel_rfl) ?_));refine .sA J J J J zE Sz28 (by(simp[s1B_length];done)) Z0 sP zU ?_;refine G2 ?_;refine G2 ?_;refine⟨_,[],Ax J J Y28.h J Sz28 Z0 (by simp[s1B_length]),sP,sP,?_,rfl⟩;rfl
theorem kitS2  :Mv 116 [i64 2] (λ_=>True) (agg (Aa s2B)):=by
 intro W hW;refine Ae func116 J 9 ntmps116 J (G2 ?_);refine .alloc (cs:=(Aa (List.replicate 32 0))) J Zr28 J ?_;intro n2 ab aa;refine G5 ?_;refine .conv J J J Y3.h Y5.h (show Value.int .u8 (IntKind.u8.wrap 2)=u8 2 from rfl) (G1 ?_)
 refine .shrN 2 8 J J J J J dE (.conv J J J Y3.h Y5.h (show Value.int .u8 (IntKind.u8.wrap ((2/2^8:Nat):Int))=u8 0 from rfl) (.build (cs:=Aa s2B) J J J (λw=>by kernel_rfl) ?_));refine .sA J J J J zE Sz28 (by(simp[s2B_length];done)) Z0 sP zU ?_;refine G2 ?_;refine G2 ?_;refine⟨_,[],Ax J J Y28.h J Sz28 Z0 (by simp[s2B_length]),sP,sP,?_,rfl⟩;rfl
def bl1(q:Nat):Block:={ Block.zero with fLinks:=⟨some ⟨q,0,none⟩,1,1⟩ }
theorem bl1_ok(q:Nat):(bl1 q).ok:=⟨rfl,rfl,rfl⟩
theorem bl1_is(hn:n.length=32)(h:Dd w q 0 (Aa n)):BlockIs w (bl1 q) { DB.zero with ls:=[n] }:=⟨bl1_ok q,rfl,rfl,rfl,row_one hn h,(zero_is w).ds,rfl⟩
def ChainS(Da Db Dc:DB)(v:Value)(out:List Blk):Prop:=∃(q:Nat) (Ba Bb Bc:Block) (bl:List Blk),SameB Ba Da/\SameB Bb Db/\SameB Bc Dc/\v= .slice (some ⟨q,0,none⟩) 3 3/\out=⟨q,tri Ba Bb Bc,37,(tri Ba Bb Bc).length⟩::bl/\∀W2,Lies bl W2->BlockIs W2 Ba Da/\BlockIs W2 Bb Db/\BlockIs W2 Bc Dc
theorem tri_sees(ha:a.ok)(hb:b.ok)(hc:c.ok)(h:BlkOk w ⟨q,tri a b c,T,m⟩):Dd w q (0+0*131) a.cells/\Dd w q (0+1*131) b.cells/\Dd w q (0+2*131) c.cells:=by
  have part:∀(o:Nat) (l:List Value),((tri a b c).drop o).take 131=l->Dd w q o l:=λo l e=>sees_kok h λj v hj=>by
    rw[<-e]at hj;have h1:=(Laa.1 hj).1;rw[Lex (by rw[Lac]at h1;omega),Lba]at hj;exact hj
  exact⟨part _ _ (tri_0 ha),part _ _ (tri_1 ha hb),part _ _ (tri_2 ha hb hc)⟩
theorem tri_blocks{Da Db Dc:DB}(h:BlkOk w ⟨q,tri a b c,T,m⟩)(hi:BlockIs w a Da/\BlockIs w b Db/\BlockIs w c Dc):BlocksAt w ⟨some ⟨q,0,none⟩,3,3⟩ [Da,Db,Dc]:=by
  obtain⟨ha,hb,hc⟩:=hi;refine⟨[a,b,c],rfl,rfl,λi r d hr hd=>?_,λr hr=>?_,Lag 3,?_,(by show 3<=maxLen;decide),λe=>by cases e⟩
  . rcases i with _|_|_|i
    .cases hr;cases hd;exact ha
    .cases hr;cases hd;exact hb
    .cases hr;cases hd;exact hc
    .cases hr
  . simp only[Lam,Lc1,or_false]at hr
    rcases hr with rfl|rfl|rfl
    .exact Block.length ha.ok
    .exact Block.length hb.ok
    .exact Block.length hc.ok
  . refine SeesP.of (sees_kok h λj v hj=>?_)
    rw[Lb0];exact hj
theorem mA_g:dgood mAD=0:=mA_f.2.2.1
theorem mB_g:dgood mBD=0:=mB_f.2.2.1
theorem mL_g:dgood mLD=0:=mL_f.2.2.1
theorem mA_nm:A6 mAD=mAN:=mA_f.2.1
theorem mB_nm:A6 mBD=mBN:=mB_f.2.1
theorem mL_nm:A6 mLD=mLN:=mL_f.2.1
def cX1:PD:=PD.new.adm mAN mAD
def cX2:PD:=cX1.adm mBN mBD
def cX3:PD:=cX2.adm mLN mLD
theorem c_add1:PD.new.add mAD=(cX1,[mAN],0):=by
  have h:=add_fits (X:=PD.new) mA_g (by rw[mA_nm];kernel_rfl) zK;rw[mA_nm]at h;have e:PD.settle (PD.new.adm mAN mAD).orp.length (PD.new.adm mAN mAD)=(cX1,[]):=by kernel_rfl
  rw[h,e]
theorem c_add2:cX1.add mBD=(cX2,[mBN],0):=by
  have h:=add_fits (X:=cX1) mB_g (by rw[mB_nm];kernel_rfl) zK;rw[mB_nm]at h;have e:PD.settle (cX1.adm mBN mBD).orp.length (cX1.adm mBN mBD)=(cX2,[]):=by kernel_rfl
  rw[h,e]
theorem c_add3:cX2.add mLD=(cX3,[mLN],0):=by
  have h:=add_fits (X:=cX2) mL_g (by rw[mL_nm];kernel_rfl) zK;rw[mL_nm]at h;have e:PD.settle (cX2.adm mLN mLD).orp.length (cX2.adm mLN mLD)=(cX3,[]):=by kernel_rfl
  rw[h,e]
theorem c_fill:fillP PD.new [mAD,mBD,mLD]=cX3:=by
  simp only[fillP,Le2,Lgj,c_add1,c_add2,c_add3]
theorem c_inv:cX3.Inv:=by rw[<-c_fill];exact PD.Inv.fill _ PD.Inv.new
theorem rB_nil(X:PD)(n:List UInt8):rB X (-1) [] n=false:=by
  cases h:rB X (-1) [] n with
  |false=>rfl
  |true=>exact(reach_nil (rB_iff.1 h)).elim
theorem beneath_nil(X:PD):(Cl X []).length=0:=by
  unfold Cl;rw[Lf9.2 λn _=>by rw[rB_nil];decide];rfl
theorem reach_in{X:PD}(hI:X.Inv){L:List (List UInt8)}{D:DB}(hn:n∈L)(hD:An X.P n=some D):X.Reach (-1) L n:= .base hn hD (by have:=hI.d0 n D hD;omega)
end Go.Proofs.YtbdfihcjddbhaaaGreat
namespace Go.Proofs.YtbdfihcjddbhaaaGreat
open Go Hw _root_.Go.Proofs.Tryz
variable{B:Block}{C:Cx}{D:DB}{L hp:List Blk}{w:World}{x:RD}
theorem seesP_far{w w2:World}(h:HRep C hp w)(hl:C.lent=[])(hL:∀b∈L,b∈hp)(hk:Keeps (L.map (·.n)) w w2){p:Option Addr}{cs:List Value}(hs:SeesP C.W0 p cs):SeesP w2 p cs:=λj v hj=>by
  obtain⟨b,o,hp1,hc⟩:=hs j v hj;refine⟨b,o,hp1,?_⟩;have hlt:=cell_lt' hc;have h1:w.cell? ⟨b,o+j,none⟩=some v:=h.keeps.cell (by rw[hl];simp) hc;refine hk.cell (λhm=>?_) h1;obtain⟨x,hx,e⟩:=La6.1 hm;rcases h.own x (hL x hx)with h2|h2
  . have e2:x.n=b:=e
    omega
  .rw[hl]at h2;cases h2
theorem block_far(h:HRep C hp w)(hL:∀b∈L,b∈hp)(hb:BlockIs C.W0 B D)(hl:C.lent=[]:=by rfl):∀w2,Keeps (L.map (·.n)) w w2->BlockIs w2 B D:=λw2 hk=>
  ⟨hb.ok,hb.w,hb.seq,hb.prev,⟨hb.ls.len,hb.ls.row,hb.ls.cap,seesP_far h hl hL hk hb.ls.see,hb.ls.max,hb.ls.nil⟩,⟨hb.ds.len,hb.ds.cap,seesP_far h hl hL hk hb.ds.see,hb.ds.max,hb.ds.nil⟩,hb.sg⟩
theorem rd_lent{hp keep:List Blk}{p:Nat}(h:HRep C hp w)(hp1:hp.Perm (x.blks p++keep))(hb:BlockIs C.W0 B D)(hl:C.lent=[]:=by rfl):Lent (x.blks p) w/\∀w2,Keeps ((x.blks p).map (·.n)) w w2->BlockIs w2 B D:=
  ⟨Lent.of h hp1,block_far h (λb hb=>hp1.mem_iff.2 (Lak _ hb)) hb hl⟩
theorem RRel.new:RRel PD.new [] []:=⟨rfl,Lco _,List.Pairwise.nil⟩
theorem rd_new0:(⟨Sl.nil,[],[],Sl.nil,[],[],[]⟩:RD).ok:=⟨Acc.none,Acc.none,λe he=>(by cases he),λe he=>(by cases he),Laf _,Laf _⟩
def rkNames(x:RD):List (List UInt8):=x.L.map λe=>e.1.fName
theorem rkNames_P(x:RD):rkNames x=x.P.map (·.1):=by unfold rkNames RD.P rp;rw[Lgt];rfl
theorem rkNames_at{k:Nat}{e:RE}(h:x.L[k]? =some e):(rkNames x).take (k+1)=(rkNames x).take k++[e.1.fName]:=by
  obtain⟨h1,h2⟩:=Laa.1 h;unfold rkNames;rw[<-Lbh,<-Lbh,Las h1,Lae,h2];rfl
theorem rkNames_32(hx:x.ok):∀l∈rkNames x,l.length=32:=λl hl=>by
  obtain⟨e,he,rfl⟩:=La6.1 hl;exact(hx.okL e he).l_fName
theorem rd_names(x:RD)(hx:x.ok)(p:Nat):Meets prog 21 [ptr p 0] [] (λW=>Lies (x.blks p) W) (RowA (rkNames x)):=by
 intro W hW;have ap:=hx.big;have ar:=hx.accL.num;have au:=hx.accO.num;have ae:=rd_L hW;have an:=rd_seeL hx hW;have aq:=rkNames_32 hx;have am:(rkNames x).length=x.L.length:=La0 _;refine Ae func21 J 26 ntmps21 J (G17 ?_);refine .loop (ι:=Nat×Sl×List Blk) (λr=>⟨[(0,ptr p 0),(3,r.2.1.v),(4,i64 (r.1:Int))],(r.2.2++[])⟩) (λr=>r.1<=x.L.length/\Hw.Acc r.2.1 r.2.2 (Aq ((rkNames x).take r.1)) 31 r.1 32) (λr=>x.L.length-r.1) ((0,Sl.nil,[])) ?_ ?_ ?_
 .exact⟨Laf _,Acc.none⟩
 .exact Af wN (Ac (by repeat(exact C8)) Ad)
 rintro⟨k,s,bl⟩ ⟨hk,aa⟩;simp only at hk aa ⊢;have av:=aa.num;refine G7 ?_;refine .loadE J J J Y109.h J sP (ae) (G4 ?_);refine .condP J (λaj=>?_) (λaj=>?_)
 ·
  have ag:k<x.L.length:=by omega
  obtain⟨e,hd⟩:∃e,x.L[k]? =some e:=⟨_,La4 ag⟩;have ac:=(hx.okL e (Lau hd)).l_fName;obtain⟨b,o,ah,ai⟩:=rd_open an hx.okL ag;refine G9 ?_;refine .loadE J J J Y109.h J sP (ae) (G1 ?_);refine .idxSlP 163 J J J ah J Y109.h Sz113 k (by rfl) oM ?_;refine G1 ?_;refine .loadEN (Aa e.1.fName) J J J Y31.h J Sz31 sP (by rw[Aa,La0];exact ac) (rk_name ai hx.okL hd) ?_;refine .mkRow2 (z:=agg (Aa (List.replicate 32 0))) [agg (Aa e.1.fName)] (Aa e.1.fName) J J Y32.h Sz31 Bz J J (by intro v hv;rw[La1.1 hv];simp[Value.cells,Aa,ac]) dE (by simp[Value.cells,agg]) ?_;intro aw;refine .appendAcc (n:=k) (z:=agg (Aa (List.replicate 32 0))) (by':=32) (Aa e.1.fName) J J J J J Y32.h Y32.h Sz31 Bz (by unfold By;kernel_rfl) J aa sG (λw h=>SeesP.of (Ar h Z0)) (λe=>by cases e) (Ay _) oM oM (by rw[Aa,La0,ac]) ?_;intro ao ad ab;refine G10 ?_;exact⟨(k+1,ao,ad),⟨by simp only;omega,by simp only;rw[rkNames_at hd,Br,show Aq [e.1.fName]=Aa e.1.fName by simp[Aq]];exact ab⟩,by simp only;omega,Af wN (Ac sG Ad)⟩
 have ak:k=x.L.length:=by omega
 refine G11 ?_;refine G2 ?_;refine Ao (out:=(bl++[])) (Ag J J) (Ac sG Ad) ?_;rw[La5 oM]at aa;exact⟨s,rfl,by rw[am,<-ak];simpa using aa⟩
theorem rd_get(x:RD)(hx:x.ok)(p:Nat)(X:PD)(hP:x.P=X.P)(ao:∀q∈X.P,q.2.check=0)(n:List UInt8)(ac:n.length=32):Meets prog 79 [ptr p 0,agg (Aa n)] [] (λW=>Lies (x.blks p) W) (GetR X n):=by
 intro W hW;have au:=hx.big;have ar:=hx.accL.num;have a2:=hx.accO.num;have ad:=rd_L hW;have ah:=rd_seeL hx hW;refine Ae func79 J 25 ntmps79 J (G3 ?_);intro n3 az ax;refine .alloc (cs:=Block.zero.cells) J Block.zr J ?_;intro n4 a1 ay;refine G4 ?_;refine .draw (oPq [0,1,2,103,104,305,6]) Au zK (G3 ?_);refine .loadE J J J Y109.h J sP (ad) (.lA J J J Y31.h J Sz31 Z1 (by(simp[ac];done)) ?_);refine .cV J J J J Body104 (rd_find x.sL x.L ar.symm hx.okL oM n ac) (λw h=>A8 h J ah) (G10 ?_);refine .condP J (λan=>?_) (λan=>?_)
 ·
  have hm:An X.P n=none:=by rw[<-hP];exact rd_no oM
  refine G2 ?_;refine .build (cs:=Block.zero.cells) J J J (λw=>by kernel_rfl) ?_;refine G4 ?_;refine G3 ?_;refine Ao (out:=[]) (Bg J J J Y37.h J Sz37 Z0 (by exact Block.length (by exact Block.zero_ok))) Ad ?_;exact .inl ⟨hm,rfl,rfl⟩
 obtain⟨k,e,hf,hk,hn,aq⟩:=rd_hit (show 0<=fstBad (rkN n) x.L by omega);have hm:An X.P n=some e.2:=by rw[<-hP];exact aq
 have ag:=hx.entL e (Lau hk);have ae:=ag.1;have ap:=(Laa.1 hk).1;obtain⟨b,o,ak,am⟩:=rd_open ah hx.okL ap;have ai:=ck_small (ao _ (Bi hm));simp only at ai;obtain⟨av,aw⟩:=ai;refine G7 ?_;refine .loadE J J J Y109.h J sP (ad) (G1 ?_);refine .idxSlP 163 J J J ak J Y109.h Sz113 k oM oM (G1 ?_);refine .loadEN e.1.fBlock.cells J J J Y37.h J Sz37 sP (Block.length ae.o_fBlock) (rk_blk am hx.okL hk) (.call4 J J J J J Body102 (r15_Copy e.1.fBlock e.2 ae.o_fBlock oM oM) (λw h=>ag.2.1.2 w (rd_cb (Bf hW h))) ?_);rintro a6 ab ⟨B2,aa,rfl,aj⟩;refine .sA J J J J (Block.isCell (by exact aa.ok)) Sz37 (Block.length (by exact aa.ok)) mR (Block.length (by exact Block.zero_ok)) (by(repeat(first|exact upd0|apply Upd.seg))) ?_;refine G3 ?_;refine G2 ?_;refine Ao (out:=(ab++[])) (Bg J J J Y37.h J Sz37 mR (by exact Block.length (by exact aa.ok))) (Ac sG Ad) ?_;exact .inr ⟨e.2,B2,hm,aa,rfl,λW2 hl=>aj W2 (by simpa using hl)⟩
theorem law17_known(s:Sl)(ds:List DB)(hn:s.n<=1000)(ae:∀d∈ds,d.ls.length<=500000/\d.ds.length<=500000):Meets prog 20 [s.v] [] (λW=>BlocksAt W s ds) (λv out=>∃(p:Nat) (x:RD),v=ptr p 0/\out=x.blks p/\x.ok/\RRel (fillP PD.new ds) x.P x.Q/\x.L.length+x.O.length<=ds.length):=by
 intro W hW;obtain⟨rs,hs⟩:=hW;have av:=hs.nd;refine Ae func20 J 19 ntmps20 J (G7 ?_);refine .call4 J J J J J Body62 (rd_new) tV ?_;rintro v5 ar ⟨p,rfl,rfl⟩;refine G10 ?_;refine .loop (ι:=Nat×RD) (λr=>⟨[(0,s.v),(3,ptr p 0),(4,i64 (r.1:Int))],(r.2.blks p++[])⟩) (λr=>r.1<=s.n/\r.2.ok/\RRel (fillP PD.new (ds.take r.1)) r.2.P r.2.Q/\r.2.L.length+r.2.O.length<=r.1) (λr=>s.n-r.1) ((0,⟨Sl.nil,[],[],Sl.nil,[],[],[]⟩)) ?_ ?_ ?_
 .exact⟨Laf _,rd_new0,RRel.new,Lag _⟩
 .exact Af wN (Ac sG Ad)
 rintro⟨k,x⟩ ⟨hk,hx,aa,ak⟩;simp only at hk hx aa ak ⊢;refine G9 ?_;refine .condP J (λag=>?_) (λag=>?_)
 ·
  have ai:k<s.n:=by omega
  obtain⟨b,o,r,d,am,hr,hd,ah,ac,ad⟩:=hs.at dE ai;refine G8 ?_;refine .idxSlP 131 J J J am J Y22.h Sz37 k J oM (.loadEN r.cells J J J Y37.h J Sz37 sP ac ad (.callL (L:=(x.blks p)) J J J J J Body63 (rd_add x hx (fillP PD.new (ds.take k)) (PD.Inv.fill _ PD.Inv.new) aa p r d oM (ae d (Lau hd)).1 (ae d (Lau hd)).2) sG (lent_ok J) (λw h=>rd_lent h sG ah) ?_));rintro ax ao ⟨x1,au,aw,ap,rfl,rfl,an,ab,aq⟩;simp only[Lab];refine G9 ?_;exact⟨(k+1,x1),⟨by simp only;omega,an,by simp only;rw[take_snoc hd,fillP_snoc];exact ab,by simp only;omega⟩,by simp only;omega,Af wN (Ac sG Ad)⟩
 have aj:k=s.n:=by omega
 refine G11 ?_;refine G2 ?_;refine Ao (out:=(x.blks p++[])) (Ag J J) (Ac sG Ad) ?_;refine⟨p,x,rfl,by simp,hx,?_,by omega⟩;rw[aj,La5 oM]at aa;exact aa
open Go.RowKit Go.Shelf Go.Lib Go.Sort
set_option maxHeartbeats 2000000
variable{W w:World}{α:Type}
theorem ret_grow{W W':World}{out:List Blk}(h:Ret [] out W W'):∃q os',W'=grow (W.drewN q) os':=by
  have k:=h.keeps;refine⟨W'.drawn-W.drawn,W'.heap.extract W.heap.size W'.heap.size,?_⟩;have hd:W.drawn+(W'.drawn-W.drawn)=W'.drawn:=by have:=k.drawn;omega
  have hh:W.heap++W'.heap.extract W.heap.size W'.heap.size=W'.heap:=by
    refine Lep λi=>?_;rcases Lb5 i W.heap.size with h1|h1
    .rw[Ldv h1];exact(k.block i h1 sP).symm
    . rw[Array.getElem?_append_right h1,Array.getElem?_extract]
      have:=k.size;split
      .rw[show W.heap.size+(i-W.heap.size)=i by omega]
      .rw[Lcr oM]
  obtain⟨hp,tp,dr,os,ot⟩:=W';obtain⟨hp0,ad,aa,ab,ac⟩:=W;have e1:=k.os;have e2:=k.tape;have e3:=k.output;simp only at e1 e2 e3 hd hh;subst e1;subst e2;subst e3;simp only[grow,World.drewN,hd,hh]
theorem sort_keep[Inhabited α]{enc:α->List Value}{k q m:Nat}{dk:Array α}{os:Array Obj}{i:Nat}(hi:i<W.heap.size)(aa:i≠q):(sortWorldK enc k W q 0 m dk os).heap[i]? =W.heap[i]? :=by
  simp only[sortWorldK,grow,putRowK,putRow,mapBlock];rw[Ldv (by simpa using hi),Le4,if_neg (λe:q=i=>aa e.symm)];rfl
theorem flatK_any[Inhabited α](g:α->List UInt8)(hg:∀x,(g x).length=32)(d:Array α):∀(j:Nat) (v:Value),(Aq (d.toList.map g))[j]? =some v->j<d.size*32/\(flatK (λx=>Aa (g x)) 32 d)[j]! =v:=λj v hj=>by
  have ab:∀l∈d.toList.map g,l.length=32:=λl hl=>by obtain⟨x,_,rfl⟩:=La6.1 hl;exact hg x
  have ac:=As ab;have hlt:=(Laa.1 hj).1;rw[ac]at hlt;have aa:j<d.size*32:=by simpa using hlt
  refine⟨aa,?_⟩;rw[get_flatK _ _ _ _ aa];have hi:j/32<d.size:=by omega
  have hc:((d.toList.map g).map Aa)[j/32]? =some (Aa (g d[j/32]!)):=by
    rw[Lad,Lad];have:d.toList[j/32]? =some d[j/32]! :=by simp[hi]
    rw[this];rfl
  have hm:j%32<(Aa (g d[j/32]!)).length:=by rw[Aa,La0,hg];omega
  have:=flat_get (m:=32) (λl hl=>flatB_all ab l hl) hc hm;have e:j/32*32+j%32=j:=by omega
  rw[e]at this;have ad:((d.toList.map g).map Aa).flatten[j]? =some v:=hj;rw[ad]at this;rw[Lgl,<-this];rfl
theorem sort_by(q n c m:Nat)(ks:List (List UInt8))(am:∀l∈ks,l.length=32)(hl:ks.length=n)(h0:0<n)(be:n<=1000000)(hm:n*32<=m)(f:Nat)(aa:List Value)(cf:List UInt8->List UInt8->Int)(ba:SWO (ltOf λx y: {l:List UInt8//l∈ks}=>cf x.1 y.1))(bl:List Blk)
    (eg:∀args w,(callFunc f args).run prog w= .ok (.enter f args) w) (ax:∀x∈ks,∀y∈ks,Meets prog f ([agg (Aa x),agg (Aa y)]++aa) [] (Lies bl) (λv out=>v=i64 (cf x y)/\out=[])):
    Meets prog 47 [.slice (some ⟨q,0,none⟩) n c, .func (.func f) #[] aa.toArray] [q] (λW=>BlkOk W ⟨q,Aq ks,31,m⟩/\Lies bl W/\∀b∈bl,b.n≠q)
    (λv out=>v= .tuple #[]/\∃ab:List (List UInt8),ab.Perm ks/\ab.Pairwise (λa b=>¬cf b a<0)/\out=[⟨q,Aq ab,31,m⟩]):=λW ⟨hb,an,aw⟩=>by
  haveI:Inhabited {l:List UInt8//l∈ks}:=⟨⟨ks[0]'oM,Lcq _⟩⟩
  obtain⟨d,hd⟩:∃d:Array {l:List UInt8//l∈ks},d=ks.attach.toArray:=⟨_,rfl⟩;have aq:d.toList.map (·.1)=ks:=by rw[hd];simp
  have hds:d.size=n:=by rw[hd,<-hl];simp
  have hg:∀x: {l:List UInt8//l∈ks},x.1.length=32:=λx=>am x.1 x.2;have av:∃full fr,BlkAt W ⟨q,Aq ks,31,m⟩ full fr:=hb;obtain⟨full,fr,ad⟩:=av;have ay:=As am;have hH:HoldsK (λx: {l:List UInt8//l∈ks}=>Aa x.1) 32 W q 0 d:=λj hj=>by
    rw[size_flatK]at hj;have ai:j<(Aq ks).length:=by rw[ay,hl,<-hds];exact hj
    have h1:=La4 ai;have h2:=(flatK_any (λx: {l:List UInt8//l∈ks}=>x.1) hg d j _ (by rw[aq];exact h1)).2;rw[h2];exact⟨hb.cell (b:=⟨q,Aq ks,31,m⟩) (by rw[Lb0];exact h1),ad.unfrozen (by show 0+j<m;omega)⟩
  have ao:CmpLays prog f aa.toArray (λx: {l:List UInt8//l∈ks}=>Aa x.1) 32 (λx y=>cf x.1 y.1) q 0 d.size W:=λk os dk hk x y=>by
    have a6:Lies bl (sortWorldK (λx: {l:List UInt8//l∈ks}=>Aa x.1) 32 W q 0 k dk os):=λb ac=>(an b ac).of_heap (sort_keep (an b ac).lt (aw b ac));have h3:=ax x.1 x.2 y.1 y.2 _ a6;have e:([agg (Aa x.1),agg (Aa y.1)]++aa).toArray= #[.agg (Aa x.1).toArray, .agg (Aa y.1).toArray]++aa.toArray:=by simp[agg]
    rw[e]at h3;exact h3.mono λe' W' ⟨v,out,he,⟨hv,_⟩,hr⟩=>⟨by rw[he,hv],ret_grow hr⟩
  have au:∀w,(Go.sizeOf (sortD_ren.t 24)).run prog w= .ok 32 w:=by
    intro w;have e:sortD_ren.t 24=31:=by rfl
    rw[e];exact Ch Sz31 w
  have ap:=AnyQ.slices_SortFunc sortD 32 (λw=>run_isAgg_arr Y31.h rfl w) (λw=>au w) (λx: {l:List UInt8//l∈ks}=>Aa x.1) (λx=>by rw[Aa,La0,hg x]) (λx v hv=>by obtain⟨u,_,rfl⟩:=La6.1 hv;rfl) (λx y=>cf x.1 y.1) ba f aa.toArray q 0 c d W eg ao hH hb.lt oM;have ae:Calls prog 47 #[.slice (some ⟨q,0,none⟩) d.size c, .func (.func f) #[] aa.toArray] W _:=ap;rw[hds]at ae;refine ae.mono λe W' ⟨he,d',k,os,hp,hs,hw⟩=>?_;subst hw;have ah:d'.size=d.size:=hp.1;obtain⟨ab,ag⟩:∃ab,ab=d'.toList.map (·.1):=⟨_,rfl⟩;have bc:∀l∈ab,l.length=32:=λl hl=>by rw[ag]at hl;obtain⟨x,_,rfl⟩:=La6.1 hl;exact hg x
  have a7:ab.length=n:=by rw[ag];simp[ah,hds]
  have aj:ab.Perm ks:=by
    have h4:(d'.toList.map (·.1)).Perm (d.toList.map (·.1)):=by
      refine List.Perm.map _ ?_;have h3:=hp.2.2;have e1:d.extract 0 d.size=d:=by simp
      have e2:d'.extract 0 d.size=d':=by rw[<-ah];simp
      rw[<-hds]at h3;rwa[e1,e2]at h3
    rw[ag];rw[aq]at h4;exact h4
  have ak:ab.Pairwise (λa b=>¬cf b a<0):=by
    rw[ag];refine Lgx.2 (Lde.2 λi j hi hj a1=>?_);have h4:=hs i j (Laf _) a1 (by rw[<-hds,<-ah];simpa using hj);have h5:decide (cf d'[j]!.1 d'[i]!.1<0)=false:=h4;rw[decide_eq_false_iff_not]at h5;have az:i<d'.size:=by simpa using hi
    have ai:j<d'.size:=by simpa using hj
    rw[getElem!_pos d' j ai,getElem!_pos d' i az]at h5;simpa using h5
  refine⟨_,_,he,⟨rfl,ab,aj,ak,rfl⟩,⟨⟨rfl,rfl,rfl,?_,Lha W.drawn k,λi hi hn=>?_⟩,λb ac=>?_,by simp,λb ac=>?_⟩⟩
  .simp[sortWorldK,grow,putRowK]
  .exact sort_keep hi (by simpa using hn)
  . rw[La1.1 ac]
    have hq:W.heap[q]? =some (.cells full 31 fr):=ad.heap;have a8:q<W.heap.size:=hb.lt;refine⟨putCells id 0 (flatK (λx: {l:List UInt8//l∈ks}=>Aa x.1) 32 d') full,fr,?_,by simpa[putCells]using ad.size,?_,ad.free⟩
    . simp only[sortWorldK,grow,putRowK,putRow,mapBlock]
      rw[Ldv (by simpa using a8),Le4,if_pos rfl,show(Go.Sort.ahead W k).heap[q]? =some (Obj.cells full 31 fr)from hq];rfl
    . have ar:=ad.size
      simp only at ar;rw[prefix_iff];intro j v hj;simp only at hj;have hf:=flatK_any (λx: {l:List UInt8//l∈ks}=>x.1) hg d' j v (by rw[<-ag];exact hj);simp only[putCells,Le3,Array.getElem?_mapIdx];have a2:j<full.size:=by rw[ar];have:=hf.1;omega
      rw[Ld3 a2];simp only[Lbj,La7,Laf,true_and,Lb0,size_flatK,Lgk];rw[if_pos hf.1,hf.2];rfl
  .rw[La1.1 ac];exact .inr sP
theorem sort_none_f(p:Option Addr)(c:Nat)(f:Value):Mv 47 [.slice p 0 c,f] (λ_=>True) (.tuple #[]):=λW _=>by
  have ab:=AnyF.slices_SortFunc_none sortD p c f W;have aa:Calls prog 47 #[.slice p 0 c,f] W _:=ab;refine aa.mono λe W' h=>?_;obtain⟨he,hw⟩:=h;subst hw;exact⟨_,[],he,⟨rfl,rfl⟩,⟨Keeps.refl _ _,λb hb=>(by cases hb),Lch,λb hb=>(by cases hb)⟩⟩
def or2(x y:Int):Int:=if x≠0 then x else y
theorem cmp_or2(q:Nat)(x y:Int):Mv 49 [.slice (some ⟨q,0,none⟩) 2 2] (λW=>Dd W q 0 [i64 x,i64 y]) (i64 (or2 x y)):=by
  intro W hW;refine Ae func49 J 18 ntmps49 J (G19 ?_);refine .loop (ι:=Nat) (λk=>⟨[(0, .slice (some ⟨q,0,none⟩) 2 2),(3,i64 0),(6, .slice (some ⟨q,0,none⟩) 2 2),(7,i64 2),(8,i64 (k:Int))],[]⟩) (λk=>k<=2/\(0<k->x=0)/\(1<k->y=0)) (λk=>2-k) (0) ?_ ?_ ?_
  .exact⟨by decide,λh=>by omega,λh=>by omega⟩
  .exact Ah wN wh0 nD
  rintro k ⟨hk,hx,hy⟩;refine G6 ?_;refine .condP J (λac=>?_) (λac=>?_)
  ·
    have ad:k<2:=by omega
    obtain⟨z,hz⟩:∃z,[x,y][k]? =some z:=⟨_,La4 (by simpa using ad)⟩;have aa:z=[x,y].getD k 0:=by rw[La3,hz];rfl
    have ae:[i64 x,i64 y][k]? =some (i64 z):=by rcases(show k=0\/k=1 by omega)with rfl|rfl<;>(simp at hz;simp[hz])
    refine G6 ?_;refine .idxSlP 1 J J J J J Y51.h Sz3 k J oM (.loadE J J J Y3.h J sP ((by have:=hW k _ ae;simpa using this)) ?_);refine G10 ?_;refine .condNP J (λab=>?_) (λab=>?_)
    ·
      refine G6 ?_;refine G7 ?_;refine⟨_,[],Ag J J,sP,sP,?_,rfl⟩;first
        | (rcases(show k=0\/k=1 by omega)with rfl|rfl
           . obtain rfl:z=x:=by rw[aa];rfl
             rw[or2,if_pos oM]
           . obtain rfl:z=y:=by rw[aa];rfl
             rw[or2,if_neg (by have:=hx oM;omega)])
        |rw[or2,hx oM,hy oM];rfl
    refine G8 ?_;refine⟨k+1,⟨by omega,λ_=>?_,λ_=>?_⟩,by omega,Ah wN wh0 nD⟩
    . rcases(show k=0\/k=1 by omega)with rfl|rfl
      .rw[aa]at ab;simpa using ab
      .exact hx oM
    . obtain rfl:k=1:=by omega
      rw[aa]at ab;simpa using ab
  have ag:k=2:=by omega
  refine G11 ?_;refine G2 ?_;refine⟨_,[],Ag J J,sP,sP,?_,rfl⟩;first
    | (rcases(show k=0\/k=1 by omega)with rfl|rfl
       . obtain rfl:z=x:=by rw[aa];rfl
         rw[or2,if_pos oM]
       . obtain rfl:z=y:=by rw[aa];rfl
         rw[or2,if_neg (by have:=hx oM;omega)])
    |rw[or2,hx oM,hy oM];rfl
def cmpD(X:PD)(a b:List UInt8):Int:=or2 (cmpI (X.dp a) (X.dp b)) (Cn a b)
def LeD(X:PD)(a b:List UInt8):Prop:=X.dp a<X.dp b\/X.dp a=X.dp b/\Cn a b<=0
theorem cmpD_neg(X:PD)(a b:List UInt8):cmpD X a b<0↔X.dp a<X.dp b\/X.dp a=X.dp b/\Cn a b<0:=by
  unfold cmpD or2 cmpI;split<;>(repeat split)<;>omega
theorem cmpD_le(X:PD)(a b:List UInt8):¬cmpD X b a<0↔LeD X a b:=by
  have:=cmpB_neg a b;rw[cmpD_neg];unfold LeD;omega
theorem swoD(X:PD)(ks:List (List UInt8)):SWO (ltOf λx y: {l:List UInt8//l∈ks}=>cmpD X x.1 y.1):=by
  have e:∀x y: {l:List UInt8//l∈ks},ltOf (λx y: {l:List UInt8//l∈ks}=>cmpD X x.1 y.1) x y=decide (cmpD X x.1 y.1<0):=λ_ _=>rfl;constructor
  . intro x
    rw[e,decide_eq_false_iff_not,cmpD_neg,cmpB_self];omega
  . intro x y z h1 h2
    rw[e,decide_eq_true_eq,cmpD_neg]at*;have:=cmpB_trans x.1 y.1 z.1;omega
  . intro x y z h1 h2
    rw[e,decide_eq_false_iff_not,cmpD_le]at*;have:=cmpB_trans z.1 y.1 x.1;unfold LeD at*;omega
def SortD(X:PD)(ks:List (List UInt8)):Prop:=ks.Pairwise (LeD X)
theorem sortD_unique{X:PD}{a b:List (List UInt8)}(hp:a.Perm b)(ha:SortD X a)(hb:SortD X b):a=b:=
  hp.eq_of_pairwise (λx y _ _ h1 h2=>by
    have h3:=cmpB_neg x y;unfold LeD at h1 h2;exact(cmpB_zero x y).1 oM) ha hb
theorem Lies.app{a b:List Blk}(h1:Lies a w)(h2:Lies b w):Lies (a++b) w:=λx hx=>by
  rcases La8.1 hx with h|h
  .exact h1 x h
  .exact h2 x h
theorem sort_acc_by(s:Sl)(bl:List Blk)(ks:List (List UInt8))(ae:∀l∈ks,l.length=32)(ah:ks.length<=1000000)(ai:Hw.Acc s bl (Aq ks) 31 ks.length 32)(f:Nat)(ab:List Value)(cf:List UInt8->List UInt8->Int)(am:SWO (ltOf λx y: {l:List UInt8//l∈ks}=>cf x.1 y.1))(bl2:List Blk)
    (eg:∀args w,(callFunc f args).run prog w= .ok (.enter f args) w) (aj:∀x∈ks,∀y∈ks,Meets prog f ([agg (Aa x),agg (Aa y)]++ab) [] (Lies bl2) (λv out=>v=i64 (cf x y)/\out=[])):
    Meets prog 47 [s.v, .func (.func f) #[] ab.toArray] (bl.map (·.n)) (λW=>Lies bl W/\Lies bl2 W/\∀b∈bl2,∀b'∈bl,b.n≠b'.n)
    (λv out=>v= .tuple #[]/\∃aa:List (List UInt8),aa.Perm ks/\aa.Pairwise (λa b=>¬cf b a<0)/\Hw.Acc s out (Aq aa) 31 ks.length 32):=λW ⟨h1,h2,h3⟩=>by
  rcases ai with ⟨rfl,rfl,hz,hn⟩|⟨q,c,rfl,ad,ak,rfl⟩
  . obtain rfl:=Lai hn
    exact(sort_none_f none 0 _ W trivial).mono λe W' ⟨v,out,he,⟨hv,ho⟩,hr⟩=>⟨v,out,he,⟨hv,[],Lco _,List.Pairwise.nil, .inl ⟨rfl,ho,rfl,rfl⟩⟩,hr⟩
  . have hb:BlkOk W ⟨q,Aq ks,31,c*32⟩:=h1 _ (La1.2 rfl)
    by_cases h0:ks.length=0
    . obtain rfl:=Lai h0
      refine(sort_none_f (some ⟨q,0,none⟩) c _ W trivial).mono λe W' ⟨v,out,he,⟨hv,ho⟩,hr⟩=>⟨v,[⟨q,Aq [],31,c*32⟩],he,⟨hv,[],Lco _,List.Pairwise.nil, .inr ⟨q,c,rfl,ad,ak,rfl⟩⟩,⟨hr.keeps.mono sP,λb ac=>?_,by simp,λb ac=>?_⟩⟩
      . rw[La1.1 ac]
        exact hb.of_heap (hr.keeps.block q hb.lt sP)
      .rw[La1.1 ac];exact .inr sP
    . refine(sort_by q ks.length c (c*32) ks ae rfl oM ah (Les 32 ad) f ab cf am bl2 eg aj W ⟨hb,h2,λb ac=>h3 b ac _ (La1.2 rfl)⟩).mono λe W' ⟨v,out,he,⟨hv,aa,hp,hs,ho⟩,hr⟩=>⟨v,out,he,⟨hv,aa,hp,hs,?_⟩,hr⟩
      have ag:∀l∈aa,l.length=32:=λl hl=>ae l (hp.mem_iff.1 hl);exact .inr ⟨q,c,rfl,ad,by rw[As ag,hp.length_eq],ho⟩
theorem order_cmp(x:PD)(a b:List UInt8)(ha:a.length=32)(hb:b.length=32)(qf na nb nc m:Nat)(fs:List (List UInt8×Int))(aa:An fs a=some (x.dp a))(ab:An fs b=some (x.dp b)):Mv 110 [agg (Aa a),agg (Aa b),ptr qf 0] (λW=>W.cell? ⟨qf,0,none⟩=some (.func (.func 109) #[] #[ptr na 0,ptr nb 0,ptr nc 0])/\W.cell? ⟨na,0,none⟩=some (.map (some m))/\BlkOk W (A3 m (Ak 32 evI) fs)) (i64 (cmpD x a b)):=by
 intro W hW;refine Ae func110 J 18 ntmps110 J (G3 ?_);intro n3 ag ad;refine G1 ?_;intro n4 ah ae;refine G4 ?_;refine .draw (oPq [100,101,103,104,107,108,302,305,306,309,210,311,12]) Au zK (.loadE J J J Y115.h J sP (hW.1) (.lA J J J Y31.h J Sz31 Z1 (by(simp[ha];done)) ?_));refine .loadE J J J Y115.h J sP (hW.1) (.lA J J J Y31.h J Sz31 Z0 (by(simp[hb];done)) ?_);refine .lA J J J Y31.h J Sz31 Z1 (by(simp[ha];done)) ?_;refine .lA J J J Y31.h J Sz31 Z0 (by(simp[hb];done)) ?_;refine .callCV J J J J J Body109 (depth_known a ha na nb nc m fs (x.dp a) aa) (λw h=>⟨h.keeps.cell sP hW.2.1,mblk_keep hW.2.2 h⟩) (.callCV J J J J J Body109 (depth_known b hb na nb nc m fs (x.dp b) ab) (λw h=>⟨h.keeps.cell sP hW.2.1,mblk_keep hW.2.2 h⟩) (.cV J J J J Body111 (cmp_int (x.dp a) (x.dp b)) tV (.cV J J J J Body51 (block_cmp a b ha hb) tV (.mkRow2 (z:=i64 0) [i64 (cmpI (x.dp a) (x.dp b)),i64 (Cn a b)] [i64 (cmpI (x.dp a) (x.dp b)),i64 (Cn a b)] rfl J Y51.h Sz3 Zr3 J J (by intro v hv;simp only[Lam,Lc1,or_false]at hv;rcases hv with rfl|rfl<;>simp[Value.cells]) dE (by simp[Value.cells]) ?_))));intro ac;refine .cV J J J J Body49 (cmp_or2 ac (cmpI (x.dp a) (x.dp b)) (Cn a b)) (λw h=>Ar h Z0) ?_;refine G3 ?_;refine G2 ?_;refine Ao (out:=[]) (Ag J J) Ad ?_;exact⟨rfl,rfl⟩
theorem order_pre{C:Cx}{hp bl keep L:List Blk}{B:Blk}(h:HRep C hp w)(hp1:hp.Perm (bl++keep))(hB:B∈hp)(hL:Lies L C.W0)(hd:∀b∈L,∀b2∈bl,b.n≠b2.n)(hl:C.lent=bl.map (·.n):=by rfl)(aa:∀b2∈bl,B.n≠b2.n):Lies bl w/\Lies (B::L) w/\∀b∈B::L,∀b2∈bl,b.n≠b2.n:=by
  refine⟨λb hb=>h.cells b (hp1.mem_iff.2 (Lak _ hb)),λb hb=>?_,λb hb=>?_⟩
  . rcases Lam.1 hb with rfl|hb
    .exact h.cells _ hB
    . refine(hL b hb).of_heap (h.keeps.block b.n (hL b hb).lt λhm=>?_)
      rw[hl]at hm;obtain⟨b2,h2,e⟩:=La6.1 hm;exact hd b hb b2 h2 e.symm
  . rcases Lam.1 hb with rfl|hb
    .exact aa
    .exact hd b hb
theorem lin_order(x:PD)(s:Sl)(bl:List Blk)(ks:List (List UInt8))(ab:∀l∈ks,l.length=32)(ad:ks.length<=1000000)(ah:Hw.Acc s bl (Aq ks) 31 ks.length 32)(na nb nc m:Nat)(fs:List (List UInt8×Int))(ae:∀n∈ks,An fs n=some (x.dp n)):Meets prog 70 [s.v, .func (.func 109) #[] #[ptr na 0,ptr nb 0,ptr nc 0]] (bl.map (·.n)) (λW=>Lent bl W/\Lies [⟨na,[.map (some m)],117,1⟩,A3 m (Ak 32 evI) fs] W/\∀b∈ [⟨na,[.map (some m)],117,1⟩,A3 m (Ak 32 evI) fs],∀b2∈bl,b.n≠b2.n) (λv out=>v= .tuple #[]/\∃aa:List (List UInt8),aa.Perm ks/\SortD x aa/\Hw.Acc s out (Aq aa) 31 ks.length 32):=by
 intro W hW;have eg:∀args w,(callFunc 110 args).run prog w= .ok (.enter 110 args) w:=enters_of func110 zK rfl;refine calls_of (hp0:=bl) func70 J 7 ntmps70 J hW.1.rep (G2 ?_);refine .box1 J J J ?_;intro n3 am ai;refine G5 ?_;refine .callL (L:=bl) J J J J J Body47 (sort_acc_by s bl ks ab ad ah 110 [ptr n3 0] (cmpD x) (swoD x ks) (⟨n3,[.func (.func 109) #[] #[ptr na 0,ptr nb 0,ptr nc 0]],115,1⟩::[⟨na,[.map (some m)],117,1⟩,A3 m (Ak 32 evI) fs]) eg (λa ha b hb=>(order_cmp x a b (ab a ha) (ab b hb) n3 na nb nc m fs (ae a ha) (ae b hb)).imp (λw hl=>⟨(hl _ La9).cell (o:=0) J,(hl _ (Laj _ La9)).cell (o:=0) J,hl _ (Laj _ (Laj _ La9))⟩) λv out h=>h)) (by repeat(first|exact C8|apply sg_there)) (lent_ok J) (λw h=>order_pre (B:=⟨n3,[.func (.func 109) #[] #[ptr na 0,ptr nb 0,ptr nc 0]],115,1⟩) h (by repeat(first|exact C8|apply sg_there)) Z0 hW.2.1 hW.2.2 J (λb2 h2 e=>ai b2 h2 e.symm)) ?_;rintro v6 ag ⟨rfl,aa,aj,ak,ac⟩;refine G2 ?_;refine Ao (out:=(ag++[])) (res_none J) (Ac sG Ad) ?_;exact⟨rfl,aa,aj,ak.imp λh=>(cmpD_le x _ _).1 h,by simpa using ac⟩
end Go.Proofs.YtbdfihcjddbhaaaGreat
namespace Go.Proofs.YtbdfihcjddbhaaaGreat
open Go Hw _root_.Go.Proofs.Tryz
def PD.has(X:PD)(n:List UInt8):Bool:=(An X.P n).isSome
variable{X:PD}{κ:Type}{n:κ}
theorem has_names(hI:X.Inv){n:List UInt8}(h:X.has n=true):n∈X.names:=(names_mem hI n).2 (Ldl.1 h)
def PD.depthR(X:PD)(n:List UInt8):Value:=if X.has n=true then .tuple #[i64 (X.dp n),i64 0]else .tuple #[i64 0,i64 6]
theorem has_is(x:DD)(n:List UInt8):(An x.ent n).isSome=x.pl.has n:=by
  have e:An x.pl.P n=(An x.ent n).map (·.2):=x.getP n;unfold PD.has;rw[e];cases An x.ent n<;>rfl
theorem dag_hasP(x:DD)(hx:x.ok)(p:Nat)(n:List UInt8)(aa:n.length=32):Mv 59 [ptr p 0,agg (Aa n)] (λW=>Lies (x.blks p) W) (.bool (x.pl.has n)):=by
  rw[<-has_is];exact(dag_has x hx p n aa).imp (λw h=>DagSee.lies h) λv out h=>h
theorem lin_depth(x:DD)(hx:x.ok)(hI:x.pl.Inv)(hO:x.pl.Ord)(p:Nat)(n:List UInt8)(aa:n.length=32):Mv 23 [ptr p 0,agg (Aa n)] (λW=>Lies (x.blks p) W) (x.pl.depthR n):=by
 intro W hW;have an:∀q∈x.P,q.2.check=0:=hI.ck;have am:∀q∈x.P,q.2.ls.length<=16:=λq hq=>(ck_small (an q hq)).1;refine Ae func23 J 18 ntmps23 J (G3 ?_);intro n3 au ar;refine G8 ?_;refine .cV J J J J Body64 (lin_none x hx am p) (λw h=>Bf hW h) (G2 ?_);refine .cond_f J J (G6 ?_);refine .lA J J J Y31.h J Sz31 Z0 (by(simp[aa];done)) ?_;refine .cV J J J J Body59 (dag_hasP x hx p n aa) (λw h=>Bf hW h) (G3 ?_);refine .cond J (λac=>?_) (λac=>?_)
 ·
  have ab:x.pl.has n=false:=by simpa using ac
  refine G6 ?_;refine G3 ?_;refine⟨_,[],Bm J J J,sP,sP,?_,rfl⟩;rw[PD.depthR,if_neg (by rw[ab];decide)]
 have ab:x.pl.has n=true:=by simpa using ac
 refine G3 ?_;refine .withK (sp_k sp_n) J (.draw (oPq [0,1,4,402,403,305,6,7]) Au zK (G1 ?_));refine .kloadAll J J J Y31.h J Sz31 Z0 (by(simp[aa];done)) ?_;refine .kloadAll J J J Y31.h J Sz31 Z0 (by(simp[aa];done)) ?_;refine .mkRow (z:=agg (Aa (List.replicate 32 0))) [agg (Aa n)] (Aa n) J J J Y32.h Sz31 Bz J J (by intro v hv;rw[La1.1 hv];simp[Value.cells,Aa,aa]) dE (by simp[Value.cells,agg]) ?_;intro ap;refine .call4 J J J J J Body65 (lin_depths x hx hI hO p ⟨some ⟨ap,0,none⟩,1,1⟩ [n]) (λw h=>⟨Bf hW h,row_one aa (Ar h Z0)⟩) ?_;rintro av ao ⟨ag,aj,ak,ai,ah,aq,⟨rfl,rfl,ad⟩,ae⟩;simp only[Lan,Lah];refine .callCV J J J J J Body109 (depth_known n aa ag aj ak ai ah (x.pl.dp n) (ad.all n (ae n La9 (has_names hI ab)))) (λw h=>⟨(Cd (B:=⟨ag,[.map (some ai)],117,1⟩) h Z2).cell (o:=0) J,Cd h Z0⟩) ?_;refine G4 ?_;refine G2 ?_;refine⟨_,[],Bm J J J,sP,sP,?_,rfl⟩;rw[PD.depthR,if_pos ab]
structure FreshI(X:PD)(L dn:List (List UInt8))(ms:List (List UInt8×Unit))(l st:List (List UInt8)):Prop where
  sub:∀n∈st,X.Reach (-1) L n
  met:∀n∈ms.map (·.1),X.Reach (-1) L n
  mnd:(ms.map (·.1)).Nodup
  lnd:l.Nodup
  lin:∀n,n∈l↔n∈ms.map (·.1)/\n∉dn
  all:∀n∈L,n∈ms.map (·.1)\/n∈st
  par:∀n∈ms.map (·.1),n∉dn->∀D,An X.P n=some D->∀m∈Bj D,m∈ms.map (·.1)\/m∈st
theorem FreshI.start(hI:X.Inv){L:List (List UInt8)}(dn:List (List UInt8))(hL:∀n∈L,X.has n=true):FreshI X L dn [] [] L where
  sub:=λn hn=>by
    obtain⟨D,hD⟩:=Ldl.1 (hL n hn);exact reach_in hI hn hD
  met:=λn hn=>by cases hn
  mnd:=Lch
  lnd:=Lch
  lin:=λn=>⟨λh=>(by cases h),λh=>(by cases h.1)⟩
  all:=λn hn=> .inr hn
  par:=λn hn=>by cases hn
theorem keysP_put[DecidableEq κ]{ms:List (κ×Unit)}(h:An ms n=none):(Bh ms n ()).map (·.1)=ms.map (·.1)++[n]:=by rw[mput_app h,Lae];rfl
theorem not_key{κ ν:Type}[DecidableEq κ]{ms:List (κ×ν)}{n:κ}(h:An ms n=none):n∉ms.map (·.1):=λhm=>by
  obtain⟨v,hv⟩:=C2 hm;rw[h]at hv;cases hv
section
variable{X:PD}{L dn l st:List (List UInt8)}{ms:List (List UInt8×Unit)}{n:List UInt8}
theorem FreshI.seen(h:FreshI X L dn ms l (st++[n]))(hm:n∈ms.map (·.1)):FreshI X L dn ms l st:={ h with
  sub:=λk hk=>h.sub k (Lak _ hk)
  all :=λk hk=>by
    rcases h.all k hk with h1|h1
    .exact .inl h1
    . rcases La8.1 h1 with h2|h2
      .exact .inr h2
      .rw[La1.1 h2];exact .inl hm
  par :=λk hk hd D hD m aa=>by
    rcases h.par k hk hd D hD m aa with h1|h1
    .exact .inl h1
    . rcases La8.1 h1 with h2|h2
      .exact .inr h2
      .rw[La1.1 h2];exact .inl hm }
theorem FreshI.old(h:FreshI X L dn ms l (st++[n]))(hm:An ms n=none)(hd:n∈dn):FreshI X L dn (Bh ms n ()) l st where
  sub:=λk hk=>h.sub k (Lak _ hk)
  met:=λk hk=>by
    rw[keysP_put hm]at hk;rcases La8.1 hk with h1|h1
    .exact h.met k h1
    .rw[La1.1 h1];exact h.sub n (Lat _ La9)
  mnd:=mput_nodup h.mnd _ _
  lnd:=h.lnd
  lin:=λk=>by
    rw[keysP_put hm,h.lin k];refine⟨λ⟨a,b⟩=>⟨Lak _ a,b⟩,λ⟨a,b⟩=>⟨?_,b⟩⟩;rcases La8.1 a with h1|h1
    .exact h1
    .rw[La1.1 h1]at b;exact absurd hd b
  all :=λk hk=>by
    rw[keysP_put hm];rcases h.all k hk with h1|h1
    .exact .inl (Lak _ h1)
    . rcases La8.1 h1 with h2|h2
      .exact .inr h2
      .exact .inl (Lat _ h2)
  par :=λk hk aa D hD m ab=>by
    rw[keysP_put hm]at hk ⊢;rcases La8.1 hk with h1|h1
    . rcases h.par k h1 aa D hD m ab with h2|h2
      .exact .inl (Lak _ h2)
      . rcases La8.1 h2 with h3|h3
        .exact .inr h3
        .exact .inl (Lat _ h3)
    .rw[La1.1 h1]at aa;exact absurd hd aa
theorem FreshI.meet(hI:X.Inv)(h:FreshI X L dn ms l (st++[n]))(hm:An ms n=none)(hd:n∉dn){D:DB}(hD:An X.P n=some D):FreshI X L dn (Bh ms n ()) (l++[n]) (st++Bj D) where
  sub :=λk hk=>by
    have hn:=h.sub n (Lat _ La9);rcases La8.1 hk with h1|h1
    .exact h.sub k (Lak _ h1)
    . obtain⟨⟨E,hE⟩,_⟩:=hI.par n D hD k h1
      exact .step hn hD h1 hE (by have:=hI.d0 k E hE;omega)
  met:=λk hk=>by
    rw[keysP_put hm]at hk;rcases La8.1 hk with h1|h1
    .exact h.met k h1
    .rw[La1.1 h1];exact h.sub n (Lat _ La9)
  mnd:=mput_nodup h.mnd _ _
  lnd:=by
    rw[Lay];refine⟨h.lnd,by simp,λa ha b hb e=>?_⟩;rw[La1.1 hb]at e;exact not_key hm (e▸((h.lin a).1 ha).1)
  lin :=λk=>by
    rw[keysP_put hm,La8,La8,h.lin k,La1];constructor
    . rintro(⟨a,b⟩|rfl)
      .exact⟨.inl a,b⟩
      .exact⟨.inr rfl,hd⟩
    . rintro⟨a|rfl,b⟩
      .exact .inl ⟨a,b⟩
      .exact .inr rfl
  all :=λk hk=>by
    rw[keysP_put hm];rcases h.all k hk with h1|h1
    .exact .inl (Lak _ h1)
    . rcases La8.1 h1 with h2|h2
      .exact .inr (Lak _ h2)
      .exact .inl (Lat _ h2)
  par :=λk hk ab E hE m aa=>by
    rw[keysP_put hm]at hk ⊢;rcases La8.1 hk with h1|h1
    . rcases h.par k h1 ab E hE m aa with h2|h2
      .exact .inl (Lak _ h2)
      . rcases La8.1 h2 with h3|h3
        .exact .inr (Lak _ h3)
        .exact .inl (Lat _ h3)
    . obtain rfl:=La1.1 h1
      rw[hD]at hE;cases hE;exact .inr (Lat _ aa)
theorem FreshI.fin(h:FreshI X L dn ms l [])(aa:∀k∈dn,∀D,An X.P k=some D->∀m∈Bj D,m∈dn)(k:List UInt8):k∈l↔X.Reach (-1) L k/\k∉dn:=by
  have key:∀k,X.Reach (-1) L k->k∉dn->k∈ms.map (·.1):=by
    intro k hr
    induction hr with
    | base h1 _ _=>
      intro _;rcases h.all _ h1 with h2|h2
      .exact h2
      .cases h2
    | @step a b A B h1 hP hn hE _ ih=>
      intro hd;have hb:a∉dn:=λhb=>hd (aa a hb A hP b hn);rcases h.par a (ih hb) hb A hP b hn with h2|h2
      .exact h2
      .cases h2
  exact⟨λhk=>⟨h.met k ((h.lin k).1 hk).1,((h.lin k).1 hk).2⟩,λ⟨hr,hd⟩=>(h.lin k).2 ⟨key k hr hd,hd⟩⟩
end
variable{C:Cx}{L bf c l ls:List (List UInt8)}{X:PD}{cs:List (List (List UInt8))}{k:Nat}{ms:List (List UInt8×Unit)}{n:List UInt8}{α:Type}{a:α}
theorem lost_1(n:List UInt8)(aa:n.length=32)(q m:Nat)(fs:List (List UInt8×Unit)):Mv 152 [agg (Aa n),ptr q 0] (λW=>W.cell? ⟨q,0,none⟩=some (.map (some m))/\BlkOk W (A3 m (Ak 32 evU) fs)) (.bool (An fs n).isNone):=by
 intro W hW;refine Ae func152 J 8 ntmps152 J (G3 ?_);intro n2 ac ab;refine G5 ?_;refine .loadE J J J Y119.h J sP (hW.1) (.lA J J J Y31.h J Sz31 Z0 (by(simp[aa];done)) ?_);refine .cV J J J J Body75 (lin_has m fs n aa) (λw h2=>mblk_keep hW.2 h2) (G4 ?_);refine G2 ?_;refine Ao (out:=[]) (Ag J J) Ad ?_;exact⟨congrArg Value.bool (by cases An fs n<;>rfl),rfl⟩
theorem index_lost(s:Sl)(ls:List (List UInt8))(q m:Nat)(fs:List (List UInt8×Unit)):Mv 113 [s.v, .func (.func 152) #[] #[ptr q 0]] (λW=>RowsAt W s 32 ls/\W.cell? ⟨q,0,none⟩=some (.map (some m))/\BlkOk W (A3 m (Ak 32 evU) fs)) (i64 (fstBad (λn=>(An fs n).isNone) ls)):=by
 intro W hW;have ad:=hW.1.len;have aa:=hW.1.row;have ae:=hW.1.max;simp only[maxLen]at ae;have aj:=hW.1.cap;refine Ae func113 J 19 ntmps113 J (G14 ?_);refine .loop (ι:=Nat) (λk=>⟨[(0,s.v),(1, .func (.func 152) #[] #[ptr q 0]),(7,i64 (s.n:Int)),(8,i64 (k:Int))],[]⟩) (λk=>k<=s.n/\∀j,j<k->(ls.map (λn=>(An fs n).isNone))[j]? =some false) (λk=>s.n-k) (0) ?_ ?_ ?_
 .exact⟨by omega,λj hj=>by omega⟩
 .exact Ah wN wh0 nD
 rintro k ⟨hk,hg⟩;refine G6 ?_;refine .condP J (λai=>?_) (λai=>?_)
 ·
  have ak:k<s.n:=by omega
  obtain⟨b,o,ag,ah⟩:=hW.1.see.at (by rw[As aa];omega);have ab:(ls.getD k []).length=32:=Bn aa oM;have hd:ls[k]? =some (ls.getD k []):=by rw[La3,La4 (show k<ls.length by omega)];rfl
  refine G15 ?_;refine .idxSlP 32 J J J ag J Y32.h Sz31 k oM oM (.loadEN (Aa (ls.getD k [])) J J J Y31.h J Sz31 sP (by rw[Aa,La0];exact ab) (Bk aa ah oM) ?_);refine .callCV J J J J J Body152 (lost_1 (ls.getD k []) ab q m fs) (λw h2=>⟨h2.keeps.cell sP hW.2.1,mblk_keep hW.2.2 h2⟩) (G2 ?_);refine .cond J (λac=>?_) (λac=>?_)
  ·
   refine G6 ?_;refine G7 ?_;refine⟨_,[],Ag J J,sP,sP,?_,rfl⟩;exact congrArg i64 (fstBad_at hg (by rw[Lad,hd];simpa using ac)).symm
  refine G8 ?_;exact⟨k+1,⟨by omega,λj hj=>by rcases Lb4.1 hj with h|rfl;exact hg j h;rw[Lad,hd];simpa using ac⟩,by omega,Ah wN wh0 nD⟩
 obtain rfl:k=s.n:=by omega
 refine G10 ?_;refine G2 ?_;refine⟨_,[],Ag J J,sP,sP,?_,rfl⟩;exact congrArg i64 (fstBad_none (by intro j hj;exact hg j (by rw[ad]at hj;exact hj))).symm
theorem contains_lost(s:Sl)(ls:List (List UInt8))(q m:Nat)(fs:List (List UInt8×Unit)):Mv 78 [s.v, .func (.func 152) #[] #[ptr q 0]] (λW=>RowsAt W s 32 ls/\W.cell? ⟨q,0,none⟩=some (.map (some m))/\BlkOk W (A3 m (Ak 32 evU) fs)) (.bool (ls.any (λn=>(An fs n).isNone))):=by
 intro W hW;refine Ae func78 J 9 ntmps78 J (G9 ?_);refine .cV J J J J Body113 (index_lost s ls q m fs) (λw h2=>⟨B4 h2 J hW.1,h2.keeps.cell sP hW.2.1,mblk_keep hW.2.2 h2⟩) (G4 ?_);refine G2 ?_;refine⟨_,[],Ag J J,sP,sP,?_,rfl⟩;exact congrArg Value.bool (fstBad_ge _ _)
def FreshR(X:PD)(bs hs dn:List (List UInt8))(v:Value)(out:List Blk):Prop:=
  ((∃n∈hs,X.has n=false)/\v= .tuple #[.slice none 0 0,i64 6]/\out=[])
  \/(∀n∈hs,X.has n=true)/\(∃n∈bs,¬X.Reach (-1) hs n)/\v= .tuple #[.slice none 0 0,i64 4]/\out=[]
  \/(∀n∈hs,X.has n=true)/\(∀n∈bs,X.Reach (-1) hs n)/\∃(s:Sl) (l:List (List UInt8)),v= .tuple #[s.v,i64 0]/\Hw.Acc s out (Aq l) 31 l.length 32/\l.Nodup/\∀n,n∈l↔X.Reach (-1) hs n/\n∉dn
theorem none_any(h:(ls.any λn=>(An ms n).isNone)=false):∀n∈ls,n∈ms.map (·.1):=λn hn=>by
  have h1:=List.any_eq_false.1 h n hn;cases hm:An ms n with
  |none=>rw[hm]at h1;exact absurd rfl h1
  |some u=>exact La6.2 ⟨(n,u),Bi hm,rfl⟩
theorem some_any(h:(ls.any λn=>(An ms n).isNone)=true):∃n∈ls,n∉ms.map (·.1):=by
  obtain⟨n,hn,h1⟩:=Lc2.1 h;exact⟨n,hn,not_key (Leq.1 h1)⟩
theorem setP_mem(ls:List (List UInt8))(n:List UInt8):n∈(setP ls).map (·.1)↔n∈ls:=by
  refine⟨?_,λh=>(setP_keys ls).2 n h⟩;have key:∀(l:List (List UInt8)) (fs:List (List UInt8×Unit)),n∈(l.foldl (λfs n=>Bh fs n ()) fs).map (·.1)->n∈l\/n∈fs.map (·.1):=by
    intro l
    induction l with
    |nil=>intro fs h;exact .inr h
    | cons a l ih=>
      intro fs h;rcases ih _ h with h1|h1
      .exact .inl (Laj _ h1)
      . obtain⟨p,hp,rfl⟩:=La6.1 h1
        rcases mput_mem hp with h2|rfl
        .exact .inr (La6.2 ⟨p,h2,rfl⟩)
        .exact .inl La9
  intro h;rcases key ls [] h with h1|h1
  .exact h1
  .cases h1
theorem FreshI.small{x:DD}(hI:x.pl.Inv){L dn l st:List (List UInt8)}(h:FreshI x.pl L dn ms l st):l.length<=x.names.length:=
  nd_len (m:=x.pl.names) h.lnd λn hn=>(names_mem hI n).2 (reach_P (h.met n ((h.lin n).1 hn).1))
theorem is_key(h:(An ms n).isSome=true):n∈ms.map (·.1):=by
  obtain⟨u,hu⟩:=Ldl.1 h;exact La6.2 ⟨(n,u),Bi hu,rfl⟩
theorem key_of(h:∃D,An X.P n=some D):n∈X.P.map (·.1):=by
  obtain⟨D,hD⟩:=h;exact keys_in hD
theorem flatB_one(l:List UInt8):Aq [l]=Aa l:=by simp[Aq]
theorem lin_fresh(x:DD)(hx:x.ok)(hI:x.pl.Inv)(p:Nat)(sb sh:Sl)(bs hs:List (List UInt8))(dd:hs.length<=90000)(md:Nat)(ds:List (List UInt8×Unit))(b5:∀k∈ds.map (·.1),∀D,An x.pl.P k=some D->∀m∈Bj D,m∈ds.map (·.1)):Meets prog 112 [ptr p 0,sb.v,sh.v, .map (some md)] [] (λW=>Lies (x.blks p) W/\RowsAt W sb 32 bs/\RowsAt W sh 32 hs/\BlkOk W (A3 md (Ak 32 evU) ds)) (FreshR x.pl bs hs (ds.map (·.1))):=by
 intro W hW;have aa:True:=trivial;obtain⟨ac,bp,ao,b7⟩:=id hW;have bk:∀q∈x.P,q.2.check=0:=hI.ck;have bi:∀q∈x.P,q.2.ls.length<=16:=λq hq=>(ck_small (bk q hq)).1;have cn:=hx.big;have bm:=ao.len;have ap:=ao.row;refine Ae func112 J 88 ntmps112 J (G15 ?_);refine .loop (ι:=Nat) (λk=>⟨[(0,ptr p 0),(1,sb.v),(2,sh.v),(3, .map (some md)),(8, .slice none 0 0),(9,i64 0),(21,sh.v),(22,i64 (sh.n:Int)),(23,i64 (k:Int))],[]⟩) (λk=>k<=sh.n/\∀j,j<k->x.pl.has (hs.getD j [])=true) (λk=>sh.n-k) (0) ?_ ?_ ?_
 .exact⟨Laf _,λj hj=>absurd hj (Lcj _)⟩
 .exact Af wN Ad
 rintro k ⟨hk,hg⟩;refine G6 ?_;refine .condP J (λb3=>?_) (λb3=>?_)
 ·
  have c9:k<sh.n:=by omega
  obtain⟨b,o,bw,bz⟩:=ao.see.at (by rw[As ap];omega);have aa:(hs.getD k []).length=32:=Bn ap oM;refine G6 ?_;refine .idxSlP 32 J J J bw J Y32.h Sz31 k J oM (.loadEN (Aa (hs.getD k [])) J J J Y31.h J Sz31 sP (by rw[Aa,La0];exact aa) (Bk ap bz oM) ?_);refine .alloc (cs:=(Aa (List.replicate 32 0))) J Bz J ?_;intro df cw co;refine .sA J J J J zE Sz31 (by(rw[Aa,La0];assumption)) Z0 sP zU ?_;refine G5 ?_;refine .lA J J J Y31.h J Sz31 Z0 (by(rw[Aa,La0];assumption)) ?_;refine .cV J J J J Body59 (dag_hasP x hx p (hs.getD k []) aa) (λw h=>Bf ac h) (G3 ?_);refine .cond J (λay=>?_) (λay=>?_)
  ·
   refine G6 ?_;refine G7 ?_;refine Ao (out:=[]) (Bm J J J) Ad ?_;exact .inl ⟨⟨_,Cm (show k<hs.length by omega),by simpa using ay⟩,rfl,rfl⟩
  refine G8 ?_;exact⟨k+1,⟨by omega,λj hj=>by rcases Lb4.1 hj with h|rfl;exact hg j h;simpa using ay⟩,by omega,Af (wk1 rfl (wk1 rfl (wk1 rfl (wk1 rfl (wk1 rfl (wk1 rfl (wk1 rfl (wk1 rfl (wk1 (by rw[Lcd];rfl) wk0))))))))) Ad⟩
 obtain rfl:k=sh.n:=by omega
 have ad:∀n∈hs,x.pl.has n=true:=λn hn=>by
  obtain⟨j,hj,e⟩:=Lb8 hn;have h9:=hg j oM;rw[La3,La4 hj]at h9;rw[<-e];exact h9
 refine G12 ?_;refine .mkMap (Ak 32 evU) J J ?_;intro aq;refine .alloc (cs:=[.map none]) J Zr119 J ?_;intro aj cx cp;refine .s1 J J J J J Sz119 Z0 sP (by rfl) zU ?_;refine G5 ?_;refine .call4 J J J J J Body46 (cl_digs sh hs oM) (λw h=>B4 h J ao) ?_;rintro dm bc ⟨cg,rfl,ak⟩;have c0:=ak.num;refine G5 ?_;refine .loop (ι:=List (List UInt8×Unit)×List (List UInt8)×List (List UInt8)×Sl×List Blk×Sl×List Blk) (λr=>⟨[(0,ptr p 0),(1,sb.v),(2,sh.v),(3, .map (some md)),(8, .slice none 0 0),(9,i64 0),(12,r.2.2.2.1.v),(13,ptr aj 0),(14,r.2.2.2.2.2.1.v)],(A3 aq (Ak 32 evU) r.1::(r.2.2.2.2.1++(r.2.2.2.2.2.2++(⟨aj,[.map (some aq)],119,1⟩::[]))))⟩) (λr=>FreshI x.pl hs (ds.map (·.1)) r.1 r.2.1 r.2.2.1/\r.2.2.1.length<=hs.length+17*r.2.1.length/\Hw.Acc r.2.2.2.1 r.2.2.2.2.1 (Aq (r.2.1)) 31 (r.2.1).length 32/\Hw.Acc r.2.2.2.2.2.1 r.2.2.2.2.2.2 (Aq (r.2.2.1)) 31 (r.2.2.1).length 32) (λr=>r.2.2.1.length+18*cntW x.pl.P r.1) (([],[],hs,Sl.nil,[],cg,bc)) ?_ ?_ ?_
 .exact⟨FreshI.start hI _ ad,by simp only;omega,Acc.none,by simp only;rw[bm];exact ak⟩
 .exact Af wN (Ab rM (Ac sG (Ac sG (Ab rM Ad))))
 rintro⟨ms,l,st,sl,bl,ss,c6⟩ ⟨hF,bq,ag,has⟩;simp only at hF bq ag has ⊢;have db:=ag.num;have dc:=has.num;have de:=hF.small hI;refine G8 ?_;refine .condP J (λhc2=>?_) (λhc2=>?_)
 ·
  have bo:0<st.length:=by omega
  obtain⟨ab,kk,rfl⟩:=snoc_of bo;have ah:∀l∈ab++[kk],l.length=32:=λl hl=>P32 hx (reach_P (hF.sub l hl));have aa:kk.length=32:=ah kk sP;have av:∃D,An x.pl.P kk=some D:=reach_P (hF.sub kk sP);have b6:(ab++[kk]).length=ab.length+1:=by simp
  obtain⟨NN,bu⟩:∃NN,NN=(ab++[kk]).length:=⟨_,rfl⟩;rw[<-bu]at has;have a7:=λ(w:World) (b:Nat)=>sees_last (w:=w) (b:=b) ah;rcases has with ⟨_,_,_,h0⟩|⟨qr,cr,rfl,da,c8,rfl⟩
  .exfalso;omega
  refine G9 ?_;refine .idxSlP 32 J J J J J Y32.h Sz31 ab.length (by show(NN:Int)-1=(ab.length:Int);omega) (by show ab.length<NN;omega) ?_;refine .loadSN (n:=32) (Aa kk) J J J Y31.h J Sz31 (by rw[Aa,La0];exact aa) (λw h=>a7 w qr (Ar h mR)) ?_;refine .alloc (cs:=(Aa (List.replicate 32 0))) J Bz J ?_;intro dh cy cq;refine .sA J J J J zE Sz31 (by(simp[aa];done)) Z0 sP zU ?_;refine G3 ?_;rw[Br];refine .trunc (q:=qr) rM ?_;have an:Hw.Acc ⟨some ⟨qr,0,none⟩,ab.length,cr⟩ [⟨qr,Aq ab,31,cr*32⟩] (Aq ab) 31 ab.length 32:=Acc.some oM (As (λl hl=>ah l (Lak _ hl)));refine G5 ?_;refine .sliceHiA ⟨some ⟨qr,0,none⟩,NN,cr⟩ ab.length J J J J (by show(NN:Int)-1=(ab.length:Int);omega) (by show ab.length<=cr;omega) Y32.h Sz31 ?_;refine G7 ?_;refine .lA J J J Y31.h J Sz31 Z1 (by(simp[aa];done)) ?_;refine .cV J J J J Body75 (lin_has aq ms kk aa) (λw h=>Cd h Z2) ?_;refine G2 ?_;refine .cond J (λaz=>?_) (λaz=>?_)
  ·
   refine G4 ?_;refine⟨(ms,l,ab,sl,bl,⟨some ⟨qr,0,none⟩,ab.length,cr⟩,[⟨qr,Aq ab,31,cr*32⟩]),⟨hF.seen (is_key az),by simp only;omega,ag,an⟩,by simp only[La2,Laq];omega,Af wN (Ab rM (Ac sG (Ac (by repeat(exact C8)) (Ab rM Ad))))⟩
  have hmn:An ms kk=none:=by simpa using az
  refine G5 ?_;refine .lA J J J Y31.h J Sz31 Z1 (by(simp[aa];done)) ?_;refine .build (cs:=[]) J J J (λw=>by kernel_rfl) ?_;refine .mapPut (v:=()) MN J J J J J aa rM ?_;refine G6 ?_;refine .lA J J J Y31.h J Sz31 Z2 (by(simp[aa];done)) ?_;refine .cV J J J J Body75 (lin_has md ds kk aa) (λw h=>mblk_keep b7 h) (G2 ?_);refine .cond J (λa1=>?_) (λa1=>?_)
  ·
   refine G4 ?_;refine⟨(Bh ms kk (),l,ab,sl,bl,⟨some ⟨qr,0,none⟩,ab.length,cr⟩,[⟨qr,Aq ab,31,cr*32⟩]),⟨hF.old hmn (is_key a1),by simp only;omega,ag,an⟩,(by have:=cnt_put hmn x.pl.P (key_of av);simp only[La2,Laq];omega),Af wN (Ab rM (Ac sG (Ac (by repeat(exact C8)) (Ab rM Ad))))⟩
  have b4:kk∉ds.map (·.1):=not_key (by simpa using a1);refine G5 ?_;refine .lA J J J Y31.h J Sz31 Z2 (by(simp[aa];done)) ?_;refine .mkRow2 (z:=agg (Aa (List.replicate 32 0))) [agg (Aa kk)] (Aa kk) J J Y32.h Sz31 Bz J J (by intro v hv;rw[La1.1 hv];simp[Value.cells,Aa,aa]) dE (by simp[Value.cells,agg]) ?_;intro dl;refine .appendAcc (n:=l.length) (z:=agg (Aa (List.replicate 32 0))) (by':=32) (Aa kk) J J J J J Y32.h Y32.h Sz31 Bz (by unfold By;kernel_rfl) J ag sG (λw h=>SeesP.of (Ar h Z0)) (λe=>by cases e) (Ay _) oM oM (by rw[Aa,La0,aa]) ?_;intro ci be aw;refine G6 ?_;refine .lA J J J Y31.h J Sz31 mR (by(simp[aa];done)) ?_;refine .call4 J J J J J Body9 (dag_get x hx bk p kk aa) (λw h=>Bf ac h) ?_;rintro dq cc (⟨h0,_⟩|⟨D,B,hD,hB,rfl,bv⟩)
  .exfalso;obtain⟨D,hD⟩:=av;rw[h0]at hD;cases hD
  have cm:D.ls.length<=16:=bi _ (Bi hD);have c4:(Bj D).length<=17:=by have:=parL_len D;omega
  have a8:∀l∈Bj D,l.length=32:=parL_row (hB_ok hx ac hD);refine G3 ?_;refine .alloc (cs:=Block.zero.cells) J Block.zr J ?_;intro di cz ct;refine .sA J J J J (Block.isCell (by exact hB.ok)) Sz37 (Block.length (by exact hB.ok)) Z0 (Block.length (by exact Block.zero_ok)) zU ?_;refine G5 ?_;refine .lA J J J Y37.h J Sz37 Z0 (Block.length (by exact hB.ok)) ?_;refine .call4 J J J J J Body58 (db_parA B D oM) (λw h=>bv w (Lies.of h (by repeat(first|exact Ap|refine A1 ?_)))) ?_;rintro v70 cd ⟨⟨dj,ba,c7⟩,rfl,ae⟩;have au:ba=(Bj D).length:=ae.num;refine .appendAcc (n:=ab.length) (z:=agg (Aa (List.replicate 32 0))) (by':=32) (Aq (Bj D)) J J J J J Y32.h Y32.h Sz31 Bz (by unfold By;kernel_rfl) J an rM (λw h=>ae.see (Lies.of h (by repeat(exact Ap)))) (λe=>ae.nil e) (Cu _) (by show ab.length+ba<=1000000;omega) (by show(ab.length+ba)*32<=140737488355328;omega) (by rw[As a8,<-au]) ?_;intro cj bg ax;refine G4 ?_;refine⟨(Bh ms kk (),l++[kk],ab++Bj D,ci,be,cj,bg),⟨hF.meet hI hmn b4 hD,by simp only[La2,Laq];omega,by simp only;rw[Br,La2,flatB_one];exact aw,by simp only;rw[Br,La2,<-au];exact ax⟩,(by have:=cnt_put hmn x.pl.P (key_of av);simp only[La2,Laq];omega),Af wN (Ab rM (Ac sG (Ac sG (Ab rM Ad))))⟩
 obtain rfl:st=[]:=Lai oM;have ar:=hF.fin b5;refine G16 ?_;refine .cV J J J J Body78 (contains_lost sb bs aj aq ms) (λw h=>⟨B4 h J bp,(Cd (B:=⟨aj,[.map (some aq)],119,1⟩) h mR).cell (o:=0) J,Cd h Z0⟩) ?_;refine G2 ?_;refine .cond J (λbj=>?_) (λbj=>?_)
 ·
  refine G4 ?_;refine .call4 J J J J J Body108 (dag_closure x hx bi p sh hs oM) (λw h=>⟨Bf ac h,B4 h J ao⟩) ?_;rintro dr ce (⟨⟨n,hn,h0⟩,_⟩|⟨_,cl,k1,rfl,am,c5,bn,ai⟩)
  .exfalso;have h9:=ad n hn;unfold PD.has at h9;rw[h0]at h9;cases h9
  have c3:=am.num;have a6:∀l∈k1,l.length=32:=λl hl=>P32 hx (reach_P ((ai l).1 hl));have cu:k1.length<=400000:=by have h9:=reach_len hI bn ai;have h8:x.pl.names.length=x.names.length:=rfl;omega
  refine G10 ?_;refine .call4 J J J J J Body69 (lin_set cl k1) (λw h=>acc_rows am (Lies.of h (by repeat(exact Ap))) a6 J oM) ?_;rintro dt cf ⟨bt,rfl,rfl⟩;refine .s1 J J J J J Sz119 mR sP (by rfl) uU ?_;refine G6 ?_;refine .cV J J J J Body78 (contains_lost sb bs aj bt (setP k1)) (λw h=>⟨B4 h J bp,(Cd (B:=⟨aj,[.map (some bt)],119,1⟩) h mR).cell (o:=0) J,Cd h Z0⟩) ?_;refine G2 ?_;refine .cond J (λa2=>?_) (λa2=>?_)
  ·
   refine G6 ?_;refine G3 ?_;refine Ao (out:=[]) (Bm J J J) Ad ?_;obtain⟨n9,b8,b9⟩:=some_any a2;exact .inr (.inl ⟨ad,⟨n9,b8,λhr=>b9 ((setP_mem k1 n9).2 ((ai n9).2 hr))⟩,rfl,rfl⟩)
  refine G9 ?_;refine G2 ?_;refine Ao (out:=(bl++[])) (Bm J J J) (Ac sG Ad) ?_;exact .inr (.inr ⟨ad,λn hn=>(ai n).1 ((setP_mem k1 n).1 (none_any a2 n hn)),sl,l,rfl,by simpa using ag,hF.lnd,ar⟩)
 refine G9 ?_;refine G2 ?_;refine Ao (out:=(bl++[])) (Bm J J J) (Ac sG Ad) ?_;exact .inr (.inr ⟨ad,λn hn=>hF.met n (none_any bj n hn),sl,l,rfl,by simpa using ag,hF.lnd,ar⟩)
theorem lin_eq(p q:Option Addr)(n m c1 c2:Nat)(xs ys:List (List UInt8))(hx:∀l∈xs,l.length=32)(hy:∀l∈ys,l.length=32)(h1:xs.length=n)(h2:ys.length=m)(hn:n<=1000000):Mv 38 [.slice p n c1, .slice q m c2] (λW=>SeesP W p (Aq xs)/\SeesP W q (Aq ys)) (.bool (decide (xs=ys))):=by
 intro W hW;refine Ae func38 J 8 ntmps38 J (G9 ?_);refine .cV J J J J Body81 (seq_any p q n m c1 c2 xs ys hx hy h1 h2 hn) (λw h=>⟨A8 h J hW.1,A8 h J hW.2⟩) (G3 ?_);refine G2 ?_;refine⟨_,[],Ag J J,sP,sP,?_,rfl⟩;rfl
def slc(r:Sl):List Value:=[r.v]
def HdsIs(W:World)(r:Sl)(d:List (List UInt8)):Prop:=RowsAt W r 32 d
theorem slc_cell(r:Sl):∀v∈slc r,isCell v=true:=λv hv=>by
  rw[La1.1 hv];obtain⟨p,n,c⟩:=r;cases p<;>rfl
theorem res_tmp3{fn:Func}{t t2 t3:Tmp}{s:St}{v v2 v3:Value}(hr:fn.results= #[.tmp t, .tmp t2, .tmp t3])(hv:Hw.look s.sl t=some v)(aa:Hw.look s.sl t2=some v2)(ab:Hw.look s.sl t3=some v3):Res C fn s (.tuple #[v,v2,v3]):=by
  intro a w r;have h1:=r.rs.slots t v hv;have h2:=r.rs.slots t2 v2 aa;have h3:=r.rs.slots t3 v3 ab;simp[results,hr,h1,h2,h3]
theorem Sat.perm{code:Code}{sl:List (Nat×Value)}{hp hp':List Blk}{Q:Exit->St->Prop}(h:hp.Perm hp')(k:Sat C code ⟨sl,hp'⟩ Q):Sat C code ⟨sl,hp⟩ Q:=λa w x=>k a w ⟨x.rs,x.rh.perm h⟩
noncomputable def benE(X:PD):List (List UInt8)->List (List (List UInt8))->Int
  |_,[]=>0
  |bf,c::cs=>if(c.any λn=> !X.has n)=true then 6 else if(bf.all λn=>rB X (-1) c n)=false then 4 else benE X c cs
inductive PartsOk(X:PD):List (List UInt8)->List (List (List UInt8))->List (List (List UInt8))->Prop
  |nil {bf:List (List UInt8)}:PartsOk X bf [] []
  |cons {bf c l:List (List UInt8)} {cs ls:List (List (List UInt8))} (h1:l.Nodup) (h2:∀n,n∈l↔X.Reach (-1) c n/\¬X.Reach (-1) bf n) (h3:PartsOk X c cs ls):PartsOk X bf (c::cs) (l::ls)
theorem PartsOk.snoc:∀ {bf:List (List UInt8)} {cs ls:List (List (List UInt8))},PartsOk X bf cs ls->l.Nodup->(∀n,n∈l↔X.Reach (-1) c n/\¬X.Reach (-1) (cs.getLastD bf) n)->PartsOk X bf (cs++[c]) (ls++[l])
  |_,[],_,h,h1,h2=>by cases h;exact .cons h1 h2 .nil
  | bf,d::cs,_,h,h1,h2=>by
    cases h with
    |cons a b k=>exact .cons a b (k.snoc h1 (by intro n;rw[h2 n];cases cs<;>rfl))
structure BenG where
  k:Nat
  bf:List (List UInt8)
  sbf:Sl
  ps:List RV
  s7:Sl
  bl7:List Blk
  bl2:List Blk
  fs:List (List UInt8×Unit)
def psv(ps:List RV):List Value:=ps.map λr=>r.s.v
def pbl(ps:List RV):List Blk:=(ps.map RV.bl).flatten
structure BenG.ok(g:BenG)(X:PD)(W:World)(cs:List (List (List UInt8))):Prop where
  err:benE X [] cs=benE X g.bf (cs.drop g.k)
  row:RowsAt W g.sbf 32 g.bf
  acc:Hw.Acc g.s7 g.bl7 (psv g.ps) 32 g.ps.length 1
  bls:g.bl2.Perm (pbl g.ps)
  oks:∀r∈g.ps,r.ok
  prt:PartsOk X [] (cs.take g.k) (g.ps.map (·.ks))
  fnd:(g.fs.map (·.1)).Nodup
  fsk:∀n,n∈g.fs.map (·.1)↔X.Reach (-1) g.bf n
  lst:g.bf=(cs.take g.k).getLastD []
def BenR(X:PD)(cs:List (List (List UInt8)))(v:Value)(out:List Blk):Prop:=
  (∃e,e≠0/\benE X [] cs=e/\v= .tuple #[.slice none 0 0, .map none,i64 e]/\out=[])
  \/benE X [] cs=0/\∃(s:Sl) (bl bl2:List Blk) (ps:List RV) (m:Nat) (fs:List (List UInt8×Unit)),v= .tuple #[s.v, .map (some m),i64 0]/\out=A3 m (Ak 32 evU) fs::(bl++bl2)/\Hw.Acc s bl (psv ps) 32 ps.length 1/\bl2.Perm (pbl ps)/\(∀r∈ps,r.ok)/\PartsOk X [] cs (ps.map (·.ks))/\(fs.map (·.1)).Nodup/\∀n,n∈fs.map (·.1)↔X.Reach (-1) (cs.getLastD []) n
theorem reach_closed(hI:X.Inv){ks:List (List UInt8)}(h:∀n,n∈ks↔X.Reach (-1) L n):∀k∈ks,∀D,An X.P k=some D->∀m∈Bj D,m∈ks:=λk hk D hD m hm=>by
  obtain⟨⟨E,hE⟩,_⟩:=hI.par k D hD m hm;exact(h m).2 (.step ((h k).1 hk) hD hm hE (by have:=hI.d0 m E hE;omega))
theorem reach_subst{L M:List (List UInt8)}(h:∀n∈L,X.Reach (-1) M n)(hn:X.Reach (-1) L n):X.Reach (-1) M n:=by
  induction hn with
  |base h1 _ _=>exact h _ h1
  |step _ hP hn hE hd ih=>exact .step ih hP hn hE hd
theorem psv_snoc(ps:List RV)(r:RV):psv (ps++[r])=psv ps++[r.s.v]:=by simp[psv]
theorem pbl_snoc(ps:List RV)(r:RV):(pbl (ps++[r]))=pbl ps++r.bl:=by simp[pbl]
theorem drop_at{l:List α}(h:l[k]? =some a):l.drop k=a::l.drop (k+1):=by
  obtain⟨hk,e⟩:=Laa.1 h;rw[<-e];exact Lbo hk
theorem take_at{l:List α}(h:l[k]? =some a):l.take (k+1)=l.take k++[a]:=by
  obtain⟨hk,e⟩:=Laa.1 h;rw[<-e];exact Las hk
theorem BenG.next{W:World}{g:BenG}(h:g.ok X W cs){sc aa ac:Sl}{out ab:List Blk}{fs:List (List UInt8×Unit)}(hc:cs[g.k]? =some c)(ah:RowsAt W sc 32 c)(ae:∀n∈c,X.has n=true)(ag:∀n∈g.bf,X.Reach (-1) c n)
    (aj:Hw.Acc aa out (Aq l) 31 l.length 32) (ai:∀k∈l,k.length=32) (an:l.Nodup) (hl:∀n,n∈l↔X.Reach (-1) c n/\n∉g.fs.map (·.1)) (ad:Hw.Acc ac ab (psv g.ps++slc aa) 32 (g.ps.length+1) 1) (ak:(fs.map (·.1)).Nodup) (am:∀n,n∈fs.map (·.1)↔n∈g.fs.map (·.1)\/n∈l):
    (⟨g.k+1,c,sc,g.ps++[⟨aa,out,l⟩],ac,ab,out++g.bl2,fs⟩:BenG).ok X W cs where
  err :=by
    show benE X [] cs=benE X c (cs.drop (g.k+1));have e1:¬(c.any λn=> !X.has n)=true:=by
      intro h9;obtain⟨n,hn,h8⟩:=Lc2.1 h9;rw[ae n hn]at h8;cases h8
    have e2:¬(g.bf.all λn=>rB X (-1) c n)=false:=by
      rw[Lbf.2 λn hn=>rB_iff.2 (ag n hn)];decide
    rw[h.err,drop_at hc,benE,if_neg e1,if_neg e2]
  row:=ah
  acc:=by
    show Hw.Acc ac ab (psv (g.ps++[⟨aa,out,l⟩])) 32 (g.ps++[(⟨aa,out,l⟩:RV)]).length 1;rw[psv_snoc,La2];exact ad
  bls:=by
    show(out++g.bl2).Perm (pbl (g.ps++[⟨aa,out,l⟩]));rw[pbl_snoc];exact Lcy.trans (Lcm out h.bls)
  oks:=λr hr=>by
    rcases La8.1 hr with h1|h1
    .exact h.oks r h1
    .rw[La1.1 h1];exact⟨aj,ai⟩
  prt:=by
    show PartsOk X [] (cs.take (g.k+1)) ((g.ps++[(⟨aa,out,l⟩:RV)]).map (·.ks));rw[take_at hc,Lae];refine h.prt.snoc an λn=>?_;rw[hl n,h.fsk n,<-h.lst]
  fnd:=ak
  fsk :=λn=>by
    show n∈fs.map (·.1)↔X.Reach (-1) c n;rw[am n,hl n,h.fsk n];constructor
    . rintro(h1|h1)
      .exact reach_subst ag h1
      .exact h1.1
    . intro h1
      by_cases h2:X.Reach (-1) g.bf n
      .exact .inl h2
      .exact .inr ⟨h1,h2⟩
  lst:=by
    show c=(cs.take (g.k+1)).getLastD [];rw[take_at hc];simp
theorem add_keys(h:(ms.map (·.1)).Nodup)(a:List UInt8):((Bh ms a ()).map (·.1)).Nodup/\∀n,n∈(Bh ms a ()).map (·.1)↔n∈ms.map (·.1)\/n=a:=by
  refine⟨mput_nodup h a (),λn=>?_⟩;constructor
  . intro hn
    obtain⟨p,hp,rfl⟩:=La6.1 hn;rcases mput_mem hp with h2|rfl
    .exact .inl (La6.2 ⟨p,h2,rfl⟩)
    .exact .inr rfl
  . rintro(hn|rfl)
    . obtain⟨q,hq,rfl⟩:=La6.1 hn
      exact mput_in hq
    . cases hm:An ms n with
      |none=>exact La6.2 ⟨(n,()),Bi (mget_new hm ()),rfl⟩
      |some u=>exact mput_in (q:=(n,u)) (Bi hm)
theorem ben_6(h:∃n∈c,X.has n=false):benE X bf (c::cs)=6:=by
  obtain⟨n,hn,h1⟩:=h;rw[benE,if_pos (Lc2.2 ⟨n,hn,by rw[h1];rfl⟩)]
theorem ben_4(h:∀n∈c,X.has n=true)(h2:∃n∈bf,¬X.Reach (-1) c n):benE X bf (c::cs)=4:=by
  obtain⟨n,hn,h1⟩:=h2;have e1:¬(c.any λn=> !X.has n)=true:=by
    intro h9;obtain⟨m,hm,h8⟩:=Lc2.1 h9;rw[h m hm]at h8;cases h8
  have e2:(bf.all λn=>rB X (-1) c n)=false:=by
    cases h9:bf.all λn=>rB X (-1) c n with
    |false=>rfl
    |true=>exact absurd (rB_iff.1 (Lbf.1 h9 n hn)) h1
  rw[benE,if_neg e1,if_pos e2]
theorem ben_start(X:PD)(W:World)(cs:List (List (List UInt8))):(⟨0,[],Sl.nil,[],Sl.nil,[],[],[]⟩:BenG).ok X W cs where
  err:=by rw[Ler]
  row:=nil_rows W
  acc:=Acc.none
  bls:=Lco _
  oks:=λr hr=>by cases hr
  prt:= .nil
  fnd:=Lch
  fsk:=λn=>⟨λh=>(by cases h),λh=>(reach_nil h).elim⟩
  lst:=rfl
theorem lin_beneath(x:DD)(hx:x.ok)(hI:x.pl.Inv)(p:Nat)(s:Sl)(rs:List Sl)(cs:List (List (List UInt8)))(hn:s.n<=1000)(ba:∀c∈cs,c.length<=90000):Meets prog 73 [ptr p 0,s.v] [] (λW=>Lies (x.blks p) W/\SeqIs slc 1 HdsIs W s rs cs) (BenR x.pl cs):=by
 intro W hW;have ae:True:=trivial;have bg:=hx.big;have hs:=hW.2;have bn:=hs.nd;refine Ae func73 J 52 ntmps73 J (G19 ?_);refine .mkMap (Ak 32 evU) J J ?_;intro ac;refine G12 ?_;refine .loop (ι:=BenG) (λg=>⟨[(0,ptr p 0),(1,s.v),(4, .slice none 0 0),(5, .map none),(6,i64 0),(7,g.s7.v),(8,g.sbf.v),(9, .map (some ac)),(17,s.v),(18,i64 (s.n:Int)),(19,i64 (g.k:Int))],(A3 ac (Ak 32 evU) g.fs::(g.bl7++(g.bl2++[])))⟩) (λg=>g.k<=s.n/\g.ps.length=g.k/\g.ok x.pl W cs) (λg=>s.n-g.k) (⟨0,[],Sl.nil,[],Sl.nil,[],[],[]⟩) ?_ ?_ ?_
 .exact⟨Laf _,rfl,ben_start x.pl W cs⟩
 .exact Af wN (Ab rM (Ac (by repeat(exact C8)) (Ac (by repeat(exact C8)) Ad)))
 rintro⟨k,bf,sbf,ps,s7,bl7,bl2,fs⟩ ⟨hk,a8,hG⟩;simp only at hk a8 ⊢;have ar:Hw.Acc s7 bl7 (psv ps) 32 ps.length 1:=hG.acc;refine G6 ?_;refine .condP J (λa2=>?_) (λa2=>?_)
 ·
  have a6:k<s.n:=by omega
  obtain⟨b,o,rr,d,bc,hr,hd,au,bj,az⟩:=hs.at dE a6;refine G6 ?_;refine .idxSlP 1 J J J bc J Y55.h Sz32 k J oM (.loadE J J J Y32.h J sP ((by have h9:=az 0 rr.v J;simpa using h9)) ?_);refine G9 ?_;refine .call4 J J J J J Body112 (lin_fresh x hx hI p sbf rr bf d (ba d (Lau hd)) ac fs (reach_closed hI hG.fsk)) (λw h=>⟨Bf hW.1 h,B4 h J hG.row,B4 h J au,Cd h Z0⟩) ?_;rintro bv ad (⟨a7,rfl,rfl⟩|⟨ag,an,rfl,rfl⟩|⟨ag,a1,aa,l,rfl,ab,aw,hl⟩)
  ·
   skip;refine G14 ?_;refine .cond_t J J (G8 ?_);refine G8 ?_;refine Ao (out:=[]) (res_tmp3 J J J J) Ad ?_;exact .inl ⟨6,by decide,by rw[hG.err,drop_at hd];exact ben_6 a7,rfl,rfl⟩
  ·
   skip;refine G14 ?_;refine .cond_t J J (G8 ?_);refine G8 ?_;refine Ao (out:=[]) (res_tmp3 J J J J) Ad ?_;exact .inl ⟨4,by decide,by rw[hG.err,drop_at hd];exact ben_4 ag an,rfl,rfl⟩
  have bm:=ab.num;have ah:∀q∈l,q.length=32:=λq hq=>P32 hx (reach_P ((hl q).1 hq).1);have bp:l.length<=x.names.length:=nd_len (m:=x.pl.names) aw λq hq=>(names_mem hI q).2 (reach_P ((hl q).1 hq).1);refine G14 ?_;refine .cond_f J J (G11 ?_);refine .loop (ι:=Nat×List (List UInt8×Unit)) (λy=>⟨[(0,ptr p 0),(1,s.v),(4, .slice none 0 0),(5, .map none),(6,i64 0),(7,s7.v),(8,sbf.v),(9, .map (some ac)),(11,rr.v),(12,aa.v),(17,s.v),(18,i64 (s.n:Int)),(19,i64 (k:Int)),(34,aa.v),(35,i64 (aa.n:Int)),(36,i64 (y.1:Int))],(A3 ac (Ak 32 evU) y.2::(bl7++(bl2++(ad++[]))))⟩) (λy=>y.1<=aa.n/\(y.2.map (·.1)).Nodup/\∀n,n∈y.2.map (·.1)↔n∈fs.map (·.1)\/n∈l.take y.1) (λy=>aa.n-y.1) ((0,fs)) ?_ ?_ ?_
  .exact⟨Laf _,hG.fnd,λn=>by simp⟩
  .exact Af wN (Ab (by repeat(first|exact A4|apply Bq)) (Ac (by repeat(first|exact B9|apply Cj)) (Ac (by repeat(first|exact B9|apply Cj)) (Ac sG Ad))))
  rintro⟨j,aq⟩ ⟨hj,aj,ai⟩;simp only at hj aj ai ⊢;refine G6 ?_;refine .condP J (λhc2=>?_) (λhc2=>?_)
  ·
   have am:j<l.length:=by omega
   obtain⟨bo,bt,ax,ao⟩:=par_open ab oM ah;have ae:(l.getD j []).length=32:=ah _ (Cm am);refine G6 ?_;refine .idxSlP 32 J J J ax J Y32.h Sz31 j J oM (.loadSN (n:=32) (Aa (l.getD j [])) J J J Y31.h J Sz31 (by rw[Aa,La0];exact ae) (λw h=>ao w (Lies.of h (by repeat(first|exact Ap|refine A1 ?_|refine A5 ?_))) j am) ?_);refine .alloc (cs:=(Aa (List.replicate 32 0))) J Bz J ?_;intro bq bk bi;refine .sA J J J J zE Sz31 (by(rw[Aa,La0];assumption)) Z0 sP zU ?_;refine G4 ?_;refine .lA J J J Y31.h J Sz31 Z0 (by(rw[Aa,La0];assumption)) ?_;refine .build (cs:=[]) J J J (λw=>by kernel_rfl) ?_;refine .mapPut (v:=()) MN J J J J J ae rM ?_;refine G8 ?_;refine⟨(j+1,Bh aq (l.getD j []) ()),⟨by simp only;omega,(add_keys aj _).1,λn=>?_⟩,by simp only;omega,Af (wk1 J (wk1 J (wk1 J (wk1 J (wk1 J (wk1 J (wk1 J (wk1 J (wk1 J (wk1 J (wk1 J (wk1 J (wk1 J (wk1 J (wk1 J (wk1 (by rw[Lcd];rfl) wk0)))))))))))))))) (Ab rM (Ac sG (Ac sG (Ac sG Ad))))⟩;simp only;rw[(add_keys aj _).2 n,ai n,Bt am,La8,La1,or_assoc]
  obtain rfl:j=aa.n:=by omega
  rw[La5 oM]at ai;refine G9 ?_;refine .mkRow2 (z:= .slice none 0 0) [aa.v] (slc aa) J J Y55.h Sz32 Zr32 J J (by intro v hv;rw[La1.1 hv];simp[Value.cells,Sl.v]) dE (by simp[Value.cells,slc,Sl.v]) ?_;intro bu;refine .appendAcc (z:= .slice none 0 0) (by':=24) (slc aa) J J J J J Y55.h Y55.h Sz32 Zr32 (by unfold By;kernel_rfl) J ar sG (λw h=>SeesP.of (Ar h Z0)) (λe=>by cases e) (slc_cell aa) oM oM (by rfl) ?_;intro be ap ak;refine G14 ?_;refine⟨⟨k+1,d,rr,ps++[⟨aa,ad,l⟩],be,ap,ad++bl2,aq⟩,⟨by simp only;omega,by simp only[La2,Laq];omega,BenG.next hG hd au ag a1 ab ah aw hl ak aj ai⟩,by simp only;omega,Af (wk1 J (wk1 J (wk1 J (wk1 J (wk1 J (wk1 J (wk1 J (wk1 J (wk1 J (wk1 J (wk1 (by rw[Lcd];rfl) wk0))))))))))) (Ab rM (Ac sG (pm_two (Ac sG (Ac sG Ad)))))⟩
 obtain rfl:k=s.n:=by omega
 refine G14 ?_;refine G2 ?_;refine Ao (out:=(A3 ac (Ak 32 evU) fs::(bl7++(bl2++[])))) (res_tmp3 J J J J) (Ab rM (Ac sG (Ac sG Ad))) ?_;have he:=hG.err;have ay:=hG.prt;have av:=hG.fsk;rw[Lao (by simp only;omega)]at he;rw[La5 (by simp only;omega)]at ay;rw[show bf=cs.getLastD []from by have h8:=hG.lst;rw[La5 (by simp only;omega)]at h8;exact h8]at av;exact .inr ⟨he,s7,bl7,bl2,ps,ac,fs,rfl,by simp,hG.acc,hG.bls,hG.oks,ay,hG.fnd,av⟩
theorem take_drop_flat(L:List (List UInt8))(i:Nat):Aq L=Aq (L.take i)++Aq (L.drop i):=by rw[<-Br,Lbt]
theorem flat_take_len(aa:∀l∈L,l.length=32){i:Nat}(hi:i<=L.length):(Aq (L.take i)).length=i*32:=by rw[As (λl hl=>aa l (Lbi hl)),Lac,Lc6 hi]
theorem idx_lt{f:List UInt8->Bool}(h:l.any f=true):l.findIdx f<l.length:=by
  obtain⟨x,hx,hf⟩:=Lc2.1 h;exact Lga ⟨x,hx,hf⟩
end Go.Proofs.YtbdfihcjddbhaaaGreat
end
