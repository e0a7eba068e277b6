/- headwaterlaw16.DagForks returns true at every input, and all that it reads reads behind the call as before. Conditions: none beyond the given statement's own. -/
import Derived.WalkKit
import Derived.Orders
import Derived.Deep.LoopGhost
import Derived.IntWalk
import Derived.Laws.StructEq
import Derived.ArgAppend
import Derived.Deep.AppendSrc
import Derived.Lib.Bytealg
import Derived.Lib.BytesEntry
import Derived.Laws.IdiomStrings
import Derived.WideKeyArr2
import Derived.ProofKit
import Derived.OpenShut
import Derived.Deep.Slices
import Derived.Laws.Pointers
import Derived.Laws.Cover3
import Derived.LaidEqlPtr
import Derived.LoopN
import Derived.RangeFuncLeaves
import Derived.RangeFuncSeq
import Derived.OrdersIn
import Derived.Maps.Keyed
import Derived.Maps.RangeRun
import Derived.DeepKeys4
import Derived.Below
import Derived.Test.YtbdfihcjddbhaaaGreatRows
import Derived.KernelRfl
import Derived.Laws.Externs
import Derived.Defers
import Derived.Laws.MathBits
import Derived.Shelf.SlSortCmp.WholeK
import Derived.Shelf.SlGeneric
import Derived.Test.YtbdfihcjddbhaaaGreatProg
import Derived.Shelf.SlSortCmp.NoneTotal
import Derived.Deep.QuietTactic
import Derived.BigQuiet
import Derived.ScopeJumps
import Derived.DeepKeys3
import Derived.ChangeOld
import Derived.JoinedOf
import Derived.Test.YtbdfihcjddbhaaaGreatDFkX5
set_option maxRecDepth 100000
set_option maxHeartbeats 8000000
set_option linter.unusedVariables false
set_option linter.unusedSimpArgs false
set_option linter.unusedSectionVars false
set_option linter.unnecessarySimpa false
section
namespace Go.Proofs.YtbdfihcjddbhaaaGreat
open Go Hw _root_.Go.Proofs.Tryz
variable{D:DB}{X:PD}{n:List UInt8}{α κ ν:Type}{fs:List (κ×ν)}
theorem mem_erase_nd{l:List α}(h:l.Nodup){j:Nat}(hj:j<l.length)(n:α):n∈l.eraseIdx j↔n≠l[j]∧n∈l:=by
  rw[Le6,Lac];have e:l=l.take j++l[j]::l.drop (j+1):=by rw[←Lbl hj,Lcx]
  generalize hx:l[j]=x at*;have h2:=h;rw[e]at h2;obtain⟨h3,h4,h5⟩:=Lav.1 h2;have h6:=(Lb0.1 h4).1;constructor
  · rintro(h1|h1)
    ·exact⟨fun e2=>h5 n h1 x La9 e2,Le3 h1⟩
    ·exact⟨fun e2=>h6 (e2▸h1),List.mem_of_mem_drop h1⟩
  · rintro⟨h1,h7⟩
    rw[e,Lac,Lag]at h7;rcases h7 with h7|h7|h7
    ·exact .inl h7
    ·exact absurd h7 h1
    ·exact .inr h7
theorem map_erase{α β:Type}(f:α→β)(l:List α)(j:Nat):(l.eraseIdx j).map f=(l.map f).eraseIdx j:=by
  rw[Le6,Le6,Lae,Lce,Ldw]
theorem mdel_keys[DecidableEq κ](hn:(fs.map (·.1)).Nodup)(k n:κ):n∈(mdel fs k).map (·.1)↔n∈fs.map (·.1)∧n≠k:=by
  unfold mdel;cases h:midx fs k with
  | none=>
    refine⟨fun h1=>⟨h1,fun e=>?_⟩,fun h1=>h1.1⟩;unfold midx at h;rw[Le0]at h;obtain⟨p,hp,e2⟩:=La6.1 h1;have:=h p hp;simp[e2,e]at this
  | some j=>
    unfold midx at h;rw[Lbu]at h;obtain⟨hj,he,_⟩:=h;have e:fs[j].1=k:=by simpa using he
    have hj2:j<(fs.map (·.1)).length:=by rw[La0];exact hj
    have e2:(fs.map (·.1))[j]=k:=by rw[List.getElem_map];exact e
    show n∈(fs.eraseIdx j).map (·.1)↔_;rw[map_erase,mem_erase_nd hn hj2,e2];exact⟨fun h=>⟨h.2,h.1⟩,fun h=>⟨h.2,h.1⟩⟩
theorem delL_keys:∀(L:List (List UInt8)) {hds:List (List UInt8×Unit)},(hds.map (·.1)).Nodup→((delL hds L).map (·.1)).Nodup∧∀n,n∈(delL hds L).map (·.1)↔n∈hds.map (·.1)∧n∉L
  | [],hds,hn=>⟨hn,fun n=>by simp[delL]⟩
  | k ::L,hds,hn=>by
    have ih:=delL_keys L (mdel_nodup hn k);have e:delL hds (k::L)=delL (mdel hds k) L:=rfl;rw[e];refine⟨ih.1,fun n=>?_⟩;rw[ih.2,mdel_keys hn,Lag];constructor
    · rintro⟨⟨h1,h2⟩,h3⟩
      exact⟨h1,fun h=>by rcases h with h|h;exact h2 h;exact h3 h⟩
    · rintro⟨h1,h2⟩
      exact⟨⟨h1,fun h=>h2 (.inl h)⟩,fun h=>h2 (.inr h)⟩
theorem key_some[DecidableEq κ]{n:κ}:n∈fs.map (·.1)↔∃v,Au fs n=some v:=⟨mget_of_key,fun⟨v,h⟩=>La6.2 ⟨(n,v),Bs h,rfl⟩⟩
theorem key_none[DecidableEq κ]{n:κ}(h:n∉fs.map (·.1)):Au fs n=none:=by
  cases h2:Au fs n with
  |none=>rfl
  |some v=>exact absurd (key_some.2 ⟨v,h2⟩) h
theorem foldP_ge(dep:List (List UInt8×Int)):∀(L:List (List UInt8)) (d:Int),d≤L.foldl (stepP dep) d∧∀m∈L,(Au dep m).getD 0<L.foldl (stepP dep) d
  | [],d=>⟨Int.le_refl d,fun m hm=>by cases hm⟩
  | k::L,d=>by
    have ih:=foldP_ge dep L (stepP dep d k);have h1:d≤stepP dep d k∧(Au dep k).getD 0<stepP dep d k:=by unfold stepP;split<;>omega
    refine⟨Int.le_trans h1.1 ih.1,fun m hm=>?_⟩;rcases Lag.1 hm with rfl|hm
    ·exact Int.lt_of_lt_of_le h1.2 ih.1
    ·exact ih.2 m hm
theorem judge_ready{P:List (List UInt8×DB)}(h:B9 P D=1):readyB P D=true:=by
  unfold B9 at h;split at h
  ·omega
  · split at h
    ·assumption
    ·omega
structure PD.Inv(X:PD):Prop where
  nn:X.names=X.P.map (·.1)
  dk:X.dep.map (·.1)=X.P.map (·.1)
  nd:(X.P.map (·.1)).Nodup
  ck:∀p∈X.P,p.2.check=0
  par:∀n D,Au X.P n=some D→∀m∈Cp D,(∃E,Au X.P m=some E)∧(Au X.dep m).getD 0<(Au X.dep n).getD 0
  d0:∀n D,Au X.P n=some D→0≤(Au X.dep n).getD 0
  hn:(X.hds.map (·.1)).Nodup
  hd:∀n,n∈X.hds.map (·.1)↔(∃D,Au X.P n=some D)∧∀m D,Au X.P m=some D→n∉Cp D
  od:(X.orp.map (·.1)).Nodup
  oc:∀p∈X.orp,p.2.check=0∧p.1∉X.P.map (·.1)
theorem PD.Inv.new:PD.new.Inv where
  nn:=rfl
  dk:=rfl
  nd:=Lbv
  ck:=fun p hp=>by cases hp
  par:=fun n D h=>by cases h
  d0:=fun n D h=>by cases h
  hn:=Lbv
  hd:=fun n=>⟨fun h=>(by cases h),fun⟨⟨D,h⟩,_⟩=>(by cases h)⟩
  od:=Lbv
  oc:=fun p hp=>by cases hp
theorem PD.Inv.drop(h:X.Inv)(n:List UInt8):(X.drop1 n).Inv:={ h with
  od:=mdel_nodup h.od n
  oc:=fun p hp=>h.oc p (mdel_mem hp) }
theorem PD.Inv.adm(h:X.Inv)(hnP:n∉X.P.map (·.1))(hno:n∉X.orp.map (·.1))(hc:D.check=0)(hr:readyB X.P D=true):(X.adm n D).Inv:=by
  have hP0:=key_none hnP;have hD0:Au X.dep n=none:=key_none (by rw[h.dk];exact hnP);have eP:(X.adm n D).P=X.P++[(n,D)]:=mput_app hP0 D;have eD:(X.adm n D).dep=X.dep++[(n,(Cp D).foldl (stepP X.dep) 0)]:=mput_app hD0 _;have gP:∀m,m≠n→Au (X.adm n D).P m=Au X.P m:=fun m hm=>mget_old hP0 D (fun e=>hm e.symm);have gPn:Au (X.adm n D).P n=some D:=mget_new hP0 D;have gD:∀m,m≠n→Au (X.adm n D).dep m=Au X.dep m:=fun m hm=>mget_old hD0 _ (fun e=>hm e.symm);have gDn:Au (X.adm n D).dep n=some ((Cp D).foldl (stepP X.dep) 0):=mget_new hD0 _;have rdy:∀m∈Cp D,∃E,Au X.P m=some E:=fun m hm=>by
    have:=Lcg.1 hr m hm;exact Option.isSome_iff_exists.1 this
  have ne:∀ {m E},Au X.P m=some E→m≠n:=fun {m E} hm e=>by rw[e,hP0]at hm;cases hm
  have old:∀ {m E},Au (X.adm n D).P m=some E→m=n∧E=D∨m≠n∧Au X.P m=some E:=fun {m E} hm=>by
    by_cases e:m=n
    · rw[e,gPn]at hm
      exact .inl ⟨e,(Lep hm).symm⟩
    · rw[gP m e]at hm
      exact .inr ⟨e,hm⟩
  have hk:=delL_keys (Cp D) h.hn;refine⟨?_,?_,?_,?_,?_,?_,?_,?_,h.od,?_⟩
  · show X.names++[n]=_
    rw[eP,Lae,h.nn];rfl
  ·rw[eP,eD,Lae,Lae,h.dk];rfl
  · rw[eP,Lae]
    refine Lav.2 ⟨h.nd,by simp,fun a ha b hb e=>?_⟩;rw[Lao,Let,La1]at hb;rw[e,hb]at ha;exact hnP ha
  · intro p hp
    rw[eP]at hp;rcases Lac.1 hp with hp|hp
    ·exact h.ck p hp
    ·rw[La1.1 hp];exact hc
  · intro m E hm k hk2
    rcases old hm with ⟨rfl,rfl⟩|⟨e,hm⟩
    · obtain⟨F,hF⟩:=rdy k hk2
      refine⟨⟨F,by rw[gP k (ne hF)];exact hF⟩,?_⟩;rw[gD k (ne hF),gDn];exact(foldP_ge X.dep (Cp E) 0).2 k hk2
    · obtain⟨⟨F,hF⟩,hlt⟩:=h.par m E hm k hk2
      refine⟨⟨F,by rw[gP k (ne hF)];exact hF⟩,?_⟩;rw[gD k (ne hF),gD m e];exact hlt
  · intro m E hm
    rcases old hm with ⟨rfl,rfl⟩|⟨e,hm⟩
    · rw[gDn]
      exact(foldP_ge X.dep (Cp E) 0).1
    ·rw[gD m e];exact h.d0 m E hm
  ·exact mput_nodup hk.1 n ()
  · intro k
    show k∈(Bf (delL X.hds (Cp D)) n ()).map (·.1)↔_;rw[keys_put,hk.2,h.hd];constructor
    · rintro(⟨⟨⟨E,hE⟩,h1⟩,h2⟩|rfl)
      · refine⟨⟨E,by rw[gP k (ne hE)];exact hE⟩,fun m F hm=>?_⟩
        rcases old hm with ⟨rfl,rfl⟩|⟨e,hm⟩
        ·exact h2
        ·exact h1 m F hm
      · refine⟨⟨D,gPn⟩,fun m F hm hk2=>?_⟩
        rcases old hm with ⟨rfl,rfl⟩|⟨e,hm⟩
        · obtain⟨G,hG⟩:=rdy _ hk2
          exact ne hG rfl
        · obtain⟨⟨G,hG⟩,_⟩:=h.par m F hm _ hk2
          exact ne hG rfl
    · rintro⟨⟨E,hE⟩,h1⟩
      rcases old hE with ⟨rfl,rfl⟩|⟨e,hE⟩
      ·exact .inr rfl
      ·exact .inl ⟨⟨⟨E,hE⟩,fun m F hm=>h1 m F (by rw[gP m (ne hm)];exact hm)⟩,h1 n D gPn⟩
  · intro p hp
    have:=h.oc p hp;refine⟨this.1,fun hm=>?_⟩;rw[eP,Lae]at hm;rcases Lac.1 hm with hm|hm
    ·exact this.2 hm
    · rw[Lao,Let,La1]at hm
      have e9:p.1=n:=hm;exact hno (by rw[←e9];exact La6.2 ⟨p,hp,rfl⟩)
theorem first_key(h:X.first=some n):∃D,Au X.orp n=some D∧B9 X.P D≠0:=by
  have h1:=Lf3 h;have h2:=List.find?_some h;obtain⟨D,hD⟩:=mget_of_key ((Cm _).mem_iff.1 h1);refine⟨D,hD,?_⟩;rw[hD,Lbp]at h2;simpa using h2
theorem PD.Inv.settle:∀(f:Nat) {X:PD},X.Inv→(PD.settle f X).1.Inv
  |0,X,h=>h
  | f + 1,X,h=>by
    cases hf:X.first with
    |none=>rw[settle_done hf];exact h
    | some n=>
      obtain⟨D,hD,hj⟩:=first_key hf;have hm:=h.oc _ (Bs hD);by_cases h1:B9 X.P D=1
      · rw[settle_fit hf hD h1]
        exact PD.Inv.settle f ((h.drop n).adm hm.2 (fun h2=>((mdel_keys h.od n n).1 h2).2 rfl) hm.1 (judge_ready h1))
      · rw[settle_wrong hf hD h1]
        exact PD.Inv.settle f (h.drop n)
theorem PD.Inv.add(h:X.Inv)(D:DB):(X.add D).1.Inv:=by
  by_cases hg:dgood D=0
  · cases ht:((Au X.orp (Be D)).isSome||(Au X.P (Be D)).isSome)with
    |true=>rw[add_there hg ht];exact h
    | false =>
      rw[Bool.or_eq_false_iff]at ht;have n1:Be D∉X.orp.map (·.1):=fun hm=>by
        obtain⟨v,hv⟩:=mget_of_key hm;rw[hv]at ht;cases ht.1
      have n2:Be D∉X.P.map (·.1):=fun hm=>by
        obtain⟨v,hv⟩:=mget_of_key hm;rw[hv]at ht;cases ht.2
      have hf:((Au X.orp (Be D)).isSome||(Au X.P (Be D)).isSome)=false:=by rw[ht.1,ht.2];rfl
      rcases judge_cases X.P D with hj|hj|hj
      · by_cases h64:64≤X.orp.length
        ·rw[add_full hg hf hj h64];exact h
        · rw [add_keep hg hf hj h64]
          exact{ h with
            od:=mput_nodup h.od _ _
            oc:=fun p hp=>by
              rcases mput_mem hp with hp|rfl
              ·exact h.oc p hp
              ·exact⟨good_check hg,n2⟩ }
      · rw[add_fits hg hf hj]
        exact PD.Inv.settle _ (h.adm n2 n1 (good_check hg) (judge_ready hj))
      ·rw[add_wrong hg hf hj];exact h
  ·rw[add_bad hg];exact h
noncomputable def fillP(X:PD)(ds:List DB):PD:=ds.foldl (fun X D=>(X.add D).1) X
theorem PD.Inv.fill:∀(ds:List DB) {X:PD},X.Inv→(fillP X ds).Inv
  | [],X,h=>h
  |D::ds,X,h=>PD.Inv.fill ds (h.add D)
section
variable{X:PD}
end
section
variable{C:Cx}{ops:Array Oper}{rest:List (Nat×Oper)}{sl:List (Nat×Value)}{hp:List Blk}{Q:St→Prop}{c d:Nat}{ty:TypeId}{pos:String}{af:Array Edge}{g:Option (Nat×Bool)}
variable{xT yT:TypeId}{x y:Operand}{a b:Int}
end
def GetR(X:PD)(n:List UInt8)(v:Value)(out:List Blk):Prop:=
  Au X.P n=none∧v= .tuple #[agg Block.zero.cells,i64 6]∧out=[]
  ∨∃D B,Au X.P n=some D∧SameB B D∧v= .tuple #[agg B.cells,i64 0]∧∀W2,Lies out W2→BlockIs W2 B D
variable{L:List (List UInt8)}
theorem ck_small{D:DB}(h:D.check=0):D.ls.length≤16∧D.ds.length≤90000:=by
  obtain⟨h1,h2⟩:=D.head_small h;exact⟨by omega,by omega⟩
theorem dag_get(x:DD)(hx:x.ok)(hck:∀p∈x.P,p.2.check=0)(p:Nat)(n:List UInt8)(h32:n.length=32):Meets prog 9 [ptr p 0,agg (Aa n)] [] (fun W=>Lies (x.blks p) W) (GetR x.pl n):=by
 intro W hW;have hlies:=hW;have hd:=DagSee.lies hW;refine Ac func9 J 27 ntmps9 J (G3 ?_);intro n3 hn3 hf3;refine .alloc (cs:=Block.zero.cells) J Block.zr J ?_;intro n4 hn4 hf4;refine G7 ?_;refine .cV J J J J Body45 (dag_valid x p) (fun w h=>hd.ext h) (G3 ?_);refine .cond_f J J (G3 ?_);refine .draw (oPq [0,1,2,103,104,105,6,7,8,209,410,11]) Ap zK (G3 ?_);refine .loadE J J J Y80.h J sP (hd.at (o:=2) J) (.lA J J J Y31.h J Sz31 Z1 (by(simp[h32];done)) ?_);refine .lookFC evE ME hd.2 sP J J J J h32 (fun hg=>?_) (fun e hg=>?_)
 ·
  skip;refine G3 ?_;refine .alloc (cs:=DEnt.zero.cells) J DEnt.zr J ?_;intro n6 hn6 hf6;refine G11 ?_;refine .cond_t J J (G2 ?_);refine .build (cs:=Block.zero.cells) J J J (fun w=>by kernel_rfl) ?_;refine G4 ?_;refine G3 ?_;refine A3 (out:=[]) (Bi J J J Y37.h J Sz37 Z1 (by exact Block.length (by exact Block.zero_ok))) Ak ?_;exact .inl ⟨DD.noP hg,rfl,rfl⟩
 obtain⟨hs1,hs2⟩:=ck_small (hck _ (La6.2 ⟨_,Bs hg,rfl⟩));simp only at hs1 hs2;refine G3 ?_;refine .alloc (cs:=DEnt.zero.cells) J DEnt.zr J ?_;intro n6 hn6 hf6;refine .sA J J J J (DEnt.isCell (by exact hx.entOk hg)) Sz91 (DEnt.length (by exact hx.entOk hg)) Z0 (DEnt.length (by exact DEnt.zero_ok)) zU ?_;refine G10 ?_;refine .cond_f J J (G5 ?_);refine .lN (Block.cells _) J J J Y37.h J Sz37 Z0 (DEnt.row_fBlock (by exact hx.entOk hg)) (DEnt.rl_fBlock (by exact hx.entOk hg)) ?_;refine .call4 J J J J J Body52 (dag_clone e.1.fBlock e.2 (hx.ent _ (Bs hg)).2.1.1 oM oM) (fun w h=>(hx.ent _ (Bs hg)).2.1.2 w ((lies_keep hlies h).sub (x.mcb p))) ?_;rintro v26 out26 ⟨B26,h26,rfl,hb26⟩;refine .sA J J J J (Block.isCell (by exact h26.ok)) Sz37 (Block.length (by exact h26.ok)) mR (Block.length (by exact Block.zero_ok)) uU ?_;refine G3 ?_;refine G2 ?_;refine A3 (out:=(out26++[])) (Bi J J J Y37.h J Sz37 mR (by exact Block.length (by exact h26.ok))) (Ad sG Ak) ?_;exact .inr ⟨e.2,B26,(DD.atP hg).1,h26,rfl,fun W2 hl=>hb26 W2 (by simpa using hl)⟩
theorem fillP_snoc(X:PD)(l:List DB)(d:DB):fillP X (l++[d])=((fillP X l).add d).1:=by unfold fillP;rw[Ley];rfl
theorem law16_filled(s:Sl)(ds:List DB)(hn:s.n≤1000)(hsm:∀d∈ds,d.ls.length≤500000∧d.ds.length≤500000):Meets prog 7 [s.v] [] (fun W=>BlocksAt W s ds) (fun v out=>∃(p:Nat) (x:DD),v=ptr p 0∧out=x.blks p∧x.ok∧x.pl=fillP PD.new ds∧x.names.length+x.orp.length≤ds.length):=by
 intro W hW;obtain⟨rs,hs⟩:=hW;have hnd:=hs.nd;refine Ac func7 J 20 ntmps7 J (G7 ?_);refine .call4 J J J J J Body41 (dag_new2) tV ?_;rintro v5 out5 ⟨p,x0,rfl,rfl,hx0,hplx0,hnx0⟩;refine G10 ?_;refine .loop (ι:=Nat×DD) (fun r=>⟨[(0,s.v),(3,ptr p 0),(4,i64 (r.1:Int))],(r.2.blks p++[])⟩) (fun r=>r.1≤s.n∧r.2.ok∧r.2.pl=fillP PD.new (ds.take r.1)∧r.2.names.length+r.2.orp.length≤r.1) (fun r=>s.n-r.1) ((0,x0)) ?_ ?_ ?_
 ·exact⟨Laj _,hx0,hplx0,Lgh hnx0⟩
 ·exact An wN (Ad sG Ak)
 rintro⟨k,x⟩ ⟨hk,hx,hplx,hnx⟩;simp only at hk hx hplx hnx ⊢;refine G9 ?_;refine .condP J (fun hc0=>?_) (fun hc0=>?_)
 ·
  have hk2:k<s.n:=by omega
  obtain⟨b,o,r,d,hsp,hr,hd,his,hlen,hsee⟩:=hs.at dE hk2;refine G8 ?_;refine .idxSlP 131 J J J hsp J Y22.h Sz37 k J oM (.loadEN r.cells J J J Y37.h J Sz37 sP hlen hsee (.call4 J J J J J Body44 (db_own r d (hsm d (Lbs hd)).1 (hsm d (Lbs hd)).2) (fun w h=>his.ext h J) ?_));rintro v17 out17 ⟨B17,h17,rfl,hb17⟩;refine .callL (L:=(x.blks p++out17)) J J J J J Body42 (dag_add x hx p B17 d out17 ⟨h17,hb17⟩ oM) (sg_two (by repeat(first|exact sg_here|apply sg_seg)) sG) (lent_ok J) (fun w h=>Lent.of h (sg_two (by repeat(first|exact sg_here|apply sg_seg)) sG)) ?_;rintro v18 out18 ⟨x1,⟨p18,n18,c18⟩,bl18,rfl,rfl,hx1,hac18,h3218,hplx1,hnx1⟩;simp only[La8];refine G9 ?_;exact⟨(k+1,x1),⟨by simp only;omega,hx1,by show x1.pl=_;rw[hplx1,hplx,take_snoc hd,fillP_snoc],by simp only;omega⟩,by simp only;omega,An wN (Ad sG Ak)⟩
 have hke:k=s.n:=by omega
 refine G11 ?_;refine G2 ?_;refine A3 (out:=(x.blks p++[])) (Al J J) (Ad sG Ak) ?_;refine⟨p,x,rfl,by simp,hx,?_,by omega⟩;rw[hke,La7 oM]at hplx;exact hplx
theorem getD_mem2{k:Nat}(h:k<L.length):L.getD k []∈L:=by
  rw[La2,La4 h];exact Lc9 h
theorem P32{x:DD}(hx:x.ok){n:List UInt8}(h:∃D,Au x.pl.P n=some D):n.length=32:=by
  obtain⟨D,hD⟩:=h;obtain⟨p,hp,e⟩:=La6.1 (Bs (show Au x.P n=some D from hD));rw[←(Prod.mk.inj e).1];exact(hx.ent p hp).1
abbrev evI(x:Int):Value:=i64 x
theorem par_open{s:Sl}{bl:List Blk}(h:Hw.Acc s bl (Ay L) 31 L.length 32)(h0:0<L.length)(h32:∀l∈L,l.length=32):∃b o,s.p=some ⟨b,o,none⟩∧∀w,Lies bl w→∀k,k<L.length→Sees w b (o+k*32) (Aa (L.getD k [])):=by
  rcases h with ⟨_,_,_,e⟩|⟨q,c,rfl,h1,h2,rfl⟩
  ·omega
  ·exact⟨q,0,rfl,fun w hw k hk=>sees_row h32 (sees_kok (hw _ La9) fun j v hj=>by rw[Lb2];exact hj) hk⟩
theorem own_apart{C:Cx}{hp L:List Blk}{w:World}{B:Blk}(h:HRep C hp w)(hB:B∈hp)(hL:Lies L C.W0)(hl:C.lent=[]:=by rfl):∀b∈L,b.n≠B.n:=fun b hb e=>by
  have h1:=(hL b hb).lt;rcases h.own B hB with h2|h2
  ·omega
  ·rw[hl]at h2;cases h2
open Go.RowKit Go.Shelf Go.Lib Go.Sort
set_option maxHeartbeats 2000000
variable{W:World}{α:Type}
theorem ret_grow{W W':World}{out:List Blk}(h:Ret [] out W W'):∃q os',W'=grow (W.drewN q) os':=by
  have k:=h.keeps;refine⟨W'.drawn-W.drawn,W'.heap.extract W.heap.size W'.heap.size,?_⟩;have hd:W.drawn+(W'.drawn-W.drawn)=W'.drawn:=by have:=k.drawn;omega
  have hh:W.heap++W'.heap.extract W.heap.size W'.heap.size=W'.heap:=by
    refine Ldy fun i=>?_;rcases Lat i W.heap.size with h1|h1
    ·rw[Lcq h1];exact(k.block i h1 sP).symm
    · rw[Array.getElem?_append_right h1,Array.getElem?_extract]
      have:=k.size;split
      ·rw[show W.heap.size+(i-W.heap.size)=i by omega]
      ·rw[Lc4 oM]
  obtain⟨hp,tp,dr,os,ot⟩:=W';obtain⟨hp0,tp0,dr0,os0,ot0⟩:=W;have e1:=k.os;have e2:=k.tape;have e3:=k.output;simp only at e1 e2 e3 hd hh;subst e1;subst e2;subst e3;simp only[grow,World.drewN,hd,hh]
theorem sort_keep[Inhabited α]{enc:α→List Value}{k q m:Nat}{dk:Array α}{os:Array Obj}{i:Nat}(hi:i<W.heap.size)(hne:i≠q):(sortWorldK enc k W q 0 m dk os).heap[i]? =W.heap[i]? :=by
  simp only[sortWorldK,grow,putRowK,putRow,mapBlock];rw[Lcq (by simpa using hi),Lcz,if_neg (fun e:q=i=>hne e.symm)];rfl
theorem flatK_any[Inhabited α](g:α→List UInt8)(hg:∀x,(g x).length=32)(d:Array α):∀(j:Nat) (v:Value),(Ay (d.toList.map g))[j]? =some v→j<d.size*32∧(flatK (fun x=>Aa (g x)) 32 d)[j]! =v:=fun j v hj=>by
  have h32:∀l∈d.toList.map g,l.length=32:=fun l hl=>by obtain⟨x,_,rfl⟩:=La6.1 hl;exact hg x
  have hlen:=A1 h32;have hlt:=(Lab.1 hj).1;rw[hlen]at hlt;have hlt2:j<d.size*32:=by simpa using hlt
  refine⟨hlt2,?_⟩;rw[get_flatK _ _ _ _ hlt2];have hi:j/32<d.size:=by omega
  have hc:((d.toList.map g).map Aa)[j/32]? =some (Aa (g d[j/32]!)):=by
    rw[Lai,Lai];have:d.toList[j/32]? =some d[j/32]! :=by simp[hi]
    rw[this];rfl
  have hm:j%32<(Aa (g d[j/32]!)).length:=by rw[Aa,La0,hg];omega
  have:=flat_get (m:=32) (fun l hl=>flatB_all h32 l hl) hc hm;have e:j/32*32+j%32=j:=by omega
  rw[e]at this;have hj2:((d.toList.map g).map Aa).flatten[j]? =some v:=hj;rw[hj2]at this;rw[Lea,←this];rfl
theorem sort_by(q n c m:Nat)(ks:List (List UInt8))(h32:∀l∈ks,l.length=32)(hl:ks.length=n)(h0:0<n)(hbig:n≤1000000)(hm:n*32≤m)(f:Nat)(caps:List Value)(cf:List UInt8→List UInt8→Int)(swo:SWO (ltOf fun x y: {l:List UInt8//l∈ks}=>cf x.1 y.1))(bl:List Blk)
    (eg:∀args w,(callFunc f args).run prog w= .ok (.enter f args) w) (hcm:∀x∈ks,∀y∈ks,Meets prog f ([agg (Aa x),agg (Aa y)]++caps) [] (Lies bl) (fun v out=>v=i64 (cf x y)∧out=[])):
    Meets prog 47 [.slice (some ⟨q,0,none⟩) n c, .func (.func f) #[] caps.toArray] [q] (fun W=>BlkOk W ⟨q,Ay ks,31,m⟩∧Lies bl W∧∀b∈bl,b.n≠q)
    (fun v out=>v= .tuple #[]∧∃ks':List (List UInt8),ks'.Perm ks∧ks'.Pairwise (fun a b=>¬cf b a<0)∧out=[⟨q,Ay ks',31,m⟩]):=fun W ⟨hb,hbl,hbq⟩=>by
  haveI:Inhabited {l:List UInt8//l∈ks}:=⟨⟨ks[0]'oM,Lc9 _⟩⟩
  obtain⟨d,hd⟩:∃d:Array {l:List UInt8//l∈ks},d=ks.attach.toArray:=⟨_,rfl⟩;have hdl:d.toList.map (·.1)=ks:=by rw[hd];simp
  have hds:d.size=n:=by rw[hd,←hl];simp
  have hg:∀x: {l:List UInt8//l∈ks},x.1.length=32:=fun x=>h32 x.1 x.2;have hb0:∃full fr,BlkAt W ⟨q,Ay ks,31,m⟩ full fr:=hb;obtain⟨full,fr,hbk⟩:=hb0;have hfl:=A1 h32;have hH:HoldsK (fun x: {l:List UInt8//l∈ks}=>Aa x.1) 32 W q 0 d:=fun j hj=>by
    rw[size_flatK]at hj;have hj2:j<(Ay ks).length:=by rw[hfl,hl,←hds];exact hj
    have h1:=La4 hj2;have h2:=(flatK_any (fun x: {l:List UInt8//l∈ks}=>x.1) hg d j _ (by rw[hdl];exact h1)).2;rw[h2];exact⟨hb.cell (b:=⟨q,Ay ks,31,m⟩) (by rw[Lb2];exact h1),hbk.unfrozen (by show 0+j<m;omega)⟩
  have hcmp:CmpLays prog f caps.toArray (fun x: {l:List UInt8//l∈ks}=>Aa x.1) 32 (fun x y=>cf x.1 y.1) q 0 d.size W:=fun k os dk hk x y=>by
    have hl2:Lies bl (sortWorldK (fun x: {l:List UInt8//l∈ks}=>Aa x.1) 32 W q 0 k dk os):=fun b hb2=>(hbl b hb2).of_heap (sort_keep (hbl b hb2).lt (hbq b hb2));have h3:=hcm x.1 x.2 y.1 y.2 _ hl2;have e:([agg (Aa x.1),agg (Aa y.1)]++caps).toArray= #[.agg (Aa x.1).toArray, .agg (Aa y.1).toArray]++caps.toArray:=by simp[agg]
    rw[e]at h3;exact h3.mono fun e' W' ⟨v,out,he,⟨hv,_⟩,hr⟩=>⟨by rw[he,hv],ret_grow hr⟩
  have hz25:∀w,(Go.sizeOf (sortD_ren.t 24)).run prog w= .ok 32 w:=by
    intro w;have e:sortD_ren.t 24=31:=by rfl
    rw[e];exact Cf Sz31 w
  have hcon:=AnyQ.slices_SortFunc sortD 32 (fun w=>run_isAgg_arr Y31.h rfl w) (fun w=>hz25 w) (fun x: {l:List UInt8//l∈ks}=>Aa x.1) (fun x=>by rw[Aa,La0,hg x]) (fun x v hv=>by obtain⟨u,_,rfl⟩:=La6.1 hv;rfl) (fun x y=>cf x.1 y.1) swo f caps.toArray q 0 c d W eg hcmp hH hb.lt oM;have hcon2:Calls prog 47 #[.slice (some ⟨q,0,none⟩) d.size c, .func (.func f) #[] caps.toArray] W _:=hcon;rw[hds]at hcon2;refine hcon2.mono fun e W' ⟨he,d',k,os,hp,hs,hw⟩=>?_;subst hw;have hsz':d'.size=d.size:=hp.1;obtain⟨ks',hk'⟩:∃ks',ks'=d'.toList.map (·.1):=⟨_,rfl⟩;have h32':∀l∈ks',l.length=32:=fun l hl=>by rw[hk']at hl;obtain⟨x,_,rfl⟩:=La6.1 hl;exact hg x
  have hlen':ks'.length=n:=by rw[hk'];simp[hsz',hds]
  have hperm:ks'.Perm ks:=by
    have h4:(d'.toList.map (·.1)).Perm (d.toList.map (·.1)):=by
      refine List.Perm.map _ ?_;have h3:=hp.2.2;have e1:d.extract 0 d.size=d:=by simp
      have e2:d'.extract 0 d.size=d':=by rw[←hsz'];simp
      rw[←hds]at h3;rwa[e1,e2]at h3
    rw[hk'];rw[hdl]at h4;exact h4
  have hsort:ks'.Pairwise (fun a b=>¬cf b a<0):=by
    rw[hk'];refine Le5.2 (Lc8.2 fun i j hi hj hij=>?_);have h4:=hs i j (Laj _) hij (by rw[←hds,←hsz'];simpa using hj);have h5:decide (cf d'[j]!.1 d'[i]!.1<0)=false:=h4;rw[decide_eq_false_iff_not]at h5;have hi2:i<d'.size:=by simpa using hi
    have hj2:j<d'.size:=by simpa using hj
    rw[getElem!_pos d' j hj2,getElem!_pos d' i hi2]at h5;simpa using h5
  refine⟨_,_,he,⟨rfl,ks',hperm,hsort,rfl⟩,⟨⟨rfl,rfl,rfl,?_,Lf4 W.drawn k,fun i hi hn=>?_⟩,fun b hb2=>?_,by simp,fun b hb2=>?_⟩⟩
  ·simp[sortWorldK,grow,putRowK]
  ·exact sort_keep hi (by simpa using hn)
  · rw[La1.1 hb2]
    have hq:W.heap[q]? =some (.cells full 31 fr):=hbk.heap;have hql:q<W.heap.size:=hb.lt;refine⟨putCells id 0 (flatK (fun x: {l:List UInt8//l∈ks}=>Aa x.1) 32 d') full,fr,?_,by simpa[putCells]using hbk.size,?_,hbk.free⟩
    · simp only[sortWorldK,grow,putRowK,putRow,mapBlock]
      rw[Lcq (by simpa using hql),Lcz,if_pos rfl,show(Go.Sort.ahead W k).heap[q]? =some (Obj.cells full 31 fr)from hq];rfl
    · have hms:=hbk.size
      simp only at hms;rw[prefix_iff];intro j v hj;simp only at hj;have hf:=flatK_any (fun x: {l:List UInt8//l∈ks}=>x.1) hg d' j v (by rw[←hk'];exact hj);simp only[putCells,Lde,Lfr];have hjf:j<full.size:=by rw[hms];have:=hf.1;omega
      rw[Lct hjf];simp only[Lbj,La3,Laj,true_and,Lb2,size_flatK,Lfa];rw[if_pos hf.1,hf.2];rfl
  ·rw[La1.1 hb2];exact .inr sP
theorem sort_none_f(p:Option Addr)(c:Nat)(f:Value):Mv 47 [.slice p 0 c,f] (fun _=>True) (.tuple #[]):=fun W _=>by
  have hcon:=AnyF.slices_SortFunc_none sortD p c f W;have hcon2:Calls prog 47 #[.slice p 0 c,f] W _:=hcon;refine hcon2.mono fun e W' h=>?_;obtain⟨he,hw⟩:=h;subst hw;exact⟨_,[],he,⟨rfl,rfl⟩,⟨Keeps.refl _ _,fun b hb=>(by cases hb),Lbv,fun b hb=>(by cases hb)⟩⟩
def or2(x y:Int):Int:=if x≠0 then x else y
theorem cmp_or2(q:Nat)(x y:Int):Mv 49 [.slice (some ⟨q,0,none⟩) 2 2] (fun W=>Sees W q 0 [i64 x,i64 y]) (i64 (or2 x y)):=by
  intro W hW;refine Ac func49 J 18 ntmps49 J (G19 ?_);refine .loop (ι:=Nat) (fun k=>⟨[(0, .slice (some ⟨q,0,none⟩) 2 2),(3,i64 0),(6, .slice (some ⟨q,0,none⟩) 2 2),(7,i64 2),(8,i64 (k:Int))],[]⟩) (fun k=>k≤2∧(0<k→x=0)∧(1<k→y=0)) (fun k=>2-k) (0) ?_ ?_ ?_
  ·exact⟨by decide,fun h=>by omega,fun h=>by omega⟩
  ·exact Ae wN wh0 nD
  rintro k ⟨hk,hx,hy⟩;refine G6 ?_;refine .condP J (fun hc0=>?_) (fun hc0=>?_)
  ·
    have hk2:k<2:=by omega
    obtain⟨z,hz⟩:∃z,[x,y][k]? =some z:=⟨_,La4 (by simpa using hk2)⟩;have hzz:z=[x,y].getD k 0:=by rw[La2,hz];rfl
    have hzc:[i64 x,i64 y][k]? =some (i64 z):=by rcases(show k=0∨k=1 by omega)with rfl|rfl<;>(simp at hz;simp[hz])
    refine G6 ?_;refine .idxSlP 1 J J J J J Y51.h Sz3 k J oM (.loadE J J J Y3.h J sP ((by have:=hW k _ hzc;simpa using this)) ?_);refine G10 ?_;refine .condNP J (fun hc1=>?_) (fun hc1=>?_)
    ·
      refine G6 ?_;refine G7 ?_;refine⟨_,[],Al J J,sP,sP,?_,rfl⟩;first
        | (rcases(show k=0∨k=1 by omega)with rfl|rfl
           · obtain rfl:z=x:=by rw[hzz];rfl
             rw[or2,if_pos oM]
           · obtain rfl:z=y:=by rw[hzz];rfl
             rw[or2,if_neg (by have:=hx oM;omega)])
        |rw[or2,hx oM,hy oM];rfl
    refine G8 ?_;refine⟨k+1,⟨by omega,fun _=>?_,fun _=>?_⟩,by omega,Ae wN wh0 nD⟩
    · rcases(show k=0∨k=1 by omega)with rfl|rfl
      ·rw[hzz]at hc1;simpa using hc1
      ·exact hx oM
    · obtain rfl:k=1:=by omega
      rw[hzz]at hc1;simpa using hc1
  have hke:k=2:=by omega
  refine G11 ?_;refine G2 ?_;refine⟨_,[],Al J J,sP,sP,?_,rfl⟩;first
    | (rcases(show k=0∨k=1 by omega)with rfl|rfl
       · obtain rfl:z=x:=by rw[hzz];rfl
         rw[or2,if_pos oM]
       · obtain rfl:z=y:=by rw[hzz];rfl
         rw[or2,if_neg (by have:=hx oM;omega)])
    |rw[or2,hx oM,hy oM];rfl
theorem Lies.app{a b:List Blk}{w:World}(h1:Lies a w)(h2:Lies b w):Lies (a++b) w:=fun x hx=>by
  rcases Lac.1 hx with h|h
  ·exact h1 x h
  ·exact h2 x h
theorem sort_acc_by(s:Sl)(bl:List Blk)(ks:List (List UInt8))(h32:∀l∈ks,l.length=32)(hbig:ks.length≤1000000)(hac:Hw.Acc s bl (Ay ks) 31 ks.length 32)(f:Nat)(caps:List Value)(cf:List UInt8→List UInt8→Int)(swo:SWO (ltOf fun x y: {l:List UInt8//l∈ks}=>cf x.1 y.1))(bl2:List Blk)
    (eg:∀args w,(callFunc f args).run prog w= .ok (.enter f args) w) (hcm:∀x∈ks,∀y∈ks,Meets prog f ([agg (Aa x),agg (Aa y)]++caps) [] (Lies bl2) (fun v out=>v=i64 (cf x y)∧out=[])):
    Meets prog 47 [s.v, .func (.func f) #[] caps.toArray] (bl.map (·.n)) (fun W=>Lies bl W∧Lies bl2 W∧∀b∈bl2,∀b'∈bl,b.n≠b'.n)
    (fun v out=>v= .tuple #[]∧∃ks':List (List UInt8),ks'.Perm ks∧ks'.Pairwise (fun a b=>¬cf b a<0)∧Hw.Acc s out (Ay ks') 31 ks.length 32):=fun W ⟨h1,h2,h3⟩=>by
  rcases hac with ⟨rfl,rfl,hz,hn⟩|⟨q,c,rfl,hnc,hfl,rfl⟩
  · obtain rfl:=Las hn
    exact(sort_none_f none 0 _ W trivial).mono fun e W' ⟨v,out,he,⟨hv,ho⟩,hr⟩=>⟨v,out,he,⟨hv,[],Lcb _,List.Pairwise.nil, .inl ⟨rfl,ho,rfl,rfl⟩⟩,hr⟩
  · have hb:BlkOk W ⟨q,Ay ks,31,c*32⟩:=h1 _ (La1.2 rfl)
    by_cases h0:ks.length=0
    · obtain rfl:=Las h0
      refine(sort_none_f (some ⟨q,0,none⟩) c _ W trivial).mono fun e W' ⟨v,out,he,⟨hv,ho⟩,hr⟩=>⟨v,[⟨q,Ay [],31,c*32⟩],he,⟨hv,[],Lcb _,List.Pairwise.nil, .inr ⟨q,c,rfl,hnc,hfl,rfl⟩⟩,⟨hr.keeps.mono sP,fun b hb2=>?_,by simp,fun b hb2=>?_⟩⟩
      · rw[La1.1 hb2]
        exact hb.of_heap (hr.keeps.block q hb.lt sP)
      ·rw[La1.1 hb2];exact .inr sP
    · refine(sort_by q ks.length c (c*32) ks h32 rfl oM hbig (Ldk 32 hnc) f caps cf swo bl2 eg hcm W ⟨hb,h2,fun b hb2=>h3 b hb2 _ (La1.2 rfl)⟩).mono fun e W' ⟨v,out,he,⟨hv,ks',hp,hs,ho⟩,hr⟩=>⟨v,out,he,⟨hv,ks',hp,hs,?_⟩,hr⟩
      have h32':∀l∈ks',l.length=32:=fun l hl=>h32 l (hp.mem_iff.1 hl);exact .inr ⟨q,c,rfl,hnc,by rw[A1 h32',hp.length_eq],ho⟩
end Go.Proofs.YtbdfihcjddbhaaaGreat
namespace Go.Proofs.YtbdfihcjddbhaaaGreat
open Go Hw _root_.Go.Proofs.Tryz
variable{κ:Type}{n:κ}
theorem keysP_put[DecidableEq κ]{ms:List (κ×Unit)}(h:Au ms n=none):(Bf ms n ()).map (·.1)=ms.map (·.1)++[n]:=by rw[mput_app h,Lae];rfl
theorem not_key{κ ν:Type}[DecidableEq κ]{ms:List (κ×ν)}{n:κ}(h:Au ms n=none):n∉ms.map (·.1):=fun hm=>by
  obtain⟨v,hv⟩:=mget_of_key hm;rw[h]at hv;cases hv
section
variable{X:PD}{L dn l st:List (List UInt8)}{ms:List (List UInt8×Unit)}{n:List UInt8}
end
def CapS(W:World)(c:Nat)(s:Sl):Prop:=W.cell? ⟨c,0,none⟩=some s.v
variable{C:Cx}{c:Nat}{hp:List Blk}{s:Sl}{w:World}
theorem CapS.keep(h:CapS C.W0 c s)(hc:c<C.W0.heap.size)(hl:c∉C.lent)(hh:HRep C hp w):w.cell? ⟨c,0,none⟩=some s.v:=by
  have e:=hh.keeps.block c hc hl;unfold CapS at h;unfold World.cell? at h ⊢;rw[e];exact h
theorem CapS.of_own{T:TypeId}(hh:HRep C hp w)(hc:(⟨c,[s.v],T,1⟩:Blk)∈hp):CapS w c s∧c<w.heap.size:=
  ⟨(hh.cells _ hc).cell (o:=0) rfl,(hh.cells _ hc).lt⟩
theorem cell_lt2{b o:Nat}{v:Value}(h:w.cell? ⟨b,o,none⟩=some v):b<w.heap.size:=by
  refine Nat.lt_of_not_le fun hle=>?_;unfold World.cell? at h;rw[Lc4 hle]at h;cases h
theorem mk_vals(s:Sl):Meets prog 54 [s.v] [] (fun _=>True) (fun v out=>∃c,v= .func (.func 97) #[] #[ptr c 0]∧out=[⟨c,[s.v],32,1⟩]):=by
 intro W hW;refine Ac func54 J 4 ntmps54 J (G2 ?_);refine .box1 J J J ?_;intro n1 hn1 hf1;refine G9 ?_;refine G2 ?_;refine A3 (out:=(⟨n1,[s.v],32,1⟩::[])) (Al J J) (Ab rM Ak) ?_;exact⟨n1,rfl,rfl⟩
theorem vals_iter{σ:Type}(X:σ→List Blk)(vis:σ→List (List UInt8))(s0:σ)(names:List Nat)(l c:Nat)(s:Sl)(ks:List (List UInt8))(w1:World)(h32:∀k∈ks,k.length=32)(hn:s.n=ks.length)(hbig:s.n≤1000000)(hv0:vis s0=[])(hbn:∀b o,s.p=some ⟨b,o,none⟩→b∉names)(hcn:c∉names):Meets prog 97 [.func (.yield l) #[] #[],ptr c 0] names (fun W=>W=w1∧HRep ⟨prog,w1,0,names,[],[]⟩ (X s0) W∧SeesP W s.p (Ay ks)∧CapS W c s∧c<W.heap.size∧∀s k,k.length=32→(vis s).length<ks.length→∀W2,HRep ⟨prog,w1,0,names,[],[]⟩ (X s) W2→YieldAt Fence.wide 0 prog l #[agg (Aa k)] W2 fun e W3=>e= .returned (.bool true)∧∃s',vis s'=vis s++[k]∧Ret ((X s).map (·.n)) (X s') W2 W3) (fun v out=>v= .tuple #[]∧∃s,(vis s).Perm ks∧out=X s):=by
  intro W hW;obtain⟨rfl,hW⟩:=hW;obtain⟨hH,hsee,hcap,hclt,hY⟩:=hW;have hW:=And.intro hH trivial;have hfl:=A1 h32;refine calls_of (hp0:=X s0) func97 J 16 ntmps97 J (HRep.reN hW.1) (G2 ?_);refine .loadAny J J J (v:=s.v) (fun w h=>?_) ?_
  · have hcc:=hcap.keep (C:=⟨prog,W,_,names,[],[]⟩) hclt hcn h
    simp[loadVar,run_isAgg_plain Y32.h rfl,load,Sem.run,hcc]
  refine G5 ?_;refine .loop (ι:=Nat×σ) (fun p=>⟨[(0, .func (.yield l) #[] #[]),(1,ptr c 0),(5,s.v),(6,i64 (s.n:Int)),(7,i64 (p.1:Int))],(X p.2++[])⟩) (fun p=>p.1≤ks.length∧vis p.2=ks.take p.1) (fun p=>ks.length-p.1) ((0,s0)) ?_ ?_ ?_
  ·exact⟨Laj _,hv0⟩
  ·exact An wN (Ad (by repeat(exact sg_end)) Ak)
  rintro⟨k,s2⟩ ⟨hk,hvs⟩;simp only at hk hvs ⊢;refine G6 ?_;refine .condP J (fun hc0=>?_) (fun hc0=>?_)
  ·
    have hk3:k<ks.length:=by omega
    obtain⟨b0,o0,hp0,hs0⟩:=hsee.at (by rw[hfl];omega);obtain⟨kk,hkk⟩:∃kk,kk=ks.getD k []:=⟨_,rfl⟩;have h32kk:kk.length=32:=h32 _ (by rw[hkk];exact getD_mem2 hk3);have hvl:(vis s2).length<ks.length:=by rw[hvs,Lar];omega
    refine G6 ?_;refine .idxSlP 32 J J J hp0 J Y32.h Sz31 k J oM (.loadSN (n:=32) (Aa kk) J J J Y31.h J Sz31 (by rw[Aa,La0];exact h32kk) (fun w h=>by rw[hkk];exact sees_row h32 (fun j v hj=>h.keeps.cell (p:=⟨b0,o0+j,none⟩) (hbn b0 o0 hp0) (hs0 j v hj)) hk3) ?_);refine .alloc (cs:=(Aa (List.replicate 32 0))) J Zr31 J ?_;intro n4 hn4 hf4;refine .sA J J J J zE Sz31 (by(simp[h32kk];done)) Z0 sP zU ?_;refine G3 ?_;refine .regionY 2 J zK (G1 ?_);refine .lA J J J Y31.h J Sz31 Z0 (by(simp[h32kk];done)) ?_;refine .nil (yopR (S:=fun s'=>vis s'=vis s2++[kk]) (hpF:=X) J J J sG (fun w h=>hY s2 kk h32kk hvl w h) ?_);intro s9 hs9;refine G3 ?_;refine .cond_f J J (G8 ?_);exact⟨(k+1,s9),⟨by simp only;omega,by simp only;rw[hs9,hvs,hkk,take_one hk3 rfl]⟩,by simp only;omega,An wN (Ad sG Ak)⟩
  have hke:k=ks.length:=by omega
  refine G5 ?_;refine A3 (out:=(X s2++[])) (res_none J) (Ad sG Ak) ?_;rw[hke,Ldh]at hvs;exact⟨rfl,s2,by rw[hvs],Lak _⟩
theorem val_seq{ks:List (List UInt8)}{W:World}(h32:∀k∈ks,k.length=32)(hn:s.n=ks.length)(hbig:s.n≤1000000)(hs:SeesP W s.p (Ay ks))(hc:CapS W c s)(hcl:c<W.heap.size)(h0:0<ks.length):KeySeq prog 97 #[ptr c 0] ks W:=by
  intro σ X vis s0 names l w1 hk hn2 hv hH hY;have hcn:c∉names:=fun h=>by have:=hn2 c h;omega
  have hc1:CapS w1 c s:=by
    unfold CapS World.cell? at hc ⊢;rw[hk.block c hcl sP];exact hc
  have hlt:∀b o,s.p=some ⟨b,o,none⟩→b<W.heap.size:=fun b o e=>by
    obtain⟨b0,o0,e0,h1⟩:=hs.at (by rw[A1 h32];omega);rw[e]at e0;cases e0;have hl:0<(Ay ks).length:=by rw[A1 h32];omega
    exact cell_lt2 (h1 0 _ (La4 hl))
  have hs1:SeesP w1 s.p (Ay ks):=fun j v hj=>by
    obtain⟨b,o,e,h1⟩:=hs j v hj;refine⟨b,o,e,?_⟩;unfold World.cell? at h1 ⊢;rw[hk.block b (hlt b o e) sP];exact h1
  have hcl1:c<w1.heap.size:=Lb8 hcl hk.size;refine callsIn_wide.2 ((vals_iter X vis s0 names l c s ks w1 h32 hn hbig hv (fun b o e h=>by have:=hn2 b h;have:=hlt b o e;omega) hcn w1 ⟨rfl,hH,hs1,hc1,hcl1,fun s k h32 hvl W2 h=>hY s k h32 hvl W2 h⟩).mono fun e W' ⟨v,out,he,⟨_,s,hp,ho⟩,hr⟩=>⟨⟨v,he⟩,s,hp,?_⟩);subst ho;exact⟨hr.cells,hr.nodup,hr.own,hr.keeps,fun _ h=>(by cases h),fun _ _ _ h=>(by cases h)⟩
def trT(n:Nat):Nat→Nat
  |0=>0
  |i+1=>trT n i+(n-1-i)
theorem trT_le (n :Nat):∀i j,i≤j→trT n i≤trT n j
  | i, 0, h => by obtain rfl:i=0:=by omega
                  exact Laf _
  | i,j+1,h=>by
    rcases Lg1 h with h1|h1
    ·have:=trT_le n i j oM;rw[trT];omega
    ·rw[h1];exact Laf _
def forkN(l:List ((List UInt8×UInt64)×RV)):Nat:=(l.map fun p=>trT p.2.ks.length p.2.ks.length).sum
theorem forkN_perm{a b:List ((List UInt8×UInt64)×RV)}(h:a.Perm b):forkN a=forkN b:=(h.map _).sum_nat
theorem forkN_app(a b:List ((List UInt8×UInt64)×RV)):forkN (a++b)=forkN a+forkN b:=by unfold forkN;rw[Lae,List.sum_append]
theorem forkN_step{done todo all:List ((List UInt8×UInt64)×RV)}{j:Nat}{q:(List UInt8×UInt64)×RV}(h:(done++todo).Perm all)(hj:todo[j]? =some q):forkN (done++[q])=forkN done+trT q.2.ks.length q.2.ks.length∧forkN done+trT q.2.ks.length q.2.ks.length≤forkN all:=by
  have e1:forkN (done++[q])=forkN done+trT q.2.ks.length q.2.ks.length:=by unfold forkN;simp
  refine⟨e1,?_⟩;have h2:=forkN_perm (perm_step h hj);rw[←h2,←e1,forkN_app (done++[q])];exact Lf4 _ _
theorem DD.mpl{x:DD}{p:Nat}{b:Blk}(h:b∈rbl x.pls):b∈x.blks p:=by
  unfold DD.blks;exact Laa _ (Laa _ (Laa _ (Laa _ (Laa _ (Laa _ (Lb6 _ (Lb6 _ (Lax _ h))))))))
theorem row_open2{bl:List Blk}{L:List (List UInt8)}(h:Hw.Acc s bl (Ay L) 31 L.length 32)(h0:0<L.length):∃q c,s=⟨some ⟨q,0,none⟩,L.length,c⟩∧L.length≤c∧∀w,Lies bl w→Sees w q 0 (Ay L):=by
  rcases h with ⟨_,_,_,e⟩|⟨q,c,e,h1,h2,h3⟩
  ·omega
  · refine⟨q,c,e,h1,fun w hw=>?_⟩
    have:=(Acc.some (q:=q) (E:=31) h1 h2).see (w:=w) (by rw[←h3];exact hw);intro j v hj;obtain⟨b,o,e2,e3⟩:=this j v hj;cases e2;exact e3
theorem fork_run{A B:List UInt8}(ha:A.length=32)(hb:B.length=32)(w:World):(Instr.build 46 #[(0,agg (Aa A)),(1,agg (Aa B))]).run prog w= .ok (agg (Aa A++Aa B)) w:=
  run_build2 (a:=agg (Aa A)) (b:=agg (Aa B)) (ca:=Aa A) (cb:=Aa B) Zr46 underlying46 rfl rfl Sz31 Sz31 (by simp[Aa]) rfl rfl (by rw[Aa,La0];exact ha) (by rw[Aa,La0];exact hb) w
open Go.RowKit Go.Shelf Go.Lib Go.Sort
section
variable{κ ν:Type}[DecidableEq κ]
theorem mput_cons(p:κ×ν)(fs:List (κ×ν))(k:κ)(v:ν):Bf (p::fs) k v=if p.1=k then(k,v)::fs else p::Bf fs k v:=by
  unfold Bf midx;rw[Lg3];by_cases e:p.1=k
  ·simp[e]
  · simp only[e,decide_false,if_false]
    cases List.findIdx? (fun p=>decide (p.1=k)) fs<;>simp
theorem mget_put:∀(fs:List (κ×ν)) (k:κ) (v:ν) (n:κ),Au (Bf fs k v) n=if k=n then some v else Au fs n
  | [],k,v,n=>by
    rw[show Bf ([]:List (κ×ν)) k v=[(k,v)]from rfl,mget_cons]
  | (a,b)::fs,k,v,n=>by
    rw[mput_cons];by_cases e:a=k
    · subst e
      rw[if_pos rfl,mget_cons,mget_cons];split<;>rfl
    · rw[if_neg e,mget_cons,mget_cons,mget_put fs k v n]
      by_cases h1:a=n
      ·rw[if_pos h1,if_pos h1,if_neg (fun h2=>e (h1.trans h2.symm))]
      ·rw[if_neg h1,if_neg h1]
end
structure Grp{κ:Type}[DecidableEq κ](P:List (List UInt8×DB))(g:List (κ×List (List UInt8)))(f:DB→κ):Prop where
  nd:(g.map (·.1)).Nodup
  mem:∀q∈g,q.2.Nodup∧∀n∈q.2,∃D,Au P n=some D∧f D=q.1
  all:∀n D,Au P n=some D→∃l,Au g (f D)=some l∧n∈l
  ne:∀q∈g,0<q.2.length
variable{D:DB}{S:List DB}{X:PD}{a b n w:List UInt8}{l:List (List UInt8)}{p:List UInt8×List UInt8}{x:DD}
theorem Grp.put{κ:Type}[DecidableEq κ]{P:List (List UInt8×DB)}{g:List (κ×List (List UInt8))}{f:DB→κ}(h:Grp P g f)(hn:Au P n=none):Grp (Bf P n D) (Bf g (f D) ((Au g (f D)).getD []++[n])) f where
  nd:=mput_nodup h.nd _ _
  mem :=fun q hq=>by
    have hold:∀m E,Au P m=some E→Au (Bf P n D) m=some E:=fun m E hm=>by
      rw[mget_old hn _ (fun e=>by subst e;rw[hn]at hm;cases hm)];exact hm
    rcases mput_mem hq with h1|rfl
    · obtain⟨h2,h3⟩:=h.mem q h1
      exact⟨h2,fun m hm=>by obtain⟨E,hE,e⟩:=h3 m hm;exact⟨E,hold m E hE,e⟩⟩
    · simp only
      cases hg:Au g (f D)with
      | none=>
        refine⟨by simp,fun m hm=>?_⟩;have hm2:m=n:=by simpa using hm
        subst hm2;exact⟨D,by rw[mget_new hn],rfl⟩
      | some l=>
        obtain⟨h2,h3⟩:=h.mem _ (Bs hg);simp only at h2 h3;have hnl:n∉l:=fun hm=>by obtain⟨E,hE,_⟩:=h3 n hm;rw[hn]at hE;cases hE
        refine⟨Lav.2 ⟨h2,by simp,fun a ha b hb e=>hnl (by rw[La1.1 hb]at e;rw[←e];exact ha)⟩,fun m hm=>?_⟩;rcases Lac.1 hm with h4|h4
        ·obtain⟨E,hE,e⟩:=h3 m h4;exact⟨E,hold m E hE,e⟩
        ·rw[La1.1 h4];exact⟨D,by rw[mget_new hn],rfl⟩
  all :=fun m E hm=>by
    by_cases e:n=m
    · subst e
      rw[mget_new hn]at hm;cases hm;cases hg:Au g (f D)with
      |none=>exact⟨[n],by rw[mget_put,if_pos rfl];rfl,by simp⟩
      |some l=>exact⟨l++[n],by rw[mget_put,if_pos rfl];rfl,by simp⟩
    · rw[mget_old hn _ e]at hm
      obtain⟨l,h1,h2⟩:=h.all m E hm;by_cases hk:f D=f E
      · rw[hk,h1]
        exact⟨l++[n],by rw[mget_put,if_pos rfl];rfl,Lax _ h2⟩
      ·exact⟨l,by rw[mget_put,if_neg hk];exact h1,h2⟩
  ne:=fun q hq=>by
    rcases mput_mem hq with h1|rfl
    ·exact h.ne q h1
    ·simp only[La5,Lbq];omega
structure PD.Gr(X:PD):Prop where
  p:Grp X.P X.pls (fun D=>(D.w,D.seq))
  w:Grp X.P X.wrs (fun D=>D.w)
theorem PD.Gr.new:PD.new.Gr:=⟨⟨Lbv,fun q h=>(by cases h),fun n D h=>(by cases h),fun q h=>(by cases h)⟩,⟨Lbv,fun q h=>(by cases h),fun n D h=>(by cases h),fun q h=>(by cases h)⟩⟩
theorem PD.Gr.drop(h:X.Gr)(n:List UInt8):(X.drop1 n).Gr:=⟨h.p,h.w⟩
theorem PD.Gr.adm(h:X.Gr)(hn:n∉X.P.map (·.1)):(X.adm n D).Gr:=⟨h.p.put (key_none hn),h.w.put (key_none hn)⟩
theorem PD.Gr.settle:∀(f:Nat) {X:PD},X.Inv→X.Gr→(PD.settle f X).1.Gr
  |0,X,_,h=>h
  | f + 1,X,hI,h=>by
    cases hf:X.first with
    |none=>rw[settle_done hf];exact h
    | some n=>
      obtain⟨D,hD,hj⟩:=first_key hf;have hoc:=hI.oc _ (Bs hD);have hno:n∉(X.drop1 n).orp.map (·.1):=fun h9=>((mdel_keys hI.od n n).1 h9).2 rfl;by_cases hj1:B9 X.P D=1
      · rw[settle_fit hf hD hj1]
        exact PD.Gr.settle f ((hI.drop n).adm hoc.2 hno hoc.1 (judge_ready hj1)) ((h.drop n).adm hoc.2)
      ·rw[settle_wrong hf hD hj1];exact PD.Gr.settle f (hI.drop n) (h.drop n)
theorem PD.Gr.add(hI:X.Inv)(h:X.Gr)(D:DB):(X.add D).1.Gr:=by
  unfold PD.add;split
  · rename_i hg
    split
    ·exact h
    · rename_i hth
      have h1:Be D∉X.P.map (·.1):=fun hm=>hth (by obtain⟨v,hv⟩:=mget_of_key hm;rw[hv];simp);have h2:Be D∉X.orp.map (·.1):=fun hm=>hth (by obtain⟨v,hv⟩:=mget_of_key hm;rw[hv];simp);split
      ·exact h
      · split
        · split
          ·exact h
          ·exact⟨h.p,h.w⟩
        · rename_i hj2 hj0
          have hj:B9 X.P D=1:=by rcases judge_cases X.P D with h9|h9|h9;exact absurd h9 hj0;exact h9;exact absurd h9 hj2
          exact PD.Gr.settle _ (hI.adm h1 h2 (good_check hg) (judge_ready hj)) (h.adm h1)
  ·exact h
theorem PD.Gr.fill:∀(ds:List DB) {X:PD},X.Inv→X.Gr→(fillP X ds).Gr
  | [],X,_,h=>h
  | d::ds,X,hI,h=>by
    show(fillP (X.add d).1 ds).Gr;exact PD.Gr.fill ds (hI.add d) (PD.Gr.add hI h d)
def PD.Src(X:PD)(S:List DB):Prop:=(∀q∈X.P,q.2∈S)∧∀q∈X.orp,q.2∈S
theorem PD.Src.settle:∀(f:Nat) {X:PD},X.Src S→(PD.settle f X).1.Src S
  |0,X,h=>h
  | f + 1,X,h=>by
    cases hf:X.first with
    |none=>rw[settle_done hf];exact h
    | some n=>
      obtain⟨D,hD,hj⟩:=first_key hf;have hd:(X.drop1 n).Src S:=⟨h.1,fun q hq=>h.2 q (mdel_mem hq)⟩;by_cases hj1:B9 X.P D=1
      · rw[settle_fit hf hD hj1]
        refine PD.Src.settle f ⟨fun q hq=>?_,hd.2⟩;rcases mput_mem hq with h1|rfl
        ·exact h.1 q h1
        ·exact h.2 _ (Bs hD)
      ·rw[settle_wrong hf hD hj1];exact PD.Src.settle f hd
theorem PD.Src.add(h:X.Src S)(hD:D∈S):(X.add D).1.Src S:=by
  unfold PD.add;split
  · split
    ·exact h
    · split
      ·exact h
      · split
        · split
          ·exact h
          · refine⟨h.1,fun q hq=>?_⟩
            rcases mput_mem hq with h1|rfl
            ·exact h.2 q h1
            ·exact hD
        · refine PD.Src.settle _ ⟨fun q hq=>?_,h.2⟩
          rcases mput_mem hq with h1|rfl
          ·exact h.1 q h1
          ·exact hD
  ·exact h
theorem PD.Src.fill:∀(ds:List DB) {X:PD},X.Src S→(∀d∈ds,d∈S)→(fillP X ds).Src S
  | [],X,h,_=>h
  | d::ds,X,h,hd=>by
    show(fillP (X.add d).1 ds).Src S;exact PD.Src.fill ds (h.add (hd d La9)) fun e he=>hd e (Laa _ he)
def prs{α:Type}:List α→List (α×α)
  | []=>[]
  |a::l=>l.map (fun b=>(a,b))++prs l
theorem prs_mem(h:p∈prs l):p.1∈l∧p.2∈l:=by
  induction l with
  |nil=>cases h
  | cons a l ih=>
    rcases Lac.1 h with h|h
    · obtain⟨b,hb,rfl⟩:=La6.1 h
      exact⟨La9,Laa _ hb⟩
    ·exact⟨Laa _ (ih h).1,Laa _ (ih h).2⟩
theorem prs_rel{R:List UInt8→List UInt8→Prop}(h:l.Pairwise R)(hp:p∈prs l):R p.1 p.2:=by
  induction l with
  |nil=>cases hp
  | cons a l ih=>
    obtain⟨h1,h2⟩:=Lcr.1 h;rcases Lac.1 hp with h3|h3
    · obtain⟨b,hb,rfl⟩:=La6.1 h3
      exact h1 b hb
    ·exact ih h2 h3
theorem prs_all(ha:a∈l)(hb:b∈l)(hne:a≠b):(a,b)∈prs l∨(b,a)∈prs l:=by
  induction l with
  |nil=>cases ha
  | cons c l ih=>
    rw[prs,Lac,Lac];rcases Lag.1 ha with h1|h1
    · rcases Lag.1 hb with h2|h2
      ·exact absurd (h1.trans h2.symm) hne
      ·exact .inl (.inl (La6.2 ⟨b,h2,by rw[h1]⟩))
    · rcases Lag.1 hb with h2|h2
      ·exact .inr (.inl (La6.2 ⟨a,h1,by rw[h2]⟩))
      ·exact(ih h1 h2).imp .inr .inr
theorem prs_nd(h:l.Nodup):(prs l).Nodup:=by
  induction l with
  |nil=>exact Lbv
  | cons a l ih=>
    obtain⟨h1,h2⟩:=Lb0.1 h;rw[prs,Lav];refine⟨?_,ih h2,fun p hp q hq e=>?_⟩
    · have h3:(l.map fun b=>(a,b)).Pairwise (· ≠ ·):=Le5.2 (h2.imp fun hne e=>hne (Prod.mk.inj e).2)
      exact h3
    · obtain⟨b,hb,rfl⟩:=La6.1 hp
      subst e;exact h1 (prs_mem hq).1
def PD.sq(X:PD)(n:List UInt8):UInt64:=((Au X.P n).getD DB.zero).seq
def eqS(X:PD)(a b:List UInt8):Bool:=decide (X.sq a=X.sq b)
def LeS(X:PD)(a b:List UInt8):Prop:=X.sq a<X.sq b∨X.sq a=X.sq b∧B1 a b≤0
def leS(X:PD)(a b:List UInt8):Bool:=decide (X.sq a<X.sq b)||(decide (X.sq a=X.sq b)&&decide (B1 a b≤0))
theorem leS_iff:leS X a b=true↔LeS X a b:=by unfold leS LeS;simp
theorem u64_lt{a b:UInt64}:a<b↔a.toNat<b.toNat:=Iff.rfl
theorem u64_eqN{a b:UInt64}:a=b↔a.toNat=b.toNat:=Lbg.symm
theorem LeS.tot(a b:List UInt8):LeS X a b∨LeS X b a:=by
  unfold LeS;rw[u64_lt,u64_lt,u64_eqN,u64_eqN];have:=cmpB_neg a b;omega
theorem LeS.trans{a b c:List UInt8}(h1:LeS X a b)(h2:LeS X b c):LeS X a c:=by
  unfold LeS at*;rw[u64_lt,u64_eqN]at*;rcases h1 with h1|⟨h1,h3⟩
  · rcases h2 with h2|⟨h2,h4⟩
    ·exact .inl oM
    ·exact .inl oM
  · rcases h2 with h2|⟨h2,h4⟩
    ·exact .inl oM
    ·exact .inr ⟨by omega,(cmpB_trans a b c h3 h4).1⟩
theorem LeS.asymm(h1:LeS X a b)(h2:LeS X b a):a=b:=by
  unfold LeS at*;rw[u64_lt,u64_eqN]at*;have:=cmpB_neg a b;exact(cmpB_zero a b).1 oM
def isortS(X:PD)(l:List (List UInt8)):List (List UInt8):=l.mergeSort (leS X)
theorem isortS_perm(X:PD)(l:List (List UInt8)):(isortS X l).Perm l:=List.mergeSort_perm l _
theorem isortS_sort(X:PD)(l:List (List UInt8)):(isortS X l).Pairwise (LeS X):=by
  have h:=List.pairwise_mergeSort (le:=leS X) (fun a b c h1 h2=>leS_iff.2 ((leS_iff.1 h1).trans (leS_iff.1 h2))) (fun a b=>by
    rw[Lcm,leS_iff,leS_iff];exact LeS.tot a b) l
  exact h.imp fun h=>leS_iff.1 h
theorem sortS_unique{X:PD}:∀ {a b:List (List UInt8)},a.Perm b→a.Pairwise (LeS X)→b.Pairwise (LeS X)→a=b
  | [],b,hp,_,_=>(List.nil_perm.1 hp).symm
  |x::a,[],hp,_,_=>by have:=hp.length_eq;simp at this
  | x ::a,y::b,hp,ha,hb=>by
    obtain⟨h1,h2⟩:=Lcr.1 ha;obtain⟨h3,h4⟩:=Lcr.1 hb;have e:x=y:=by
      have hx:=hp.mem_iff.1 (La9 (a:=x) (l:=a));have hy:=hp.mem_iff.2 (La9 (a:=y) (l:=b));rcases Lag.1 hx with h|h
      ·exact h
      · rcases Lag.1 hy with h5|h5
        ·exact h5.symm
        ·exact LeS.asymm (h1 y h5) (h3 x h)
    subst e;rw[sortS_unique (List.Perm.cons_inv hp) h2 h4]
def PD.of(X:PD)(w:List UInt8):List (List UInt8):=isortS X ((Au X.wrs w).getD [])
theorem of_nd(hG:X.Gr)(w:List UInt8):(X.of w).Nodup:=by
  refine(isortS_perm X _).nodup_iff.2 ?_;cases h:Au X.wrs w with
  |none=>exact Lbv
  |some l=>exact(hG.w.mem _ (Bs h)).1
theorem of_mem(hG:X.Gr):n∈X.of w↔∃D,Au X.P n=some D∧D.w=w:=by
  unfold PD.of;rw[(isortS_perm X _).mem_iff];constructor
  · intro h
    cases hw:Au X.wrs w with
    |none=>rw[hw]at h;cases h
    | some l=>
      rw[hw]at h;exact(hG.w.mem _ (Bs hw)).2 n h
  · rintro⟨D,hD,rfl⟩
    obtain⟨l,hl,hn⟩:=hG.w.all n D hD;rw[hl];exact hn
def gw(X:PD)(w:List UInt8):List (List UInt8×List UInt8):=(prs (X.of w)).filter fun p=>eqS X p.1 p.2
def PD.Frk(X:PD)(p:List UInt8×List UInt8):Prop:=∃D E,Au X.P p.1=some D∧Au X.P p.2=some E∧D.w=E.w∧D.seq=E.seq∧B1 p.1 p.2<0
theorem sq_at(h:Au X.P n=some D):X.sq n=D.seq:=by unfold PD.sq;rw[h];rfl
theorem gw_mem(hG:X.Gr):p∈gw X w↔X.Frk p∧∃D,Au X.P p.1=some D∧D.w=w:=by
  unfold gw;rw[Ld2];constructor
  · rintro⟨h1,h2⟩
    obtain⟨h3,h4⟩:=prs_mem h1;obtain⟨D,hD,rfl⟩:=(of_mem hG).1 h3;obtain⟨E,hE,hw⟩:=(of_mem hG).1 h4;have h5:=prs_rel (isortS_sort X _) h1;have h6:p.1≠p.2:=prs_rel (of_nd hG _) h1;have h7:X.sq p.1=X.sq p.2:=of_decide_eq_true h2;refine⟨⟨D,E,hD,hE,hw.symm,?_,?_⟩,D,hD,rfl⟩
    ·rw[sq_at hD,sq_at hE]at h7;exact h7
    · rcases h5 with h5|⟨_,h5⟩
      ·rw[h7]at h5;exact absurd h5 (by rw[u64_lt];omega)
      · have h8:B1 p.1 p.2≠0:=fun h=>h6 ((cmpB_zero _ _).1 h)
        omega
  · rintro⟨⟨D,E,hD,hE,hw,hs,hc⟩,D2,hD2,rfl⟩
    rw[hD]at hD2;cases hD2;have hsq:X.sq p.1=X.sq p.2:=by rw[sq_at hD,sq_at hE,hs]
    have hne:p.1≠p.2:=fun e=>by rw[(cmpB_zero _ _).2 e]at hc;omega
    refine⟨?_,decide_eq_true hsq⟩;rcases prs_all ((of_mem hG).2 ⟨D,hD,rfl⟩) ((of_mem hG).2 ⟨E,hE,hw.symm⟩) hne with h|h
    ·exact h
    · have h5:=prs_rel (isortS_sort X _) h
      simp only at h5;rcases h5 with h5|⟨_,h5⟩
      ·rw[hsq]at h5;exact absurd h5 (by rw[u64_lt];omega)
      ·have:=cmpB_neg p.1 p.2;omega
def frkL(l:List ((List UInt8×UInt64)×List (List UInt8))):List (List UInt8×List UInt8):=(l.map fun q=>prs (isort q.2)).flatten
theorem flat_nd{α β:Type}{l:List α}{f:α→List β}(h:∀a∈l,(f a).Nodup)(hd:l.Pairwise fun a b=>∀x∈f a,x∉f b):(l.map f).flatten.Nodup:=by
  induction l with
  |nil=>exact Lbv
  | cons a l ih=>
    obtain⟨h1,h2⟩:=Lcr.1 hd;rw[Lao,Lch,Lav];refine⟨h a La9,ih (fun b hb=>h b (Laa _ hb)) h2,fun x hx y hy e=>?_⟩;subst e;obtain⟨c,hc,h3⟩:=Lcu.1 hy;obtain⟨b,hb,rfl⟩:=La6.1 hc;exact h1 b hb x hx h3
theorem frk_mem(hG:X.Gr):p∈frkL X.pls↔X.Frk p:=by
  unfold frkL;constructor
  · intro h
    obtain⟨c,hc,h1⟩:=Lcu.1 h;obtain⟨q,hq,rfl⟩:=La6.1 hc;obtain⟨h2,h3⟩:=prs_mem h1;obtain⟨h4,h5⟩:=hG.p.mem q hq;obtain⟨D,hD,e1⟩:=h5 _ ((Cm _).mem_iff.1 h2);obtain⟨E,hE,e2⟩:=h5 _ ((Cm _).mem_iff.1 h3);have e3:=e1.trans e2.symm;have h6:B1 p.1 p.2≤0:=prs_rel (isort_sort _) h1;have h7:p.1≠p.2:=prs_rel ((Cm _).nodup_iff.2 h4:(isort q.2).Nodup) h1;have h8:B1 p.1 p.2≠0:=fun h=>h7 ((cmpB_zero _ _).1 h);exact⟨D,E,hD,hE,(Prod.mk.inj e3).1,(Prod.mk.inj e3).2,by omega⟩
  · rintro⟨D,E,hD,hE,hw,hs,hc⟩
    obtain⟨l,hl,hn⟩:=hG.p.all _ D hD;obtain⟨m,hm,hn2⟩:=hG.p.all _ E hE;rw[←hw,←hs,hl]at hm;cases hm;have hne:p.1≠p.2:=fun e=>by rw[(cmpB_zero _ _).2 e]at hc;omega
    refine Lcu.2 ⟨_,La6.2 ⟨_,Bs hl,rfl⟩,?_⟩;rcases prs_all ((Cm l).mem_iff.2 hn) ((Cm l).mem_iff.2 hn2) hne with h|h
    ·exact h
    · have h5:B1 p.2 p.1≤0:=prs_rel (isort_sort _) h
      have:=cmpB_neg p.1 p.2;omega
theorem frk_nd(hG:X.Gr):(frkL X.pls).Nodup:=by
  refine flat_nd (fun q hq=>prs_nd ((Cm _).nodup_iff.2 (hG.p.mem q hq).1)) ?_;have h1:X.pls.Pairwise fun a b=>a.1≠b.1:=Le5.1 hG.p.nd;have h2:X.pls.Pairwise fun a b=>a∈X.pls∧b∈X.pls∧a.1≠b.1:=Lc8.2 fun i j hi hj hij=>⟨Lc9 hi,Lc9 hj,Lc8.1 h1 i j hi hj hij⟩;refine h2.imp fun {a b} ⟨ha,hb,hne⟩ x hx hy=>?_;obtain⟨D,hD,e1⟩:=(hG.p.mem a ha).2 _ ((Cm _).mem_iff.1 (prs_mem hx).1);obtain⟨E,hE,e2⟩:=(hG.p.mem b hb).2 _ ((Cm _).mem_iff.1 (prs_mem hy).1);rw[hD]at hE;cases hE;exact hne (e1.symm.trans e2)
theorem gws_len(hG:X.Gr){ws:List (List UInt8)}(hnd:ws.Nodup)(hall:∀n D,Au X.P n=some D→D.w∈ws):((ws.map (gw X)).flatten).length=(frkL X.pls).length:=by
  refine List.Perm.length_eq ((List.perm_ext_iff_of_nodup (flat_nd (fun w _=>(prs_nd (of_nd hG w)).filter _) ?_) (frk_nd hG)).2 fun p=>?_)
  ·exact List.Pairwise.imp (fun {a b} hne x hx hy=>by
      obtain⟨_,D,hD,e1⟩:=(gw_mem hG).1 hx;obtain⟨_,E,hE,e2⟩:=(gw_mem hG).1 hy;rw[hD]at hE;cases hE;exact hne (e1.symm.trans e2)) hnd
  · rw[frk_mem hG]
    constructor
    · intro h
      obtain⟨c,hc,h1⟩:=Lcu.1 h;obtain⟨w,_,rfl⟩:=La6.1 hc;exact((gw_mem hG).1 h1).1
    · intro h
      obtain⟨D,E,hD,h2⟩:=id h;exact Lcu.2 ⟨_,La6.2 ⟨D.w,hall _ D hD,rfl⟩,(gw_mem hG).2 ⟨h,D,hD,rfl⟩⟩
theorem of_sorted{k m:Nat}(hkm:k<m)(hm:m<(X.of w).length)(hnd:(X.of w).Nodup):X.sq (X.of w)[k]<X.sq (X.of w)[m]∨X.sq (X.of w)[k]=X.sq (X.of w)[m]∧B1 (X.of w)[k] (X.of w)[m]<0:=by
  have h1:LeS X (X.of w)[k] (X.of w)[m]:=Lc8.1 (isortS_sort X _) k m (by unfold PD.of at hm;omega) (by unfold PD.of at hm;exact hm) hkm;have h2:(X.of w)[k]≠(X.of w)[m]:=Lc8.1 hnd k m oM hm hkm;rcases h1 with h|⟨h,h3⟩
  ·exact .inl h
  · have h4:B1 (X.of w)[k] (X.of w)[m]≠0:=fun h=>h2 ((cmpB_zero _ _).1 h)
    exact .inr ⟨h,by omega⟩
theorem of_cmp(x:DD)(hx:x.ok)(p c:Nat)(a b:List UInt8)(ha:a.length=32)(hb:b.length=32)(ea eb:EV)(hga:Au x.ent a=some ea)(hgb:Au x.ent b=some eb):Mv 48 [agg (Aa a),agg (Aa b),ptr c 0] (fun W=>DagSee x p W∧W.cell? ⟨c,0,none⟩=some (ptr p 0)) (i64 (or2 (cmp1 ea.1.fBlock.fSeq eb.1.fBlock.fSeq) (B1 a b))):=by
 intro W hW;refine Ac func48 J 28 ntmps48 J (G3 ?_);intro n3 hn3 hf3;refine G1 ?_;intro n4 hn4 hf4;refine G4 ?_;refine .draw (oPq [100,1,2,103,104,105,6,7,108,9,10,111,112,113,14,15,117,118,316,319,220,321,22]) Ap zK (.loadE J J J Y25.h J sP (hW.2) (G2 ?_));refine .loadE J J J Y80.h J sP (hW.1.at (o:=2) J) (.lA J J J Y31.h J Sz31 Z1 (by(simp[ha];done)) ?_);refine .lookSC ME hW.1.2 sP hga J J J J ha (.fieldN (_) J J J Y91.h J Y37.h J Sz37 (DEnt.row_fBlock (by exact hx.entOk hga)) ?_);refine .field1 J J J Y37.h J Y30.h J (Block.get_fSeq (hx.entOk hga).o_fBlock) (.loadE J J J Y25.h J sP (hW.2) (G2 ?_));refine .loadE J J J Y80.h J sP (hW.1.at (o:=2) J) (.lA J J J Y31.h J Sz31 Z0 (by(simp[hb];done)) ?_);refine .lookSC ME hW.1.2 sP hgb J J J J hb (.fieldN (_) J J J Y91.h J Y37.h J Sz37 (DEnt.row_fBlock (by exact hx.entOk hgb)) ?_);refine .field1 J J J Y37.h J Y30.h J (Block.get_fSeq (hx.entOk hgb).o_fBlock) (.lA J J J Y31.h J Sz31 Z1 (by(simp[ha];done)) ?_);refine .lA J J J Y31.h J Sz31 Z0 (by(simp[hb];done)) ?_;refine .cV J J J J Body50 (cmp_u64 ea.1.fBlock.fSeq eb.1.fBlock.fSeq) tV (.cV J J J J Body51 (block_cmp a b ha hb) tV (.mkRow2 (z:=i64 0) [i64 (cmp1 ea.1.fBlock.fSeq eb.1.fBlock.fSeq),i64 (B1 a b)] [i64 (cmp1 ea.1.fBlock.fSeq eb.1.fBlock.fSeq),i64 (B1 a b)] rfl J Y51.h Sz3 Zr3 J J (by intro v hv;simp only[Lag,Lc6,or_false]at hv;rcases hv with rfl|rfl<;>simp[Value.cells]) dE (by simp[Value.cells]) ?_));intro q26;refine .cV J J J J Body49 (cmp_or2 q26 (cmp1 ea.1.fBlock.fSeq eb.1.fBlock.fSeq) (B1 a b)) (fun w h=>Aq h Z0) ?_;refine G3 ?_;refine G2 ?_;refine⟨_,[],Al J J,sP,sP,?_,rfl⟩;rfl
theorem DD.mwl{p:Nat}{b:Blk}(h:b∈rbl x.wrs):b∈x.blks p:=by
  unfold DD.blks;exact Laa _ (Laa _ (Laa _ (Laa _ (Laa _ (Laa _ (Lb6 _ (Lb6 _ (Lb6 _ (Lax _ h)))))))))
theorem lent_preS{C:Cx}{hp bl keep L M:List Blk}{w:World}(h:HRep C hp w)(hp1:hp.Perm (bl++keep))(hL:∀b∈L,b∈keep)(hM:Lies M C.W0)(hl:C.lent=[]:=by rfl):Lies bl w∧Lies (L++M) w∧∀b∈L++M,∀b2∈bl,b.n≠b2.n:=by
  have h1:=h.perm hp1;refine⟨fun b hb=>h1.cells b (Lax _ hb),Lies.app (fun b hb=>h1.cells b (Lb6 _ (hL b hb))) (lies_keep hM h hl),fun b hb b2 hb2 e=>?_⟩;rcases Lac.1 hb with hb|hb
  · have h2:=h1.nodup
    rw[Lae,Lav]at h2;exact h2.2.2 _ (La6.2 ⟨b2,hb2,rfl⟩) _ (La6.2 ⟨b,hL b hb,rfl⟩) e.symm
  ·exact own_apart h1 (Lax _ hb2) hM hl b hb e
def cmpS(X:PD)(a b:List UInt8):Int:=or2 (cmp1 (X.sq a) (X.sq b)) (B1 a b)
theorem cmpS_neg(X:PD)(a b:List UInt8):cmpS X a b<0↔X.sq a<X.sq b∨X.sq a=X.sq b∧B1 a b<0:=by
  rw[u64_lt,u64_eqN];unfold cmpS or2 cmp1;split<;>(repeat split)<;>omega
theorem cmpS_le(X:PD)(a b:List UInt8):¬cmpS X b a<0↔LeS X a b:=by
  have:=cmpB_neg a b;rw[cmpS_neg];unfold LeS;rw[u64_lt,u64_lt,u64_eqN,u64_eqN];omega
theorem swoS(X:PD)(ks:List (List UInt8)):SWO (ltOf fun x y: {l:List UInt8//l∈ks}=>cmpS X x.1 y.1):=by
  have e:∀x y: {l:List UInt8//l∈ks},ltOf (fun x y: {l:List UInt8//l∈ks}=>cmpS X x.1 y.1) x y=decide (cmpS X x.1 y.1<0):=fun _ _=>rfl;constructor
  · intro x
    rw[e,decide_eq_false_iff_not,cmpS_neg,cmpB_self,u64_lt];omega
  · intro x y z h1 h2
    rw[e,decide_eq_true_eq,cmpS_neg,u64_lt,u64_eqN]at*;have:=cmpB_trans x.1 y.1 z.1;omega
  · intro x y z h1 h2
    rw[e,decide_eq_false_iff_not,cmpS_le]at*;exact h2.trans h1
theorem sq_ent(hx:x.ok){e:EV}(h:Au x.ent n=some e):x.pl.sq n=e.1.fBlock.fSeq:=by
  rw[sq_at (DD.atP h).1];exact((hx.ent _ (Bs h)).2.1.1.seq).symm
theorem see_two{p:Nat}{W:World}(h:Lies (x.blks p) W):Lies [⟨p,[ptr p 0,x.nm.v, .map (some x.bE), .map (some x.bH), .map (some x.bO), .map (some x.bP), .map (some x.bW)],86,7⟩,Az x.bE (Ar 32 evE) x.ent] W:=fun b hb=>by
  rcases Lag.1 hb with rfl|hb
  ·exact h _ (x.m0 p)
  ·rw[La1.1 hb];exact h _ (x.mE p)
theorem pl_entF{k:List UInt8}(h:Au x.pl.P k=some D):∃e,Au x.ent k=some e:=by
  cases he:Au x.ent k with
  |none=>rw[DD.noP he]at h;cases h
  |some e=>exact⟨e,rfl⟩
theorem dag_ofG(x:DD)(hx:x.ok)(hG:x.pl.Gr)(p:Nat)(kw:List UInt8)(hkw:kw.length=32):Meets prog 8 [ptr p 0,agg (Aa kw)] [] (fun W=>Lies (x.blks p) W) (RowA (x.pl.of kw)):=by
 intro W hW;have hlies:=hW;have hd:=DagSee.lies hW;have hbig:=hx.big;have eg:∀args w,(callFunc 48 args).run prog w= .ok (.enter 48 args) w:=enters_of func48 zK rfl;obtain⟨hro,hrl⟩:=hx.wrsR kw;have hgk:=get_ks x.wrs kw;have hrb:∀b∈((Au x.wrs kw).getD RV.none).bl,b∈x.blks p:=fun b hb=>by
  cases hgw:Au x.wrs kw with
  |none=>rw[hgw]at hb;cases hb
  |some r=>rw[hgw]at hb;exact DD.mwl (Lcu.2 ⟨r.bl,La6.2 ⟨(kw,r),Bs hgw,rfl⟩,hb⟩)
 have hev:((Au x.wrs kw).map (Ar 32 evR).ev).getD (.slice none 0 0)=((Au x.wrs kw).getD RV.none).s.v:=by cases Au x.wrs kw<;>rfl
 obtain⟨r,hr⟩:∃r,r=(Au x.wrs kw).getD RV.none:=⟨_,rfl⟩;rw[←hr]at hro hrl hgk hrb hev;have hof:x.pl.of kw=isortS x.pl r.ks:=by unfold PD.of;rw[hgk];rfl
 have hrin:∀n∈r.ks,∃e,Au x.ent n=some e:=fun n hn=>by
  have h9:=(isortS_perm x.pl r.ks).mem_iff.2 hn;rw[←hof]at h9;obtain⟨D,hD,_⟩:=(of_mem hG).1 h9;exact pl_entF hD
 refine Ac func8 J 20 ntmps8 J (.sr (.box1 J J J ?_));intro n2 hn2 hf2;refine .boxA J J ?_;intro n3 hn3 hf3;refine .a J J J (.na (.seq (.sr (.load1 J J J Y25.h J mM (by first|rfl|exact Bl (by first|omega|(simp[hkw];omega))|exact Bl (by first|omega|(simp[hkw];omega))|exact Ch (by first|omega|(simp[hkw];done)|(simp[hkw];omega))|exact Br (by first|omega|(simp[hkw];done)|(simp[hkw];omega))|exact get_ints (by first|omega|(simp[hkw];done)|(simp[hkw];omega))) ?_))));refine .cV J J J J Body45 (dag_valid x p) (fun w h=>hd.ext h) (.not J J J (.na (.cond_f J J (.skip (Bv (.seq (.draw (oPq [100,1,2,103,104,105,406,7]) Ap zK (.load1 J J J Y25.h J mM (by first|rfl|exact Bl (by first|omega|(simp[hkw];omega))|exact Bl (by first|omega|(simp[hkw];omega))|exact Ch (by first|omega|(simp[hkw];done)|(simp[hkw];omega))|exact Br (by first|omega|(simp[hkw];done)|(simp[hkw];omega))|exact get_ints (by first|omega|(simp[hkw];done)|(simp[hkw];omega))) ?_))))))));refine .nC J J J (.fld J J J Y86.h J Sz84 dE _ J (.loadE J J J underlying84 J (by first|(simp;done)|(simp;exact hW.2.2)|(simp[Cx.with];done)|(simp[Cx.with];omega)) (hd.at (o:=6) J) ?_));first
  |refine Tr.lA rfl rfl rfl Y29.h rfl Sz29 mM (by first|(simp[hkw];done)|assumption|(rw[Aa,La0];assumption)) ?_
  |refine Tr.lN _ rfl rfl rfl Y29.h rfl Sz29 mM (by exact rfl) (by first|(simp[hkw];done)|assumption|(rw[Aa,La0];assumption)) ?_
 refine .look1C MW (hlies _ (x.mW p)) sP J J J J hkw ?_;rw[hev];refine .call4 J J J J J Body46 (cl_digs r.s r.ks (by have:=hro.acc.num;omega)) (fun w h=>acc_rows hro.acc ((lies_keep hlies h).sub hrb) hro.r32 J oM) ?_;rintro v15 out15 ⟨s15,rfl,hac15⟩;rw[hro.acc.num]at hac15;refine .a J J J (.nsr (.m J J J (.makeFunc J J J J ?_)));refine .callL (L:=out15) J J J J J Body47 (sort_acc_by s15 out15 r.ks hro.r32 oM hac15 48 [ptr n2 0] (cmpS x.pl) (swoS x.pl r.ks) ([⟨n2,[ptr p 0],25,1⟩]++[⟨p,[ptr p 0,x.nm.v, .map (some x.bE), .map (some x.bH), .map (some x.bO), .map (some x.bP), .map (some x.bW)],86,7⟩,Az x.bE (Ar 32 evE) x.ent]) eg (fun a ha b hb=>by
    obtain⟨ea,hea⟩:=hrin a ha;obtain⟨eb,heb⟩:=hrin b hb;have h9:=of_cmp x hx p n2 a b (hro.r32 a ha) (hro.r32 b hb) ea eb hea heb;rw[←sq_ent hx hea,←sq_ent hx heb]at h9;exact h9.imp (fun w hl=>⟨⟨hl _ (Laa _ La9),hl _ (Laa _ (Laa _ La9))⟩,(hl _ La9).cell (o:=0) rfl⟩) fun v out h=>h)) sG (lent_ok rfl) (fun w h=>lent_preS (L:=[⟨n2,[ptr p 0],25,1⟩]) (M:=[⟨p,[ptr p 0,x.nm.v, .map (some x.bE), .map (some x.bH), .map (some x.bO), .map (some x.bP), .map (some x.bW)],86,7⟩,Az x.bE (Ar 32 evE) x.ent]) h sG (by intro b hb;rw[La1.1 hb];exact mM) (see_two hlies)) ?_
 rintro v18 out18 ⟨rfl,ks2,hp2,hs2,hac18⟩;refine .nsr (.m J J J (.a J J J (.na ?_)));refine .ret (en_r (A3 (out:=(out18++[])) (Al J J) (Ad sG Ak) ?_));refine⟨s15,rfl,?_⟩;have e9:ks2=x.pl.of kw:=by rw[hof];exact sortS_unique (hp2.trans (isortS_perm x.pl r.ks).symm) (hs2.imp fun h=>(cmpS_le x.pl _ _).1 h) (isortS_sort x.pl r.ks)
 rw[←e9,hp2.length_eq];simpa using hac18
set_option maxHeartbeats 2000000
def catP(p:List UInt8×List UInt8):List UInt8:=p.1++p.2
def splP(l:List UInt8):List UInt8×List UInt8:=(l.take 32,l.drop 32)
def prsI(l:List (List UInt8)):Nat→List (List UInt8×List UInt8)
  |0=>[]
  |i+1=>prsI l i++(l.drop (i+1)).map fun b=>(l.getD i [],b)
variable{L:List (List UInt8×List UInt8)}{a:List UInt8}{b o:Nat}{w:World}
theorem prsI_cons(a:List UInt8)(l:List (List UInt8)):∀i,prsI (a::l) (i+1)=l.map (fun b=>(a,b))++prsI l i
  |0=>by simp[prsI]
  | i+1=>by
    rw[prsI,prsI_cons a l i,prsI,La8];rfl
theorem prsI_all:∀(l:List (List UInt8)),prsI l l.length=prs l
  | []=>rfl
  |a::l=>by rw[Lbh,prsI_cons,prsI_all l];rfl
theorem cat_len(h:∀p∈L,p.1.length=32∧p.2.length=32):∀l∈L.map catP,l.length=64:=fun l hl=>by
  obtain⟨p,hp,rfl⟩:=La6.1 hl;have:=h p hp;unfold catP;rw[La5];omega
theorem spl_cat(h:∀p∈L,p.1.length=32∧p.2.length=32):(L.map catP).map splP=L:=by
  rw[Lgi];refine(List.map_congr_left fun p hp=>?_).trans (List.map_id L);have:=(h p hp).1;show((p.1++p.2).take 32,(p.1++p.2).drop 32)=p;rw[List.take_left' this,List.drop_left' this]
theorem cat_spl(l:List UInt8):catP (splP l)=l:=Lcx 32 l
theorem spl_perm(h:∀p∈L,p.1.length=32∧p.2.length=32){ks:List (List UInt8)}(hp:ks.Perm (L.map catP)):(ks.map splP).Perm L∧(ks.map splP).map catP=ks:=by
  refine⟨(hp.map splP).trans (by rw[spl_cat h]),?_⟩;rw[Lgi];exact(List.map_congr_left fun l _=>cat_spl l).trans (List.map_id ks)
def cmpF(a b:List UInt8):Int:=or2 (B1 (a.take 32) (b.take 32)) (B1 (a.drop 32) (b.drop 32))
theorem cmpF_neg(a b:List UInt8):cmpF a b<0↔B1 (a.take 32) (b.take 32)<0∨B1 (a.take 32) (b.take 32)=0∧B1 (a.drop 32) (b.drop 32)<0:=by
  unfold cmpF or2;split<;>omega
theorem swoF(ks:List (List UInt8)):SWO (ltOf fun x y: {l:List UInt8//l∈ks}=>cmpF x.1 y.1):=by
  have e:∀x y: {l:List UInt8//l∈ks},ltOf (fun x y: {l:List UInt8//l∈ks}=>cmpF x.1 y.1) x y=decide (cmpF x.1 y.1<0):=fun _ _=>rfl;constructor
  · intro x
    rw[e,decide_eq_false_iff_not,cmpF_neg,cmpB_self,cmpB_self];omega
  · intro x y z h1 h2
    rw[e,decide_eq_true_eq,cmpF_neg]at*;have t1:=cmpB_trans (x.1.take 32) (y.1.take 32) (z.1.take 32);have t2:=cmpB_trans (x.1.drop 32) (y.1.drop 32) (z.1.drop 32);have z1:=cmpB_zero (x.1.take 32) (y.1.take 32);have z2:=cmpB_zero (y.1.take 32) (z.1.take 32);have n1:=cmpB_neg (x.1.take 32) (z.1.take 32);rcases h1 with h1|⟨h1,h3⟩
    · left
      refine(t1 oM oM).2 (.inl h1)
    · rw[z1.1 h1]
      rcases h2 with h2|⟨h2,h4⟩
      ·exact .inl h2
      ·exact .inr ⟨h2,(t2 oM oM).2 (.inl h3)⟩
  · intro x y z h1 h2
    rw[e,decide_eq_false_iff_not,cmpF_neg]at*;have t1:=cmpB_trans (z.1.take 32) (y.1.take 32) (x.1.take 32);have t2:=cmpB_trans (z.1.drop 32) (y.1.drop 32) (x.1.drop 32);have a1:=cmpB_neg (x.1.take 32) (y.1.take 32);have a2:=cmpB_neg (y.1.take 32) (z.1.take 32);have a3:=cmpB_neg (x.1.take 32) (z.1.take 32);have b1:=cmpB_neg (x.1.drop 32) (y.1.drop 32);have b2:=cmpB_neg (y.1.drop 32) (z.1.drop 32);have b3:=cmpB_neg (x.1.drop 32) (z.1.drop 32);have z1:=cmpB_zero (x.1.take 32) (y.1.take 32);have z2:=cmpB_zero (y.1.take 32) (z.1.take 32);have z3:=cmpB_zero (x.1.take 32) (z.1.take 32);rintro(h3|⟨h3,h4⟩)
    · have:=(t1 oM oM).1
      omega
    · have u1:=(t1 oM oM)
      have h5:B1 (x.1.take 32) (y.1.take 32)=0:=by
        rcases Int.lt_trichotomy (B1 (x.1.take 32) (y.1.take 32)) 0 with q|q|q
        ·omega
        ·exact q
        ·have:=u1.2 (.inr oM);omega
      have h6:B1 (y.1.take 32) (z.1.take 32)=0:=by
        rw[←z1.1 h5];exact h3
      have:=(t2 oM oM).1;omega
def frkR(l:List ((List UInt8×UInt64)×RV)):List (List UInt8×List UInt8):=frkL (l.map fun q=>(q.1,q.2.ks))
theorem frkR_app(l:List ((List UInt8×UInt64)×RV))(q:(List UInt8×UInt64)×RV):frkR (l++[q])=frkR l++prs (isort q.2.ks):=by
  unfold frkR frkL;simp
theorem frkR_perm{a b:List ((List UInt8×UInt64)×RV)}(h:a.Perm b):(frkR a).Perm (frkR b):=by
  unfold frkR frkL;exact((h.map _).map _).flatten
theorem frkR_len{l:List ((List UInt8×UInt64)×RV)}(h:∀q∈l,∀n∈q.2.ks,n.length=32):∀p∈frkR l,p.1.length=32∧p.2.length=32:=fun p hp=>by
  unfold frkR frkL at hp;obtain⟨c,hc,h1⟩:=Lcu.1 hp;obtain⟨q',hq',rfl⟩:=La6.1 hc;obtain⟨q,hq,rfl⟩:=La6.1 hq';obtain⟨h2,h3⟩:=prs_mem h1;exact⟨h q hq _ ((Cm _).mem_iff.1 h2),h q hq _ ((Cm _).mem_iff.1 h3)⟩
theorem flat_cat1(L:List (List UInt8×List UInt8))(a b:List UInt8):Ay ((L++[(a,b)]).map catP)=Ay (L.map catP)++(Aa a++Aa b):=by
  rw[Lae];unfold Ay;rw[Lae,Lcf];simp[catP,Aa]
theorem sum_const2(c:Nat):∀l:List (List UInt8),(l.map fun _=>c).sum=l.length*c
  | []=>by simp
  |a::l=>by rw[Lao,Lgd,sum_const2 c l,Lbh,Nat.succ_mul];omega
theorem frk_bound{X:PD}(hG:X.Gr):(frkL X.pls).length≤(X.P.map (·.1)).length*(X.P.map (·.1)).length:=by
  have h1:(frkL X.pls) ⊆ (X.P.map (·.1)).flatMap fun a=>(X.P.map (·.1)).map fun b=>(a,b):=fun p hp=>by
    obtain⟨D,E,hD,hE,_⟩:=(frk_mem hG).1 hp;exact List.mem_flatMap.2 ⟨p.1,La6.2 ⟨_,Bs hD,rfl⟩,La6.2 ⟨p.2,La6.2 ⟨_,Bs hE,rfl⟩,rfl⟩⟩
  have h2:=(frk_nd hG).length_le_of_subset h1;refine Lbb h2 ?_;rw[List.length_flatMap,show(fun a:List UInt8=>((X.P.map (·.1)).map fun b=>(a,b)).length)=fun _=>(X.P.map (·.1)).length from funext fun a=>by simp,sum_const2];exact Laf _
theorem flatK_any6{α:Type}[Inhabited α](g:α→List UInt8)(hg:∀x,(g x).length=64)(d:Array α):∀(j:Nat) (v:Value),(Ay (d.toList.map g))[j]? =some v→j<d.size*64∧(flatK (fun x=>Aa (g x)) 64 d)[j]! =v:=fun j v hj=>by
  have h32:∀l∈d.toList.map g,l.length=64:=fun l hl=>by obtain⟨x,_,rfl⟩:=La6.1 hl;exact hg x
  have hlen:=A1 h32;have hlt:=(Lab.1 hj).1;rw[hlen]at hlt;have hlt2:j<d.size*64:=by simpa using hlt
  refine⟨hlt2,?_⟩;rw[get_flatK _ _ _ _ hlt2];have hi:j/64<d.size:=by omega
  have hc:((d.toList.map g).map Aa)[j/64]? =some (Aa (g d[j/64]!)):=by
    rw[Lai,Lai];have:d.toList[j/64]? =some d[j/64]! :=by simp[hi]
    rw[this];rfl
  have hm:j%64<(Aa (g d[j/64]!)).length:=by rw[Aa,La0,hg];omega
  have:=flat_get (m:=64) (fun l hl=>flatB_all h32 l hl) hc hm;have e:j/64*64+j%64=j:=by omega
  rw[e]at this;have hj2:((d.toList.map g).map Aa).flatten[j]? =some v:=hj;rw[hj2]at this;rw[Lea,←this];rfl
theorem sort_by6(q n c m:Nat)(ks:List (List UInt8))(h32:∀l∈ks,l.length=64)(hl:ks.length=n)(h0:0<n)(hbig:n≤1000000)(hm:n*64≤m)(f:Nat)(caps:List Value)(cf:List UInt8→List UInt8→Int)(swo:SWO (ltOf fun x y: {l:List UInt8//l∈ks}=>cf x.1 y.1))(bl:List Blk)
    (eg:∀args w,(callFunc f args).run prog w= .ok (.enter f args) w) (hcm:∀x∈ks,∀y∈ks,Meets prog f ([agg (Aa x),agg (Aa y)]++caps) [] (Lies bl) (fun v out=>v=i64 (cf x y)∧out=[])):
    Meets prog 55 [.slice (some ⟨q,0,none⟩) n c, .func (.func f) #[] caps.toArray] [q] (fun W=>BlkOk W ⟨q,Ay ks,46,m⟩∧Lies bl W∧∀b∈bl,b.n≠q)
    (fun v out=>v= .tuple #[]∧∃ks':List (List UInt8),ks'.Perm ks∧ks'.Pairwise (fun a b=>¬cf b a<0)∧out=[⟨q,Ay ks',46,m⟩]):=fun W ⟨hb,hbl,hbq⟩=>by
  haveI:Inhabited {l:List UInt8//l∈ks}:=⟨⟨ks[0]'oM,Lc9 _⟩⟩
  obtain⟨d,hd⟩:∃d:Array {l:List UInt8//l∈ks},d=ks.attach.toArray:=⟨_,rfl⟩;have hdl:d.toList.map (·.1)=ks:=by rw[hd];simp
  have hds:d.size=n:=by rw[hd,←hl];simp
  have hg:∀x: {l:List UInt8//l∈ks},x.1.length=64:=fun x=>h32 x.1 x.2;have hb0:∃full fr,BlkAt W ⟨q,Ay ks,46,m⟩ full fr:=hb;obtain⟨full,fr,hbk⟩:=hb0;have hfl:=A1 h32;have hH:HoldsK (fun x: {l:List UInt8//l∈ks}=>Aa x.1) 64 W q 0 d:=fun j hj=>by
    rw[size_flatK]at hj;have hj2:j<(Ay ks).length:=by rw[hfl,hl,←hds];exact hj
    have h1:=La4 hj2;have h2:=(flatK_any6 (fun x: {l:List UInt8//l∈ks}=>x.1) hg d j _ (by rw[hdl];exact h1)).2;rw[h2];exact⟨hb.cell (b:=⟨q,Ay ks,46,m⟩) (by rw[Lb2];exact h1),hbk.unfrozen (by show 0+j<m;omega)⟩
  have hcmp:CmpLays prog f caps.toArray (fun x: {l:List UInt8//l∈ks}=>Aa x.1) 64 (fun x y=>cf x.1 y.1) q 0 d.size W:=fun k os dk hk x y=>by
    have hl2:Lies bl (sortWorldK (fun x: {l:List UInt8//l∈ks}=>Aa x.1) 64 W q 0 k dk os):=fun b hb2=>(hbl b hb2).of_heap (sort_keep (hbl b hb2).lt (hbq b hb2));have h3:=hcm x.1 x.2 y.1 y.2 _ hl2;have e:([agg (Aa x.1),agg (Aa y.1)]++caps).toArray= #[.agg (Aa x.1).toArray, .agg (Aa y.1).toArray]++caps.toArray:=by simp[agg]
    rw[e]at h3;exact h3.mono fun e' W' ⟨v,out,he,⟨hv,_⟩,hr⟩=>⟨by rw[he,hv],ret_grow hr⟩
  have hz25:∀w,(Go.sizeOf (sortF_ren.t 24)).run prog w= .ok 64 w:=by
    intro w;have e:sortF_ren.t 24=46:=by rfl
    rw[e];exact Cf Sz46 w
  have hcon:=AnyQ.slices_SortFunc sortF 64 (fun w=>run_isAgg_arr underlying46 rfl w) (fun w=>hz25 w) (fun x: {l:List UInt8//l∈ks}=>Aa x.1) (fun x=>by rw[Aa,La0,hg x]) (fun x v hv=>by obtain⟨u,_,rfl⟩:=La6.1 hv;rfl) (fun x y=>cf x.1 y.1) swo f caps.toArray q 0 c d W eg hcmp hH hb.lt oM;have hcon2:Calls prog 55 #[.slice (some ⟨q,0,none⟩) d.size c, .func (.func f) #[] caps.toArray] W _:=hcon;rw[hds]at hcon2;refine hcon2.mono fun e W' ⟨he,d',k,os,hp,hs,hw⟩=>?_;subst hw;have hsz':d'.size=d.size:=hp.1;obtain⟨ks',hk'⟩:∃ks',ks'=d'.toList.map (·.1):=⟨_,rfl⟩;have h32':∀l∈ks',l.length=64:=fun l hl=>by rw[hk']at hl;obtain⟨x,_,rfl⟩:=La6.1 hl;exact hg x
  have hlen':ks'.length=n:=by rw[hk'];simp[hsz',hds]
  have hperm:ks'.Perm ks:=by
    have h4:(d'.toList.map (·.1)).Perm (d.toList.map (·.1)):=by
      refine List.Perm.map _ ?_;have h3:=hp.2.2;have e1:d.extract 0 d.size=d:=by simp
      have e2:d'.extract 0 d.size=d':=by rw[←hsz'];simp
      rw[←hds]at h3;rwa[e1,e2]at h3
    rw[hk'];rw[hdl]at h4;exact h4
  have hsort:ks'.Pairwise (fun a b=>¬cf b a<0):=by
    rw[hk'];refine Le5.2 (Lc8.2 fun i j hi hj hij=>?_);have h4:=hs i j (Laj _) hij (by rw[←hds,←hsz'];simpa using hj);have h5:decide (cf d'[j]!.1 d'[i]!.1<0)=false:=h4;rw[decide_eq_false_iff_not]at h5;have hi2:i<d'.size:=by simpa using hi
    have hj2:j<d'.size:=by simpa using hj
    rw[getElem!_pos d' j hj2,getElem!_pos d' i hi2]at h5;simpa using h5
  refine⟨_,_,he,⟨rfl,ks',hperm,hsort,rfl⟩,⟨⟨rfl,rfl,rfl,?_,Lf4 W.drawn k,fun i hi hn=>?_⟩,fun b hb2=>?_,by simp,fun b hb2=>?_⟩⟩
  ·simp[sortWorldK,grow,putRowK]
  ·exact sort_keep hi (by simpa using hn)
  · rw[La1.1 hb2]
    have hq:W.heap[q]? =some (.cells full 46 fr):=hbk.heap;have hql:q<W.heap.size:=hb.lt;refine⟨putCells id 0 (flatK (fun x: {l:List UInt8//l∈ks}=>Aa x.1) 64 d') full,fr,?_,by simpa[putCells]using hbk.size,?_,hbk.free⟩
    · simp only[sortWorldK,grow,putRowK,putRow,mapBlock]
      rw[Lcq (by simpa using hql),Lcz,if_pos rfl,show(Go.Sort.ahead W k).heap[q]? =some (Obj.cells full 46 fr)from hq];rfl
    · have hms:=hbk.size
      simp only at hms;rw[prefix_iff];intro j v hj;simp only at hj;have hf:=flatK_any6 (fun x: {l:List UInt8//l∈ks}=>x.1) hg d' j v (by rw[←hk'];exact hj);simp only[putCells,Lde,Lfr];have hjf:j<full.size:=by rw[hms];have:=hf.1;omega
      rw[Lct hjf];simp only[Lbj,La3,Laj,true_and,Lb2,size_flatK,Lfa];rw[if_pos hf.1,hf.2];rfl
  ·rw[La1.1 hb2];exact .inr sP
theorem sort_none_f6(p:Option Addr)(c:Nat)(f:Value):Mv 55 [.slice p 0 c,f] (fun _=>True) (.tuple #[]):=fun W _=>by
  have hcon:=AnyF.slices_SortFunc_none sortF p c f W;have hcon2:Calls prog 55 #[.slice p 0 c,f] W _:=hcon;refine hcon2.mono fun e W' h=>?_;obtain⟨he,hw⟩:=h;subst hw;exact⟨_,[],he,⟨rfl,rfl⟩,⟨Keeps.refl _ _,fun b hb=>(by cases hb),Lbv,fun b hb=>(by cases hb)⟩⟩
theorem sort_acc_by6(s:Sl)(bl:List Blk)(ks:List (List UInt8))(h32:∀l∈ks,l.length=64)(hbig:ks.length≤1000000)(hac:Hw.Acc s bl (Ay ks) 46 ks.length 64)(f:Nat)(caps:List Value)(cf:List UInt8→List UInt8→Int)(swo:SWO (ltOf fun x y: {l:List UInt8//l∈ks}=>cf x.1 y.1))(bl2:List Blk)
    (eg:∀args w,(callFunc f args).run prog w= .ok (.enter f args) w) (hcm:∀x∈ks,∀y∈ks,Meets prog f ([agg (Aa x),agg (Aa y)]++caps) [] (Lies bl2) (fun v out=>v=i64 (cf x y)∧out=[])):
    Meets prog 55 [s.v, .func (.func f) #[] caps.toArray] (bl.map (·.n)) (fun W=>Lies bl W∧Lies bl2 W∧∀b∈bl2,∀b'∈bl,b.n≠b'.n)
    (fun v out=>v= .tuple #[]∧∃ks':List (List UInt8),ks'.Perm ks∧ks'.Pairwise (fun a b=>¬cf b a<0)∧Hw.Acc s out (Ay ks') 46 ks.length 64):=fun W ⟨h1,h2,h3⟩=>by
  rcases hac with ⟨rfl,rfl,hz,hn⟩|⟨q,c,rfl,hnc,hfl,rfl⟩
  · obtain rfl:=Las hn
    exact(sort_none_f6 none 0 _ W trivial).mono fun e W' ⟨v,out,he,⟨hv,ho⟩,hr⟩=>⟨v,out,he,⟨hv,[],Lcb _,List.Pairwise.nil, .inl ⟨rfl,ho,rfl,rfl⟩⟩,hr⟩
  · have hb:BlkOk W ⟨q,Ay ks,46,c*64⟩:=h1 _ (La1.2 rfl)
    by_cases h0:ks.length=0
    · obtain rfl:=Las h0
      refine(sort_none_f6 (some ⟨q,0,none⟩) c _ W trivial).mono fun e W' ⟨v,out,he,⟨hv,ho⟩,hr⟩=>⟨v,[⟨q,Ay [],46,c*64⟩],he,⟨hv,[],Lcb _,List.Pairwise.nil, .inr ⟨q,c,rfl,hnc,hfl,rfl⟩⟩,⟨hr.keeps.mono sP,fun b hb2=>?_,by simp,fun b hb2=>?_⟩⟩
      · rw[La1.1 hb2]
        exact hb.of_heap (hr.keeps.block q hb.lt sP)
      ·rw[La1.1 hb2];exact .inr sP
    · refine(sort_by6 q ks.length c (c*64) ks h32 rfl oM hbig (Ldk 64 hnc) f caps cf swo bl2 eg hcm W ⟨hb,h2,fun b hb2=>h3 b hb2 _ (La1.2 rfl)⟩).mono fun e W' ⟨v,out,he,⟨hv,ks',hp,hs,ho⟩,hr⟩=>⟨v,out,he,⟨hv,ks',hp,hs,?_⟩,hr⟩
      have h32':∀l∈ks',l.length=64:=fun l hl=>h32 l (hp.mem_iff.1 hl);exact .inr ⟨q,c,rfl,hnc,by rw[A1 h32',hp.length_eq],ho⟩
theorem sees_left(h:Sees w b o (Aa a))(k:Nat):Sees w b o (Aa (a.take k)):=fun j v hj=>h j v (by
  unfold Aa at*;rw[Lce,Lbn]at hj;split at hj
  ·exact hj
  ·cases hj)
theorem sees_right(h:Sees w b o (Aa a))(k:Nat):Sees w b (o+k) (Aa (a.drop k)):=fun j v hj=>by
  have h1:=h (k+j) v (by unfold Aa at*;rwa[Ldw,Lb9]at hj);rwa[Lc7]
theorem cat_step(L:List (List UInt8×List UInt8))(A:List UInt8)(D:List (List UInt8)){j:Nat}(hj:j<D.length){B:List UInt8}(hB:B=D.getD j []):Ay ((L++(D.take (j+1)).map fun b=>(A,b)).map catP)=Ay ((L++(D.take j).map fun b=>(A,b)).map catP)++(Aa A++Aa B):=by
  have e:D.take (j+1)=D.take j++[B]:=by
    rw[List.take_add_one,hB,La2,La4 hj];rfl
  have e2:L++((D.take (j+1)).map fun b=>(A,b))=(L++((D.take j).map fun b=>(A,b)))++[(A,B)]:=by rw[e,Lae,La8];rfl
  rw[e2];exact flat_cat1 _ A B
theorem cat_row(L:List (List UInt8×List UInt8))(ns:List (List UInt8))(i:Nat){A:List UInt8}(hA:A=ns.getD i []):(L++prsI ns i++(((ns.drop (i+1)).take (ns.length-(i+1))).map fun b=>(A,b)))=L++prsI ns (i+1):=by
  rw[La7 sP,hA,prsI,La8]
theorem lent_preF{C:Cx}{hp bl keep:List Blk}(h:HRep C hp w)(hp1:hp.Perm (bl++keep)):Lies bl w∧Lies [] w∧∀b∈([]:List Blk),∀b2∈bl,b.n≠b2.n:=
  ⟨fun b hb=>(h.perm hp1).cells b (Lax _ hb),fun b hb=>(by cases hb),fun b hb=>(by cases hb)⟩
theorem fork_cmp(a b:List UInt8)(ha:a.length=64)(hb:b.length=64):Mv 56 [agg (Aa a),agg (Aa b)] (fun _=>True) (i64 (cmpF a b)):=by
 intro W hW;refine Ac func56 J 17 ntmps56 J (.sr (.boxA J J ?_));intro n2 hn2 hf2;refine .boxA J J ?_;intro n3 hn3 hf3;refine .a J J J (.na (.seq (.draw (oPq [0,101,2,103,5,106,7,108,304,309,210,311,12]) Ap zK (.fld J J J underlying46 J Sz31 dE _ J (.loadSN (n:=32) (Aa (a.take 32)) J J J Y31.h J Sz31 (by rw[Aa,La0];simp[ha,hb]) (fun w h=>sees_left (Aq h mM) 32) ?_)))));refine .fld J J J underlying46 J Sz31 dE _ J (.loadSN (n:=32) (Aa (b.take 32)) J J J Y31.h J Sz31 (by rw[Aa,La0];simp[ha,hb]) (fun w h=>sees_left (Aq h mM) 32) ?_);refine .fld J J J underlying46 J Sz31 dE _ J (.loadSN (n:=32) (Aa (a.drop 32)) J J J Y31.h J Sz31 (by rw[Aa,La0];simp[ha,hb]) (fun w h=>sees_right (Aq h mM) 32) ?_);refine .fld J J J underlying46 J Sz31 dE _ J (.loadSN (n:=32) (Aa (b.drop 32)) J J J Y31.h J Sz31 (by rw[Aa,La0];simp[ha,hb]) (fun w h=>sees_right (Aq h mM) 32) ?_);refine .cV J J J J Body51 (block_cmp (a.take 32) (b.take 32) (by simp[ha]) (by simp[hb])) tV ?_;refine .cV J J J J Body51 (block_cmp (a.drop 32) (b.drop 32) (by simp[ha]) (by simp[hb])) tV ?_;refine .mkRow2 (z:=i64 0) [i64 (B1 (a.take 32) (b.take 32)),i64 (B1 (a.drop 32) (b.drop 32))] [i64 (B1 (a.take 32) (b.take 32)),i64 (B1 (a.drop 32) (b.drop 32))] rfl J Y51.h Sz3 Zr3 J J (by intro v hv;simp only[Lag,Lc6,or_false]at hv;rcases hv with rfl|rfl<;>simp[Value.cells]) dE (by simp[Value.cells]) ?_;intro q15;refine .cV J J J J Body49 (cmp_or2 q15 (B1 (a.take 32) (b.take 32)) (B1 (a.drop 32) (b.drop 32))) (fun w h=>Aq h mM) ?_;refine .a J J J (.na ?_);refine .ret (en_r ?_);refine⟨_,[],Al J J,sP,sP,?_,rfl⟩;rfl
theorem trT_prs(l:List (List UInt8)):∀i,i≤l.length→(prsI l i).length=trT l.length i
  |0,_=>rfl
  |i+1,h=>by rw[prsI,La5,trT_prs l i oM,La0,Lc0,trT];omega
theorem forkN_eq:∀(l:List ((List UInt8×UInt64)×RV)),forkN l=(frkR l).length
  | []=>rfl
  | q ::l=>by
    have h1:(frkR (q::l)).length=(prs (isort q.2.ks)).length+(frkR l).length:=by unfold frkR frkL;simp
    have h2:(prs (isort q.2.ks)).length=trT q.2.ks.length q.2.ks.length:=by
      rw[←prsI_all,trT_prs _ _ (Laf _),(Cm q.2.ks).length_eq]
    have h3:forkN (q::l)=trT q.2.ks.length q.2.ks.length+forkN l:=by unfold forkN;simp
    rw[h1,h2,h3,forkN_eq l]
theorem dag_forksG(x:DD)(hx:x.ok)(hG:x.pl.Gr)(p:Nat)(htot:(frkR x.pls).length≤400000):Meets prog 11 [ptr p 0] [] (fun W=>Lies (x.blks p) W) (fun v out=>∃(s:Sl) (F:List (List UInt8×List UInt8)),v=s.v∧F.Perm (frkR x.pls)∧Hw.Acc s out (Ay (F.map catP)) 46 F.length 64):=by
 intro W hW;have hlies:=hW;have hd:=DagSee.lies hW;have hbig:=hx.big;have hne:∀q∈x.pls,0<q.2.ks.length:=fun q hq=>hG.p.ne (q.1,q.2.ks) (La6.2 ⟨q,hq,rfl⟩);have hp32:∀q∈x.pls,∀n∈q.2.ks,n.length=32:=fun q hq=>(hx.pls q hq).2.1.r32;rw[←forkN_eq]at htot;obtain⟨es,clock,hb,F⟩:=(hW _ (x.mP p)).map;have eg:∀args w,(callFunc 56 args).run prog w= .ok (.enter 56 args) w:=enters_of func56 zK rfl;refine Ac func11 J 52 ntmps11 J (.sr (.a J J J (.na (.seq (.sr (.m J J J (.cV J J J J Body45 (dag_valid x p) (fun w h=>hd.ext h) (.not J J J (.na (.cond_f J J (.skip (Bv (.sr (.a J J J (.na (.seq (.sr (.m J J J (.nC J J J (.fld J J J Y86.h J Sz83 dE _ J (.loadE J J J underlying83 J (by first|(simp;done)|(simp;exact hW.2.2)|(simp[Cx.with];done)|(simp[Cx.with];omega)) (hd.at (o:=5) J) ?_)))))))))))))))))))));refine .rangeMapC underlying83 hb sP J J J J ?_;intro q17;refine .na (.block (.loop (ι:=Array Nat×List ((List UInt8×UInt64)×RV)×List ((List UInt8×UInt64)×RV)×Sl×List Blk) (fun q=>⟨[(0,ptr p 0),(17,ptr q17 0),(3,q.2.2.2.1.v)],(iblk q17 x.bP clock q.1::(q.2.2.2.2++[]))⟩) (fun q=>ItOk (placeT 32 evR) es q.1 q.2.2.1∧(q.2.1++q.2.2.1).Perm x.pls∧Hw.Acc q.2.2.2.1 q.2.2.2.2 (Ay ((frkR q.2.1).map catP)) 46 (forkN q.2.1) 64) (fun q=>q.2.2.1.length) ((#[],[],x.pls,Sl.nil,[])) ?_ ?_ ?_))
 ·exact⟨ItOk.start F,Lcb _,Acc.none⟩
 ·exact An wN (Ab rM (Ad sG Ak))
 rintro⟨seen,done,todo,sF,blF⟩ ⟨hi,hpm,hac⟩;simp only at hi hpm hac ⊢;refine .sr (.nextMapC F hi hb sP J J J J rM ?_ ?_)
 ·
  intro htd;have hpm2:done.Perm x.pls:=by rw[htd,Lak]at hpm;exact hpm
  have h32p:=frkR_len (l:=done) (fun q hq=>hp32 q (hpm2.mem_iff.1 hq));have h64:=cat_len h32p;have hfn:forkN done=((frkR done).map catP).length:=by rw[forkN_eq,La0]
  have htot2:=forkN_perm hpm2;rw[hfn]at hac;refine .eX J J J J (.na (.seq (.cond_f J J (.exit (at_x (at_x (bl_h (Bv (.sr (.m J J J (.callL (L:=blF) J J J J J Body55 (sort_acc_by6 sF blF ((frkR done).map catP) h64 oM hac 56 [] cmpF (swoF _) [] eg (fun a ha b hb=>(fork_cmp a b (h64 a ha) (h64 b hb)).imp (fun w _=>trivial) fun v out h=>h)) sG (lent_ok J) (fun w h=>lent_preF h sG) ?_)))))))))));rintro v50 out50 ⟨rfl,ks2,hp2,hs2,hac50⟩;refine .nsr (.m J J J (.a J J J (.na ?_)));refine .ret (en_r (A3 (out:=(out50++[])) (Al J J) (Ad sG Ak) ?_));refine⟨sF,ks2.map splP,rfl,(spl_perm h32p hp2).1.trans (frkR_perm hpm2),?_⟩;rw[(spl_perm h32p hp2).2,La0,hp2.length_eq];simpa using hac50
 intro j k0 v seen2 hj hit hat;have hmem:(k0,v)∈x.pls:=hpm.mem_iff.1 (Lb6 _ (Lbs hj));have hvo:=hx.pls _ hmem;have hv0:=hne _ hmem;simp only at hvo hv0;have hvb:∀b∈v.bl,b∈x.blks p:=fun b hb=>by exact DD.mpl (Lcu.2 ⟨v.bl,La6.2 ⟨(k0,v),hmem,rfl⟩,hb⟩)
 have hfs:=forkN_step hpm hj;simp only at hfs;refine .eX J J J J (.na (.seq (.cond_t J J (.skip (Bv (.block (.sr (.entryMapC F hat hb sP J J J mM ?_))))))));refine .eX J J J J (.a J J J (.nsr (.m J J J (.call4 J J J J J Body54 (mk_vals v.s) tV ?_))));rintro v23 out23 ⟨c23,rfl,rfl⟩;refine .call4 J J J J J Body53 (sorted_keys 97 #[ptr c23 0] v.ks Body97 oM hvo.2.1.r32) (fun w h=>val_seq hvo.2.1.r32 hvo.2.1.acc.num (by rw[hvo.2.1.acc.num];omega) (hvo.2.1.acc.see ((lies_keep hlies h).sub hvb)) (CapS.of_own h mM).1 (CapS.of_own h mM).2 hv0) ?_;rintro v24 out24 ⟨s24,ns,hnp,hns,rfl,hac24⟩;have hnl:=hnp.length_eq;have hn24:=hac24.num;have hn32:∀l∈ns,l.length=32:=fun l hl=>hvo.2.1.r32 l (hnp.mem_iff.1 hl);obtain⟨q24,c24,hs24,hc24,see24⟩:=row_open2 hac24 oM;subst hs24;refine .a J J J (.nsr (.m J J J (.lenSl J J J Y32.h (.m J J J (.na (.block (.loop (ι:=Nat×Sl×List Blk) (fun r=>⟨[(0,ptr p 0),(17,ptr q17 0),(3,r.2.1.v),(5, .slice (some ⟨q24,0,none⟩) ns.length c24),(25, .slice (some ⟨q24,0,none⟩) ns.length c24),(26,i64 (ns.length:Int)),(27,i64 (r.1:Int))],(iblk q17 x.bP clock seen2::(out24++(r.2.2++[])))⟩) (fun r=>r.1≤ns.length∧Hw.Acc r.2.1 r.2.2 (Ay ((frkR done++prsI ns r.1).map catP)) 46 (forkN done+trT ns.length r.1) 64) (fun r=>ns.length-r.1) ((0,sF,blF)) ?_ ?_ ?_)))))))
 ·exact⟨Laj _,by simp only;rw[show prsI ns 0=[]from rfl,Lak];exact hac⟩
 ·exact An wN (Ab rM (Ad sG (Ad sG Ak)))
 rintro⟨i,sGa,blG⟩ ⟨hi1,hacG⟩;simp only at hi1 hacG ⊢;refine .sr (.lss J J J J J (.na (.seq ?_)));first
  |refine Sat.condP rfl (fun hc2=>?_) (fun hc2=>?_)
  |refine Sat.condNP rfl (fun hc2=>?_) (fun hc2=>?_)
  |refine Sat.cond rfl (fun hc2=>?_) (fun hc2=>?_)
 ·
  have hi3:i<ns.length:=by omega
  obtain⟨A,hA⟩:∃A,A=ns.getD i []:=⟨_,rfl⟩;have h32a:A.length=32:=hn32 _ (by rw[hA];exact getD_mem2 hi3);have hl32a:(Aa A).length=32:=by rw[Aa,La0];exact h32a
  refine .skip (Bv (.seq (.block (.sr (.m J J J (.idxSlP 32 J J J J J Y32.h Sz31 i J oM (.loadSN (n:=32) (Aa A) J J J Y31.h J Sz31 (by rw[Aa,La0];exact h32a) (fun w h=>by rw[hA];exact sees_row hn32 (see24 w (Lies.of h iN)) hi3) ?_)))))));refine .alloc (cs:=(Aa (List.replicate 32 0))) J Zr31 J ?_;intro n7 hn7 hf7;refine .a J J J ?_;first
   |refine Tr.sA rfl rfl rfl rfl (by first|exact Av _|exact Bn _|simp[isCell]) Sz31 lN mM lN uU ?_
   |refine Tr.storeN _ rfl rfl rfl rfl rfl (by first|exact Av _|exact Bn _|simp[isCell]) Sz31 lN mM lN (by exact rfl) uU ?_
  refine .nsr (.m J J J (.m J J J (.aI J J J J oM (.sliceLoN (i+1) J J J J oM oM hc24 Y32.h Sz31 ?_))));obtain⟨OO,hOO⟩:∃o,o=(if c24=i+1 then 0 else 0+(i+1)*32):=⟨_,rfl⟩;rw[←hOO];have seeD:∀w,Lies out24 w→Sees w q24 OO (Ay (ns.drop (i+1))):=fun w hw=>by rw[hOO];exact sees_rows_drop hn32 rfl hc24 (see24 w hw)
  refine .lenSl J J J Y32.h (.m J J J (.na (.block (.loop (ι:=Nat×Sl×List Blk) (fun y=>⟨[(0,ptr p 0),(17,ptr q17 0),(3,y.2.1.v),(5, .slice (some ⟨q24,0,none⟩) ns.length c24),(6,i64 (i:Int)),(7,ptr n7 0),(25, .slice (some ⟨q24,0,none⟩) ns.length c24),(26,i64 (ns.length:Int)),(27,i64 (i:Int)),(35, .slice (some ⟨q24,OO,none⟩) (ns.length-(i+1)) (c24-(i+1))),(36,i64 ((ns.length-(i+1):Nat):Int)),(37,i64 (y.1:Int))],(iblk q17 x.bP clock seen2::(⟨n7,Aa A,31,32⟩::(out24++(y.2.2++[]))))⟩) (fun y=>y.1≤ns.length-(i+1)∧Hw.Acc y.2.1 y.2.2 (Ay (((frkR done++prsI ns i)++(((ns.drop (i+1)).take y.1).map fun b=>(A,b))).map catP)) 46 (forkN done+trT ns.length i+y.1) 64) (fun y=>ns.length-(i+1)-y.1) ((0,sGa,blG)) ?_ ?_ ?_))))
  ·exact⟨Laj _,by simp only;rw[Ld7,Let,Lak];exact hacG⟩
  ·exact An wN (Ab rM (Ab rM (Ad sG (Ad sG Ak))))
  rintro⟨j2,sHa,blH⟩ ⟨hj2,hacH⟩;simp only at hj2 hacH ⊢;refine .sr (.lss J J J J J (.na (.seq ?_)));first
   |refine Sat.condP rfl (fun hc3=>?_) (fun hc3=>?_)
   |refine Sat.condNP rfl (fun hc3=>?_) (fun hc3=>?_)
   |refine Sat.cond rfl (fun hc3=>?_) (fun hc3=>?_)
  ·
   have hj3:j2<(ns.drop (i+1)).length:=by rw[Lc0];omega
   obtain⟨B,hB⟩:∃B,B=(ns.drop (i+1)).getD j2 []:=⟨_,rfl⟩;have hdr:∀l∈ns.drop (i+1),l.length=32:=fun l hl=>hn32 l (List.mem_of_mem_drop hl);have h32b:B.length=32:=hdr _ (by rw[hB];exact getD_mem2 hj3);have hl32b:(Aa B).length=32:=by rw[Aa,La0];exact h32b
   have hT1:=trT_le ns.length (i+1) ns.length oM;rw[trT]at hT1;have hT2:=hfs.2;rw[←hnl]at hT2;refine .skip (Bv (.seq (.block (.sr (.idxSlP 32 J J J J J Y32.h Sz31 j2 J oM (.loadSN (n:=32) (Aa B) J J J Y31.h J Sz31 (by rw[Aa,La0];exact h32b) (fun w h=>by rw[hB];exact sees_row hdr (seeD w (Lies.of h iN)) hj3) ?_))))));refine .alloc (cs:=(Aa (List.replicate 32 0))) J Zr31 J ?_;intro n9 hn9 hf9;first
    |refine Tr.sA rfl rfl rfl rfl (by first|exact Av _|exact Bn _|simp[isCell]) Sz31 lN mM lN uU ?_
    |refine Tr.storeN _ rfl rfl rfl rfl rfl (by first|exact Av _|exact Bn _|simp[isCell]) Sz31 lN mM lN (by exact rfl) uU ?_
   refine .na (.region (.m J J J ?_));first
    |refine Tr.lA rfl rfl rfl Y31.h rfl Sz31 mM lN ?_
    |refine Tr.lN _ rfl rfl rfl Y31.h rfl Sz31 mM (by exact rfl) lN ?_
   first
    |refine Tr.lA rfl rfl rfl Y31.h rfl Sz31 mM lN ?_
    |refine Tr.lN _ rfl rfl rfl Y31.h rfl Sz31 mM (by exact rfl) lN ?_
   refine .build (cs:=Aa A++Aa B) J J J (fun w=>fork_run h32a h32b w) (.mkRow (z:=agg (Aa (List.replicate 32 0)++Aa (List.replicate 32 0))) [agg (Aa A++Aa B)] (Aa A++Aa B) J J J Y43.h Sz46 Zr46 J J (by intro v hv;rw[La1.1 hv];simp[Value.cells,agg,Aa,h32a,h32b]) dE (by simp[Value.cells,agg]) ?_);intro q45;refine .appendAcc (z:=agg (Aa (List.replicate 32 0)++Aa (List.replicate 32 0))) (by':=64) (Aa A++Aa B) J J J J J Y43.h Y43.h Sz46 Zr46 (by unfold By;kernel_rfl) J hacH sG (fun w h=>SeesP.of (Aq h mM)) (fun e=>by cases e) (fun u hu=>by rcases Lac.1 hu with h|h;exact Av _ u h;exact Av _ u h) oM oM (by simp[Aa,h32a,h32b]) ?_;intro s46 bl46 hac46;refine .a J J J (.nil (bl_n (Bv (.region (.aI J J J J oM (.m J J J (.na ?_)))))));exact⟨(j2+1,s46,bl46),⟨by simp only;omega,by simp only;rw[cat_step _ A _ hj3 hB];exact hac46⟩,by simp only;omega,An wN (Ab rM (Ab rM (Ad sG (Ad sG Ak))))⟩
  have hje:j2=ns.length-(i+1):=by omega
  refine .exit (at_x (at_x (bl_h (bl_n (Bv (.region (.aI J J J J oM (.m J J J (.na ?_)))))))));exact⟨(i+1,sHa,blH),⟨by simp only;omega,by simp only;rw[←cat_row (frkR done) ns i hA,←hje,show forkN done+trT ns.length (i+1)=forkN done+trT ns.length i+j2 by rw[trT];omega];exact hacH⟩,by simp only;omega,An wN (Ab rM (Ad sG (Ad sG Ak)))⟩
 have hie:i=ns.length:=by omega
 rw[hie]at hacG;refine .exit (at_x (at_x (bl_h (bl_n (Bv ?_)))));exact⟨(seen2,done++[(k0,v)],todo.eraseIdx j,sGa,blG),⟨hit,perm_step hpm hj,by simp only;rw[hfs.1,←hnl,frkR_app,show isort (k0,v).2.ks=ns from(isort_eq hnp hns).symm,←prsI_all ns];exact hacG⟩,by have h8:=(Lab.1 hj).1;simp only[Ldl,h8,if_true];omega,An wN (Ab rM (Ad sG Ak))⟩
end Go.Proofs.YtbdfihcjddbhaaaGreat
namespace Go.Proofs.YtbdfihcjddbhaaaGreat
open Go Hw _root_.Go.Proofs.Tryz
inductive PartsOk(X:PD):List (List UInt8)→List (List (List UInt8))→List (List (List UInt8))→Prop
  |nil {bf:List (List UInt8)}:PartsOk X bf [] []
  |cons {bf c l:List (List UInt8)} {cs ls:List (List (List UInt8))} (h1:l.Nodup) (h2:∀n,n∈l↔X.Reach (-1) c n∧¬X.Reach (-1) bf n) (h3:PartsOk X c cs ls):PartsOk X bf (c::cs) (l::ls)
variable{k:Nat}{α:Type}{a:α}{l:List α}
theorem drop_at(h:l[k]? =some a):l.drop k=a::l.drop (k+1):=by
  obtain⟨hk,e⟩:=Lab.1 h;rw[←e];exact Lbl hk
theorem take_at(h:l[k]? =some a):l.take (k+1)=l.take k++[a]:=by
  obtain⟨hk,e⟩:=Lab.1 h;rw[←e];exact Laz hk
theorem digs_same(p q:Option Addr)(n m c1 c2:Nat)(xs:List (List UInt8))(hx:∀l∈xs,l.length=32)(h1:xs.length=n)(h2:xs.length=m)(hn:n≤1000000):Mv 16 [.slice p n c1, .slice q m c2] (fun W=>SeesP W p (Ay xs)∧SeesP W q (Ay xs)) (.bool true):=by
  have h:=digests_any2 p q n m c1 c2 xs xs hx hx h1 h2 hn;rwa[show decide (xs=xs)=true from decide_eq_true rfl]at h
theorem drop_get{i:Nat}(h:l[i]? =some a):l.drop i=a::l.drop (i+1):=by
  obtain⟨h1,h2⟩:=Lab.1 h;rw[←h2];exact Lbl h1
section
variable{X:PD}{P Q:List (List UInt8×DB)}{i:Nat}{n:List UInt8}{D:DB}
end
theorem not_keyN{κ ν:Type}[DecidableEq κ]{ms:List (κ×ν)}{n:κ}(h:Au ms n=none):n∉ms.map (·.1):=fun hm=>by
  obtain⟨v,hv⟩:=mget_of_key hm;rw[h]at hv;cases hv
section
variable{C:Cx}{ops:Array Oper}{rest:List (Nat×Oper)}{sl:List (Nat×Value)}{hp:List Blk}{Q:St→Prop}{c d:Nat}{ty:TypeId}{pos:String}{af:Array Edge}{g:Option (Nat×Bool)}
end
structure KI(ms:List (List UInt8×Int))(S:List UInt8→Prop):Prop where
  one:∀p∈ms,p.1.length=32∧p.2=1
  nd:(ms.map (·.1)).Nodup
  mem:∀n,n∈ms.map (·.1)↔S n
variable{S T:List UInt8→Prop}{ms:List (List UInt8×Int)}{n:List UInt8}
theorem KI.none:KI [] (fun _=>False):=⟨fun p h=>(by cases h),Lbv,fun n=>⟨fun h=>(by cases h),fun h=>h.elim⟩⟩
theorem KI.put(h:KI ms S)(h32:n.length=32)(hT:∀k,T k↔S k∨k=n):KI (Bf ms n 1) T where
  one:=fun p hp=>by
    rcases mput_mem hp with hp|rfl
    ·exact h.one p hp
    ·exact⟨h32,rfl⟩
  nd:=mput_nodup h.nd n 1
  mem:=fun k=>by rw[keys_put,h.mem,hT]
theorem KI.iff(h:KI ms S)(hT:∀k,T k↔S k):KI ms T:={ h with mem:=fun k=>(h.mem k).trans (hT k).symm }
theorem KI.no(h:KI ms S)(hg:Au ms n=Option.none):¬S n:=fun hs=>by
  obtain⟨v,hv⟩:=mget_of_key ((h.mem n).2 hs);rw[hg]at hv;cases hv
theorem KI.yes(h:KI ms S){v:Int}(hg:Au ms n=some v):v=1∧S n:=⟨(h.one _ (Bs hg)).2,(h.mem n).1 (La6.2 ⟨_,Bs hg,rfl⟩)⟩
section
variable{B:List (Nat×Value)}{K:List Blk}{m:Nat}{f:List (List UInt8×Int)}{n:List UInt8}{s0:Sl}{bl0:List Blk}{L:List (List UInt8)}{q:Nat}{s5:Sl}{bl5:List Blk}{l:Nat→Bool}{sl:List (Nat×Value)}{hp:List Blk}
end
def gwN(X:PD)(ws:List (List UInt8)):Nat:=((ws.map (gw X)).flatten).length
def cI(X:PD)(l:List (List UInt8))(i:Nat):Nat:=((prsI l i).filter fun p=>eqS X p.1 p.2).length
def cJ(X:PD)(a:List UInt8)(l:List (List UInt8))(j:Nat):Nat:=((l.take j).filter (eqS X a)).length
variable{F:List (List UInt8×List UInt8)}{b w:List UInt8}{p:List UInt8×List UInt8}{x:DD}
theorem gwN_snoc(X:PD)(ws:List (List UInt8))(w:List UInt8):gwN X (ws++[w])=gwN X ws+cI X (X.of w) (X.of w).length:=by
  unfold gwN cI;rw[prsI_all];simp[gw]
theorem cI_step(X:PD)(l:List (List UInt8))(i:Nat):cI X l (i+1)=cI X l i+cJ X (l.getD i []) (l.drop (i+1)) (l.drop (i+1)).length:=by
  unfold cI cJ;rw[prsI,Lg5,La5,List.filter_map,La0,Ldh];rfl
theorem cJ_step(X:PD)(a:List UInt8)(l:List (List UInt8)){j:Nat}(hj:j<l.length)(hb:b=l.getD j []):cJ X a l (j+1)=cJ X a l j+if X.sq a=X.sq b then 1 else 0:=by
  have e:l.take (j+1)=l.take j++[b]:=by
    rw[List.take_add_one,hb,La2,La4 hj];rfl
  unfold cJ;rw[e,Lg5,La5];congr 1;by_cases h:X.sq a=X.sq b
  ·simp[eqS,h]
  ·simp[eqS,h]
theorem of_sortG{X:PD}{l:List (List UInt8)}(hl:l=X.of w)(hnd:l.Nodup){k m:Nat}(hkm:k<m)(hm:m<l.length){a b:List UInt8}(ha:a=l.getD k [])(hb:b=l.getD m []):(X.sq a).toNat<(X.sq b).toNat∨(X.sq a).toNat=(X.sq b).toNat∧B1 a b<0:=by
  subst hl;have h:=of_sorted hkm hm hnd;rw[La2,La4 oM]at ha;rw[La2,La4 hm]at hb;subst ha;subst hb;rw[u64_lt,u64_eqN]at h;exact h
theorem drop_getD(l:List (List UInt8))(i j:Nat):(l.drop i).getD j []=l.getD (i+j) []:=by
  rw[La2,La2,Lb9]
theorem of_lenP(hx:x.ok)(hG:x.pl.Gr)(w:List UInt8):(x.pl.of w).length≤x.names.length:=by
  have h1:(x.pl.of w) ⊆ x.pl.P.map (·.1):=fun n hn=>by
    obtain⟨D,hD,_⟩:=(of_mem hG).1 hn;exact La6.2 ⟨_,Bs hD,rfl⟩
  have h2:=(of_nd hG w).length_le_of_subset h1;have h3:(x.pl.P.map (·.1)).length=x.ent.length:=by show(x.P.map _).length=_;unfold DD.P;simp
  have:=hx.entn;omega
theorem frk_lenP(hx:x.ok)(hG:x.pl.Gr)(h:x.names.length≤24):(frkR x.pls).length≤400000:=by
  have h1:=frk_bound hG;have h3:(x.pl.P.map (·.1)).length=x.ent.length:=by show(x.P.map _).length=_;unfold DD.P;simp
  have h4:=hx.entn;have h5:(x.pl.P.map (·.1)).length*(x.pl.P.map (·.1)).length≤24*24:=Lca oM oM;have h6:(frkR x.pls).length=(frkL x.pl.pls).length:=rfl;omega
theorem drop_ok(hx:x.ok):({ x with orp:=[] }:DD).ok:=
  { hx with big:=by have:=hx.big;simp only[Leu];omega,orpn:=Laj _,orp:=fun p hp=>by cases hp }
theorem frk_cells(p:List UInt8×List UInt8):(⟨p.1,p.2⟩:Fork).cells=Aa (catP p):=by simp[Fork.cells,catP,Aa]
theorem fork_open{s:Sl}{bl:List Blk}(h:Hw.Acc s bl (Ay (F.map catP)) 46 F.length 64)(h0:0<F.length)(h32:∀p∈F,p.1.length=32∧p.2.length=32):∃b o,s.p=some ⟨b,o,none⟩∧∀w,Lies bl w→∀k p,F[k]? =some p→Sees w b (o+k*64) (Aa p.1)∧Sees w b (o+k*64+32) (Aa p.2)∧Sees w b (o+k*64) (⟨p.1,p.2⟩:Fork).cells:=by
  rcases h with ⟨_,_,_,e⟩|⟨q,c,rfl,h1,h2,rfl⟩
  ·omega
  · refine⟨q,0,rfl,fun w hw k p hp=>?_⟩
    have hk:=(Lab.1 hp).1;have h4:=sees_row (b:=q) (o:=0) (cat_len h32) (sees_kok (hw _ La9) fun j v hj=>by rw[Lb2];exact hj) (k:=k) (by rw[La0];exact hk);have e:(F.map catP).getD k []=catP p:=by rw[La2,Lai,hp];rfl
    rw[e]at h4;have hl:=(h32 p (Lbs hp)).1;have e1:(catP p).take 32=p.1:=List.take_left' hl;have e2:(catP p).drop 32=p.2:=List.drop_left' hl;have h5:=sees_left h4 32;have h6:=sees_right h4 32;rw[e1]at h5;rw[e2]at h6;exact⟨h5,h6,by rw[frk_cells];exact h4⟩
theorem Fork.ok'(h:p.1.length=32∧p.2.length=32):(⟨p.1,p.2⟩:Fork).ok:=⟨h.1,h.2⟩
theorem nd_snoc{ws:List (List UInt8)}(h:ws.Nodup)(hw:w∉ws):(ws++[w]).Nodup:=Lav.2 ⟨h,by simp,fun a ha b hb e=>hw (by rw[La1.1 hb]at e;rw[←e];exact ha)⟩
theorem fk_ne(h:F.Nodup){k i:Nat}(hki:k<i){p q:List UInt8×List UInt8}(hp:F[k]? =some p)(hq:F[i]? =some q):(⟨p.1,p.2⟩:Fork)≠⟨q.1,q.2⟩:=fun e=>by
  obtain⟨h1,e1⟩:=Lab.1 hp;obtain⟨h2,e2⟩:=Lab.1 hq;have h3:=Lc8.1 h k i h1 h2 hki;rw[e1,e2]at h3;injection e with e3 e4;exact h3 (Prod.ext e3 e4)
theorem MIK:MOk prog 27 29 3 (Ar 32 evI) (i64 0):=bytesT_ok _ underlying27 A23 Y5.h size_pos K23 (zr_run Zr3)
theorem light_at{ds:List DB}(h:lightOf lightBf ds 24=true):ds.length≤24∧∀d∈ds,d.ls.length≤500000∧d.ds.length≤500000:=by
  unfold lightOf at h;simp only[Lan,Ldr,decide_eq_false_iff_not,Lcg]at h;refine⟨by omega,fun d hd=>?_⟩;have:=h.2 d hd;unfold lightBf at this;simp only[Lan,decide_eq_true_eq]at this;omega
theorem law16_smallD(s:Sl)(ds:List DB):Mv 6 [s.v] (fun W=>BlocksAt W s ds) (.bool (lightOf lightBf ds 24)):=by
 intro W hW;refine Ac func6 J 5 ntmps6 J (G8 ?_);refine .cV J J J J Body18 (lightd_blocks s ds 24) (fun w h=>Blocks_ext h J hW) (G3 ?_);refine G2 ?_;refine⟨_,[],Al J J,sP,sP,?_,rfl⟩;rfl
theorem law_dagforks(s:Sl)(ds:List DB):Mv 3 [s.v] (fun W=>BlocksAt W s ds) (.bool true):=by
  intro W hW;have h32w:True:=trivial;have h32a:True:=trivial;have h32b:True:=trivial;have hlA:True:=trivial;have hlB:True:=trivial;refine Ac func3 J 232 ntmps3 J (.sr (.a J J J (.na (.seq (.sr (.cV J J J J Body5 (law16_lives) tV (.not J J J (.na (.cond_f J J (.skip (Bv (.seq (.sr (.m J J J (.cV J J J J Body6 (law16_smallD s ds) (fun w h=>Blocks_ext h J hW) (.not J J J (.na ?_)))))))))))))))));first
    |refine Sat.condP rfl (fun hc1=>?_) (fun hc1=>?_)
    |refine Sat.condNP rfl (fun hc1=>?_) (fun hc1=>?_)
    |refine Sat.cond rfl (fun hc1=>?_) (fun hc1=>?_)
  ·
    refine .sr (.a J J J (.na ?_));refine .ret (at_r (en_r (A3 (out:=[]) (Al J J) Ak ?_)));exact⟨rfl,rfl⟩
  have hsm0:lightOf lightBf ds 24=true:=by simpa using hc1
  obtain⟨hd24,hsm⟩:=light_at hsm0;obtain⟨rs0,hs0⟩:=hW;have hsn0:=hs0.nd;have hW:BlocksAt W s ds:=⟨rs0,hs0⟩;refine .skip (Bv (.sr (.m J J J (.call4 J J J J J Body7 (law16_filled s ds oM hsm) (fun w h=>Blocks_ext h J hW) ?_))));rintro v30 out30 ⟨p,x,rfl,rfl,hx,hplx,hnx⟩;have hI:x.pl.Inv:=by rw[hplx];exact PD.Inv.fill ds PD.Inv.new
  have hG:x.pl.Gr:=by rw[hplx];exact PD.Gr.fill ds PD.Inv.new PD.Gr.new
  have hS:x.pl.Src ds:=by rw[hplx];exact PD.Src.fill ds ⟨fun q hq=>(by cases hq),fun q hq=>(by cases hq)⟩ (fun d hd=>hd)
  have hck:∀q∈x.P,q.2.check=0:=hI.ck;have hn24:x.names.length≤24:=by omega
  refine .a J J J (.nsr (.mkMap (Ar 32 evI) J J ?_));intro m31;refine .a J J J (.nsr (.a J J J (.na (.seq (.sr (.a J J J (.na (.block (.loop (ι:=Nat×List (List UInt8×Int)×List (List UInt8)×Nat) (fun q=>⟨[(0,s.v),(3,ptr p 0),(4, .map (some m31)),(5,i64 (q.2.2.2:Int)),(6,i64 (q.1:Int))],(Az m31 (Ar 32 evI) q.2.1::(x.blks p++[]))⟩) (fun q=>q.1≤s.n∧KI q.2.1 (fun w=>w∈q.2.2.1)∧q.2.2.1.Nodup∧(∀d∈ds.take q.1,d.w∈q.2.2.1)∧q.2.2.2=gwN x.pl q.2.2.1∧q.2.2.2≤576*q.1) (fun q=>s.n-q.1) ((0,[],[],0)) ?_ ?_ ?_)))))))))
  ·exact⟨Laj _,KI.none.iff fun n=>by simp,Lbv,fun d h=>by simp at h,rfl,Laf _⟩
  ·exact An wN (Ab rM (Ad sG Ak))
  rintro⟨i,im,ws,n⟩ ⟨hi,hKI,hwd,hwa0,hgn,hnb⟩;simp only at hi hKI hwd hwa0 hgn hnb ⊢;refine .seq (.sr (.m J J J (.m J J J (.lenSl J J J Y22.h (.lss J J J J J (.na ?_))))));first
    |refine Sat.condP rfl (fun hc2=>?_) (fun hc2=>?_)
    |refine Sat.condNP rfl (fun hc2=>?_) (fun hc2=>?_)
    |refine Sat.cond rfl (fun hc2=>?_) (fun hc2=>?_)
  ·
    have hi2:i<s.n:=by omega
    obtain⟨b,o,r,d,hsp,hr,hd,his,hlen,hsee⟩:=hs0.at dE hi2;obtain⟨ww,hww⟩:∃w,w=d.w:=⟨_,rfl⟩;clear h32w;have h32w:ww.length=32:=by rw[hww,←his.w];exact his.ok.l_fWriter
    refine .skip (Bv (.seq (.block (.sr (.m J J J (.m J J J (.idxSlP 131 J J J hsp J Y22.h Sz37 i J oM (.fld J J J Y37.h J Sz29 dE _ J (.loadEN (Aa ww) J J J Y29.h J Sz29 sP (by rw[Aa,La0];exact h32w) (fun j v hj=>by rw[hww,←his.w]at hj;simpa using hsee _ v (Block.see_fWriter his.ok j v hj)) ?_)))))))));refine .alloc (cs:=(Aa (List.replicate 32 0))) J Zr29 J ?_;intro n7 hn7 hf7;first
      |refine Tr.sA rfl rfl rfl rfl (by first|exact Av _|exact Bn _|simp[isCell]) Sz29 (by first|(simp[h32w,h32a,h32b,hlA,hlB];done)|assumption|(rw[Aa,La0];assumption)) mM (by first|(simp[h32w,h32a,h32b,hlA,hlB];done)|assumption|(rw[Aa,La0];assumption)) uU ?_
      |refine Tr.storeN _ rfl rfl rfl rfl rfl (by first|exact Av _|exact Bn _|simp[isCell]) Sz29 (by first|(simp[h32w,h32a,h32b,hlA,hlB];done)|assumption|(rw[Aa,La0];assumption)) mM (by first|(simp[h32w,h32a,h32b,hlA,hlB];done)|assumption|(rw[Aa,La0];assumption)) (by exact rfl) uU ?_
    refine .na (.seq (.sr (.m J J J ?_)));first
      |refine Tr.lA rfl rfl rfl Y29.h rfl Sz29 mM (by first|(simp[h32w,h32a,h32b,hlA,hlB];done)|assumption|(rw[Aa,La0];assumption)) ?_
      |refine Tr.lN _ rfl rfl rfl Y29.h rfl Sz29 mM (by exact rfl) (by first|(simp[h32w,h32a,h32b,hlA,hlB];done)|assumption|(rw[Aa,La0];assumption)) ?_
    refine .lookG (fs:=im) evI MIK J J J J h32w mM (fun hg=>?_) (fun v hg=>?_)
    ·
      have hnw:ww∉ws:=hKI.no hg;refine .nei J J J J (show(!decide _)=false from congrArg not (decide_eq_true (rfl))) (.na (.cond_f J J (.skip (Bv (.sr (.m J J J ?_))))));first
        |refine Tr.lA rfl rfl rfl Y29.h rfl Sz29 mM (by first|(simp[h32w,h32a,h32b,hlA,hlB];done)|assumption|(rw[Aa,La0];assumption)) ?_
        |refine Tr.lN _ rfl rfl rfl Y29.h rfl Sz29 mM (by exact rfl) (by first|(simp[h32w,h32a,h32b,hlA,hlB];done)|assumption|(rw[Aa,La0];assumption)) ?_
      refine .mapPut (v:=(1:Int)) MIK J J J J J h32w rM ?_;refine .nsr (.m J J J ?_);first
        |refine Tr.lA rfl rfl rfl Y29.h rfl Sz29 mM (by first|(simp[h32w,h32a,h32b,hlA,hlB];done)|assumption|(rw[Aa,La0];assumption)) ?_
        |refine Tr.lN _ rfl rfl rfl Y29.h rfl Sz29 mM (by exact rfl) (by first|(simp[h32w,h32a,h32b,hlA,hlB];done)|assumption|(rw[Aa,La0];assumption)) ?_
      refine .call4 J J J J J Body8 (dag_ofG x hx hG p ww h32w) (fun w h=>Lies.of h iN) ?_;rintro v51 outO ⟨sO,rfl,hacO⟩;obtain⟨OF,hOF⟩:∃l,l=x.pl.of ww:=⟨_,rfl⟩;rw[←hOF]at hacO;have hnO:=hacO.num;have hOnd:OF.Nodup:=by rw[hOF];exact of_nd hG ww
      have hOm:∀n∈OF,∃D,Au x.pl.P n=some D∧D.w=ww:=fun n hn=>(of_mem hG).1 (hOF▸hn);have hO32:∀l∈OF,l.length=32:=fun l hl=>by obtain⟨D,hD,_⟩:=hOm l hl;exact P32 hx ⟨D,hD⟩
      have hOl:OF.length≤24:=by have:=of_lenP hx hG ww;rw[←hOF]at this;omega
      refine .a J J J (.nsr (.a J J J (.na (.block (.loop (ι:=Nat×Nat) (fun z=>⟨[(0,s.v),(3,ptr p 0),(4, .map (some m31)),(5,i64 (z.2:Int)),(6,i64 (i:Int)),(7,ptr n7 0),(8,sO.v),(9,i64 (z.1:Int))],(Az m31 (Ar 32 evI) (Bf im ww 1)::(⟨n7,Aa ww,29,(Aa (List.replicate 32 0)).length⟩::(outO++(x.blks p++[]))))⟩) (fun z=>z.1≤OF.length∧z.2=n+cI x.pl OF z.1∧z.2≤576*i+24*z.1) (fun z=>OF.length-z.1) ((0,n)) ?_ ?_ ?_)))))
      ·exact⟨Laj _,rfl,hnb⟩
      ·exact An wN (Ab rM (Ab rM (Ad sG (Ad sG Ak))))
      rintro⟨k,n1⟩ ⟨hk,hn1,hb1⟩;simp only at hk hn1 hb1 ⊢;refine .seq (.sr (.m J J J (.m J J J (.lenSl J J J Y32.h (.lss J J J J J (.na ?_))))));first
        |refine Sat.condP rfl (fun hc4=>?_) (fun hc4=>?_)
        |refine Sat.condNP rfl (fun hc4=>?_) (fun hc4=>?_)
        |refine Sat.cond rfl (fun hc4=>?_) (fun hc4=>?_)
      ·
        have hk2:k<OF.length:=by omega
        obtain⟨aa,haa⟩:∃n,n=OF.getD k []:=⟨_,rfl⟩;have hma:aa∈OF:=by rw[haa];exact getD_mem2 hk2
        clear h32a;have h32a:aa.length=32:=hO32 _ hma;obtain⟨bO,oO,hpO,seO⟩:=par_open hacO oM hO32;have hdl:(OF.drop (k+1)).length=OF.length-(k+1):=Lc0;refine .skip (Bv (.seq (.block (.sr (.m J J J (.m J J J (.m J J J (.idxSlP 32 J J J hpO J Y32.h Sz31 k J oM (.loadSN (n:=32) (Aa aa) J J J Y31.h J Sz31 (by rw[Aa,La0];exact h32a) (fun w h=>by rw[haa];exact seO w (Lies.of h iN) k oM) ?_)))))))));refine .call4 J J J J J Body9 (dag_get x hx hck p aa h32a) (fun w h=>Lies.of h iN) ?_;rintro v64 out64 (⟨h0,_⟩|⟨Da,Ba,hDa,hsBa,rfl,hbi64⟩)
        · exfalso
          obtain⟨D9,hD9,_⟩:=hOm aa hma;rw[h0]at hD9;cases hD9
        clear hlA;have hlA:Ba.fWriter.length=32:=hsBa.ok.l_fWriter;have hwa:Da.w=ww:=by obtain⟨D9,hD9,hw9⟩:=hOm aa hma;rw[hDa]at hD9;cases hD9;exact hw9
        refine .m J J J (.eX J J J J (.eX J J J J (.alloc (cs:=Block.zero.cells) J Block.zr J ?_)));intro n10 hn10 hf10;refine .sA J J J J (Block.isCell (by first|exact hsBa.ok|exact hsBb.ok|(simp[h32w,h32a,h32b,hlA,hlB];done)|exact oK|exact secrets.zero_ok|exact far.zero_ok|exact Rdr.zero_ok|exact DEnt.zero_ok|exact DPl.zero_ok )) Sz37 (Block.length (by first|exact hsBa.ok|exact hsBb.ok|(simp[h32w,h32a,h32b,hlA,hlB];done)|exact oK|exact secrets.zero_ok|exact far.zero_ok|exact Rdr.zero_ok|exact DEnt.zero_ok|exact DPl.zero_ok )) mM (Block.length (by first|exact hsBa.ok|exact hsBb.ok|(simp[h32w,h32a,h32b,hlA,hlB];done)|exact oK|exact secrets.zero_ok|exact far.zero_ok|exact Rdr.zero_ok|exact DEnt.zero_ok|exact DPl.zero_ok )) uU ?_;refine .a J J J (.na (.seq (.sr (.m J J J (.nei J J J J (show(!decide _)=false from congrArg not (decide_eq_true (rfl))) (.m J J J (.fld J J J Y37.h J Sz29 dE _ J ?_)))))));first
          |refine Tr.lN (Aa _) rfl rfl rfl Y29.h rfl Sz29 mM (Block.row_fWriter (by first|exact hsBa.ok|exact hsBb.ok|(simp[h32w,h32a,h32b,hlA,hlB];done)|exact oK|exact secrets.zero_ok|exact far.zero_ok|exact Rdr.zero_ok|exact DEnt.zero_ok|exact DPl.zero_ok )) (Block.rl_fWriter (by first|exact hsBa.ok|exact hsBb.ok|(simp[h32w,h32a,h32b,hlA,hlB];done)|exact oK|exact secrets.zero_ok|exact far.zero_ok|exact Rdr.zero_ok|exact DEnt.zero_ok|exact DPl.zero_ok )) ?_
        first
          |refine Tr.lA rfl rfl rfl Y29.h rfl Sz29 mM (by first|(simp[h32w,h32a,h32b,hlA,hlB];done)|assumption|(rw[Aa,La0];assumption)) ?_
          |refine Tr.lN _ rfl rfl rfl Y29.h rfl Sz29 mM (by exact rfl) (by first|(simp[h32w,h32a,h32b,hlA,hlB];done)|assumption|(rw[Aa,La0];assumption)) ?_
        refine .neq_bytes J J J J eqGuardType29 Y29.h Y5.h Sz5 (by first|(simp[h32w,h32a,h32b,hlA,hlB];done)|assumption|(rw[Aa,La0];assumption)) (by first|(simp[h32w,h32a,h32b,hlA,hlB];done)|assumption|(rw[Aa,La0];assumption)) (show(!decide _)=false from congrArg not (decide_eq_true (hsBa.w.trans hwa))) ?_;refine .pick J J J J J J (.na (.cond_f J J (.skip (Bv (.sr (.m J J J (.aI J J J J oM (.a J J J (.na (.block (.loop (ι:=Nat×Nat) (fun y=>⟨[(0,s.v),(3,ptr p 0),(4, .map (some m31)),(5,i64 (y.2:Int)),(6,i64 (i:Int)),(7,ptr n7 0),(8,sO.v),(9,i64 (k:Int)),(10,ptr n10 0),(12,i64 ((k+1+y.1:Nat):Int))],(Az m31 (Ar 32 evI) (Bf im ww 1)::(⟨n7,Aa ww,29,(Aa (List.replicate 32 0)).length⟩::(⟨n10,Ba.cells,37,131⟩::(out64++(outO++(x.blks p++[]))))))⟩) (fun y=>y.1≤(OF.drop (k+1)).length∧y.2=n1+cJ x.pl aa (OF.drop (k+1)) y.1∧y.2≤576*i+24*k+y.1) (fun y=>(OF.drop (k+1)).length-y.1) ((0,n1)) ?_ ?_ ?_)))))))))))
        ·exact⟨Laj _,rfl,hb1⟩
        ·exact An wN (Ab rM (Ab rM (Ab rM (Ad sG (Ad sG (Ad sG Ak))))))
        rintro⟨j,n2⟩ ⟨hj,hn2,hb2⟩;simp only at hj hn2 hb2 ⊢;refine .seq (.sr (.m J J J (.m J J J (.lenSl J J J Y32.h (.lss J J J J J (.na ?_))))));first
          |refine Sat.condP rfl (fun hc6=>?_) (fun hc6=>?_)
          |refine Sat.condNP rfl (fun hc6=>?_) (fun hc6=>?_)
          |refine Sat.cond rfl (fun hc6=>?_) (fun hc6=>?_)
        ·
          have hj2:j<(OF.drop (k+1)).length:=by omega
          obtain⟨bb,hbb⟩:∃n,n=(OF.drop (k+1)).getD j []:=⟨_,rfl⟩;have hbb2:bb=OF.getD (k+1+j) []:=by rw[hbb,drop_getD]
          have hmb:bb∈OF:=by rw[hbb2];exact getD_mem2 oM
          clear h32b;have h32b:bb.length=32:=hO32 _ hmb;refine .skip (Bv (.seq (.block (.sr (.m J J J (.m J J J (.m J J J (.idxSlP 32 J J J hpO J Y32.h Sz31 (k+1+j) J oM (.loadSN (n:=32) (Aa bb) J J J Y31.h J Sz31 (by rw[Aa,La0];exact h32b) (fun w h=>by rw[hbb2];exact seO w (Lies.of h iN) (k+1+j) oM) ?_)))))))));refine .call4 J J J J J Body9 (dag_get x hx hck p bb h32b) (fun w h=>Lies.of h iN) ?_;rintro v89 out89 (⟨h0,_⟩|⟨Db,Bb,hDb,hsBb,rfl,hbi89⟩)
          · exfalso
            obtain⟨D9,hD9,_⟩:=hOm bb hmb;rw[h0]at hD9;cases hD9
          clear hlB;have hlB:Bb.fWriter.length=32:=hsBb.ok.l_fWriter;have hqa:x.pl.sq aa=Ba.fSeq:=(sq_at hDa).trans hsBa.seq.symm;have hqb:x.pl.sq bb=Bb.fSeq:=(sq_at hDb).trans hsBb.seq.symm;have hcs:=of_sortG hOF hOnd (show k<k+1+j by omega) oM haa hbb2;rw[hqa,hqb]at hcs;have hcj:=cJ_step x.pl aa (OF.drop (k+1)) hj2 hbb;rw[hqa,hqb]at hcj;refine .m J J J (.eX J J J J (.eX J J J J (.alloc (cs:=Block.zero.cells) J Block.zr J ?_)));intro n13 hn13 hf13;refine .sA J J J J (Block.isCell (by first|exact hsBa.ok|exact hsBb.ok|(simp[h32w,h32a,h32b,hlA,hlB];done)|exact oK|exact secrets.zero_ok|exact far.zero_ok|exact Rdr.zero_ok|exact DEnt.zero_ok|exact DPl.zero_ok )) Sz37 (Block.length (by first|exact hsBa.ok|exact hsBb.ok|(simp[h32w,h32a,h32b,hlA,hlB];done)|exact oK|exact secrets.zero_ok|exact far.zero_ok|exact Rdr.zero_ok|exact DEnt.zero_ok|exact DPl.zero_ok )) mM (Block.length (by first|exact hsBa.ok|exact hsBb.ok|(simp[h32w,h32a,h32b,hlA,hlB];done)|exact oK|exact secrets.zero_ok|exact far.zero_ok|exact Rdr.zero_ok|exact DEnt.zero_ok|exact DPl.zero_ok )) uU ?_;refine .a J J J (.na (.seq (.seq (.draw (oPq [0,101,2,103,4,5,6,107,8,109,10,11,12,13,14,115,16,17,18,119,320,21,22,23]) Ap zK (.fld J J J Y37.h J Sz30 dE _ J (.load1 J J J Y30.h J mM (by first|exact Block.get_fSeq (by first|exact hsBa.ok|exact hsBb.ok|(simp[h32w,h32a,h32b,hlA,hlB];done)|exact oK|exact secrets.zero_ok|exact far.zero_ok|exact Rdr.zero_ok|exact DEnt.zero_ok|exact DPl.zero_ok )|exact(by first|rfl|exact Bl (by first|omega|(simp[h32w,h32a,h32b,hlA,hlB];omega))|exact Bl (by first|omega|(simp[h32w,h32a,h32b,hlA,hlB];omega))|exact Ch (by first|omega|(simp[h32w,h32a,h32b,hlA,hlB];done)|(simp[h32w,h32a,h32b,hlA,hlB];omega))|exact Br (by first|omega|(simp[h32w,h32a,h32b,hlA,hlB];done)|(simp[h32w,h32a,h32b,hlA,hlB];omega))|exact get_ints (by first|omega|(simp[h32w,h32a,h32b,hlA,hlB];done)|(simp[h32w,h32a,h32b,hlA,hlB];omega)))) ?_))))))
          refine .fld J J J Y37.h J Sz30 dE _ J (.load1 J J J Y30.h J mM (by first|exact Block.get_fSeq (by first|exact hsBa.ok|exact hsBb.ok|(simp[h32w,h32a,h32b,hlA,hlB];done)|exact oK|exact secrets.zero_ok|exact far.zero_ok|exact Rdr.zero_ok|exact DEnt.zero_ok|exact DPl.zero_ok )|exact(by first|rfl|exact Bl (by first|omega|(simp[h32w,h32a,h32b,hlA,hlB];omega))|exact Bl (by first|omega|(simp[h32w,h32a,h32b,hlA,hlB];omega))|exact Ch (by first|omega|(simp[h32w,h32a,h32b,hlA,hlB];done)|(simp[h32w,h32a,h32b,hlA,hlB];omega))|exact Br (by first|omega|(simp[h32w,h32a,h32b,hlA,hlB];done)|(simp[h32w,h32a,h32b,hlA,hlB];omega))|exact get_ints (by first|omega|(simp[h32w,h32a,h32b,hlA,hlB];done)|(simp[h32w,h32a,h32b,hlA,hlB];omega)))) ?_);refine .lss J J J J (decide_eq_false oM) (.m J J J (.fld J J J Y37.h J Sz30 dE _ J (.load1 J J J Y30.h J mM (by first|exact Block.get_fSeq (by first|exact hsBa.ok|exact hsBb.ok|(simp[h32w,h32a,h32b,hlA,hlB];done)|exact oK|exact secrets.zero_ok|exact far.zero_ok|exact Rdr.zero_ok|exact DEnt.zero_ok|exact DPl.zero_ok )|exact(by first|rfl|exact Bl (by first|omega|(simp[h32w,h32a,h32b,hlA,hlB];omega))|exact Bl (by first|omega|(simp[h32w,h32a,h32b,hlA,hlB];omega))|exact Ch (by first|omega|(simp[h32w,h32a,h32b,hlA,hlB];done)|(simp[h32w,h32a,h32b,hlA,hlB];omega))|exact Br (by first|omega|(simp[h32w,h32a,h32b,hlA,hlB];done)|(simp[h32w,h32a,h32b,hlA,hlB];omega))|exact get_ints (by first|omega|(simp[h32w,h32a,h32b,hlA,hlB];done)|(simp[h32w,h32a,h32b,hlA,hlB];omega)))) ?_)));refine .fld J J J Y37.h J Sz30 dE _ J (.load1 J J J Y30.h J mM (by first|exact Block.get_fSeq (by first|exact hsBa.ok|exact hsBb.ok|(simp[h32w,h32a,h32b,hlA,hlB];done)|exact oK|exact secrets.zero_ok|exact far.zero_ok|exact Rdr.zero_ok|exact DEnt.zero_ok|exact DPl.zero_ok )|exact(by first|rfl|exact Bl (by first|omega|(simp[h32w,h32a,h32b,hlA,hlB];omega))|exact Bl (by first|omega|(simp[h32w,h32a,h32b,hlA,hlB];omega))|exact Ch (by first|omega|(simp[h32w,h32a,h32b,hlA,hlB];done)|(simp[h32w,h32a,h32b,hlA,hlB];omega))|exact Br (by first|omega|(simp[h32w,h32a,h32b,hlA,hlB];done)|(simp[h32w,h32a,h32b,hlA,hlB];omega))|exact get_ints (by first|omega|(simp[h32w,h32a,h32b,hlA,hlB];done)|(simp[h32w,h32a,h32b,hlA,hlB];omega)))) ?_);refine two (fun r hr k=>Tr.eqi J J J J hr k) (fun hs25_100=>?_) (fun hs25_100=>?_)
          ·
            first|have hs25_10:=of_decide_eq_true hs25_100|have hs25_10:=of_decide_eq_false hs25_100|have hs25_10:=nd_t hs25_100|have hs25_10:=nd_f hs25_100|have hs25_10:=hs25_100
            refine .m J J J (.m J J J (.m J J J (.idxSlP 32 J J J hpO J Y32.h Sz31 k J oM (.loadSN (n:=32) (Aa aa) J J J Y31.h J Sz31 (by rw[Aa,La0];exact h32a) (fun w h=>by rw[haa];exact seO w (Lies.of h iN) k oM) ?_))));refine .m J J J (.m J J J (.idxSlP 32 J J J hpO J Y32.h Sz31 (k+1+j) J oM (.loadSN (n:=32) (Aa bb) J J J Y31.h J Sz31 (by rw[Aa,La0];exact h32b) (fun w h=>by rw[hbb2];exact seO w (Lies.of h iN) (k+1+j) oM) ?_)));refine .cV J J J J Body10 (r15_cmp aa bb h32a h32b) tV (.geq J J J J (decide_eq_false oM) (.pick J J J J J J (.pick J J J J J J (.na (.cond_f J J (.skip (Bv (.sr (.fld J J J Y37.h J Sz30 dE _ J (.load1 J J J Y30.h J mM (by first|exact Block.get_fSeq (by first|exact hsBa.ok|exact hsBb.ok|(simp[h32w,h32a,h32b,hlA,hlB];done)|exact oK|exact secrets.zero_ok|exact far.zero_ok|exact Rdr.zero_ok|exact DEnt.zero_ok|exact DPl.zero_ok )|exact(by first|rfl|exact Bl (by first|omega|(simp[h32w,h32a,h32b,hlA,hlB];omega))|exact Bl (by first|omega|(simp[h32w,h32a,h32b,hlA,hlB];omega))|exact Ch (by first|omega|(simp[h32w,h32a,h32b,hlA,hlB];done)|(simp[h32w,h32a,h32b,hlA,hlB];omega))|exact Br (by first|omega|(simp[h32w,h32a,h32b,hlA,hlB];done)|(simp[h32w,h32a,h32b,hlA,hlB];omega))|exact get_ints (by first|omega|(simp[h32w,h32a,h32b,hlA,hlB];done)|(simp[h32w,h32a,h32b,hlA,hlB];omega)))) ?_))))))))));refine .fld J J J Y37.h J Sz30 dE _ J (.load1 J J J Y30.h J mM (by first|exact Block.get_fSeq (by first|exact hsBa.ok|exact hsBb.ok|(simp[h32w,h32a,h32b,hlA,hlB];done)|exact oK|exact secrets.zero_ok|exact far.zero_ok|exact Rdr.zero_ok|exact DEnt.zero_ok|exact DPl.zero_ok )|exact(by first|rfl|exact Bl (by first|omega|(simp[h32w,h32a,h32b,hlA,hlB];omega))|exact Bl (by first|omega|(simp[h32w,h32a,h32b,hlA,hlB];omega))|exact Ch (by first|omega|(simp[h32w,h32a,h32b,hlA,hlB];done)|(simp[h32w,h32a,h32b,hlA,hlB];omega))|exact Br (by first|omega|(simp[h32w,h32a,h32b,hlA,hlB];done)|(simp[h32w,h32a,h32b,hlA,hlB];omega))|exact get_ints (by first|omega|(simp[h32w,h32a,h32b,hlA,hlB];done)|(simp[h32w,h32a,h32b,hlA,hlB];omega)))) ?_);refine .eqi J J J J (decide_eq_true oM) (.na (.cond_t J J (.region (.m J J J (.aI J J J J oM (.a J J J (.nil (bl_n (Bv (.region (.m J J J (.aI J J J J oM (.a J J J (.na ?_))))))))))))));exact⟨(j+1,n2+1),⟨by simp only;omega,by simp only;rw[hcj,if_pos (u64_eqN.2 oM)];omega,by simp only;omega⟩,by simp only;omega,An wN (Ab rM (Ab rM (Ab rM (Ad sG (Ad sG (Ad sG Ak))))))⟩
          first|have hs25_10:=of_decide_eq_true hs25_100|have hs25_10:=of_decide_eq_false hs25_100|have hs25_10:=nd_t hs25_100|have hs25_10:=nd_f hs25_100|have hs25_10:=hs25_100
          refine .m J J J (.skp J J (.skp J J (.skp J J (.skp J J (.skp J J (.skp J J (.skp J J (.skp J J (.skp J J (.skp J J (.pick J J J J J J (.pick J J J J J J (.na (.cond_f J J (.skip (Bv (.sr (.fld J J J Y37.h J Sz30 dE _ J (.load1 J J J Y30.h J mM (by first|exact Block.get_fSeq (by first|exact hsBa.ok|exact hsBb.ok|(simp[h32w,h32a,h32b,hlA,hlB];done)|exact oK|exact secrets.zero_ok|exact far.zero_ok|exact Rdr.zero_ok|exact DEnt.zero_ok|exact DPl.zero_ok )|exact(by first|rfl|exact Bl (by first|omega|(simp[h32w,h32a,h32b,hlA,hlB];omega))|exact Bl (by first|omega|(simp[h32w,h32a,h32b,hlA,hlB];omega))|exact Ch (by first|omega|(simp[h32w,h32a,h32b,hlA,hlB];done)|(simp[h32w,h32a,h32b,hlA,hlB];omega))|exact Br (by first|omega|(simp[h32w,h32a,h32b,hlA,hlB];done)|(simp[h32w,h32a,h32b,hlA,hlB];omega))|exact get_ints (by first|omega|(simp[h32w,h32a,h32b,hlA,hlB];done)|(simp[h32w,h32a,h32b,hlA,hlB];omega)))) ?_)))))))))))))))))));refine .fld J J J Y37.h J Sz30 dE _ J (.load1 J J J Y30.h J mM (by first|exact Block.get_fSeq (by first|exact hsBa.ok|exact hsBb.ok|(simp[h32w,h32a,h32b,hlA,hlB];done)|exact oK|exact secrets.zero_ok|exact far.zero_ok|exact Rdr.zero_ok|exact DEnt.zero_ok|exact DPl.zero_ok )|exact(by first|rfl|exact Bl (by first|omega|(simp[h32w,h32a,h32b,hlA,hlB];omega))|exact Bl (by first|omega|(simp[h32w,h32a,h32b,hlA,hlB];omega))|exact Ch (by first|omega|(simp[h32w,h32a,h32b,hlA,hlB];done)|(simp[h32w,h32a,h32b,hlA,hlB];omega))|exact Br (by first|omega|(simp[h32w,h32a,h32b,hlA,hlB];done)|(simp[h32w,h32a,h32b,hlA,hlB];omega))|exact get_ints (by first|omega|(simp[h32w,h32a,h32b,hlA,hlB];done)|(simp[h32w,h32a,h32b,hlA,hlB];omega)))) ?_);refine .eqi J J J J (decide_eq_false oM) (.na (.cond_f J J (.skip (bl_n (Bv (.region (.m J J J (.aI J J J J oM (.a J J J (.na ?_))))))))));exact⟨(j+1,n2),⟨by simp only;omega,by simp only;rw[hcj,if_neg (fun e=>by have:=u64_eqN.1 e;omega)];omega,by simp only;omega⟩,by simp only;omega,An wN (Ab rM (Ab rM (Ab rM (Ad sG (Ad sG (Ad sG Ak))))))⟩
        have hje:j=(OF.drop (k+1)).length:=by omega
        refine .exit (at_x (at_x (bl_h (bl_n (Bv (.region (.m J J J (.aI J J J J oM (.a J J J (.na ?_))))))))));exact⟨(k+1,n2),⟨by simp only;omega,by simp only;rw[cI_step,←haa,←Lc7,←hn1,←hje];exact hn2,by simp only;omega⟩,by simp only;omega,An wN (Ab rM (Ab rM (Ad sG (Ad sG Ak))))⟩
      have hke:k=OF.length:=by omega
      refine .exit (at_x (at_x (bl_h (bl_n (Bv (.region (.m J J J (.aI J J J J oM (.a J J J (.na ?_))))))))));exact⟨(i+1,Bf im ww 1,ws++[ww],n1),⟨by simp only;omega,hKI.put h32w fun k=>by rw[Lac,La1],nd_snoc hwd hnw,fun d9 hd9=>by simp only at hd9 ⊢;rw[take_snoc hd]at hd9;rcases Lac.1 hd9 with h|h;exact Lax _ (hwa0 d9 h);rw[La1.1 h,←hww];simp,by simp only;rw[gwN_snoc,←hgn,←hOF,←hke];exact hn1,by simp only;omega⟩,by simp only;omega,An wN (Ab rM (Ad sG Ak))⟩
    obtain⟨rfl,hin⟩:=hKI.yes hg;refine .nei J J J J (show(!decide _)=true from congrArg not (decide_eq_false dE)) (.na (.cond_t J J (.exit (at_x (bl_h (Bv (.region (.m J J J (.aI J J J J oM (.a J J J (.na ?_)))))))))));exact⟨(i+1,im,ws,n),⟨by simp only;omega,hKI,hwd,fun d9 hd9=>by simp only at hd9 ⊢;rw[take_snoc hd]at hd9;rcases Lac.1 hd9 with h|h;exact hwa0 d9 h;rw[La1.1 h,←hww];exact hin,hgn,by simp only;omega⟩,by simp only;omega,An wN (Ab rM (Ad sG Ak))⟩
  have hie:i=s.n:=by omega
  have hall:∀n D,Au x.pl.P n=some D→D.w∈ws:=fun n D hD=>hwa0 D (by rw[La7 oM];exact hS.1 _ (Bs hD));refine .exit (at_x (at_x (bl_h (Bv (.sr (.m J J J (.call4 J J J J J Body11 (dag_forksG x hx hG p (frk_lenP hx hG hn24)) (fun w h=>Lies.of h iN) ?_)))))));rintro v124 outF ⟨sF,F,rfl,hpF,hacF⟩;have hFl:F.length=n:=by rw[hpF.length_eq,hgn];exact(gws_len hG hwd hall).symm
  have hFm:∀q∈F,x.pl.Frk q:=fun q hq=>(frk_mem hG).1 (hpF.mem_iff.1 hq);have hFd:F.Nodup:=hpF.nodup_iff.2 (frk_nd hG);have hF32:∀q∈F,q.1.length=32∧q.2.length=32:=fun q hq=>by obtain⟨D,E,hD,hE,_⟩:=hFm q hq;exact⟨P32 hx ⟨D,hD⟩,P32 hx ⟨E,hE⟩⟩
  have hnF:=hacF.num;refine .a J J J (.na (.seq (.sr (.a J J J (.na (.block (.loop (ι:=Nat) (fun i3=>⟨[(3,ptr p 0),(5,i64 (n:Int)),(15,sF.v),(16,i64 (i3:Int))],(outF++(x.blks p++[]))⟩) (fun i3=>i3≤F.length) (fun i3=>F.length-i3) (0) ?_ ?_ ?_)))))))
  ·exact Laj _
  ·exact An wN (Ad sG (Ad sG Ak))
  rintro i3 hi3;refine .seq (.sr (.m J J J (.m J J J (.lenSl J J J Y43.h (.lss J J J J J (.na ?_))))));first
    |refine Sat.condP rfl (fun hc9=>?_) (fun hc9=>?_)
    |refine Sat.condNP rfl (fun hc9=>?_) (fun hc9=>?_)
    |refine Sat.cond rfl (fun hc9=>?_) (fun hc9=>?_)
  ·
    have hi4:i3<F.length:=by omega
    obtain⟨pr,hpr⟩:∃q,F[i3]? =some q:=⟨_,La4 hi4⟩;have hpm:=Lbs hpr;have hr32:=hF32 pr hpm;clear h32a h32b;have h32a:pr.1.length=32:=hr32.1;have h32b:pr.2.length=32:=hr32.2;obtain⟨bX,oX,hpX,seX⟩:=fork_open hacF oM hF32;obtain⟨fD,fE,hfD,hfE,hfw,hfs,hfc⟩:=hFm pr hpm;refine .skip (Bv (.seq (.block (.sr (.m J J J (.m J J J (.m J J J (.idxSlP 64 J J J hpX J Y43.h Sz46 i3 J oM (.fld J J J underlying46 J Sz31 dE _ J (.loadSN (n:=32) (Aa pr.1) J J J Y31.h J Sz31 (by rw[Aa,La0];exact h32a) (fun w h=>(seX w (Lies.of h iN) i3 pr hpr).1) ?_))))))))));refine .call4 J J J J J Body9 (dag_get x hx hck p pr.1 h32a) (fun w h=>Lies.of h iN) ?_;rintro v138 out138 (⟨h0,_⟩|⟨Da,Ba,hDa,hsBa,rfl,hbi138⟩)
    · exfalso
      obtain⟨D9,hD9,_⟩:=(⟨fD,hfD,rfl⟩:∃D,Au x.pl.P pr.1=some D∧D=fD);rw[h0]at hD9;cases hD9
    clear hlA;have hlA:Ba.fWriter.length=32:=hsBa.ok.l_fWriter;obtain rfl:Da=fD:=by rw[hfD]at hDa;exact(Lep hDa).symm
    refine .m J J J (.eX J J J J (.eX J J J J (.alloc (cs:=Block.zero.cells) J Block.zr J ?_)));intro n17 hn17 hf17;refine .sA J J J J (Block.isCell (by first|exact hsBa.ok|exact hsBb.ok|(simp[h32w,h32a,h32b,hlA,hlB];done)|exact oK|exact secrets.zero_ok|exact far.zero_ok|exact Rdr.zero_ok|exact DEnt.zero_ok|exact DPl.zero_ok )) Sz37 (Block.length (by first|exact hsBa.ok|exact hsBb.ok|(simp[h32w,h32a,h32b,hlA,hlB];done)|exact oK|exact secrets.zero_ok|exact far.zero_ok|exact Rdr.zero_ok|exact DEnt.zero_ok|exact DPl.zero_ok )) mM (Block.length (by first|exact hsBa.ok|exact hsBb.ok|(simp[h32w,h32a,h32b,hlA,hlB];done)|exact oK|exact secrets.zero_ok|exact far.zero_ok|exact Rdr.zero_ok|exact DEnt.zero_ok|exact DPl.zero_ok )) uU ?_;refine .a J J J (.nsr (.m J J J (.m J J J (.m J J J (.idxSlP 64 J J J hpX J Y43.h Sz46 i3 J oM (.fld J J J underlying46 J Sz31 dE _ J (.loadSN (n:=32) (Aa pr.2) J J J Y31.h J Sz31 (by rw[Aa,La0];exact h32b) (fun w h=>(seX w (Lies.of h iN) i3 pr hpr).2.1) ?_)))))));refine .call4 J J J J J Body9 (dag_get x hx hck p pr.2 h32b) (fun w h=>Lies.of h iN) ?_;rintro v148 out148 (⟨h0,_⟩|⟨Db,Bb,hDb,hsBb,rfl,hbi148⟩)
    · exfalso
      obtain⟨D9,hD9,_⟩:=(⟨fE,hfE,rfl⟩:∃D,Au x.pl.P pr.2=some D∧D=fE);rw[h0]at hD9;cases hD9
    clear hlB;have hlB:Bb.fWriter.length=32:=hsBb.ok.l_fWriter;obtain rfl:Db=fE:=by rw[hfE]at hDb;exact(Lep hDb).symm
    refine .m J J J (.eX J J J J (.eX J J J J (.alloc (cs:=Block.zero.cells) J Block.zr J ?_)));intro n19 hn19 hf19;refine .sA J J J J (Block.isCell (by first|exact hsBa.ok|exact hsBb.ok|(simp[h32w,h32a,h32b,hlA,hlB];done)|exact oK|exact secrets.zero_ok|exact far.zero_ok|exact Rdr.zero_ok|exact DEnt.zero_ok|exact DPl.zero_ok )) Sz37 (Block.length (by first|exact hsBa.ok|exact hsBb.ok|(simp[h32w,h32a,h32b,hlA,hlB];done)|exact oK|exact secrets.zero_ok|exact far.zero_ok|exact Rdr.zero_ok|exact DEnt.zero_ok|exact DPl.zero_ok )) mM (Block.length (by first|exact hsBa.ok|exact hsBb.ok|(simp[h32w,h32a,h32b,hlA,hlB];done)|exact oK|exact secrets.zero_ok|exact far.zero_ok|exact Rdr.zero_ok|exact DEnt.zero_ok|exact DPl.zero_ok )) uU ?_;refine .a J J J (.na (.seq (.seq (.draw (oPq [0,1,2,3,4,5,6,7,108,9,110,11,12,13,14,115,16,117,18,19,20,21,22,23,24,125,26,27,28,29,130,331,32,33]) Ap zK (.m J J J (.nei J J J J (show(!decide _)=false from congrArg not (decide_eq_true (rfl))) (.m J J J (.m J J J (.nei J J J J (show(!decide _)=false from congrArg not (decide_eq_true (rfl))) (.pick J J J J J J (.m J J J (.fld J J J Y37.h J Sz29 dE _ J ?_))))))))))));first
      |refine Tr.lN (Aa _) rfl rfl rfl Y29.h rfl Sz29 mM (Block.row_fWriter (by first|exact hsBa.ok|exact hsBb.ok|(simp[h32w,h32a,h32b,hlA,hlB];done)|exact oK|exact secrets.zero_ok|exact far.zero_ok|exact Rdr.zero_ok|exact DEnt.zero_ok|exact DPl.zero_ok )) (Block.rl_fWriter (by first|exact hsBa.ok|exact hsBb.ok|(simp[h32w,h32a,h32b,hlA,hlB];done)|exact oK|exact secrets.zero_ok|exact far.zero_ok|exact Rdr.zero_ok|exact DEnt.zero_ok|exact DPl.zero_ok )) ?_
    refine .fld J J J Y37.h J Sz29 dE _ J ?_;first
      |refine Tr.lN (Aa _) rfl rfl rfl Y29.h rfl Sz29 mM (Block.row_fWriter (by first|exact hsBa.ok|exact hsBb.ok|(simp[h32w,h32a,h32b,hlA,hlB];done)|exact oK|exact secrets.zero_ok|exact far.zero_ok|exact Rdr.zero_ok|exact DEnt.zero_ok|exact DPl.zero_ok )) (Block.rl_fWriter (by first|exact hsBa.ok|exact hsBb.ok|(simp[h32w,h32a,h32b,hlA,hlB];done)|exact oK|exact secrets.zero_ok|exact far.zero_ok|exact Rdr.zero_ok|exact DEnt.zero_ok|exact DPl.zero_ok )) ?_
    refine .neq_bytes J J J J eqGuardType29 Y29.h Y5.h Sz5 (by first|(simp[h32w,h32a,h32b,hlA,hlB];done)|assumption|(rw[Aa,La0];assumption)) (by first|(simp[h32w,h32a,h32b,hlA,hlB];done)|assumption|(rw[Aa,La0];assumption)) (show(!decide _)=false from congrArg not (decide_eq_true (hsBa.w.trans (hfw.trans hsBb.w.symm)))) ?_;refine .pick J J J J J J (.m J J J (.fld J J J Y37.h J Sz30 dE _ J (.load1 J J J Y30.h J mM (by first|exact Block.get_fSeq (by first|exact hsBa.ok|exact hsBb.ok|(simp[h32w,h32a,h32b,hlA,hlB];done)|exact oK|exact secrets.zero_ok|exact far.zero_ok|exact Rdr.zero_ok|exact DEnt.zero_ok|exact DPl.zero_ok )|exact(by first|rfl|exact Bl (by first|omega|(simp[h32w,h32a,h32b,hlA,hlB];omega))|exact Bl (by first|omega|(simp[h32w,h32a,h32b,hlA,hlB];omega))|exact Ch (by first|omega|(simp[h32w,h32a,h32b,hlA,hlB];done)|(simp[h32w,h32a,h32b,hlA,hlB];omega))|exact Br (by first|omega|(simp[h32w,h32a,h32b,hlA,hlB];done)|(simp[h32w,h32a,h32b,hlA,hlB];omega))|exact get_ints (by first|omega|(simp[h32w,h32a,h32b,hlA,hlB];done)|(simp[h32w,h32a,h32b,hlA,hlB];omega)))) ?_)));refine .fld J J J Y37.h J Sz30 dE _ J (.load1 J J J Y30.h J mM (by first|exact Block.get_fSeq (by first|exact hsBa.ok|exact hsBb.ok|(simp[h32w,h32a,h32b,hlA,hlB];done)|exact oK|exact secrets.zero_ok|exact far.zero_ok|exact Rdr.zero_ok|exact DEnt.zero_ok|exact DPl.zero_ok )|exact(by first|rfl|exact Bl (by first|omega|(simp[h32w,h32a,h32b,hlA,hlB];omega))|exact Bl (by first|omega|(simp[h32w,h32a,h32b,hlA,hlB];omega))|exact Ch (by first|omega|(simp[h32w,h32a,h32b,hlA,hlB];done)|(simp[h32w,h32a,h32b,hlA,hlB];omega))|exact Br (by first|omega|(simp[h32w,h32a,h32b,hlA,hlB];done)|(simp[h32w,h32a,h32b,hlA,hlB];omega))|exact get_ints (by first|omega|(simp[h32w,h32a,h32b,hlA,hlB];done)|(simp[h32w,h32a,h32b,hlA,hlB];omega)))) ?_);refine .nei J J J J (show(!decide _)=false from congrArg not (decide_eq_true (by rw[hsBa.seq,hsBb.seq,hfs]))) ?_;refine .pick J J J J J J (.m J J J (.m J J J (.m J J J (.idxSlP 64 J J J hpX J Y43.h Sz46 i3 J oM (.fld J J J underlying46 J Sz31 dE _ J (.loadSN (n:=32) (Aa pr.1) J J J Y31.h J Sz31 (by rw[Aa,La0];exact h32a) (fun w h=>(seX w (Lies.of h iN) i3 pr hpr).1) ?_))))));refine .m J J J (.m J J J (.idxSlP 64 J J J hpX J Y43.h Sz46 i3 J oM (.fld J J J underlying46 J Sz31 dE _ J (.loadSN (n:=32) (Aa pr.2) J J J Y31.h J Sz31 (by rw[Aa,La0];exact h32b) (fun w h=>(seX w (Lies.of h iN) i3 pr hpr).2.1) ?_))))
    refine .cV J J J J Body10 (r15_cmp pr.1 pr.2 h32a h32b) tV (.geq J J J J (decide_eq_false oM) (.pick J J J J J J (.na (.cond_f J J (.skip (Bv (.sr (.a J J J (.na (.block (.loop (ι:=Nat) (fun k4=>⟨[(3,ptr p 0),(5,i64 (n:Int)),(15,sF.v),(16,i64 (i3:Int)),(21,i64 (k4:Int))],(outF++(x.blks p++[]))⟩) (fun k4=>k4≤i3) (fun k4=>i3-k4) (0) ?_ ?_ ?_)))))))))))
    ·exact Laj _
    ·exact An wN (Ad sG (Ad sG Ak))
    rintro k4 hk4;refine .seq (.sr (.m J J J (.m J J J (.lss J J J J J (.na ?_)))));first
      |refine Sat.condP rfl (fun hc11=>?_) (fun hc11=>?_)
      |refine Sat.condNP rfl (fun hc11=>?_) (fun hc11=>?_)
      |refine Sat.cond rfl (fun hc11=>?_) (fun hc11=>?_)
    ·
      have hk4b:k4<i3:=by omega
      obtain⟨pk,hpk⟩:∃q,F[k4]? =some q:=⟨_,La4 oM⟩;have hk32:=hF32 pk (Lbs hpk);refine .skip (Bv (.seq (.block (.seq (.draw (oPq [0,1,2,103,4,5,6,107,8]) Ap zK (.m J J J (.m J J J (.idxSlP 64 J J J hpX J Y43.h Sz46 k4 J oM (.loadSN (n:=64) (⟨pk.1,pk.2⟩:Fork).cells J J J underlying46 J Sz46 (Fork.length (Fork.ok' hk32)) (fun w h=>(seX w (Lies.of h iN) k4 pk hpk).2.2) ?_)))))))));refine .m J J J (.m J J J (.idxSlP 64 J J J hpX J Y43.h Sz46 i3 J oM (.loadSN (n:=64) (⟨pr.1,pr.2⟩:Fork).cells J J J underlying46 J Sz46 (Fork.length (Fork.ok' hr32)) (fun w h=>(seX w (Lies.of h iN) i3 pr hpr).2.2) ?_)));refine .eql_rec J J J J Fork.eg (fun w=>Fork.eq_runC (Fork.ok' hk32) (Fork.ok' hr32) w) (@decide_eq_false _ (Classical.propDecidable _) (fk_ne hFd hk4b hpk hpr)) (.na (.cond_f J J (.skip (bl_n (Bv (.region (.m J J J (.aI J J J J oM (.a J J J (.na ?_))))))))));exact⟨k4+1,by omega,by omega,An wN (Ad sG (Ad sG Ak))⟩
    refine .exit (at_x (at_x (bl_h (bl_n (Bv (.region (.m J J J (.aI J J J J oM (.a J J J (.na ?_))))))))));exact⟨i3+1,by omega,by omega,An wN (Ad sG (Ad sG Ak))⟩
  have hie3:i3=F.length:=by omega
  refine .exit (at_x (at_x (bl_h (Bv (.sr (.m J J J (.call4 J J J J J Body12 (dag_names x hx p) (fun w h=>Lies.of h iN) ?_)))))));rintro v200 outN ⟨sN,rfl,hacN⟩;have hnN:sN.n=x.names.length:=hacN.num;refine .m J J J (.call4 J J J J J Body13 (dag_orphans x hx p) (fun w h=>Lies.of h iN) ?_);rintro v202 out202 ⟨s202,rfl,hac202⟩;have hn202:=hac202.num;have hol:x.pl.orphans.length=x.orp.length:=by unfold PD.orphans;rw[(Cm _).length_eq];simp[DD.pl]
  refine .lenSl J J J Y32.h (.a J J J (.a J J J (.nsr (.m J J J (.lenSl J J J Y43.h (.m J J J (.eqi J J J J (decide_eq_true oM) (.m J J J (.m J J J (.callL (L:=(x.blks p)) J J J J J Body14 (dag_drop x hx p) sG (lent_ok J) (fun w h=>Lent.of h sG) ?_))))))))));rintro v210 out210 ⟨rfl,rfl⟩;have hx2:=drop_ok hx;refine .m J J J (.eqi J J J J (decide_eq_true oM) (.pick J J J J J J (.m J J J (.m J J J (.call4 J J J J J Body13 (dag_orphans _ hx2 p) (fun w h=>Lies.of h iN) ?_)))));rintro v216 out216 ⟨s216,rfl,hac216⟩;have hn216:s216.n=0:=hac216.num;refine .lenSl J J J Y32.h (.eqi J J J J (decide_eq_true oM) (.pick J J J J J J (.m J J J (.m J J J (.call4 J J J J J Body15 (dag_missing _ hx2 p) (fun w h=>Lies.of h iN) ?_)))));rintro v222 out222 ⟨s222,rfl,hac222⟩;have hn222:s222.n=0:=hac222.num;refine .lenSl J J J Y32.h (.eqi J J J J (decide_eq_true oM) (.pick J J J J J J (.m J J J (.m J J J (.call4 J J J J J Body12 (dag_names _ hx2 p) (fun w h=>Lies.of h iN) ?_)))));rintro v228 out228 ⟨s228,rfl,hac228⟩;have hn228:s228.n=x.names.length:=hac228.num;refine .m J J J (.cV J J J J Body16 (digs_same s228.p sN.p s228.n sN.n s228.c sN.c x.names hx.n32 hn228.symm hnN.symm oM) (fun w h=>⟨hac228.see (Lies.of h iN),hacN.see (Lies.of h iN)⟩) ?_);refine .pick J J J J J J (.a J J J (.na ?_));refine .ret (en_r (A3 (out:=[]) (Al J J) Ak ?_));exact⟨rfl,rfl⟩
end Go.Proofs.YtbdfihcjddbhaaaGreat
namespace Go.Proofs.YtbdfihcjddbhaaaGreat
open Go Go.ChangeShapes Go.WideShapes Go.ChangeAt Go.RowKit
theorem ownDFrk:ownKnob Tryz.prog.godebug=none:=by kernel_rfl
theorem laidOutDFrk:laidOutB Tryz.prog=true:=by kernel_rfl
theorem openSqDFrkBlock{H:Type}{enc:TypeId×Value→H}{W:World}{base:Nat}{sp:Nat→Bool}{held:Bool}{k:TypeId}(hu:Tryz.prog.underlying k=some (.slice 37))(hc:Tryz.prog.cellsOf 37=131){r:Reach}{b0:Nat}{v:Value}{d:DataW H}{ps:List MemPlace}
    (hval:Value.okWide Tryz.prog W r b0 k v) (hd:DataW.Trod enc Tryz.prog W base sp held k v d ps):∃s l,v=Hw.Sl.v s∧BlocksAt W s l:=by
  simp only[Value.okWide,hu,Cell.okWide]at hval;obtain⟨a1,len,cap,rfl⟩:∃a1 len cap,v= .slice a1 len cap:=by
    unfold Cell.ok at hval;rw[hu]at hval;split at hval<;>first|exact hval.elim|exact⟨_,_,_,rfl⟩|simp_all
  obtain⟨fuel,hf⟩:=hd;obtain⟨s,l,h1,h2⟩:=Block.openS hu hc hf;refine⟨s,l,?_,h2⟩;simp[Value.cells]at h1;exact h1
theorem walkDFrk(w:World)(s0:Hw.Sl)(l0:List DB)(hs0:BlocksAt w s0 l0):Calls Tryz.prog 3 #[Hw.Sl.v s0] w fun e w'=>e= .returned (.bool true)∧Below w.heap.size w w':=
  by
  have fin:∀ {us:Array Value},Calls Tryz.prog 3 us w (fun e W'=>∃v out,e= .returned v∧(v= .bool true∧out=[])∧Hw.Ret [] out w W')→Calls Tryz.prog 3 us w (fun e w'=>e= .returned (.bool true)∧Below w.heap.size w w'):=
    fun h=>h.mono fun e w' ⟨v,out,he,⟨hv,ho⟩,hr⟩=>⟨by rw[he,hv],Hw.Keeps.below hr.keeps⟩
  exact fin (law_dagforks s0 l0 w hs0)
theorem liftedDFrk(os:Os)(started:os.Started)(H:Type)(enc:TypeId×Value→H):
    ReturnsInHanded {} Tryz.checked os 3 .any (Rows.dagForksSpec.pre6 enc Tryz.prog Tryz.f3 Rows.dagForksRow.domain false) (Rows.dagForksSpec.post enc Tryz.prog Tryz.f3 false true false false):=by
  refine returnsInHanded_of_change (C:=Tryz.checked) ownDFrk started (by kernel_rfl) Tryz.func3
    (ChangeSpec.witness6 (enc:=enc) (C:=Tryz.checked) false ⟨#[], #[.slice none 0 0],[]⟩ 8 (by kernel_rfl) (by kernel_rfl) (by kernel_rfl) (by kernel_rfl)) ?_
  intro W base args ds gs before hval0 hW hcnd _;have hval:∀(j:Nat) t v,Tryz.f3.params[j]? =some t→args[j]? =some v→Value.okWide Tryz.prog W .any base t v:=hval0;have hW':=hW;obtain⟨p,q,hA0,hV,rfl,hfz,hnd⟩:=hW;have hA:DataW.TrodAll enc Tryz.prog W 0 (fun _=>true) true Tryz.f3.params.toList args.toList ds p:=hA0;rw[Tryz.params3]at hA hval;obtain⟨v0,vs0,d0,ds0,p0,q0,hargs,rfl,rfl,h0,r0⟩:=trodAll_cons hA;obtain⟨rfl,rfl,rfl⟩:=trodAll_nil r0;obtain rfl:args= #[v0]:=by cases args;simp_all
  obtain⟨rfl,rfl⟩:=trodVars_none hV;have k0:=h0;have lt0:∀x∈p0,x.block<W.heap.size:=by obtain⟨m,hm⟩:=k0;exact DataW.trod_lt m _ _ _ hm
  obtain⟨s0,l0,rfl,hs0⟩:=openSqDFrkBlock Tryz.underlying22 (by kernel_rfl) (hval 0 22 v0 rfl rfl) h0;clear hA0 hval0;refine(walkDFrk W s0 l0 hs0).mono fun e W' ⟨he,bel⟩=>?_;subst he;exact⟨_,rfl,_,_,_,[],_,[],hW',trodAll_mk1 (shut_bool Tryz.underlying4 _),(trodAll_cons_mk (Below.trod laidOutDFrk (by kernel_rfl) (of_decide_eq_true (by kernel_rfl)) k0 bel lt0) trodAll_mk0),rfl,bel.frame _,fun h=>by cases h⟩
theorem dagForks_holds:Rows.DagForksSaid:=
  OpenClaim.holds_of_wide 3 Tryz.f3 rfl rfl rfl rfl rfl rfl rfl ⟨rfl,rfl,rfl,rfl,rfl⟩ rfl rfl rfl rfl rfl (by kernel_rfl) Tryz.func3 closedDFrk
    (of_decide_eq_true (by kernel_rfl)) (by unfold Func.isWrapper;first|(rw[if_pos (by decide+kernel)];kernel_rfl)|(rw[if_neg (by decide+kernel)];exact⟨rfl,rfl⟩))
    (fun os started H enc _=>liftedDFrk os started H enc)
end Go.Proofs.YtbdfihcjddbhaaaGreat
end
