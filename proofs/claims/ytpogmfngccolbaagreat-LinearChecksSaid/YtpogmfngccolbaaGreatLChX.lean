/- headwaterlaw17.LinearChecks returns true at every input, and all that it reads reads behind the call as before. Conditions: none beyond the given statement's own. -/
import Derived.WalkKit
import Derived.Orders
import Derived.Deep.LoopGhost
import Derived.IntWalk
import Derived.Laws.StructEq
import Derived.ArgAppend
import Derived.Deep.AppendSrc
import Derived.Lib.Bytealg
import Derived.Lib.BytesEntry
import Derived.Laws.IdiomStrings
import Derived.WideKeyArr2
import Derived.ProofKit
import Derived.OpenShut
import Derived.Deep.Slices
import Derived.Laws.Pointers
import Derived.Laws.Cover3
import Derived.LaidEqlPtr
import Derived.LoopN
import Derived.RangeFuncLeaves
import Derived.RangeFuncSeq
import Derived.OrdersIn
import Derived.Maps.Keyed
import Derived.Maps.RangeRun
import Derived.DeepKeys4
import Derived.Below
import Derived.Test.YtpogmfngccolbaaGreatRows
import Derived.KernelRfl
import Derived.Laws.Externs
import Derived.Defers
import Derived.Laws.MathBits
import Derived.Shelf.SlSortCmp.WholeK
import Derived.Shelf.SlGeneric
import Derived.Test.YtpogmfngccolbaaGreatProg
import Derived.Shelf.SlSortCmp.NoneTotal
import Derived.Deep.QuietTactic
import Derived.BigQuiet
import Derived.ScopeJumps
import Derived.DeepKeys3
import Derived.ChangeOld
import Derived.JoinedOf
import Derived.Test.YtpogmfngccolbaaGreatLChX6
set_option maxRecDepth 100000
set_option maxHeartbeats 8000000
set_option linter.unusedVariables false
set_option linter.unusedSimpArgs false
set_option linter.unusedSectionVars false
set_option linter.unnecessarySimpa false
section
namespace Go.Proofs.YtpogmfngccolbaaGreat
open Go Hw _root_.Go.Proofs.Tryz
structure RRel(X:PD)(P Q:List (List UInt8×DB)):Prop where
  p:P=X.P
  q:Q.Perm X.orp
  s:SortB (Q.map (·.1))
variable{i:Nat}{α:Type}{l:List α}
theorem drop_get{a:α}(h:l[i]? =some a):l.drop i=a::l.drop (i+1):=by
  obtain⟨h1,h2⟩:=Lac.1 h;rw[←h2];exact Lbj h1
theorem perm_erase(h:i<l.length):(l[i]::l.eraseIdx i).Perm l:=by
  have e:l=l.take i++l[i]::l.drop (i+1):=by rw[←Lbj h,Lc0]
  rw[Ld6];refine Le7.symm.trans ?_;exact List.Perm.of_eq e.symm
theorem mdel_perm{κ ν:Type}[DecidableEq κ]{fs:List (κ×ν)}{k:κ}{v:ν}(hn:(fs.map (·.1)).Nodup)(h:(k,v)∈fs):fs.Perm ((k,v)::mdel fs k):=by
  have hi:∃j,midx fs k=some j:=by
    cases hi:midx fs k with
    |some j=>exact⟨j,rfl⟩
    | none=>
      exfalso;unfold midx at hi;have h9:=Ldy.1 hi _ h;simp at h9
  obtain⟨j,hj⟩:=hi;have h2:mdel fs k=fs.eraseIdx j:=by unfold mdel;rw[hj]
  unfold midx at hj;rw[Lbq]at hj;obtain⟨hl,he,_⟩:=hj;have h3:fs[j]=(k,v):=nodup_inj (f:=fun p:κ×ν=>p.1) hn _ (Lce hl) _ h (of_decide_eq_true he);rw[h2,←h3];exact(perm_erase hl).symm
section
variable{X:PD}{P Q:List (List UInt8×DB)}{i:Nat}{n:List UInt8}{D:DB}
variable{l:List RE}
theorem RRel.keys(h:RRel X P Q):Q.map (·.1)=isort (X.orp.map (·.1)):=isort_eq (h.q.map _) h.s
theorem RRel.at(h:RRel X P Q)(hI:X.Inv)(hi:Q[i]? =some (n,D)):(Q.map (·.1)).getD i []=n∧Am X.orp n=some D:=by
  refine⟨by rw[La4,Laf,hi];rfl,?_⟩;obtain⟨j,hj,e⟩:=Lb7 (h.q.mem_iff.1 (Lb1 hi));have h1:=mget_some hI.od (j:=j) (p:=(n,D)) (by rw[La3 hj,e]);exact h1
theorem RRel.waits(h:RRel X P Q)(hI:X.Inv)(hw:∀j,j<i→∀q,Q[j]? =some q→Bq X.P q.2=0)(hl:i≤Q.length):∀j,j<i→Bq X.P ((Am X.orp ((Q.map (·.1)).getD j [])).getD DB.zero)=0:=fun j hj=>by
  have h1:Q[j]? =some (Q[j]'oM):=La3 oM;obtain⟨h2,h3⟩:=h.at hI (n:=(Q[j]'oM).1) (D:=(Q[j]'oM).2) h1;rw[h2,h3];exact hw j hj _ h1
theorem RRel.first(h:RRel X P Q)(hI:X.Inv)(hw:∀j,j<i→∀q,Q[j]? =some q→Bq X.P q.2=0)(hi:Q[i]? =some (n,D))(hj:Bq X.P D≠0):X.first=some n:=by
  have hlt:=(Lac.1 hi).1;obtain⟨h2,h3⟩:=h.at hI hi;have h4:=first_at h.keys (k:=i) (by rw[La0];exact hlt) (h.waits hI hw oM) (by rw[h2,h3];exact hj);rw[h4,h2]
theorem RRel.done(h:RRel X P Q)(hI:X.Inv)(hw:∀j,j<i→∀q,Q[j]? =some q→Bq X.P q.2=0)(hl:i=Q.length):X.first=none:=
  first_none h.keys (by rw[La0,←hl];exact h.waits hI hw oM)
theorem RRel.drop(h:RRel X P Q)(hI:X.Inv)(hi:Q[i]? =some (n,D)):RRel (X.drop1 n) P (Q.eraseIdx i) where
  p:=h.p
  q :=by
    have hlt:=(Lac.1 hi).1;have h1:=perm_erase hlt;rw[(Lac.1 hi).2]at h1;have h2:=mdel_perm hI.od (h.q.mem_iff.1 (Lb1 hi));exact((h1.trans h.q).trans h2).cons_inv
  s :=by
    have h1:((Q.eraseIdx i).map (·.1)).Sublist (Q.map (·.1)):=(Ldk Q i).map _;exact h.s.sublist h1
theorem RRel.adm(h:RRel X P Q)(hn:n∉X.P.map (·.1)):RRel (X.adm n D) (P++[(n,D)]) Q where
  p:=by rw[h.p];exact(mput_app (key_none hn) D).symm
  q:=h.q
  s:=h.s
theorem RRel.wait(h:RRel X P Q)(hn:Am X.orp n=none)(h1:∀j,j<i→∀q,Q[j]? =some q→C3 q.1 n<0)(h2:∀q,Q[i]? =some q→¬C3 q.1 n<0):RRel { X with orp:=Bh X.orp n D } P (Q.take i++(n,D)::Q.drop i) where
  p:=h.p
  q :=by
    show(Q.take i++(n,D)::Q.drop i).Perm (Bh X.orp n D);rw[mput_app hn];refine Le7.trans ?_;rw[Lc0];exact(List.Perm.cons _ h.q).trans (Lcv (l₁:=[(n,D)]))
  s :=by
    have h3:SortB ((Q.take i).map (·.1)++(Q.drop i).map (·.1)):=by rw[←Lae,Lc0];exact h.s
    unfold SortB at h3 ⊢;rw[Lgi]at h3;obtain⟨h4,h5,h6⟩:=h3;have h7:∀q∈Q.take i,C3 q.1 n≤0:=fun q hq=>by
      obtain⟨j,hj,rfl⟩:=Lb7 hq;rw[Laa]at hj;have h9:=h1 j oM (Q[j]'oM) (La3 oM);rw[Lci];omega
    have h8:∀q∈Q.drop i,C3 n q.1≤0:=fun q hq=>by
      cases hd:Q[i]? with
      |none=>rw[Lai (List.getElem?_eq_none_iff.1 hd)]at hq;cases hq
      | some e=>
        have he:=h2 e hd;have hn9:=cmpB_neg e.1 n;rw[drop_get hd]at hq h5;rcases Lan.1 hq with rfl|hq
        ·omega
        · rw[Las,Lda]at h5
          have h9:=h5.1 q.1 (La6.2 ⟨q,hq,rfl⟩);have:=cmpB_trans n e.1 q.1;omega
    rw[Lae,Las,Lgi,Lda];refine⟨h4,⟨fun b hb=>?_,h5⟩,fun a ha b hb=>?_⟩
    · obtain⟨q,hq,rfl⟩:=La6.1 hb
      exact h8 q hq
    · rcases Lan.1 hb with rfl|hb
      · obtain⟨q,hq,rfl⟩:=La6.1 ha
        exact h7 q hq
      ·exact h6 a ha b hb
theorem RRel.has(h:RRel X P Q)(n:List UInt8):Am Q n=none→Am X.orp n=none:=fun h1=>by
  refine key_none fun hm=>?_;rw[←(h.q.map _).mem_iff]at hm;obtain⟨v,hv⟩:=C5 hm;rw[h1]at hv;cases hv
theorem RRel.hasQ(h:RRel X P Q)(n:List UInt8):Am X.orp n=none→Am Q n=none:=fun h1=>by
  refine key_none fun hm=>?_;rw[(h.q.map _).mem_iff]at hm;obtain⟨v,hv⟩:=C5 hm;rw[h1]at hv;cases hv
theorem RRel.someQ(h:RRel X P Q)(n:List UInt8)(h1:(Am Q n).isSome=true):(Am X.orp n).isSome=true:=by
  cases hm:Am X.orp n with
  |none=>rw[h.hasQ n hm]at h1;cases h1
  |some v=>rfl
theorem add_same(h:((Am X.orp (A2 D)).isSome||(Am X.P (A2 D)).isSome)=true):(X.add D).1=X:=by
  by_cases hg:dgood D=0
  ·rw[add_there hg h]
  ·rw[add_bad hg]
theorem rp_at{e:RE}(h:l[i]? =some e):(rp l)[i]? =some (e.1.fName,e.2):=by unfold rp;rw[Laf,h];rfl
theorem rp_of{q:List UInt8×DB}(h:(rp l)[i]? =some q):∃e,l[i]? =some e∧q=(e.1.fName,e.2):=by
  unfold rp at h;rw[Laf]at h;obtain⟨e,h1,h2⟩:=Leh.1 h;exact⟨e,h1,h2.symm⟩
theorem rp_app(a b:List RE):rp (a++b)=rp a++rp b:=Lae
theorem rp_take(l:List RE)(i:Nat):rp (l.take i)=(rp l).take i:=Lbp
theorem rp_drop(l:List RE)(i:Nat):rp (l.drop i)=(rp l).drop i:=Lek
theorem rp_erase(l:List RE)(i:Nat):rp (l.take i++l.drop (i+1))=(rp l).eraseIdx i:=by rw[Ld6,rp_app,rp_take,rp_drop]
end
variable{B:Block}{D:DB}{N i:Nat}{T:PD}{bl o:List Blk}{e:RE}{l:List RE}{s:Sl}{w:World}{x:RD}
theorem not_keyN{κ ν:Type}[DecidableEq κ]{ms:List (κ×ν)}{n:κ}(h:Am ms n=none):n∉ms.map (·.1):=fun hm=>by
  obtain⟨v,hv⟩:=C5 hm;rw[h]at hv;cases hv
structure RG where
  x:RD
  X:PD
  i:Nat
  s:Sl
  bl:List Blk
  l:List (List UInt8)
structure RG.ok(g:RG)(N:Nat)(T:PD):Prop where
  ok:g.x.ok
  inv:g.X.Inv
  rel:RRel g.X g.x.P g.x.Q
  le:g.i≤g.x.O.length
  wt:∀j,j<g.i→∀q,g.x.Q[j]? =some q→Bq g.X.P q.2=0
  acc:Hw.Acc g.s g.bl (As g.l) 34 g.l.length 32
  ll:g.l.length+g.x.O.length≤65
  sz:g.x.L.length+g.x.O.length≤N
  tgt:(PD.settle g.X.orp.length g.X).1=T
theorem RG.ok.more{g:RG}(h:g.ok N T)(he:g.x.O[g.i]? =some e)(hj:Bq g.X.P e.2=0):(⟨g.x,g.X,g.i+1,g.s,g.bl,g.l⟩:RG).ok N T:={ h with
  le:=(Lac.1 he).1
  wt :=fun j hj2 q hq=>by
    rcases Lbz.1 hj2 with h1|rfl
    ·exact h.wt j h1 q hq
    · obtain⟨e2,h2,rfl⟩:=rp_of hq
      rw[he]at h2;cases h2;exact hj }
def RD.less(x:RD)(i:Nat)(s:Sl)(bl:List Blk):RD:={ x with sO:=s,bO:=bl,O:=x.O.take i++x.O.drop (i+1) }
theorem RD.ok.less(h:x.ok)(hi:i<x.O.length)(hac:Hw.Acc s bl (rkc (x.O.take i++x.O.drop (i+1))) 111 (x.O.take i++x.O.drop (i+1)).length 163):(x.less i s bl).ok:={ h with
  accO:=hac
  entO:=fun e he=>h.entO e (by
    rcases La9.1 he with h1|h1
    ·exact Lb9 h1
    ·exact Lcn h1)
  big:=by
    have:=h.big;show x.L.length+(x.O.take i++x.O.drop (i+1)).length≤20000;rw[La2,Laa,Lat];omega
  few:=by
    have:=h.few;show(x.O.take i++x.O.drop (i+1)).length≤64;rw[La2,Laa,Lat];omega }
def RD.more(x:RD)(e:RE)(s:Sl)(bl o:List Blk):RD:={ x with sL:=s,bL:=bl,L:=x.L++[e],cb:=o }
theorem RD.ok.more(h:x.ok)(hac:Hw.Acc s bl (rkc x.L++e.1.cells) 111 (x.L.length+1) 163)(hsub:∀b∈x.cb,b∈o)(he:e.1.ok∧Held o e.1.fBlock e.2∧e.2.ls.length≤16)(hr:x.L.length+x.O.length<20000):(x.more e s bl o).ok where
  accL:=by
    show Hw.Acc s bl (rkc (x.L++[e])) 111 (x.L++[e]).length 163;rw[rkc_app,rkc_one,La2];exact hac
  accO:=h.accO
  entL:=fun q hq=>by
    rcases La9.1 hq with h1|h1
    · have h2:=h.entL q h1
      exact⟨h2.1,h2.2.1.more hsub,h2.2.2⟩
    ·rw[La1.1 h1];exact he
  entO:=fun q hq=>by
    have h2:=h.entO q hq;exact⟨h2.1,h2.2.1.more hsub,h2.2.2⟩
  big:=by
    show(x.L++[e]).length+x.O.length≤20000;rw[La2,Lap];omega
  few:=h.few
def RD.wait(x:RD)(i:Nat)(e:RE)(s:Sl)(bl o:List Blk):RD:={ x with sO:=s,bO:=bl,O:=x.O.take i++e::x.O.drop i,cb:=x.cb++o }
theorem RD.ok.wait(h:x.ok)(hi:i≤x.O.length)(hac:Hw.Acc s bl (rkc (x.O.take i)++e.1.cells++rkc (x.O.drop i)) 111 (i+1+(x.O.length-i)) 163)(he:e.1.ok∧Held (x.cb++o) e.1.fBlock e.2∧e.2.ls.length≤16)(hr:x.L.length+x.O.length<20000)(h6:x.O.length<64):(x.wait i e s bl o).ok:=by
  have hlen:(x.O.take i++e::x.O.drop i).length=x.O.length+1:=by rw[La2,Lax,Laa,Lat];omega
  exact {
    accL:=h.accL
    accO:=by
      show Hw.Acc s bl (rkc (x.O.take i++e::x.O.drop i)) 111 (x.O.take i++e::x.O.drop i).length 163;rw[hlen,show x.O.take i++e::x.O.drop i=x.O.take i++[e]++x.O.drop i by simp,rkc_app,rkc_app,rkc_one,show x.O.length+1=i+1+(x.O.length-i) by omega];exact hac
    entL:=fun q hq=>by
      have h2:=h.entL q hq;exact⟨h2.1,h2.2.1.more fun b hb=>Lak _ hb,h2.2.2⟩
    entO :=fun q hq=>by
      have h3:q=e∨q∈x.O:=by
        rcases La9.1 hq with h1|h1
        ·exact .inr (Lb9 h1)
        · rcases Lan.1 h1 with h1|h1
          ·exact .inl h1
          ·exact .inr (Lcn h1)
      rcases h3 with rfl|h3
      ·exact he
      · have h2:=h.entO q h3
        exact⟨h2.1,h2.2.1.more fun b hb=>Lak _ hb,h2.2.2⟩
    big:=by
      show x.L.length+(x.O.take i++e::x.O.drop i).length≤20000;omega
    few:=by
      show(x.O.take i++e::x.O.drop i).length≤64;omega }
theorem RG.ok.drop{g:RG}(h:g.ok N T)(he:g.x.O[g.i]? =some e)(hj:wrongB g.X.P e.2=true)(hac:Hw.Acc s bl (rkc (g.x.O.take g.i++g.x.O.drop (g.i+1))) 111 (g.x.O.take g.i++g.x.O.drop (g.i+1)).length 163):(⟨g.x.less g.i s bl,g.X.drop1 e.1.fName,0,g.s,g.bl,g.l⟩:RG).ok N T:=by
  have hlt:=(Lac.1 he).1;have hq:g.x.Q[g.i]? =some (e.1.fName,e.2):=rp_at he;have hjw:=judge_wrong hj;have hf:=h.rel.first h.inv h.wt hq (by rw[hjw];decide);have hD:=(h.rel.at h.inv hq).2;have hlen:(g.x.O.take g.i++g.x.O.drop (g.i+1)).length+1=g.x.O.length:=by rw[La2,Laa,Lat];omega
  have hll:=h.ll;have hsz:=h.sz;exact{
    ok:=h.ok.less hlt hac
    inv:=h.inv.drop _
    rel:=by
      show RRel (g.X.drop1 e.1.fName) g.x.P (rp (g.x.O.take g.i++g.x.O.drop (g.i+1)));rw[rp_erase];exact h.rel.drop h.inv hq
    le:=Laq _
    wt:=fun j hj=>absurd hj (Ldo _)
    acc:=h.acc
    ll:=by show g.l.length+(g.x.O.take g.i++g.x.O.drop (g.i+1)).length≤65;omega
    sz:=by show g.x.L.length+(g.x.O.take g.i++g.x.O.drop (g.i+1)).length≤N;omega
    tgt:=by
      have h1:=mdel_one hD;have h2:=h.tgt;rw[←h1,settle_wrong hf hD (by rw[hjw];decide)]at h2;exact h2 }
theorem RG.ok.fit{g:RG}(h:g.ok N T)(he:g.x.O[g.i]? =some e)(hj:wrongB g.X.P e.2=false)(hr:readyB g.X.P e.2=true){s s2 s3:Sl}{bl bl2 bl3:List Blk}(hac:Hw.Acc s bl (rkc (g.x.O.take g.i++g.x.O.drop (g.i+1))) 111 (g.x.O.take g.i++g.x.O.drop (g.i+1)).length 163)
    (hac2:Hw.Acc s2 bl2 (rkc g.x.L++e.1.cells) 111 (g.x.L.length+1) 163) (hac3:Hw.Acc s3 bl3 (As g.l++Aa e.1.fName) 34 (g.l.length+1) 32):(⟨(g.x.less g.i s bl).more e s2 bl2 g.x.cb,(g.X.drop1 e.1.fName).adm e.1.fName e.2,0,s3,bl3,g.l++[e.1.fName]⟩:RG).ok N T:=by
  have hlt:=(Lac.1 he).1;have hq:g.x.Q[g.i]? =some (e.1.fName,e.2):=rp_at he;have hjf:Bq g.X.P e.2=1:=by unfold Bq;rw[hj,hr];rfl
  have hf:=h.rel.first h.inv h.wt hq (by rw[hjf];decide);have hD:=(h.rel.at h.inv hq).2;have hoc:=h.inv.oc _ (Bk hD);have hlen:(g.x.O.take g.i++g.x.O.drop (g.i+1)).length+1=g.x.O.length:=by rw[La2,Laa,Lat];omega
  have hll:=h.ll;have hsz:=h.sz;have hbig:=h.ok.big;have hen:=h.ok.entO e (Lb1 he);have hls:=h.ok.less hlt hac;exact{
    ok:=hls.more hac2 (fun b hb=>hb) hen (by show g.x.L.length+(g.x.O.take g.i++g.x.O.drop (g.i+1)).length<20000;omega)
    inv:=(h.inv.drop _).adm hoc.2 (fun h2=>((mdel_keys h.inv.od _ _).1 h2).2 rfl) hoc.1 hr
    rel:=by
      show RRel _ (rp (g.x.L++[e])) (rp (g.x.O.take g.i++g.x.O.drop (g.i+1)));rw[rp_erase,rp_app];exact(h.rel.drop h.inv hq).adm hoc.2
    le:=Laq _
    wt:=fun j hj=>absurd hj (Ldo _)
    acc:=by
      show Hw.Acc s3 bl3 (As (g.l++[e.1.fName])) 34 (g.l++[e.1.fName]).length 32;rw[Bo,La2,show As [e.1.fName]=Aa e.1.fName by simp[As]];exact hac3
    ll:=by show(g.l++[e.1.fName]).length+(g.x.O.take g.i++g.x.O.drop (g.i+1)).length≤65;rw[La2,Lap];omega
    sz:=by show(g.x.L++[e]).length+(g.x.O.take g.i++g.x.O.drop (g.i+1)).length≤N;rw[La2,Lap];omega
    tgt:=by
      have h1:=mdel_one hD;have h2:=h.tgt;rw[←h1,settle_fit hf hD hjf]at h2;exact h2 }
theorem RG.start(hx:x.ok){X:PD}(hI:X.Inv)(hR:RRel X x.P x.Q){q:Nat}(hroom:x.L.length+x.O.length<20000)(hac:Hw.Acc s bl (rkc x.L++(⟨A2 D,B⟩:RKn).cells) 111 (x.L.length+1) 163)(he:(⟨A2 D,B⟩:RKn).ok∧Held (x.cb++o) B D∧D.ls.length≤16)
    (hg:dgood D=0) (hP:Am X.P (A2 D)=none) (hQ:Am X.orp (A2 D)=none) (hj:Bq X.P D=1):(⟨x.more (⟨A2 D,B⟩,D) s bl (x.cb++o),X.adm (A2 D) D,0,⟨some ⟨q,0,none⟩,1,1⟩,[⟨q,Aa (A2 D),34,32⟩],[A2 D]⟩:RG).ok (x.L.length+x.O.length+1) (X.add D).1 where
  ok:=hx.more hac (fun b hb=>Lak _ hb) he hroom
  inv:=hI.adm (not_keyN hP) (not_keyN hQ) (good_check hg) (judge_ready hj)
  rel:=by
    show RRel _ (rp (x.L++[((⟨A2 D,B⟩:RKn),D)])) (rp x.O);rw[rp_app];exact hR.adm (not_keyN hP)
  le:=Laq _
  wt:=fun j hj=>absurd hj (Ldo _)
  acc:=by
    show Hw.Acc _ _ (As [A2 D]) 34 1 32;rw[show As [A2 D]=Aa (A2 D) by simp[As]];exact Acc.some (Lah 1) (show(Aa (A2 D)).length=1*32 by rw[Aa,La0,nameD_length])
  ll:=by have:=hx.few;show 1+x.O.length≤65;omega
  sz:=by show(x.L++[_]).length+x.O.length≤_;rw[La2,Lap];omega
  tgt:=by
    have hth:((Am X.orp (A2 D)).isSome||(Am X.P (A2 D)).isSome)=false:=by rw[hP,hQ];rfl
    rw[add_fits hg hth hj]
theorem RG.ok.fin{g:RG}(h:g.ok N T)(hi:g.i=g.x.O.length):RRel T g.x.P g.x.Q:=by
  have h1:=h.tgt;rw[settle_done (h.rel.done h.inv h.wt (by rw[hi];exact(La0 _).symm))]at h1;rw[←h1];exact h.rel
def RAddR(x:RD)(p:Nat)(T:PD)(v:Value)(out:List Blk):Prop:=∃(x':RD) (e:Int) (s:Sl) (bl:List Blk),v= .tuple #[s.v,i64 e]∧out=x'.blks p++bl∧x'.ok∧RRel T x'.P x'.Q∧x'.L.length+x'.O.length≤x.L.length+x.O.length+1
theorem rd_of{C:Cx}{p:Nat}{hp:List Blk}(h:HRep C hp w)(h1:⟨p,[x.sL.v,x.sO.v],109,2⟩∈hp)(h2:Lies x.bL w)(h3:Lies x.bO w)(h4:Lies x.cb w):Lies (x.blks p) w:=fun b hb=>by
  rcases Lan.1 hb with rfl|hb
  ·exact h.cells _ h1
  · rcases La9.1 hb with hb|hb
    ·exact h2 b hb
    · rcases La9.1 hb with hb|hb
      ·exact h3 b hb
      ·exact h4 b hb
theorem rk_open(h:Hw.Acc s bl (rkc l) 111 l.length 163)(h0:0<l.length):∃b o,s.p=some ⟨b,o,none⟩∧∀w,Lies bl w→C6 w b o (rkc l):=by
  rcases h with ⟨_,_,_,e⟩|⟨q,c,rfl,h1,h2,rfl⟩
  ·omega
  ·exact⟨q,0,rfl,fun w hw=>sees_kok (hw _ La8) fun j v hj=>by rw[Lb0];exact hj⟩
theorem rk_take{p:Option Addr}(h:SeesP w p (rkc l)):SeesP w p (rkc (l.take i)):=by
  have e:rkc l=rkc (l.take i)++rkc (l.drop i):=by rw[←rkc_app,Lc0]
  rw[e]at h;exact seesP_left h
theorem rkc_drop(hok:∀e∈l,e.1.ok)(i:Nat):rkc (l.drop i)=(rkc l).drop (i*163):=by
  have e:rkc l=rkc (l.take i)++rkc (l.drop i):=by rw[←rkc_app,Lc0]
  have h1:=rkc_len (l:=l.take i) fun q hq=>hok q (Lb9 hq);rw[Laa]at h1;rcases Nat.le_total i l.length with h2|h2
  · rw[Lbr h2]at h1
    rw[e,←h1,Lgv]
  ·rw[Lai h2,Lai (by rw[rkc_len hok];omega)];rfl
theorem same_of{W:World}(h:BlockIs W B D):SameB B D:=⟨h.ok,h.w,h.seq,h.prev,h.sg,h.ls.len.symm,h.ds.len.symm⟩
section
variable{C:Cx}{ops:Array Oper}{rest:List (Nat×Oper)}{sl:List (Nat×Value)}{hp:List Blk}{Q:St→Prop}{c d:Nat}{ty:TypeId}{pos:String}{af:Array Edge}{g:Option (Nat×Bool)}
theorem Tr.sliceLoA{x lo:Operand}{s:Sl}{bl:List Blk}{cells:List Value}{n:Nat}{T E:TypeId}{kl:IntKind}{l:Int}{sz:Nat}(j:Nat)(hg:Ak ops sl g=true)(hk:okD c d C.N=true)(hx:Ai sl x=some s.v)(hl:Ai sl lo=some (.int kl l))(hj:l=j)(hac:Hw.Acc s bl cells E n sz)(hjn:j≤n)
    (hu:C.P.underlying T=some (.slice E)) (hs:Sz C.P E sz)
    (k:∀s':Sl,s'.n=n-j→(s'.p=none→s'.n=0)→(∀w,Lies bl w→SeesP w s'.p (cells.drop (j*sz)))→s'.n≤s'.c→(s'.p=none→s'.c=0)→Tr C ops rest ⟨(d,s'.v)::sl,hp⟩ Q):Tr C ops ((c,⟨some d, .slice T x (some lo) none none,ty,pos,af,g⟩)::rest) ⟨sl,hp⟩ Q:=by
  rcases hac with ⟨rfl,rfl,rfl,rfl⟩|⟨q,cp,rfl,h1,h2,rfl⟩
  · obtain rfl:j=0:=by omega
    subst hj;exact Tr.sliceLoNil hg hk hx hl hu hs (k Sl.nil rfl (fun _=>rfl) (fun w _=>by rw[List.drop_nil];exact SeesP.nil) (Lah _) (fun _=>rfl))
  · refine Tr.sliceLoN j hg hk hx hl hj hjn h1 hu hs (k ⟨some ⟨q,if cp=j then 0 else 0+j*sz,none⟩,n-j,cp-j⟩ rfl (fun e=>by cases e) (fun w hw=>?_) (by show n-j≤cp-j;omega) (fun e=>by cases e))
    have h3:C6 w q 0 cells:=sees_kok (hw _ La8) fun i v hi=>by rw[Lb0];exact hi
    by_cases hcp:cp=j
    · obtain rfl:n=j:=by omega
      rw[Lai oM];exact SeesP.nil
    · show SeesP w (some ⟨q,if cp=j then 0 else 0+j*sz,none⟩) _
      rw[if_neg hcp];refine SeesP.of fun i v hi=>?_;rw[Lb8]at hi;have h4:=h3 _ _ hi;rwa[show 0+(j*sz+i)=0+j*sz+i by omega]at h4
end
variable{B:Block}{C:Cx}{D:DB}{L hp:List Blk}{j:Nat}{l:Nat→Bool}{w:World}
theorem rd_add(x:RD)(hx:x.ok)(X:PD)(hI:X.Inv)(hR:RRel X x.P x.Q)(p:Nat)(B:Block)(D:DB)(hroom:x.L.length+x.O.length<20000)(hs1:D.ls.length≤500000)(hs2:D.ds.length≤500000):Meets prog 43 [ptr p 0,agg B.cells] ((x.blks p).map (·.n)) (fun W=>Lent (x.blks p) W∧∀w2,Keeps ((x.blks p).map (·.n)) W w2→BlockIs w2 B D) (RAddR x p (X.add D).1):=by
 intro W hW;have hbk:=hW.2;have hbi0:=hbk W (Keeps.refl _ _);have hB:=same_of hbi0;have hdok:=hbi0.dok;have hn32:=nameD_length D;have hbig:=hx.big;have hfew:=hx.few;have hnL:=hx.accL.num;have hnO:=hx.accO.num;have hcO:=hx.accO.cap;generalize hlt:(x.blks p).map (·.n)=lt at hbk;refine calls_of (hp0:=(⟨p,[x.sL.v,x.sO.v],109,2⟩::(x.bL++(x.bO++x.cb)))) func43 J 178 ntmps43 J (hlt▸hW.1.rep) (.sr (.boxA J J ?_));intro n3 hn3 hf3;refine .a J J J (.a J J J (.na (.seq (.draw (oP [100,102,301,303,4,205,406]) Ar zK (.lA J J J Y50.h J Sz50 Z0 (Block.length (by exact hB.ok)) ?_)))));refine .lA J J J Y50.h J Sz50 Z0 (Block.length (by exact hB.ok)) ?_;refine .cV J J J J Body54 (r15_Name B D hB.ok) (fun w h=>hbk w h.keeps) (.call J J J J Body85 (r15_Copy B D hB.ok hs1 hs2) (BlkV.loose D hdok) (fun w h=>hbk w h.keeps) ?_);rintro v16 out16 ⟨B2,hB2,rfl,hbi⟩;have hK6:(⟨A2 D,B2⟩:RKn).ok:=⟨hn32,hB2.ok⟩;refine .build (cs:=(⟨A2 D,B2⟩:RKn).cells) J J J (fun w=>run_build2 (a:=agg (Aa (A2 D))) (b:=agg B2.cells) (ca:=Aa (A2 D)) (cb:=B2.cells) RKn.zr underlying111 J J Sz34 Sz50 (RKn.length RKn.zero_ok) J J (by rw[Aa,La0];exact hn32) (Block.length hB2.ok) w) ?_;refine .alloc (cs:=RKn.zero.cells) J RKn.zr J ?_;intro n6 hn6 hf6;refine .sA J J J J (RKn.isCell (by exact hK6)) Sz111 (RKn.length (by exact hK6)) Z0 (RKn.length (by exact RKn.zero_ok)) zU ?_;refine .na (.join (ι:=Unit) (fun u=>⟨[(0,ptr p 0),(3,ptr n3 0),(6,ptr n6 0)],(⟨n6,(⟨A2 D,B2⟩:RKn).cells,111,163⟩::(⟨n3,B.cells,50,B.cells.length⟩::(⟨p,[x.sL.v,x.sO.v],109,2⟩::(x.bL++(x.bO++(x.cb++(out16++[])))))))⟩) (fun u=>D.check=0→Am x.P (A2 D)=none∧Am x.Q (A2 D)=none) ?_ ?_)
 ·
  refine .seq (.draw (oP [100,301,2,3,4,5,106,307,8,9,10,11,112,13,114,315,16,17,18]) Ar zK (.lA J J J Y50.h J Sz50 mR (Block.length (by exact hB.ok)) ?_));refine .cV J J J J Body103 (r15_Check B D) (fun w h=>hbk w h.keeps) (two (fun r hr k=>Tr.eqi J J J J hr k) (fun hs2_20=>?_) (fun hs2_20=>?_))
  ·
   have hs2_2:=of_decide_eq_true hs2_20;refine .m J J J (.m J J J (.fld J J J underlying111 J Sz34 dE _ J (.lN (Aa _) J J J Y34.h J Sz34 Z0 (RKn.row_fName (by exact hK6)) (RKn.rl_fName (by exact hK6)) ?_)));refine .callB J J J J Body104 (rd_has x hx p (A2 D) hn32) (fun w h=>rd_of (x:=x) h mR (Lies.of h (by repeat(first|exact An|refine A4 ?_|refine Be ?_))) (Lies.of h (by repeat(first|exact An|refine A4 ?_|refine Be ?_))) (Lies.of h (by repeat(first|exact in_all|refine A4 ?_|refine Be ?_)))) (fun hs2_70=>?_) (fun hs2_70=>?_)
   ·
    have hs2_7:=hs2_70;refine .m J J J (.skp J J (.skp J J (.skp J J (.skp J J (.skp J J (.skp J J (.skp J J (.skp J J (.pick J J J J J J (.pick J J J J J J (.na (.cond_t J J (.sr (.a J J J (.a J J J (.na ?_))))))))))))))));refine .ret (at_r (C2 (Ay (out:=(⟨p,[x.sL.v,x.sO.v],109,2⟩::(x.bL++(x.bO++(x.cb++[]))))) (B5 J J J) (Ab rM (Ac sG (Ac sG (Ac (by repeat(first|exact sg_end|apply sg_there|apply Cf)) Ae)))) ?_)));exact⟨x,_,Sl.nil,[],rfl,(by simp[RD.blks]),hx,by rw[add_same (by rw[←hR.p,show(Am x.P (A2 D)).isSome=true from hs2_7];simp)];exact hR,by omega⟩
   have hs2_7:=hs2_70;refine .m J J J (.m J J J (.nC J J J (.fld J J J Y109 J Sz107 dE _ J (.load1 J J J C7 J mR (by rfl) ?_))));refine .fld J J J underlying111 J Sz34 dE _ J (.lN (Aa _) J J J Y34.h J Sz34 Z0 (RKn.row_fName (by exact hK6)) (RKn.rl_fName (by exact hK6)) ?_);refine .cV J J J J Body84 (rd_find x.sO x.O hnO.symm hx.okO oM (A2 D) hn32) (fun w h=>hx.accO.see (Lies.of h (by repeat(first|exact An|refine A4 ?_|refine Be ?_)))) ?_;refine .geq J J J J J (.pick J J J J J J (.pick J J J J J J (.na (.condP J (fun hc0=>?_) (fun hc0=>?_)))))
   ·
    refine .sr (.a J J J (.a J J J (.na ?_)));refine .ret (at_r (C2 (Ay (out:=(⟨p,[x.sL.v,x.sO.v],109,2⟩::(x.bL++(x.bO++(x.cb++[]))))) (B5 J J J) (Ab rM (Ac sG (Ac sG (Ac (by repeat(first|exact sg_end|apply sg_there|apply Cf)) Ae)))) ?_)));exact⟨x,_,Sl.nil,[],rfl,(by simp[RD.blks]),hx,by rw[add_same (by rw[hR.someQ _ (show(Am x.Q (A2 D)).isSome=true by obtain⟨k9,e9,_,_,_,h9⟩:=rd_hit hc0;show(Am (rp x.O) _).isSome=true;rw[h9];rfl)];rfl)];exact hR,by omega⟩
   refine .skip (Bm ?_);exact⟨(),fun _=>⟨by simpa using hs2_7,rd_no hc0⟩,Ah wN (Ab rM (Ab (by repeat(first|exact A5|apply Bu)) (Ab (by repeat(first|exact A5|apply Bu)) (Ac (by repeat(first|exact B4|apply Cf)) (Ac (by repeat(first|exact B4|apply Cf)) (Ac (by repeat(first|exact sg_end|apply Cf)) (Ac sG Ae)))))))⟩
  have hs2_2:=of_decide_eq_false hs2_20;refine .m J J J (.skp J J (.skp J J (.skp J J (.skp J J (.skp J J (.skp J J (.skp J J (.skp J J (.skp J J (.skp J J (.skp J J (.skp J J (.skp J J (.skp J J (.pick J J J J J J (.na (.cond_f J J (.skip (Bm ?_)))))))))))))))))));exact⟨(),fun h9=>absurd h9 oM,Ah wN (Ab rM (Ab (by repeat(first|exact A5|apply Bu)) (Ab (by repeat(first|exact A5|apply Bu)) (Ac (by repeat(first|exact B4|apply Cf)) (Ac (by repeat(first|exact B4|apply Cf)) (Ac (by repeat(first|exact sg_end|apply Cf)) (Ac sG Ae)))))))⟩
 intro u hj;skip;refine .sr (.lA J J J Y50.h J Sz50 Z1 (Block.length (by exact hB.ok)) ?_);refine .cV J J J J Body105 (r15_Good B D hB.ok) (fun w h=>hbk w h.keeps) (.a J J J (.na (.seq (.sr (.m J J J (.nei J J J J J (.na (.condNP J (fun hc1=>?_) (fun hc1=>?_)))))))))
 ·
  refine .sr (.m J J J (.a J J J (.a J J J (.na ?_))));refine .ret (at_r (C2 (Ay (out:=(⟨p,[x.sL.v,x.sO.v],109,2⟩::(x.bL++(x.bO++(x.cb++[]))))) (B5 J J J) (Ab rM (Ac sG (Ac sG (Ac sG Ae)))) ?_)));exact⟨x,_,Sl.nil,[],rfl,(by simp[RD.blks]),hx,by rw[add_bad oM];exact hR,by omega⟩
 have hgd:dgood D=0:=by omega
 have hck:=good_check hgd;have h16:D.ls.length≤16:=(ck_small hck).1;obtain⟨hP0,hQ0⟩:=hj hck;have hP1:Am X.P (A2 D)=none:=by rw[←hR.p];exact hP0
 have hQ1:=hR.has _ hQ0;have hth:((Am X.orp (A2 D)).isSome||(Am X.P (A2 D)).isSome)=false:=by rw[hP1,hQ1];rfl
 have hol:x.O.length=X.orp.length:=by have h9:=hR.q.length_eq;rw[←h9];exact(La0 _).symm
 have hPX:=hR.p;refine .skip (Bm (.seq (.sr (.m J J J (.lA J J J Y50.h J Sz50 Z1 (Block.length (by exact hB.ok)) ?_)))));refine .cV J J J J Body106 (rd_wrong x hx p B D hB) (fun w h=>rd_of (x:=x) h Z2 (Lies.of h (by repeat(first|exact An|refine A4 ?_))) (Lies.of h (by repeat(first|exact An|refine A4 ?_|refine Be ?_))) (Lies.of h (by repeat(first|exact An|refine A4 ?_|refine Be ?_)))) ?_;refine .na (.cond J (fun hc2=>?_) (fun hc2=>?_))
 ·
  refine .sr (.a J J J (.a J J J (.na ?_)));refine .ret (at_r (C2 (Ay (out:=(⟨p,[x.sL.v,x.sO.v],109,2⟩::(x.bL++(x.bO++(x.cb++[]))))) (B5 J J J) (Ab rM (Ac sG (Ac sG (Ac sG Ae)))) ?_)));exact⟨x,_,Sl.nil,[],rfl,(by simp[RD.blks]),hx,by rw[add_wrong hgd hth (judge_wrong (by rw[←hPX];exact hc2))];exact hR,by omega⟩
 refine .skip (Bm (.seq (.sr (.m J J J (.lA J J J Y50.h J Sz50 Z1 (Block.length (by exact hB.ok)) ?_)))));refine .cV J J J J Body107 (rd_ready x hx p B D hB h16) (fun w h=>⟨rd_of (x:=x) h Z2 (Lies.of h (by repeat(first|exact An|refine A4 ?_))) (Lies.of h (by repeat(first|exact An|refine A4 ?_|refine Be ?_))) (Lies.of h (by repeat(first|exact An|refine A4 ?_|refine Be ?_))),hbk w h.keeps⟩) ?_;refine .not J J J (.na (.cond J (fun hc3=>?_) (fun hc3=>?_)))
 ·
  have hj0:Bq X.P D=0:=by rw[hPX]at hc2 hc3;unfold Bq;rw[show wrongB X.P D=false by simpa using hc2,show readyB X.P D=false by simpa using hc3];rfl
  refine .seq (.sr (.m J J J (.nC J J J (.fld J J J Y109 J Sz107 dE _ J (.load1 J J J C7 J Z2 (by rfl) ?_)))));refine .lenSl J J J C7 (.eqi J J J J J (.na (.condP J (fun hc4=>?_) (fun hc4=>?_))))
  ·
   refine .sr (.a J J J (.a J J J (.na ?_)));refine .ret (at_r (at_r (C2 (Ay (out:=(⟨p,[x.sL.v,x.sO.v],109,2⟩::(x.bL++(x.bO++(x.cb++[]))))) (B5 J J J) (Ab rM (Ac sG (Ac sG (Ac sG Ae)))) ?_))));exact⟨x,_,Sl.nil,[],rfl,(by simp[RD.blks]),hx,by rw[add_full hgd hth hj0 oM];exact hR,by omega⟩
  refine .skip (Bm (.sr (.a J J J (.na (.join (ι:=Nat) (fun k=>⟨[(0,ptr p 0),(6,ptr n6 0),(8,i64 (k:Int))],(⟨n6,(⟨A2 D,B2⟩:RKn).cells,111,163⟩::(⟨p,[x.sL.v,x.sO.v],109,2⟩::(x.bL++(x.bO++(x.cb++(out16++[]))))))⟩) (fun k=>k≤x.O.length∧(∀j,j<k→∀q,x.Q[j]? =some q→C3 q.1 (A2 D)<0)∧∀q,x.Q[k]? =some q→¬C3 q.1 (A2 D)<0) ?_ ?_)))))
  ·
   refine .block (.loop (ι:=Nat) (fun k=>⟨[(0,ptr p 0),(6,ptr n6 0),(8,i64 (k:Int))],(⟨n6,(⟨A2 D,B2⟩:RKn).cells,111,163⟩::(⟨p,[x.sL.v,x.sO.v],109,2⟩::(x.bL++(x.bO++(x.cb++(out16++[]))))))⟩) (fun k=>k≤x.O.length∧∀j,j<k→∀q,x.Q[j]? =some q→C3 q.1 (A2 D)<0) (fun k=>x.O.length-k) (0) ?_ ?_ ?_)
   ·exact⟨Laq _,fun j hj=>absurd hj (Ldo _)⟩
   ·exact Ah wN (Ab rM (Ab rM (Ac sG (Ac sG (Ac sG (Ac sG Ae))))))
   rintro k ⟨hk,hg⟩;refine .seq (.seq (.draw (oP [0,1,2,3,104,5,6,7,8,9,10,111,12,13,14,115,16,117,318,19,20]) Ar zK (.m J J J (.m J J J (.nC J J J (.fld J J J Y109 J Sz107 dE _ J (.load1 J J J C7 J Z1 (by rfl) ?_)))))));refine .lenSl J J J C7 (two (fun r hr k=>Tr.lss J J J J hr k) (fun hs13_60=>?_) (fun hs13_60=>?_))
   ·
    have hs13_6:=of_decide_eq_true hs13_60;have hk2:k<x.O.length:=by omega
    obtain⟨e,hd⟩:∃e,x.O[k]? =some e:=⟨_,La3 hk2⟩;have hek:=(hx.entO e (Lb1 hd)).1;obtain⟨b,o,hbp,hbs⟩:=rk_open hx.accO oM;refine .m J J J (.m J J J (.nC J J J (.fld J J J Y109 J Sz107 dE _ J (.load1 J J J C7 J Z1 (by rfl) ?_))));refine .m J J J (.idxSlP 163 J J J hbp J C7 Sz111 k (by rfl) oM ?_);refine .fld J J J underlying111 J Sz34 dE _ J (.loadSN (n:=32) (Aa e.1.fName) J J J Y34.h J Sz34 (by rw[Aa,La0];exact hek.l_fName) (fun w h=>rk_name (hbs w (Lies.of h (by repeat(first|exact An|refine A4 ?_|refine Be ?_)))) hx.okO hd) ?_);refine .fld J J J underlying111 J Sz34 dE _ J (.lN (Aa _) J J J Y34.h J Sz34 Z0 (RKn.row_fName (by exact hK6)) (RKn.rl_fName (by exact hK6)) ?_);refine .cV J J J J Body25 (r15_cmp e.1.fName (A2 D) hek.l_fName hn32) tV (.lss J J J J J (.pick J J J J J J (.na (.condP J (fun hc5=>?_) (fun hc5=>?_)))))
    ·
     refine .skip (Bm (.block (.region (.m J J J (.aI J J J J oM (.a J J J (.nil (bl_n (Bm ?_)))))))));exact⟨k+1,⟨by omega,fun j hj q hq=>by rcases Lbz.1 hj with h|rfl;exact hg j h q hq;obtain⟨e9,h9,rfl⟩:=rp_of hq;rw[hd]at h9;cases h9;exact hc5⟩,by omega,Ah wN (Ab rM (Ab rM (Ac sG (Ac sG (Ac sG (Ac sG Ae))))))⟩
    refine .exit (at_x (at_x (bl_h (Bm ?_))));exact⟨k,⟨by omega,hg,fun q hq=>by obtain⟨e9,h9,rfl⟩:=rp_of hq;rw[hd]at h9;cases h9;exact hc5⟩,Ah wN (Ab rM (Ab rM (Ac sG (Ac sG (Ac sG (Ac sG Ae))))))⟩
   have hs13_6:=of_decide_eq_false hs13_60;skip;refine .m J J J (.skp J J (.skp J J (.skp J J (.skp J J (.skp J J (.skp J J (.skp J J (.skp J J (.skp J J (.skp J J (.skp J J (.skp J J (.pick J J J J J J (.na (.cond_f J J (.exit (at_x (at_x (bl_h (Bm ?_))))))))))))))))))));exact⟨k,⟨by omega,hg,fun q hq=>by have h9:=(Lac.1 hq).1;have h8:x.Q.length=x.O.length:=La0 _;omega⟩,Ah wN (Ab rM (Ab rM (Ac sG (Ac sG (Ac sG (Ac sG Ae))))))⟩
  intro k hj;obtain⟨hk,hg,hat⟩:=hj;refine .seq ?_
  try simp only[Lge,Lam,Lad,Lab]
  refine .drawK (sp_k (sp_k (sp_x (sp_x (sp_x (sp_x sp_n)))))) J (oP [0,2,3,4,5,6,7,9,12,13,14,15,16,17,201,308,210,411,418,19,20]) [(4,21)] Ar zK zK (.m J J J (.m J J J (.nC J J J (.fld J J J Y109 J Sz107 dE _ J (.kload1 J J J C7 J Z1 (by rfl) ?_)))));refine .m J J J (.sliceHiA x.sO k J J J J J oM C7 Sz111 (.kloadAll J J J underlying111 J Sz111 Z0 (RKn.length (by exact hK6)) ?_));refine .m J J J (.nC J J J (.fld J J J Y109 J Sz107 dE _ J (.kload1 J J J C7 J Z1 (by rfl) ?_)));refine .m J J J (Tr.sliceLoA k J J J J J hx.accO hk C7 Sz111 ?_);intro s95 hn95 hnil95 hsee95 _ _;refine .mkRow2 (z:=(agg RKn.zero.cells)) [] ([]) J J C7 Sz111 RKn.zr J J (by intro v hv;cases hv) dE J ?_;intro q79;refine .appendF (b:=q79) (m:=k) (z:=(agg RKn.zero.cells)) (by':=216) (rkc (x.O.take k)) J J J J C7 C7 Sz111 RKn.zr (by unfold By;kernel_rfl) J (fun w h=>rk_take (hx.accO.see (Lies.of h (by repeat(first|exact An|refine A4 ?_|refine Be ?_))))) (fun e=>by have:=hx.accO.nil e;omega) (rkc_cell (fun q hq=>hx.okO q (Lb9 hq))) oM oM (by rw[rkc_len (fun q hq=>hx.okO q (Lb9 hq)),Laa,Lbr hk]) ?_;intro s86 bl86 hac86;refine .mkRow2 (z:=(agg RKn.zero.cells)) [agg (⟨A2 D,B2⟩:RKn).cells] ((⟨A2 D,B2⟩:RKn).cells) J J C7 Sz111 RKn.zr J J (by intro v hv;rw[La1.1 hv];exact RKn.length (by exact hK6)) dE (by simp[Value.cells,agg]) ?_;intro q88;refine .appendF2 [_] (n:=k) (z:=(agg RKn.zero.cells)) (by':=216) ((⟨A2 D,B2⟩:RKn).cells) J J J J J C7 C7 Sz111 RKn.zr (by unfold By;kernel_rfl) J hac86 dE J (fun w h=>SeesP.of (Ap h Z0)) (fun e=>by cases e) (RKn.isCell hK6) oM oM (by rw[RKn.length hK6]) ?_;intro s89 bl89 hac89;refine .appendAcc (n:=(k+1)) (z:=(agg RKn.zero.cells)) (by':=216) (rkc (x.O.drop k)) J J J J J C7 C7 Sz111 RKn.zr (by unfold By;kernel_rfl) J hac89 sG (fun w h=>by rw[rkc_drop hx.okO];exact hsee95 w (Lies.of h (by repeat(first|exact An|refine A4 ?_|refine Be ?_)))) hnil95 (rkc_cell (fun q hq=>hx.okO q (Lcn hq))) oM oM (by rw[rkc_len (fun q hq=>hx.okO q (Lcn hq)),Lat,hn95]) ?_;intro s96 bl96 hac96;refine .nC J J J (.fld J J J Y109 J Sz107 dE _ J (.nil (.s1 J J J J J Sz107 Z1 sP (by rfl) zV ?_)));refine .nsr (.a J J J (.a J J J (.na ?_)));refine .ret (at_r (C2 (Ay (out:=(⟨p,[x.sL.v,s96.v],109,2⟩::(x.bL++(bl96++(x.cb++(out16++[])))))) (B5 J J J) (Ab rM (Ac sG (Ac sG (Ac sG (Ac sG Ae))))) ?_)))
  exact⟨x.wait k (⟨A2 D,B2⟩,D) s96 bl96 out16,0,Sl.nil,[],rfl,(by simp[RD.blks,RD.wait]),hx.wait hk (by rw[hn95]at hac96;exact hac96) ⟨hK6,⟨hB2,fun w hw=>hbi w (hw.sub fun b hb=>Lav _ hb)⟩,h16⟩ hroom oM,by rw[add_keep hgd hth hj0 oM];show RRel _ x.P (rp (x.O.take k++(⟨A2 D,B2⟩,D)::x.O.drop k));rw[rp_app,show rp (((⟨A2 D,B2⟩:RKn),D)::x.O.drop k)=(A2 D,D)::rp (x.O.drop k)from rfl,rp_take,rp_drop];exact hR.wait hQ1 hg hat,by show x.L.length+(x.O.take k++_::x.O.drop k).length≤_;rw[La2,Lax,Laa,Lat];omega⟩
 have hj1:Bq X.P D=1:=by rw[hPX]at hc2 hc3;unfold Bq;rw[show wrongB X.P D=false by simpa using hc2,show readyB X.P D=true by simpa using hc3];rfl
 refine .skip (Bm (.seq ?_))
 try simp only[Lge,Lam,Lad,Lab]
 refine .drawK (sp_k (sp_v (sp_k (sp_x (sp_x (sp_x (sp_x sp_n))))))) J (oP [0,1,2,3,4,5,206,407,8,9]) [(4,10)] Ar zK zK (.m J J J (.m J J J (.nC J J J (.fld J J J Y109 J Sz107 dE _ J (.kload1 J J J C7 J Z1 (by rfl) ?_)))));refine .kloadAll J J J underlying111 J Sz111 Z0 (RKn.length (by exact hK6)) ?_;refine .mkRow2 (z:=(agg RKn.zero.cells)) [agg (⟨A2 D,B2⟩:RKn).cells] ((⟨A2 D,B2⟩:RKn).cells) J J C7 Sz111 RKn.zr J J (by intro v hv;rw[La1.1 hv];exact RKn.length (by exact hK6)) dE (by simp[Value.cells,agg]) ?_;intro q105;refine .appendAcc (n:=x.L.length) (z:=(agg RKn.zero.cells)) (by':=216) ((⟨A2 D,B2⟩:RKn).cells) J J J J J C7 C7 Sz111 RKn.zr (by unfold By;kernel_rfl) J hx.accL sG (fun w h=>SeesP.of (Ap h Z0)) (fun e=>by cases e) (RKn.isCell hK6) oM oM (by rw[RKn.length hK6]) ?_;intro s106 bl106 hac106;refine .nC J J J (.fld J J J Y109 J Sz107 dE _ J (.nil (.s1 J J J J J Sz107 Z1 sP (by rfl) zV ?_)));refine .nsr (.fld J J J underlying111 J Sz34 dE _ J (.lN (Aa _) J J J Y34.h J Sz34 Z0 (RKn.row_fName (by exact hK6)) (RKn.rl_fName (by exact hK6)) ?_));refine .mkRow2 (z:=agg (Aa (List.replicate 32 0))) [agg (Aa (A2 D))] (Aa (A2 D)) J J Y30.h Sz34 Cc J J (by intro v hv;rw[La1.1 hv];simp[Value.cells,Aa,hn32]) dE (by simp[Value.cells,agg]) ?_;intro q111;refine .a J J J (.na (.seq (.sr (.a J J J (.na (.block (.loop (ι:=RG) (fun g=>⟨[(0,ptr p 0),(9,g.s.v),(10,i64 (g.i:Int))],(⟨p,[g.x.sL.v,g.x.sO.v],109,2⟩::(g.x.bL++(g.x.bO++(g.x.cb++(g.bl++[])))))⟩) (fun g=>g.ok (x.L.length+x.O.length+1) (X.add D).1) (fun g=>g.x.O.length*100000-g.i) (⟨x.more (⟨A2 D,B2⟩,D) s106 bl106 (x.cb++out16),X.adm (A2 D) D,0,⟨some ⟨q111,0,none⟩,1,1⟩,[⟨q111,Aa (A2 D),34,32⟩],[A2 D]⟩) ?_ ?_ ?_)))))))
 ·exact RG.start hx hI hR hroom hac106 ⟨hK6,⟨hB2,fun w hw=>hbi w (hw.sub fun b hb=>Lav _ hb)⟩,h16⟩ hgd hP1 hQ1 hj1
 ·exact Ah wN (Ab rM (Ac sG (Ac sG (pm_two (Ac sG (Ac sG (pm_in0 (pm_consE rM rfl (by rw[Aa,La0,hn32]) Ae))))))))
 rintro g hG;have hgl:=hG.ll;have hgi:=hG.le;have hgb:=hG.ok.big;have hgf:=hG.ok.few;have hgn:=hG.ok.accO.num;have hgL:=hG.ok.accL.num;refine .seq (.sr (.m J J J (.m J J J (.nC J J J (.fld J J J Y109 J Sz107 dE _ J (.load1 J J J C7 J Z0 (by rfl) ?_))))));refine .lenSl J J J C7 (.lss J J J J J (.na (.condP J (fun hc6=>?_) (fun hc6=>?_))))
 ·
  have hi2:g.i<g.x.O.length:=by omega
  obtain⟨e,hd⟩:∃e,g.x.O[g.i]? =some e:=⟨_,La3 hi2⟩;have hen:=hG.ok.entO e (Lb1 hd);have hek:=hen.1;have hel:=hek.l_fName;obtain⟨b,o,hbp,hbs⟩:=rk_open hG.ok.accO oM;refine .skip (Bm (.seq (.block (.sr (.m J J J (.nC J J J (.fld J J J Y109 J Sz107 dE _ J (.load1 J J J C7 J Z0 (by rfl) ?_))))))));refine .m J J J (.idxSlP 163 J J J hbp J C7 Sz111 g.i (by rfl) oM ?_);refine .loadSN (n:=163) e.1.cells J J J underlying111 J Sz111 (RKn.length hek) (fun w h=>rk_at (hbs w (Lies.of h (by repeat(first|exact An|refine A4 ?_|refine Be ?_)))) hG.ok.okO hd) ?_;refine .alloc (cs:=RKn.zero.cells) J RKn.zr J ?_;intro n11 hn11 hf11;refine .sA J J J J (RKn.isCell (by exact hek)) Sz111 (RKn.length (by exact hek)) Z0 (RKn.length (by exact RKn.zero_ok)) zU ?_;refine .nsr (.m J J J (.fld J J J underlying111 J Sz50 dE _ J (.lN (Block.cells _) J J J Y50.h J Sz50 Z0 (RKn.row_fBlock (by exact hek)) (RKn.rl_fBlock (by exact hek)) ?_)));refine .callB J J J J Body106 (rd_wrong g.x hG.ok p e.1.fBlock e.2 hen.2.1.1) (fun w h=>rd_of (x:=g.x) h Z1 (Lies.of h (by repeat(first|exact An|refine A4 ?_))) (Lies.of h (by repeat(first|exact An|refine A4 ?_|refine Be ?_))) (Lies.of h (by repeat(first|exact An|refine A4 ?_|refine Be ?_)))) (fun hs23_30=>?_) (fun hs23_30=>?_)
  ·
   have hs23_3:=hs23_30;refine .a J J J (.na (.seq (.sr (.m J J J (.not J J J (.m J J J (.skp J J (.skp J J (.skp J J (.skp J J (.skp J J (.pick J J J J J J (.na (.cond_f J J (.skip (Bm (.seq ?_)))))))))))))))))
   try simp only[Lge,Lam,Lad,Lab]
   refine .drawK (sp_v (sp_k (sp_x (sp_x (sp_x (sp_x sp_n)))))) J (oP [0,2,3,4,5,6,7,9,10,11,12,13,14,15,201,408,416,17,18]) [(4,19)] Ar zK zK (.m J J J (.m J J J (.nC J J J (.fld J J J Y109 J Sz107 dE _ J (.kload1 J J J C7 J Z0 (by rfl) ?_)))));refine .m J J J (.sliceHiA g.x.sO g.i J J J J J (by have:=hG.ok.accO.cap;have:=hG.ok.accO.num;omega) C7 Sz111 ?_);refine .m J J J (.nC J J J (.fld J J J Y109 J Sz107 dE _ J (.kload1 J J J C7 J Z0 (by rfl) ?_)));refine .m J J J (.aI J J J J oM (Tr.sliceLoA (g.i+1) J J J J oM hG.ok.accO oM C7 Sz111 ?_));intro s156 hn156 hnil156 hsee156 _ _;refine .mkRow2 (z:=(agg RKn.zero.cells)) [] ([]) J J C7 Sz111 RKn.zr J J (by intro v hv;cases hv) dE J ?_;intro q142;refine .appendAcc (n:=0) (m:=g.i) (z:=(agg RKn.zero.cells)) (by':=216) (rkc (g.x.O.take g.i)) J J J J J C7 C7 Sz111 RKn.zr (by unfold By;kernel_rfl) J (Acc.some (cells:=[]) (E:=111) (Lah 0) J) (Ab rM Ae) (fun w h=>rk_take (hG.ok.accO.see (Lies.of h (by repeat(first|exact An|refine A4 ?_|refine Be ?_))))) (fun e=>by have:=hG.ok.accO.nil e;have:=hG.ok.accO.num;omega) (rkc_cell (fun q hq=>hG.ok.okO q (Lb9 hq))) oM oM (by rw[rkc_len (fun q hq=>hG.ok.okO q (Lb9 hq)),Laa,Lbr oM]) ?_;intro s149 bl149 hac149;refine .appendAcc (n:=(0+g.i)) (z:=(agg RKn.zero.cells)) (by':=216) (rkc (g.x.O.drop (g.i+1))) J J J J J C7 C7 Sz111 RKn.zr (by unfold By;kernel_rfl) J hac149 sG (fun w h=>by rw[rkc_drop hG.ok.okO];exact hsee156 w (Lies.of h (by repeat(first|exact An|refine A4 ?_|refine Be ?_)))) hnil156 (rkc_cell (fun q hq=>hG.ok.okO q (Lcn hq))) oM oM (by rw[rkc_len (fun q hq=>hG.ok.okO q (Lcn hq)),Lat,hn156]) ?_;intro s157 bl157 hac157;refine .nC J J J (.fld J J J Y109 J Sz107 dE _ J (.nil (.s1 J J J J J Sz107 Z0 sP (by rfl) zU ?_)));refine .na (.seq (.sr (.m J J J (.not J J J (.na (.cond_f J J (.skip (Bm (.region (.a J J J (.nil (bl_n (Bm (.region (.m J J J (.aI J J J J oM (.a J J J (.na ?_))))))))))))))))));exact⟨⟨g.x.less g.i s157 bl157,g.X.drop1 e.1.fName,0,g.s,g.bl,g.l⟩,hG.drop hd (by rw[←hG.rel.p];exact hs23_3) (by simpa only[rkc_app,La2,Laa,Lat,Lad,Lb0,hn156,Lbr (Lfg hi2)]using hac157),(by show(g.x.O.take g.i++g.x.O.drop (g.i+1)).length*100000-0<g.x.O.length*100000-g.i;rw[La2,Laa,Lat];omega),Ah wN (Ab rM (Ac sG (Ac sG (Ac sG (Ac sG Ae)))))⟩
  have hs23_3:=hs23_30;refine .a J J J (.na (.seq (.sr (.m J J J (.not J J J (.m J J J (.m J J J (.fld J J J underlying111 J Sz50 dE _ J (.lN (Block.cells _) J J J Y50.h J Sz50 Z0 (RKn.row_fBlock (by exact hek)) (RKn.rl_fBlock (by exact hek)) ?_)))))))));refine .cV J J J J Body107 (rd_ready g.x hG.ok p e.1.fBlock e.2 hen.2.1.1 hen.2.2) (fun w h=>⟨rd_of (x:=g.x) h Z1 (Lies.of h (by repeat(first|exact An|refine A4 ?_))) (Lies.of h (by repeat(first|exact An|refine A4 ?_|refine Be ?_))) (Lies.of h (by repeat(first|exact An|refine A4 ?_|refine Be ?_))),hen.2.1.2 w (Lies.of h (by repeat(first|exact An|refine A4 ?_|refine Be ?_)))⟩) ?_;refine .not J J J (.pick J J J J J J (.na (.cond J (fun hc7=>?_) (fun hc7=>?_))))
  ·
   refine .exit (at_x (bl_h (Bm (.region (.m J J J (.aI J J J J oM (.a J J J (.na ?_))))))));exact⟨⟨g.x,g.X,g.i+1,g.s,g.bl,g.l⟩,hG.more hd (by rw[hG.rel.p]at hs23_3 hc7;unfold Bq;rw[show wrongB g.X.P e.2=false from hs23_3,show readyB g.X.P e.2=false by simpa using hc7];rfl),by simp only;omega,Ah wN (Ab rM (Ac sG (Ac sG (Ac sG (Ac sG Ae)))))⟩
  refine .skip (Bm (.seq ?_))
  try simp only[Lge,Lam,Lad,Lab]
  refine .drawK (sp_v (sp_k (sp_x (sp_x (sp_x (sp_x sp_n)))))) J (oP [0,2,3,4,5,6,7,9,10,11,12,13,14,15,201,408,416,17,18]) [(4,19)] Ar zK zK (.m J J J (.m J J J (.nC J J J (.fld J J J Y109 J Sz107 dE _ J (.kload1 J J J C7 J Z0 (by rfl) ?_)))));refine .m J J J (.sliceHiA g.x.sO g.i J J J J J (by have:=hG.ok.accO.cap;have:=hG.ok.accO.num;omega) C7 Sz111 ?_);refine .m J J J (.nC J J J (.fld J J J Y109 J Sz107 dE _ J (.kload1 J J J C7 J Z0 (by rfl) ?_)));refine .m J J J (.aI J J J J oM (Tr.sliceLoA (g.i+1) J J J J oM hG.ok.accO oM C7 Sz111 ?_));intro s156 hn156 hnil156 hsee156 _ _;refine .mkRow2 (z:=(agg RKn.zero.cells)) [] ([]) J J C7 Sz111 RKn.zr J J (by intro v hv;cases hv) dE J ?_;intro q142;refine .appendAcc (n:=0) (m:=g.i) (z:=(agg RKn.zero.cells)) (by':=216) (rkc (g.x.O.take g.i)) J J J J J C7 C7 Sz111 RKn.zr (by unfold By;kernel_rfl) J (Acc.some (cells:=[]) (E:=111) (Lah 0) J) (Ab rM Ae) (fun w h=>rk_take (hG.ok.accO.see (Lies.of h (by repeat(first|exact An|refine A4 ?_|refine Be ?_))))) (fun e=>by have:=hG.ok.accO.nil e;have:=hG.ok.accO.num;omega) (rkc_cell (fun q hq=>hG.ok.okO q (Lb9 hq))) oM oM (by rw[rkc_len (fun q hq=>hG.ok.okO q (Lb9 hq)),Laa,Lbr oM]) ?_;intro s149 bl149 hac149;refine .appendAcc (n:=(0+g.i)) (z:=(agg RKn.zero.cells)) (by':=216) (rkc (g.x.O.drop (g.i+1))) J J J J J C7 C7 Sz111 RKn.zr (by unfold By;kernel_rfl) J hac149 sG (fun w h=>by rw[rkc_drop hG.ok.okO];exact hsee156 w (Lies.of h (by repeat(first|exact An|refine A4 ?_|refine Be ?_)))) hnil156 (rkc_cell (fun q hq=>hG.ok.okO q (Lcn hq))) oM oM (by rw[rkc_len (fun q hq=>hG.ok.okO q (Lcn hq)),Lat,hn156]) ?_;intro s157 bl157 hac157;refine .nC J J J (.fld J J J Y109 J Sz107 dE _ J (.nil (.s1 J J J J J Sz107 Z0 sP (by rfl) zU ?_)));refine .na (.seq (.sr (.m J J J (.not J J J (.na (.cond_t J J (.seq ?_)))))))
  try simp only[Lge,Lam,Lad,Lab]
  refine .drawK (sp_k (sp_x (sp_k (sp_x (sp_x (sp_x (sp_x sp_n))))))) J (oP [0,1,2,3,4,5,206,407,8,9]) [(4,10)] Ar zK zK (.m J J J (.m J J J (.nC J J J (.fld J J J Y109 J Sz107 dE _ J (.kload1 J J J C7 J Z0 (by rfl) ?_)))));refine .kloadAll J J J underlying111 J Sz111 Z1 (RKn.length (by exact hek)) ?_;refine .mkRow2 (z:=(agg RKn.zero.cells)) [agg e.1.cells] (e.1.cells) J J C7 Sz111 RKn.zr J J (by intro v hv;rw[La1.1 hv];exact RKn.length (by exact hek)) dE (by simp[Value.cells,agg]) ?_;intro q168;refine .appendAcc (n:=g.x.L.length) (z:=(agg RKn.zero.cells)) (by':=216) (e.1.cells) J J J J J C7 C7 Sz111 RKn.zr (by unfold By;kernel_rfl) J hG.ok.accL sG (fun w h=>SeesP.of (Ap h Z0)) (fun e=>by cases e) (RKn.isCell hek) oM oM (by rw[RKn.length hek]) ?_;intro s169 bl169 hac169;refine .nC J J J (.fld J J J Y109 J Sz107 dE _ J (.nil (.s1 J J J J J Sz107 Z0 sP (by rfl) zU ?_)));refine .na (.region (.m J J J (.fld J J J underlying111 J Sz34 dE _ J (.lN (Aa _) J J J Y34.h J Sz34 Z1 (RKn.row_fName (by exact hek)) (RKn.rl_fName (by exact hek)) ?_))));refine .mkRow2 (z:=agg (Aa (List.replicate 32 0))) [agg (Aa e.1.fName)] (Aa e.1.fName) J J Y30.h Sz34 Cc J J (by intro v hv;rw[La1.1 hv];simp[Value.cells,Aa,hel]) dE (by simp[Value.cells,agg]) ?_;intro q175;refine .appendAcc (n:=g.l.length) (z:=agg (Aa (List.replicate 32 0))) (by':=32) (Aa e.1.fName) J J J J J Y30.h Y30.h Sz34 Cc (by unfold By;kernel_rfl) J hG.acc sG (fun w h=>SeesP.of (Ap h Z0)) (fun e=>by cases e) (Az _) oM oM (by rw[Aa,La0,hel]) ?_;intro s176 bl176 hac176;refine .a J J J (.na (.region (.a J J J (.nil (bl_n (Bm (.region (.m J J J (.aI J J J J oM (.a J J J (.na ?_)))))))))));exact⟨⟨(g.x.less g.i s157 bl157).more e s169 bl169 g.x.cb,(g.X.drop1 e.1.fName).adm e.1.fName e.2,0,s176,bl176,g.l++[e.1.fName]⟩,hG.fit hd (by rw[←hG.rel.p];exact hs23_3) (by rw[←hG.rel.p];simpa using hc7) (by simpa only[rkc_app,La2,Laa,Lat,Lad,Lb0,hn156,Lbr (Lfg hi2)]using hac157) hac169 hac176,(by show(g.x.O.take g.i++g.x.O.drop (g.i+1)).length*100000-0<g.x.O.length*100000-g.i;rw[La2,Laa,Lat];omega),Ah wN (Ab rM (Ac sG (Ac sG (Ac sG (Ac sG Ae)))))⟩
 have hi2:g.i=g.x.O.length:=by omega
 refine .exit (at_x (at_x (bl_h (Bm (.sr (.m J J J (.a J J J (.a J J J (.na ?_)))))))));refine .ret (C2 (Ay (out:=(⟨p,[g.x.sL.v,g.x.sO.v],109,2⟩::(g.x.bL++(g.x.bO++(g.x.cb++(g.bl++[])))))) (B5 J J J) (Ab rM (Ac sG (Ac sG (Ac sG (Ac sG Ae))))) ?_));exact⟨g.x,0,g.s,g.bl,rfl,(by simp[RD.blks]),hG.ok,hG.fin hi2,hG.sz⟩
theorem seesP_far{w w2:World}(h:HRep C hp w)(hl:C.lent=[])(hL:∀b∈L,b∈hp)(hk:Keeps (L.map (·.n)) w w2){p:Option Addr}{cs:List Value}(hs:SeesP C.W0 p cs):SeesP w2 p cs:=fun j v hj=>by
  obtain⟨b,o,hp1,hc⟩:=hs j v hj;refine⟨b,o,hp1,?_⟩;have hlt:=cell_lt' hc;have h1:w.cell? ⟨b,o+j,none⟩=some v:=h.keeps.cell (by rw[hl];simp) hc;refine hk.cell (fun hm=>?_) h1;obtain⟨x,hx,e⟩:=La6.1 hm;rcases h.own x (hL x hx)with h2|h2
  · have e2:x.n=b:=e
    omega
  ·rw[hl]at h2;cases h2
theorem block_far(h:HRep C hp w)(hL:∀b∈L,b∈hp)(hb:BlockIs C.W0 B D)(hl:C.lent=[]:=by rfl):∀w2,Keeps (L.map (·.n)) w w2→BlockIs w2 B D:=fun w2 hk=>
  ⟨hb.ok,hb.w,hb.seq,hb.prev,⟨hb.ls.len,hb.ls.row,hb.ls.cap,seesP_far h hl hL hk hb.ls.see,hb.ls.max,hb.ls.nil⟩,⟨hb.ds.len,hb.ds.cap,seesP_far h hl hL hk hb.ds.see,hb.ds.max,hb.ds.nil⟩,hb.sg⟩
theorem rd_lent{hp keep:List Blk}{x:RD}{p:Nat}(h:HRep C hp w)(hp1:hp.Perm (x.blks p++keep))(hb:BlockIs C.W0 B D)(hl:C.lent=[]:=by rfl):Lent (x.blks p) w∧∀w2,Keeps ((x.blks p).map (·.n)) w w2→BlockIs w2 B D:=
  ⟨Lent.of h hp1,block_far h (fun b hb=>hp1.mem_iff.2 (Lak _ hb)) hb hl⟩
theorem RRel.new:RRel PD.new [] []:=⟨rfl,Lcq _,List.Pairwise.nil⟩
theorem rd_new0:(⟨Sl.nil,[],[],Sl.nil,[],[],[]⟩:RD).ok:=⟨Acc.none,Acc.none,fun e he=>(by cases he),fun e he=>(by cases he),Laq _,Laq _⟩
theorem rd_get(x:RD)(hx:x.ok)(p:Nat)(X:PD)(hP:x.P=X.P)(hck:∀q∈X.P,q.2.check=0)(n:List UInt8)(h32:n.length=32):Meets prog 26 [ptr p 0,agg (Aa n)] [] (fun W=>Lies (x.blks p) W) (GetR X n):=by
 intro W hW;have hbig:=hx.big;have hnL:=hx.accL.num;have hnO:=hx.accO.num;have hcL:=rd_L hW;have hsL:=rd_seeL hx hW;refine Ad func26 J 25 ntmps26 J (.sr (.boxA J J ?_));intro n3 hn3 hf3;refine .alloc (cs:=Block.zero.cells) J Block.zr J ?_;intro n4 hn4 hf4;refine .a J J J (.na (.seq (.draw (oP [0,1,2,103,104,305,6]) Ar zK (.m J J J (.nC J J J (.fld J J J Y109 J Sz107 dE _ J (.loadE J J J C7 J sP (hcL) (.lA J J J Y34.h J Sz34 Z1 (by(simp[h32];done)) ?_))))))));refine .cV J J J J Body84 (rd_find x.sL x.L hnL.symm hx.okL oM n h32) (fun w h=>A7 h J hsL) (.a J J J (.na (.seq (.sr (.m J J J (.lss J J J J J (.na (.condP J (fun hc0=>?_) (fun hc0=>?_)))))))))
 ·
  have hm:Am X.P n=none:=by rw[←hP];exact rd_no oM
  refine .sr (.build (cs:=Block.zero.cells) J J J (fun w=>by kernel_rfl) ?_);refine .sA J J J J (Block.isCell (by exact Block.zero_ok)) Sz50 (Block.length (by exact Block.zero_ok)) Z0 (Block.length (by exact Block.zero_ok)) zU ?_;refine .a J J J (.na ?_);refine .ret (at_r (C2 (Ay (out:=[]) (Bf J J J Y50.h J Sz50 Z0 (by exact Block.length (by exact Block.zero_ok))) Ae ?_)));exact .inl ⟨hm,rfl,rfl⟩
 obtain⟨k,e,hf,hk,hn,hm0⟩:=rd_hit (show 0≤fstBad (rkN n) x.L by omega);have hm:Am X.P n=some e.2:=by rw[←hP];exact hm0
 have hen:=hx.entL e (Lb1 hk);have hek:=hen.1;have hkl:=(Lac.1 hk).1;obtain⟨b,o,hbp,hbs⟩:=rd_open hsL hx.okL hkl;have hsm:=ck_small (hck _ (Bk hm));simp only at hsm;obtain⟨hsm1,hsm2⟩:=hsm;refine .skip (Bm (.sr (.m J J J (.nC J J J (.fld J J J Y109 J Sz107 dE _ J (.loadE J J J C7 J sP (hcL) (.m J J J (.idxSlP 163 J J J hbp J C7 Sz111 k oM oM (.fld J J J underlying111 J Sz50 dE _ J (.loadEN e.1.fBlock.cells J J J Y50.h J Sz50 sP (Block.length hek.o_fBlock) (rk_blk hbs hx.okL hk) (.call4 J J J J J Body85 (r15_Copy e.1.fBlock e.2 hek.o_fBlock oM oM) (fun w h=>hen.2.1.2 w (rd_cb (Ce hW h))) ?_)))))))))));rintro v24 out24 ⟨B2,hB2,rfl,hb2⟩;refine .sA J J J J (Block.isCell (by exact hB2.ok)) Sz50 (Block.length (by exact hB2.ok)) mR (Block.length (by exact Block.zero_ok)) (by(repeat(first|exact upd0|apply Upd.seg))) ?_;refine .a J J J (.na ?_);refine .ret (C2 (Ay (out:=(out24++[])) (Bf J J J Y50.h J Sz50 mR (by exact Block.length (by exact hB2.ok))) (Ac sG Ae) ?_));exact .inr ⟨e.2,B2,hm,hB2,rfl,fun W2 hl=>hb2 W2 (by simpa using hl)⟩
theorem law17_known(s:Sl)(ds:List DB)(hn:s.n≤1000)(hsm:∀d∈ds,d.ls.length≤500000∧d.ds.length≤500000):Meets prog 18 [s.v] [] (fun W=>BlocksAt W s ds) (fun v out=>∃(p:Nat) (x:RD),v=ptr p 0∧out=x.blks p∧x.ok∧RRel (fillP PD.new ds) x.P x.Q∧x.L.length+x.O.length≤ds.length):=by
 intro W hW;obtain⟨rs,hs⟩:=hW;have hnd:=hs.nd;refine Ad func18 J 19 ntmps18 J (G7 ?_);refine .call4 J J J J J Body40 (rd_new) tV ?_;rintro v5 out5 ⟨p,rfl,rfl⟩;refine G10 ?_;refine .loop (ι:=Nat×RD) (fun r=>⟨[(0,s.v),(3,ptr p 0),(4,i64 (r.1:Int))],(r.2.blks p++[])⟩) (fun r=>r.1≤s.n∧r.2.ok∧RRel (fillP PD.new (ds.take r.1)) r.2.P r.2.Q∧r.2.L.length+r.2.O.length≤r.1) (fun r=>s.n-r.1) ((0,⟨Sl.nil,[],[],Sl.nil,[],[],[]⟩)) ?_ ?_ ?_
 ·exact⟨Laq _,rd_new0,RRel.new,Lah _⟩
 ·exact Ah wN (Ac sG Ae)
 rintro⟨k,x⟩ ⟨hk,hx,hrel,hnx⟩;simp only at hk hx hrel hnx ⊢;refine G9 ?_;refine .condP J (fun hc0=>?_) (fun hc0=>?_)
 ·
  have hk2:k<s.n:=by omega
  obtain⟨b,o,r,d,hsp,hr,hd,his,hlen,hsee⟩:=hs.at dE hk2;refine G8 ?_;refine .idxSlP 131 J J J hsp J Y22.h Sz50 k J oM (.loadEN r.cells J J J Y50.h J Sz50 sP hlen hsee (.callL (L:=(x.blks p)) J J J J J Body43 (rd_add x hx (fillP PD.new (ds.take k)) (PD.Inv.fill _ PD.Inv.new) hrel p r d oM (hsm d (Lb1 hd)).1 (hsm d (Lb1 hd)).2) sG (lent_ok J) (fun w h=>rd_lent h sG his) ?_));rintro v17 out17 ⟨x1,e17,s17,bl17,rfl,rfl,hx1,hrel1,hnx1⟩;simp only[Lab];refine G9 ?_;exact⟨(k+1,x1),⟨by simp only;omega,hx1,by simp only;rw[take_snoc hd,fillP_snoc];exact hrel1,by simp only;omega⟩,by simp only;omega,Ah wN (Ac sG Ae)⟩
 have hke:k=s.n:=by omega
 refine G11 ?_;refine G2 ?_;refine Ay (out:=(x.blks p++[])) (Af J J) (Ac sG Ae) ?_;refine⟨p,x,rfl,by simp,hx,?_,by omega⟩;rw[hke,La5 oM]at hrel;exact hrel
theorem also_ne{j i:Nat}(h:j≠i):also j l i=l i:=by simp[also,h]
theorem also_eq:also j l j=true:=by simp[also]
def IntsAt(W:World)(s:Sl)(l:List Int):Prop:=SeqIs (fun r:Int=>[i64 r]) 1 (fun _ r d=>d=r∧(Lit.int .i64 r).wf=true) W s l l
theorem ints_ext{s:Sl}{l:List Int}(hh:HRep C hp w)(hl:C.lent=[])(h:IntsAt C.W0 s l):IntsAt w s l:=h.ext hh hl fun r d hd=>hd
section
variable{B:List (Nat×Value)}{K:List Blk}{m:Nat}{f:List (List UInt8×Int)}{n:List UInt8}{s0:Sl}{bl0:List Blk}{L:List (List UInt8)}{q:Nat}{s5:Sl}{bl5:List Blk}{l:Nat→Bool}{sl:List (Nat×Value)}{hp:List Blk}
end
variable{D:DB}{X:PD}{bf ls:List (List UInt8)}{n:List UInt8}
theorem light_ats{ds:List DB}{m:Int}(h:lightOf lightBf ds m=true):(ds.length:Int)≤m∧∀d∈ds,d.ls.length≤500000∧d.ds.length≤500000:=by
  unfold lightOf at h;simp only[Lao,Ldl,decide_eq_false_iff_not,Lbn]at h;refine⟨by omega,fun d hd=>?_⟩;have:=h.2 d hd;unfold lightBf at this;simp only[Lao,decide_eq_true_eq]at this;omega
theorem kit_namesA(s:Sl)(ls:List (List UInt8))(hn:s.n≤500000):Meets prog 22 [s.v] [] (fun W=>RowsAt W s 32 ls) (fun v out=>∃s2:Sl,v=s2.v∧Hw.Acc s2 out (As ls) 34 ls.length 32):=fun W hW=>by
  refine(kit_names s ls hn W hW).mono fun e W' ⟨v,out,h1,⟨q,c,hv,hc,ho⟩,h3⟩=>⟨v,out,h1,⟨⟨some ⟨q,0,none⟩,s.n,c⟩,hv,?_⟩,h3⟩;rw[ho,←hW.len];exact Acc.some (by rw[hW.len];exact hc) (Aw hW.row)
theorem flatB_dropK{L:List (List UInt8)}(h:∀l∈L,l.length=32)(k:Nat):(As L).drop (k*32)=As (L.drop k):=by
  have e:As L=As (L.take k)++As (L.drop k):=by rw[←Bo,Lc0]
  have h1:=Aw (ls:=L.take k) fun l hl=>h l (Lb9 hl);rw[Laa]at h1;rcases Nat.le_total k L.length with h2|h2
  · rw[Lbr h2]at h1
    rw[e,←h1,Lgv]
  ·rw[Lai h2,Lai (by rw[Aw h];omega)];rfl
def chkE(X:PD):List (List UInt8)→List (List UInt8)→Int
  |_,[]=>0
  | bf,n::ls=>match Am X.P n with
    |none=>6
    |some D=>if n∈bf then 2 else if((Bi D).any fun m=>decide (m∉bf))=true then 4 else chkE X (bf++[n]) ls
theorem chk_6(h:Am X.P n=none):chkE X bf (n::ls)=6:=by rw[chkE,h]
theorem chk_2(h:Am X.P n=some D)(h2:n∈bf):chkE X bf (n::ls)=2:=by rw[chkE,h];exact if_pos h2
theorem chk_4(h:Am X.P n=some D)(h2:n∉bf)(h3:∃m∈Bi D,m∉bf):chkE X bf (n::ls)=4:=by
  obtain⟨m,hm,h4⟩:=h3;rw[chkE,h];exact(if_neg h2).trans (if_pos (Lbw.2 ⟨m,hm,decide_eq_true h4⟩))
theorem chk_0(h:Am X.P n=some D)(h2:n∉bf)(h3:∀m∈Bi D,m∈bf):chkE X bf (n::ls)=chkE X (bf++[n]) ls:=by
  rw[chkE,h];refine(if_neg h2).trans (if_neg fun h4=>?_);obtain⟨m,hm,h5⟩:=Lbw.1 h4;exact of_decide_eq_true h5 (h3 m hm)
def comL:List (List UInt8)→List (List UInt8)→Nat
  |a::l,b::m=>if a=b then comL l m+1 else 0
  |_,_=>0
theorem com_at:∀ {l m:List (List UInt8)} {k:Nat},l.take k=m.take k→k<l.length→k<m.length→l.getD k []≠m.getD k []→comL l m=k
  | a::l,b::m,0,_,_,_,h=>by
    rw[comL];exact if_neg h
  | a::l,b::m,k+1,ht,h1,h2,h=>by
    rw[Lcx,Lcx]at ht;obtain⟨h3,h4⟩:=List.cons.inj ht;rw[comL];exact(if_pos h3).trans (congrArg (· +1) (com_at h4 (by simpa using h1) (by simpa using h2) (by simpa using h)))
  | [],_,_,_,h,_,_=>absurd h (Ldo _)
  |_::_,[],_,_,_,h,_=>absurd h (Ldo _)
theorem com_all:∀ {l m:List (List UInt8)},l.take (min l.length m.length)=m.take (min l.length m.length)→comL l m=min l.length m.length
  | a::l,b::m,h=>by
    rw[Lax,Lax,Nat.add_min_add_right,Lcx,Lcx]at h;obtain⟨h3,h4⟩:=List.cons.inj h;rw[comL,Lax,Lax,Nat.add_min_add_right];exact(if_pos h3).trans (congrArg (· +1) (com_all h4))
  | [],m,_=>by rw[Lfh,Nat.zero_min];rfl
  |_::_,[],_=>rfl
theorem miss_1(n:List UInt8)(h32:n.length=32)(q m:Nat)(fs:List (List UInt8×Unit)):Mv 113 [agg (Aa n),ptr q 0] (fun W=>W.cell? ⟨q,0,none⟩=some (.map (some m))∧BlkOk W (A3 m (Ao 32 evU) fs)) (.bool (Am fs n).isNone):=by
 intro W hW;refine Ad func113 J 8 ntmps113 J (G3 ?_);intro n2 hn2 hf2;refine G5 ?_;refine .loadE J J J Y115 J sP (hW.1) (.lA J J J Y34.h J Sz34 Z0 (by(simp[h32];done)) ?_);refine .cV J J J J Body112 (lin_has m fs n h32) (fun w h2=>mblk_keep hW.2 h2) (G4 ?_);refine G2 ?_;refine Ay (out:=[]) (Af J J) Ae ?_;exact⟨congrArg Value.bool (by cases Am fs n<;>rfl),rfl⟩
theorem index_miss(s:Sl)(ls:List (List UInt8))(q m:Nat)(fs:List (List UInt8×Unit)):Mv 150 [s.v, .func (.func 113) #[] #[ptr q 0]] (fun W=>RowsAt W s 32 ls∧W.cell? ⟨q,0,none⟩=some (.map (some m))∧BlkOk W (A3 m (Ao 32 evU) fs)) (i64 (fstBad (fun n=>(Am fs n).isNone) ls)):=by
 intro W hW;have hlen:=hW.1.len;have hrow:=hW.1.row;have hmax:=hW.1.max;simp only[maxLen]at hmax;have hcap:=hW.1.cap;refine Ad func150 J 19 ntmps150 J (G14 ?_);refine .loop (ι:=Nat) (fun k=>⟨[(0,s.v),(1, .func (.func 113) #[] #[ptr q 0]),(7,i64 (s.n:Int)),(8,i64 (k:Int))],[]⟩) (fun k=>k≤s.n∧∀j,j<k→(ls.map (fun n=>(Am fs n).isNone))[j]? =some false) (fun k=>s.n-k) (0) ?_ ?_ ?_
 ·exact⟨by omega,fun j hj=>by omega⟩
 ·exact Ag wN wh0 nD
 rintro k ⟨hk,hg⟩;refine G6 ?_;refine .condP J (fun hc0=>?_) (fun hc0=>?_)
 ·
  have hk2:k<s.n:=by omega
  obtain⟨b,o,hbp,hbs⟩:=hW.1.see.at (by rw[Aw hrow];omega);have h32k:(ls.getD k []).length=32:=Bs hrow oM;have hd:ls[k]? =some (ls.getD k []):=by rw[La4,La3 (show k<ls.length by omega)];rfl
  refine G15 ?_;refine .idxSlP 32 J J J hbp J Y30.h Sz34 k oM oM (.loadEN (Aa (ls.getD k [])) J J J Y34.h J Sz34 sP (by rw[Aa,La0];exact h32k) (B3 hrow hbs oM) ?_);refine .callCV J J J J J Body113 (miss_1 (ls.getD k []) h32k q m fs) (fun w h2=>⟨h2.keeps.cell sP hW.2.1,mblk_keep hW.2.2 h2⟩) (G2 ?_);refine .cond J (fun hc1=>?_) (fun hc1=>?_)
  ·
   refine G6 ?_;refine G7 ?_;refine⟨_,[],Af J J,sP,sP,?_,rfl⟩;exact congrArg i64 (fstBad_at hg (by rw[Laf,hd];simpa using hc1)).symm
  refine G8 ?_;exact⟨k+1,⟨by omega,fun j hj=>by rcases Lbz.1 hj with h|rfl;exact hg j h;rw[Laf,hd];simpa using hc1⟩,by omega,Ag wN wh0 nD⟩
 obtain rfl:k=s.n:=by omega
 refine G10 ?_;refine G2 ?_;refine⟨_,[],Af J J,sP,sP,?_,rfl⟩;exact congrArg i64 (fstBad_none (by intro j hj;exact hg j (by rw[hlen]at hj;exact hj))).symm
theorem contains_miss(s:Sl)(ls:List (List UInt8))(q m:Nat)(fs:List (List UInt8×Unit)):Mv 115 [s.v, .func (.func 113) #[] #[ptr q 0]] (fun W=>RowsAt W s 32 ls∧W.cell? ⟨q,0,none⟩=some (.map (some m))∧BlkOk W (A3 m (Ao 32 evU) fs)) (.bool (ls.any (fun n=>(Am fs n).isNone))):=by
 intro W hW;refine Ad func115 J 9 ntmps115 J (G9 ?_);refine .cV J J J J Body150 (index_miss s ls q m fs) (fun w h2=>⟨rows_ext h2 J hW.1,h2.keeps.cell sP hW.2.1,mblk_keep hW.2.2 h2⟩) (G4 ?_);refine G2 ?_;refine⟨_,[],Af J J,sP,sP,?_,rfl⟩;exact congrArg Value.bool (fstBad_ge _ _)
theorem lin_check(x:DD)(hx:x.ok)(hI:x.pl.Inv)(p:Nat)(s:Sl)(ls:List (List UInt8)):Mv 47 [ptr p 0,s.v] (fun W=>Lies (x.blks p) W∧RowsAt W s 32 ls) (i64 (chkE x.pl [] ls)):=by
 intro W hW;have h32k:True:=trivial;obtain⟨hlies,hrh⟩:=id hW;have hck:∀q∈x.P,q.2.check=0:=hI.ck;have h16:∀q∈x.P,q.2.ls.length≤16:=fun q hq=>(ck_small (hck q hq)).1;have hlen:=hrh.len;have hrow:=hrh.row;have hmax:=hrh.max;simp only[maxLen]at hmax;refine Ad func47 J 43 ntmps47 J (.sr (.a J J J (.na (.seq (.sr (.m J J J (.cV J J J J Body78 (lin_none x hx h16 p) (fun w h=>Ce hlies h) (.na (.cond_f J J (.skip (Bm (.sr (.mkMap (Ao 32 evU) J J ?_)))))))))))));intro m13;refine .alloc (cs:=[.map none]) J Zr115 J ?_;intro n5 hn5 hf5;refine .s1 J J J J J Sz115 Z0 sP (by rfl) zU ?_;refine .nsr (.makeFunc J J J J (.a J J J (.na (.seq (.sr (.m J J J (.lenSl J J J Y30.h (.m J J J (.na (.block (.loop (ι:=Nat×List (List UInt8×Unit)) (fun r=>⟨[(0,ptr p 0),(4,i64 0),(5,ptr n5 0),(6, .func (.func 113) #[] #[ptr n5 0]),(15,s.v),(16,i64 (s.n:Int)),(17,i64 (r.1:Int))],[A3 m13 (Ao 32 evU) r.2,⟨n5,[.map (some m13)],115,1⟩]⟩) (fun r=>r.1≤s.n∧(∀n,n∈r.2.map (·.1)↔n∈ls.take r.1)∧chkE x.pl [] ls=chkE x.pl (ls.take r.1) (ls.drop r.1)) (fun r=>s.n-r.1) ((0,[])) ?_ ?_ ?_)))))))))))
 ·exact⟨Laq _,fun n=>by simp,rfl⟩
 ·exact Ah wN (Ab rM (Ab rM Ae))
 rintro⟨k,fs⟩ ⟨hk,hkeys,hce⟩;simp only at hk hkeys hce ⊢;refine .sr (.lss J J J J J (.na (.seq (.condP J (fun hc1=>?_) (fun hc1=>?_)))))
 ·
  have hk2:k<s.n:=by omega
  have hk3:k<ls.length:=by omega
  obtain⟨b,o,hbp,hbs⟩:=hrh.see.at (by rw[Aw hrow];omega);have h32k:(ls.getD k []).length=32:=Bs hrow oM;have hdk:ls.drop k=ls.getD k []::ls.drop (k+1):=drop_at (by rw[La4,La3 hk3];rfl);refine .skip (Bm (.seq (.block (.sr (.idxSlP 32 J J J hbp J Y30.h Sz34 k J oM (.loadEN (Aa (ls.getD k [])) J J J Y34.h J Sz34 sP (by rw[Aa,La0];exact h32k) (B3 hrow hbs oM) ?_))))));refine .alloc (cs:=(Aa (List.replicate 32 0))) J Cc J ?_;intro n8 hn8 hf8;refine .sA J J J J zE Sz34 (by(rw[Aa,La0];assumption)) Z0 sP zU ?_;refine .nsr (.m J J J (.lA J J J Y34.h J Sz34 Z0 (by(rw[Aa,La0];assumption)) ?_));refine .call4 J J J J J Body114 (dag_get x hx hck p (ls.getD k []) h32k) (fun w h=>Ce hlies h) ?_;rintro v24 out24 (⟨h0,rfl,rfl⟩|⟨D,B,hD,hB,rfl,hbi⟩)
  ·
   skip;refine .m J J J (.eX J J J J (.eX J J J J (.alloc (cs:=Block.zero.cells) J Block.zr J ?_)));intro n9 hn9 hf9;refine .sA J J J J (Block.isCell (by exact Block.zero_ok)) Sz50 (Block.length (by exact Block.zero_ok)) Z0 (Block.length (by exact Block.zero_ok)) zU ?_;refine .a J J J (.na (.seq (.block (.sr (.m J J J (.nei J J J J (show(!decide _)=true from congrArg not (decide_eq_false dE)) (.a J J J (.na (.cond_t J J (.sr (.a J J J (.na ?_))))))))))));refine .ret (bl_r (at_r (bl_r (at_r (at_r (bl_r (at_r (C2 ?_))))))));refine⟨_,[],Af J J,sP,sP,?_,rfl⟩;rw[hce,hdk,chk_6 h0]
  have hD16:D.ls.length≤16:=h16 _ (Bk hD);have hp17:(Bi D).length≤17:=by have:=parL_len D;omega
  have hprow:∀l∈Bi D,l.length=32:=parL_row (hB_ok hx hlies hD);refine .m J J J (.eX J J J J (.eX J J J J (.alloc (cs:=Block.zero.cells) J Block.zr J ?_)));intro n9 hn9 hf9;refine .sA J J J J (Block.isCell (by exact hB.ok)) Sz50 (Block.length (by exact hB.ok)) Z0 (Block.length (by exact Block.zero_ok)) zU ?_;refine .a J J J (.na (.seq (.block (.sr (.m J J J (.nei J J J J (show(!decide _)=false from congrArg not (decide_eq_true (rfl))) (.a J J J (.na (.cond_f J J (.sr (.load1 J J J Y115 J mR (by rfl) ?_)))))))))));refine .lA J J J Y34.h J Sz34 mR (by(rw[Aa,La0];assumption)) ?_;refine .cV J J J J Body112 (lin_has m13 fs (ls.getD k []) h32k) (fun w h=>Ci h mR) ?_;refine .a J J J (.na (.cond J (fun hc3=>?_) (fun hc3=>?_)))
  ·
   refine .sr (.a J J J (.na ?_));refine .ret (bl_r (at_r (bl_r (at_r (at_r (bl_r (at_r (C2 ?_))))))));refine⟨_,[],Af J J,sP,sP,?_,rfl⟩;rw[hce,hdk,chk_2 hD ((hkeys _).1 (is_key hc3))]
  refine .sr (.lA J J J Y50.h J Sz50 Z0 (Block.length (by exact hB.ok)) ?_);refine .call4 J J J J J Body116 (db_parA B D oM) (fun w h=>hbi w (Lies.of h (by repeat(first|exact An|refine A4 ?_)))) ?_;rintro v36 out36 ⟨⟨p36,n36,c36⟩,rfl,hac36⟩;have hn36:n36=(Bi D).length:=hac36.num;refine .m J J J (.cV J J J J Body115 (contains_miss ⟨p36,n36,c36⟩ (Bi D) n5 m13 fs) (fun w h=>⟨acc_rows hac36 (Lies.of h (by repeat(exact An))) hprow J oM,(Ci (B:=⟨n5,[.map (some m13)],115,1⟩) h mR).cell (o:=0) J,Ci h mR⟩) ?_);refine .a J J J (.na (.cond J (fun hc4=>?_) (fun hc4=>?_)))
  ·
   refine .sr (.a J J J (.na ?_));refine .ret (bl_r (at_r (bl_r (at_r (at_r (bl_r (at_r (C2 ?_))))))));refine⟨_,[],Af J J,sP,sP,?_,rfl⟩;obtain⟨m9,hm9,hno⟩:=some_any hc4;rw[hce,hdk,chk_4 hD (fun h9=>not_key (by simpa using hc3) ((hkeys _).2 h9)) ⟨m9,hm9,fun h9=>hno ((hkeys _).2 h9)⟩]
  refine .skip (bl_n (Bm (.region (.load1 J J J Y115 J mR (by rfl) ?_))));refine .lA J J J Y34.h J Sz34 mR (by(rw[Aa,La0];assumption)) ?_;refine .build (cs:=[]) J J J (fun w=>by kernel_rfl) ?_;refine .mapPut (v:=()) MN J J J J J h32k rM ?_;refine .nil (bl_n (Bm (.region (.aI J J J J oM (.m J J J (.na ?_))))));refine⟨(k+1,Bh fs (ls.getD k []) ()),⟨by simp only;omega,fun n=>?_,?_⟩,by simp only;omega,Ah (wk1 J (wk1 J (wk1 J (wk1 J (wk1 J (wk1 J (wk1 (by rw[Lcc];rfl) wk0))))))) (Ab rM (Ab rM Ae))⟩
  ·simp only;rw[keysP_put (by simpa using hc3),take_succ_getD hk3,La9,La9,hkeys n]
  ·simp only;rw[hce,hdk,chk_0 hD (fun h9=>not_key (by simpa using hc3) ((hkeys _).2 h9)) (fun m hm=>(hkeys m).1 (none_any hc4 m hm)),take_succ_getD hk3]
 rw[Lai oM]at hce;refine .exit (at_x (at_x (bl_h (Bm (.sr (.a J J J (.na ?_)))))));refine .ret (C2 ?_);refine⟨_,[],Af J J,sP,sP,?_,rfl⟩;rw[hce];rfl
theorem lin_common(s t:Sl)(xs ys:List (List UInt8)):Mv 50 [s.v,t.v] (fun W=>RowsAt W s 32 xs∧RowsAt W t 32 ys) (i64 (comL xs ys:Int)):=by
 intro W hW;have hra:=hW.1.row;have hrb:=hW.2.row;have hla:=hW.1.len;have hlb:=hW.2.len;have hmax:=hW.1.max;simp only[maxLen]at hmax;refine Ad func50 J 30 ntmps50 J (G12 ?_);refine .min2 J J J J (congrArg i64 (show(if(t.n:Int)<(s.n:Int)then(t.n:Int)else(s.n:Int))=((min s.n t.n:Nat):Int)from(by split<;>omega))) ?_;refine G4 ?_;refine .loop (ι:=Nat) (fun k=>⟨[(0,s.v),(1,t.v),(4,i64 0),(10,i64 ((min s.n t.n:Nat):Int)),(11,i64 (k:Int))],[]⟩) (fun k=>k≤min s.n t.n∧xs.take k=ys.take k) (fun k=>min s.n t.n-k) (0) ?_ ?_ ?_
 ·exact⟨Laq _,rfl⟩
 ·exact Ag wN wh0 nD
 rintro k ⟨hk,hg⟩;refine G6 ?_;refine .condP J (fun hc0=>?_) (fun hc0=>?_)
 ·
  have hk2:k<min s.n t.n:=by omega
  obtain⟨b1,o1,hp1,hs1⟩:=hW.1.see.at (by rw[Aw hra];omega);obtain⟨b2,o2,hp2,hs2⟩:=hW.2.see.at (by rw[Aw hrb];omega);have r1:(xs.getD k []).length=32:=Bs hra oM;have r2:(ys.getD k []).length=32:=Bs hrb oM;refine G11 ?_;refine .draw (oP [0,1,2,103,4,5,6,107,8]) Ar zK (G2 ?_);refine .idxSlP 32 J J J hp1 J Y30.h Sz34 k J oM (.loadEN (Aa (xs.getD k [])) J J J Y34.h J Sz34 sP (by rw[Aa,La0];exact r1) (B3 hra hs1 oM) ?_);refine G2 ?_;refine .idxSlP 32 J J J hp2 J Y30.h Sz34 k J oM (.loadEN (Aa (ys.getD k [])) J J J Y34.h J Sz34 sP (by rw[Aa,La0];exact r2) (B3 hrb hs2 oM) ?_);refine .neq_bytes J J J J eqGuardType34 Y34.h Y5.h Sz5 zA zA J ?_;refine G2 ?_;refine .condNP J (fun hc1=>?_) (fun hc1=>?_)
  ·
   refine G6 ?_;refine G7 ?_;refine⟨_,[],Af J J,sP,sP,?_,rfl⟩;rw[com_at hg oM oM hc1]
  refine G8 ?_;exact⟨k+1,⟨by omega,take_step [] oM oM hg hc1⟩,by omega,Ag wN wh0 nD⟩
 obtain rfl:k=min s.n t.n:=by omega
 refine G11 ?_;refine .min2 J J J J (congrArg i64 (show(if(t.n:Int)<(s.n:Int)then(t.n:Int)else(s.n:Int))=((min s.n t.n:Nat):Int)from(by split<;>omega))) ?_;refine G3 ?_;refine G2 ?_;refine⟨_,[],Af J J,sP,sP,?_,rfl⟩;rw[com_all (by rw[hla,hlb];exact hg),hla,hlb]
theorem index_dig(s:Sl)(ls:List (List UInt8))(n:List UInt8)(h32:n.length=32):Mv 119 [s.v,agg (Aa n)] (fun W=>RowsAt W s 32 ls) (i64 (fstBad (fun m=>decide (n=m)) ls)):=by
 intro W hW;have h32k:True:=trivial;have hlen:=hW.len;have hrow:=hW.row;have hmax:=hW.max;simp only[maxLen]at hmax;refine Ad func119 J 19 ntmps119 J (G3 ?_);intro n3 hn3 hf3;refine G12 ?_;refine .loop (ι:=Nat) (fun k=>⟨[(0,s.v),(3,ptr n3 0),(7,i64 (s.n:Int)),(8,i64 (k:Int))],[⟨n3,Aa n,34,(Aa n).length⟩]⟩) (fun k=>k≤s.n∧∀j,j<k→(ls.map (fun m=>decide (n=m)))[j]? =some false) (fun k=>s.n-k) (0) ?_ ?_ ?_
 ·exact⟨by omega,fun j hj=>by omega⟩
 ·exact Ag wN (wh1 Z0 wh0) nD
 rintro k ⟨hk,hg⟩;refine G6 ?_;refine .condP J (fun hc0=>?_) (fun hc0=>?_)
 ·
  have hk2:k<s.n:=by omega
  obtain⟨b,o,hbp,hbs⟩:=hW.see.at (by rw[Aw hrow];omega);have h32k:(ls.getD k []).length=32:=Bs hrow oM;have hd:ls[k]? =some (ls.getD k []):=by rw[La4,La3 (show k<ls.length by omega)];rfl
  refine G11 ?_;refine .draw (oP [100,1,2,3,104,5]) Ar zK (.lA J J J Y34.h J Sz34 Z0 (by(simp[h32];done)) ?_);refine G2 ?_;refine .idxSlP 32 J J J hbp J Y30.h Sz34 k J oM (.loadEN (Aa (ls.getD k [])) J J J Y34.h J Sz34 sP (by rw[Aa,La0];exact h32k) (B3 hrow hbs oM) ?_);refine .eql_bytes J J J J eqGuardType34 Y34.h Y5.h Sz5 (by(simp[h32];done)) zA J ?_;refine G2 ?_;refine .condP J (fun hc1=>?_) (fun hc1=>?_)
  ·
   refine G6 ?_;refine G7 ?_;refine⟨_,[],Af J J,sP,sP,?_,rfl⟩;exact congrArg i64 (fstBad_at hg (by rw[Laf,hd];simpa using hc1)).symm
  refine G8 ?_;exact⟨k+1,⟨by omega,fun j hj=>by rcases Lbz.1 hj with h|rfl;exact hg j h;rw[Laf,hd];simpa using hc1⟩,by omega,Ag wN (wh1 Z0 wh0) nD⟩
 obtain rfl:k=s.n:=by omega
 refine G10 ?_;refine G2 ?_;refine⟨_,[],Af J J,sP,sP,?_,rfl⟩;exact congrArg i64 (fstBad_none (by intro j hj;exact hg j (by rw[hlen]at hj;exact hj))).symm
theorem lin_place(s:Sl)(ls:List (List UInt8))(n:List UInt8)(h32:n.length=32):Mv 52 [s.v,agg (Aa n)] (fun W=>RowsAt W s 32 ls) (i64 (fstBad (fun m=>decide (n=m)) ls)):=by
 intro W hW;refine Ad func52 J 8 ntmps52 J (G3 ?_);intro n3 hn3 hf3;refine G6 ?_;refine .lA J J J Y34.h J Sz34 Z0 (by(simp[h32];done)) ?_;refine .cV J J J J Body119 (index_dig s ls n h32) (fun w h=>rows_ext h J hW) (G3 ?_);refine G2 ?_;refine⟨_,[],Af J J,sP,sP,?_,rfl⟩;rfl
def Vld(X:PD)(bf ls:List (List UInt8)):Prop:=∀i n,ls[i]? =some n→∃D,Am X.P n=some D∧n∉bf++ls.take i∧∀m∈Bi D,m∈bf++ls.take i
theorem vld_cons:Vld X bf (n::ls)↔(∃D,Am X.P n=some D∧n∉bf∧∀m∈Bi D,m∈bf)∧Vld X (bf++[n]) ls:=by
  constructor
  · intro h
    refine⟨?_,fun i m hm=>?_⟩
    · obtain⟨D,h1,h2,h3⟩:=h 0 n rfl
      simp only[Lct,Lau]at h2 h3;exact⟨D,h1,h2,h3⟩
    · obtain⟨D,h1,h2,h3⟩:=h (i+1) m hm
      rw[Lcx]at h2 h3;exact⟨D,h1,by simpa using h2,fun k hk=>by simpa using h3 k hk⟩
  · rintro⟨⟨D,h1,h2,h3⟩,h⟩ i m hm
    rcases i with _|i
    · cases hm
      simp only[Lct,Lau];exact⟨D,h1,h2,h3⟩
    · obtain⟨E,g1,g2,g3⟩:=h i m hm
      rw[Lcx];exact⟨E,g1,by simpa using g2,fun k hk=>by simpa using g3 k hk⟩
theorem chk_iff{X:PD}:∀ {ls bf:List (List UInt8)},chkE X bf ls=0↔Vld X bf ls
  | [],bf=>⟨fun _ i n h=>(by cases h),fun _=>rfl⟩
  | n ::ls,bf=>by
    rw[vld_cons,←chk_iff (ls:=ls)];cases hm:Am X.P n with
    | none=>
      rw[chk_6 hm];exact⟨fun h=>(by cases h),fun⟨⟨D,h1,_⟩,_⟩=>by cases h1⟩
    | some D=>
      by_cases h2:n∈bf
      · rw[chk_2 hm h2]
        exact⟨fun h=>(by cases h),fun⟨⟨E,_,h3,_⟩,_⟩=>absurd h2 h3⟩
      · by_cases h3:∀m∈Bi D,m∈bf
        · rw[chk_0 hm h2 h3]
          exact⟨fun h=>⟨⟨D,rfl,h2,h3⟩,h⟩,fun h=>h.2⟩
        · have h4:∃m∈Bi D,m∉bf:=by
            refine Classical.byContradiction fun h5=>h3 fun m hm2=>Classical.byContradiction fun h6=>h5 ⟨m,hm2,h6⟩
          rw[chk_4 hm h2 h4];refine⟨fun h=>(by cases h),fun⟨⟨E,h1,_,h5⟩,_⟩=>?_⟩;cases h1;exact absurd h5 h3
theorem chk_app{X:PD}:∀ {ls bf rs:List (List UInt8)},chkE X bf ls=0→chkE X bf (ls++rs)=chkE X (bf++ls) rs
  | [],bf,rs,_=>by rw[Lau];rfl
  | n::ls,bf,rs,h=>by
    have h1:=vld_cons.1 (chk_iff.1 h);obtain⟨⟨D,g1,g2,g3⟩,g4⟩:=h1;rw[Lam,chk_0 g1 g2 g3,chk_app (chk_iff.2 g4),Lab];rfl
theorem ord_nil:Cp X []=isortD X X.names:=by
  have e:restL X []=X.names:=by
    unfold restL;rw[Lc9];intro n _;show(!rB X (-1) [] n)=true;rw[rB_nil];rfl
  show isortD X (restL X [])=_;rw[e]
section
variable{X:PD}(hI:X.Inv)
include hI
theorem o_nd:(Cp X []).Nodup:=by rw[ord_nil];exact(isortD_perm X _).nodup_iff.2 (by rw[hI.nn];exact hI.nd)
theorem o_mem(n:List UInt8):n∈Cp X []↔∃D,Am X.P n=some D:=by rw[ord_nil,(isortD_perm X _).mem_iff];exact names_mem hI n
theorem o_vld:Vld X [] (Cp X []):=fun i n hn=>by
  obtain⟨hi,rfl⟩:=Lac.1 hn;have hnd:=o_nd hI;obtain⟨D,hD⟩:=(o_mem hI _).1 (Lce hi);refine⟨D,hD,fun h=>?_,fun m hm=>?_⟩
  · obtain⟨j,hj,e⟩:=Lb7 (show(Cp X [])[i]∈(Cp X []).take i by simpa using h)
    rw[Laa]at hj;rw[Lci]at e;exact Lco.1 hnd j i oM hi oM e
  · obtain⟨hE,hlt⟩:=hI.par _ D hD m hm
    obtain⟨j,hj,e⟩:=Lb7 ((o_mem hI m).2 hE);have hs:SortD X (Cp X []):=by rw[ord_nil];exact isortD_sort X _
    rcases Lew j i with h1|h1|h1
    · rw[Lad,←e]
      exact Ld8.2 ⟨j,by rw[Laa];omega,Lci⟩
    · subst h1
      rw[e]at hlt;omega
    · have h2:LeD X _ _:=Lco.1 hs i j hi hj h1
      rw[e]at h2;unfold LeD PD.dp at h2;omega
theorem o_pre(k:Nat):chkE X [] ((Cp X []).take k)=0:=chk_iff.2 fun i n hn=>by
  have hlt:=(Lac.1 hn).1;rw[Laa]at hlt;rw[Lex oM]at hn;rw[List.take_take,Lbr oM];exact o_vld hI i n hn
theorem o_all:chkE X [] (Cp X [])=0:=chk_iff.2 (o_vld hI)
theorem o_twice{n:List UInt8}(hn:n∈Cp X []):chkE X [] (Cp X []++[n])=2:=by
  obtain⟨D,hD⟩:=(o_mem hI n).1 hn;rw[chk_app (o_all hI),Lad,chk_2 hD hn]
end
def isPar(X:PD)(c n:List UInt8):Bool:=match Am X.P n with|some D=>decide (c∈Bi D)|none=>false
def parU(X:PD)(o:List (List UInt8))(k i:Nat):Bool:=((o.take i).drop (k+1)).any (isPar X (o.getD k []))
variable{L:List (List UInt8)}{X:PD}{a b:Bool}{i k:Nat}
theorem parU_0(X:PD)(o:List (List UInt8))(k:Nat):parU X o k (k+1)=false:=by
  unfold parU;rw[Lai (by rw[Laa];omega)];rfl
theorem parU_succ{o:List (List UInt8)}(hi:i<o.length)(hk:k<i):parU X o k (i+1)=(parU X o k i||isPar X (o.getD k []) (o.getD i [])):=by
  unfold parU;have e:o.getD i []=o[i]:=by rw[La4,La3 hi];rfl
  rw[Lar hi,Ldf (by rw[Laa];omega),List.any_append,e];simp
theorem o_without(hI:X.Inv)(hk:k<(Cp X []).length):decide (chkE X [] ((Cp X []).take k++(Cp X []).drop (k+1))=0)= !parU X (Cp X []) k (Cp X []).length:=by
  generalize ho:Cp X []=o at hk;have hv:=o_vld hI;have hnd:=o_nd hI;have hmm:=o_mem hI;rw[ho]at hv hnd hmm;have hck:o.getD k []=o[k]:=by rw[La4,La3 hk];rfl
  have hmemk:∀i,o[k]∈o.take i→k<i:=fun i h=>by
    obtain⟨j,hj,e⟩:=Lb7 h;rw[Laa]at hj;rw[Lci]at e;rcases Lew j k with h1|h1|h1
    ·exact absurd e (Lco.1 hnd j k oM hk h1)
    ·omega
    ·exact absurd e.symm (Lco.1 hnd k j hk oM h1)
  have hw:∀m,m∈o.take k++o.drop (k+1)→m≠o[k]:=fun m hm e=>by
    subst e;rcases La9.1 hm with h|h
    ·exact absurd (hmemk k h) (Lgm k)
    · obtain⟨j,hj,e⟩:=Lb7 h
      rw[Lat]at hj;rw[Lfm]at e;exact absurd e.symm (Lco.1 hnd k (k+1+j) hk oM oM)
  cases hp:parU X o k o.length with
  | true=>
    rw[decide_eq_false_iff_not.2];rfl;intro h0;unfold parU at hp;rw[Ldt]at hp;obtain⟨n,hn,h1⟩:=Lbw.1 hp;obtain⟨j,hj,e⟩:=Lb7 (Lav (o.take k) hn);obtain⟨D,hD,_,h3⟩:=chk_iff.1 h0 j n (by rw[La3 hj,e]);unfold isPar at h1;rw[hD,hck]at h1;have h4:=h3 _ (of_decide_eq_true h1);rw[Lad]at h4;exact hw _ (Lb9 h4) rfl
  | false =>
    rw[decide_eq_true_iff.2];rfl;refine chk_iff.2 fun j n hn=>?_;obtain⟨hj,e⟩:=Lac.1 hn;have hlen:(o.take k++o.drop (k+1)).length=o.length-1:=by rw[La2,Laa,Lat];omega
    by_cases hjk:j<k
    · rw[List.getElem_append_left (by rw[Laa];omega),Lci]at e
      obtain⟨D,h1,h2,h3⟩:=hv j n (by rw[La3 oM,e]);rw[Lcd (by rw[Laa];omega),List.take_take,Lbr oM];exact⟨D,h1,h2,h3⟩
    · have htl:(o.take k).length=k:=by rw[Laa];omega
      rw[List.getElem_append_right oM,Lfm]at e;simp only[htl]at e;have e2:o[j+1]'oM=n:=by rw[←e];congr 1;omega
      obtain⟨D,h1,h2,h3⟩:=hv (j+1) n (by rw[La3 oM,e2]);have htk:(o.take k++o.drop (k+1)).take j=o.take k++(o.drop (k+1)).take (j-k):=by rw[Lbb,La5 oM,htl]
      have hsub:∀m,m∈o.take (j+1)→m≠o[k]→m∈o.take k++(o.drop (k+1)).take (j-k):=fun m hm hne=>by
        obtain⟨i,hi,e⟩:=Lb7 hm;rw[Laa]at hi;rw[Lci]at e;rcases Lew i k with h5|h5|h5
        ·exact Lak _ (by rw[←e];exact Ld8.2 ⟨i,by omega,Lci⟩)
        ·exact absurd (show m=o[k] by rw[←e];congr 1) hne
        · refine Lav _ ?_
          rw[←e];refine Ld8.2 ⟨i-(k+1),by rw[Laa,Lat];omega,?_⟩;rw[Lci,Lfm];congr 1;omega
      refine⟨D,h1,fun h=>?_,fun m hm=>?_⟩
      · rw[htk,Lad]at h
        refine h2 ?_;rw[Lad];rcases La9.1 h with h|h
        · obtain⟨i,hi,e⟩:=Lb7 h
          rw[Lci]at e;exact Ld8.2 ⟨i,by rw[Laa];omega,by rw[Lci];exact e⟩
        · obtain⟨i,hi,e⟩:=Lb7 h
          rw[Laa,Lat]at hi;rw[Lci,Lfm]at e;exact Ld8.2 ⟨k+1+i,by rw[Laa];omega,by rw[Lci];exact e⟩
      · rw[htk,Lad]
        have h4:=h3 m hm;rw[Lad]at h4;refine hsub m h4 fun h5=>?_;unfold parU at hp;rw[Ldt]at hp;have h6:=Lh0.1 hp n (Ld8.2 ⟨j-k,by rw[Lat];omega,by rw[Lfm];rw[←e2];congr 1;omega⟩);unfold isPar at h6;rw[h1,hck,←h5]at h6;exact h6 (decide_eq_true hm)
theorem com_le(a b:List (List UInt8)):comL a b≤a.length∧comL a b≤b.length∧a.take (comL a b)=b.take (comL a b)∧(comL a b<a.length→comL a b<b.length→a.getD (comL a b) []≠b.getD (comL a b) []):=by
  induction a generalizing b with
  |nil=>exact⟨Lah _,Laq _,by rw[show comL [] b=0 from rfl,Lct,Lct],fun h=>absurd h (Lgm 0)⟩
  | cons x a ih=>
    cases b with
    |nil=>exact⟨Laq _,Lah _,rfl,fun _ h=>absurd h (Lgm 0)⟩
    | cons y b=>
      obtain⟨h1,h2,h3,h4⟩:=ih b;by_cases h:x=y
      · have e:comL (x::a) (y::b)=comL a b+1:=by rw[comL];exact if_pos h
        rw[e];refine⟨Nat.succ_le_succ h1,Nat.succ_le_succ h2,by rw[Lcx,Lcx,h3,h],fun g1 g2=>?_⟩;have:=h4 (Lg9 g1) (Lg9 g2);simpa using this
      · have e:comL (x::a) (y::b)=0:=by rw[comL];exact if_neg h
        rw[e];exact⟨Laq _,Laq _,by rw[Lct,Lct],fun _ _=>h⟩
theorem com_eq(a b:List (List UInt8)):(a=b)↔(comL a b=a.length∧comL a b=b.length):=by
  obtain⟨h1,h2,h3,h4⟩:=com_le a b;constructor
  · rintro rfl
    have h5:=h4;by_cases h:comL a a<a.length
    ·exact absurd rfl (h4 h h)
    ·omega
  · rintro⟨h5,h6⟩
    rw[h5]at h3;rw[La5 (Lah _),La5 oM]at h3;exact h3
theorem place_at{a:List (List UInt8)}(hi:i<a.length):∃t,t≤i∧fstBad (fun m=>decide (a.getD i []=m)) a=(t:Int)∧a.getD t []=a.getD i []∧fstBad (fun m=>decide (a.getD i []=m)) (a.take t)= -1:=by
  generalize hn:a.getD i []=n;have e:∀j (hj:j<a.length),a.getD j []=a[j]:=fun j hj=>by rw[La4,La3 hj];rfl
  have hp:decide (n=a[i])=true:=by rw[←e i hi,hn];exact decide_eq_true rfl
  have hany:a.any (fun m=>decide (n=m))=true:=Lbw.2 ⟨a[i],Lce hi,hp⟩;have hlt:a.findIdx (fun m=>decide (n=m))<a.length:=Leq (Lbw.1 hany);have hle:a.findIdx (fun m=>decide (n=m))≤i:=by
    refine Lha fun h=>?_;have h2:decide (n=a[i])=false:=Lf7 h;rw[hp]at h2;cases h2
  refine⟨_,hle,if_pos hany,?_,?_⟩
  · rw[e _ hlt]
    exact(of_decide_eq_true (Lgl (p:=fun m=>decide (n=m)) (w:=hlt))).symm
  · unfold fstBad
    refine if_neg fun h=>?_;obtain⟨m,hm,h2⟩:=Lbw.1 h;obtain⟨j,hj,rfl⟩:=Lb7 hm;rw[Laa]at hj;rw[Lci]at h2;have h3:decide (n=a[j])=false:=Lf7 (show j<a.findIdx (fun m=>decide (n=m)) by omega);rw[h3]at h2;cases h2
def pk9(v:Int):List UInt8:=Hw.byteOf v::(List.replicate 30 0++[9])
theorem pk9_len(v:Int):(pk9 v).length=32:=rfl
theorem run_pk9(v:Int)(w:World):(Instr.build 34 #[(0,u8 (Hw.byteOf v)),(31, .int .u8 9)]).run prog w= .ok (agg (Aa (pk9 v))) w:=by
  have hz:Zr prog 34 (agg (Aa (List.replicate 32 0))):=Cc;have r1:=Cg Sz5 w;unfold Zr at hz;cases hi:prog.info? 34 with
  |none=>rw[hi]at hz;cases hz
  | some i=>
    rw[hi]at hz;simp only[Lbv]at hz;have hf:Instr.fill (fun i=>some (i*1,1)) (Value.agg (Aa (List.replicate 32 0)).toArray).cells [(0,u8 (Hw.byteOf v)),(31, .int .u8 9)]=some (Aa (pk9 v)).toArray:=by rfl
    simp only[Instr.build,Sem.run_bind,zeroValue,typeInfo,hi,hz,run_underlying Y34.h,Result.andThen_ok,agg];simp[r1,zeroValue,typeInfo,hi,hz,agg];rfl
theorem kit_pick0(g:Int):Mv 20 [i64 g,i64 0] (fun _=>True) (i64 0):=by
 intro W hW;refine Ad func20 J 16 ntmps20 J (G9 ?_);refine .lss J J J J (decide_eq_true dE) (G2 ?_);refine .cond_t J (rfl) (G5 ?_);refine G3 ?_;refine⟨_,[],Af J J,sP,sP,?_,rfl⟩;rfl
theorem kit_pickZ(g m:Int)(n k:Nat)(hm:m=(n:Int))(hk:k=if n=0 then 0 else pickN g n)(hn2:n≤1000000):Mv 20 [i64 g,i64 m] (fun _=>True) (i64 (k:Int)):=by
  subst hm;by_cases h:n=0
  · subst h
    rw[if_pos rfl]at hk;subst hk;exact kit_pick0 g
  · rw[if_neg h]at hk
    subst hk;exact kit_pickN g n oM hn2
theorem law17_picked(so:Sl)(o:List (List UInt8))(si:Sl)(lst:List Int)(hn:si.n≤1000):Meets prog 49 [so.v,si.v] [] (fun W=>RowsAt W so 32 o∧IntsAt W si lst) (fun v out=>∃(s:Sl) (L:List (List UInt8)),v=s.v∧Hw.Acc s out (As L) 34 L.length 32∧(∀l∈L,l.length=32)∧L.length=lst.length):=by
 intro W hW;have h32v:True:=trivial;have hln:=hW.2.nd;have hol:=hW.1.len;have hrow:=hW.1.row;refine Ad func49 J 47 ntmps49 J (G17 ?_);refine .loop (ι:=Nat×List (List UInt8)×Sl×List Blk) (fun r=>⟨[(0,so.v),(1,si.v),(5,r.2.2.1.v),(6,i64 (r.1:Int))],(r.2.2.2++[])⟩) (fun r=>r.1≤si.n∧r.2.1.length=r.1∧Hw.Acc r.2.2.1 r.2.2.2 (As r.2.1) 34 r.2.1.length 32∧∀l∈r.2.1,l.length=32) (fun r=>si.n-r.1) ((0,[],Sl.nil,[])) ?_ ?_ ?_
 ·exact⟨Laq _,rfl,Acc.none,fun l hl=>by cases hl⟩
 ·exact Ah wN (Ac (by repeat(exact sg_end)) Ae)
 rintro⟨k,L,s5,bl5⟩ ⟨hk,hLk,hac5,h32⟩;simp only at hk hLk hac5 h32 ⊢;refine G9 ?_;refine .condP J (fun hc0=>?_) (fun hc0=>?_)
 ·
  have hk2:k<si.n:=by omega
  obtain⟨b,o2,v9b,v9,hsp,hrv,hdv,⟨rfl,hwf⟩,hlen9,hsee⟩:=hW.2.at dE hk2;have hcell:=hsee 0 _ rfl;refine G8 ?_;refine .idxSlP 1 J J J hsp J Y23.h Sz3 k J oM (.loadE J J J Y3.h J sP ((by simpa using hcell)) ?_);refine two (fun r hr k=>Tr.geq J J J J hr k) (fun hs5_40=>?_) (fun hs5_40=>?_)
  ·
   have hs5_4:=of_decide_eq_true hs5_40;refine G3 ?_;refine .idxSlP 1 J J J hsp J Y23.h Sz3 k J oM (.loadE J J J Y3.h J sP ((by simpa using hcell)) ?_);refine G6 ?_;refine .condP J (fun hc1=>?_) (fun hc1=>?_)
   ·
    have hv2:v9.toNat<o.length:=by omega
    obtain⟨b1,o1,hop,hos⟩:=hW.1.see.at (by rw[Aw hrow];omega);obtain⟨gv,hgv⟩:∃gv,gv=o.getD v9.toNat []:=⟨_,rfl⟩;have h32v:gv.length=32:=by rw[hgv];exact Bs hrow hv2
    refine G5 ?_;refine .idxSlP 1 J J J hsp J Y23.h Sz3 k J oM (.loadE J J J Y3.h J sP ((by simpa using hcell)) ?_);refine .idxSlP 32 J J J hop J Y30.h Sz34 v9.toNat oM oM (.loadEN (Aa gv) J J J Y34.h J Sz34 sP (by rw[Aa,La0];exact h32v) (by rw[hgv];exact B3 hrow hos hv2) ?_);refine .mkRow2 (z:=agg (Aa (List.replicate 32 0))) [agg (Aa gv)] (Aa gv) J J Y30.h Sz34 Cc J J (by intro v hv;rw[La1.1 hv];simp[Value.cells,Aa,h32v]) dE (by simp[Value.cells,agg]) ?_;intro q35;refine .appendAcc (n:=L.length) (z:=agg (Aa (List.replicate 32 0))) (by':=32) (Aa gv) J J J J J Y30.h Y30.h Sz34 Cc (by unfold By;kernel_rfl) J hac5 sG (fun w h=>SeesP.of (Ap h Z0)) (fun e=>by cases e) (Az _) oM oM (by rw[Aa,La0,h32v]) ?_;intro s36 bl36 hac36;refine G10 ?_;exact⟨(k+1,L++[gv],s36,bl36),⟨by simp only;omega,by simp only[La2,Lap];omega,by simp only;rw[Bo,La2,show As [gv]=Aa (gv) by simp[As]];exact hac36,fun l hl=>by rcases La9.1 hl with h|h;exact h32 l h;rw[La1.1 h];exact h32v⟩,by simp only;omega,Ah wN (Ac sG Ae)⟩
   refine G4 ?_;refine .idxSlP 1 J J J hsp J Y23.h Sz3 k J oM (.loadE J J J Y3.h J sP ((by simpa using hcell)) ?_);refine G1 ?_;refine .build (cs:=Aa (pk9 v9)) J J J (fun w=>run_pk9 v9 w) (.mkRow2 (z:=agg (Aa (List.replicate 32 0))) [agg (Aa (pk9 v9))] (Aa (pk9 v9)) J J Y30.h Sz34 Cc J J (by intro v hv;rw[La1.1 hv];simp[Value.cells,Aa,pk9_len]) dE (by simp[Value.cells,agg]) ?_);intro q44;refine .appendAcc (n:=L.length) (z:=agg (Aa (List.replicate 32 0))) (by':=32) (Aa (pk9 v9)) J J J J J Y30.h Y30.h Sz34 Cc (by unfold By;kernel_rfl) J hac5 sG (fun w h=>SeesP.of (Ap h Z0)) (fun e=>by cases e) (Az _) oM oM (by rw[Aa,La0,pk9_len]) ?_;intro s45 bl45 hac45;refine G10 ?_;exact⟨(k+1,L++[pk9 v9],s45,bl45),⟨by simp only;omega,by simp only[La2,Lap];omega,by simp only;rw[Bo,La2,show As [pk9 v9]=Aa (pk9 v9) by simp[As]];exact hac45,fun l hl=>by rcases La9.1 hl with h|h;exact h32 l h;rw[La1.1 h];exact pk9_len v9⟩,by simp only;omega,Ah wN (Ac sG Ae)⟩
  have hs5_4:=of_decide_eq_false hs5_40;refine G11 ?_;refine .cond_f J J (G4 ?_);refine .idxSlP 1 J J J hsp J Y23.h Sz3 k J oM (.loadE J J J Y3.h J sP ((by simpa using hcell)) ?_);refine G1 ?_;refine .build (cs:=Aa (pk9 v9)) J J J (fun w=>run_pk9 v9 w) (.mkRow2 (z:=agg (Aa (List.replicate 32 0))) [agg (Aa (pk9 v9))] (Aa (pk9 v9)) J J Y30.h Sz34 Cc J J (by intro v hv;rw[La1.1 hv];simp[Value.cells,Aa,pk9_len]) dE (by simp[Value.cells,agg]) ?_);intro q44;refine .appendAcc (n:=L.length) (z:=agg (Aa (List.replicate 32 0))) (by':=32) (Aa (pk9 v9)) J J J J J Y30.h Y30.h Sz34 Cc (by unfold By;kernel_rfl) J hac5 sG (fun w h=>SeesP.of (Ap h Z0)) (fun e=>by cases e) (Az _) oM oM (by rw[Aa,La0,pk9_len]) ?_;intro s45 bl45 hac45;refine G10 ?_;exact⟨(k+1,L++[pk9 v9],s45,bl45),⟨by simp only;omega,by simp only[La2,Lap];omega,by simp only;rw[Bo,La2,show As [pk9 v9]=Aa (pk9 v9) by simp[As]];exact hac45,fun l hl=>by rcases La9.1 hl with h|h;exact h32 l h;rw[La1.1 h];exact pk9_len v9⟩,by simp only;omega,Ah wN (Ac sG Ae)⟩
 have hke:k=si.n:=by omega
 refine G11 ?_;refine G2 ?_;refine Ay (out:=(bl5++[])) (Af J J) (Ac sG Ae) ?_;exact⟨s5,L,rfl,by simpa using hac5,h32,by omega⟩
theorem lin_check_at(x:DD)(hx:x.ok)(hI:x.pl.Inv)(p:Nat)(s:Sl)(ls:List (List UInt8)){e:Int}(h:chkE x.pl [] ls=e):Mv 47 [ptr p 0,s.v] (fun W=>Lies (x.blks p) W∧RowsAt W s 32 ls) (i64 e):=by
  rw[←h];exact lin_check x hx hI p s ls
theorem any_succ{j:Nat}(hj:j<L.length)(f:List UInt8→Bool):(L.take (j+1)).any f=((L.take j).any f||f (L.getD j [])):=by
  have e:L.getD j []=L[j]:=by rw[La4,La3 hj];rfl
  rw[Lar hj,List.any_append,e];simp
theorem any_eq(c:List UInt8):(L.any fun m=>decide (m=c))=decide (c∈L):=by
  rw[Ldq,Lbw,decide_eq_true_iff];exact⟨fun⟨m,hm,h⟩=>of_decide_eq_true h▸hm,fun h=>⟨c,h,decide_eq_true rfl⟩⟩
theorem lin_commonK(s t:Sl)(xs ys:List (List UInt8))(n:Nat)(hn:n=comL xs ys):Mv 50 [s.v,t.v] (fun W=>RowsAt W s 32 xs∧RowsAt W t 32 ys) (i64 (n:Int)):=by
  subst hn;exact lin_common s t xs ys
theorem lin_placeK(s:Sl)(ls:List (List UInt8))(n:List UInt8)(h32:n.length=32)(k:Int)(hk:fstBad (fun m=>decide (n=m)) ls=k):Mv 52 [s.v,agg (Aa n)] (fun W=>RowsAt W s 32 ls) (i64 k):=by
  subst hk;exact lin_place s ls n h32
theorem beq_not(h:a= !b):(a==b)=false:=by subst h;cases b<;>rfl
theorem not_beq(h:a=b):(!(a==b))=false:=by subst h;cases a<;>rfl
theorem rows_pre{w:World}{s:Sl}{bl:List Blk}(h:Hw.Acc s bl (As L) 34 L.length 32)(hl:Lies bl w)(hr:∀l∈L,l.length=32)(hk:k≤L.length)(hm:L.length≤1000000):RowsAt w ⟨s.p,k,s.c⟩ 32 (L.take k):=
  ⟨by rw[Laa];show min k _=k;omega,fun l hl=>hr l (Lb9 hl),by have:=h.cap;have:=h.num;show k≤s.c;omega,rows_take (h.see hl) hr,by show k≤maxLen;unfold maxLen;omega,h.nilc⟩
theorem law_linearchecks(s:Sl)(ds:List DB)(gout:Int)(sx:Sl)(lx:List Int)(sy:Sl)(ly:List Int):Mv 9 [s.v,i64 gout,sx.v,sy.v] (fun W=>BlocksAt W s ds∧IntsAt W sx lx∧IntsAt W sy ly) (.bool true):=by
 intro W hW;have h32nn:True:=trivial;have h32ck:True:=trivial;have h32pp:True:=trivial;have h32an:True:=trivial;have h32bn:True:=trivial;have hlnx:=hW.2.1.nd;have hlny:=hW.2.2.nd;refine Ad func9 J 260 ntmps9 J (G8 ?_);refine .cV J J J J Body15 (law17_lives) tV (G3 ?_);refine .cond_f J J (G6 ?_);refine .callB J J J J Body16 (lightd_blocks s ds 16) (fun w h=>Blocks_ext h J hW.1) (fun hs3_10=>?_) (fun hs3_10=>?_)
 ·
  have hs3_1:=hs3_10;refine G4 ?_;refine two (fun r hr k=>Tr.gtr J J J J hr k) (fun hs3_60=>?_) (fun hs3_60=>?_)
  ·
   have hs3_6:=of_decide_eq_true hs3_60;refine G8 ?_;refine .cond_t J J (G5 ?_);refine G3 ?_;refine Ay (out:=[]) (Af J J) Ae ?_;exact⟨rfl,rfl⟩
  have hs3_6:=of_decide_eq_false hs3_60;refine G8 ?_;refine .condP J (fun hc1=>?_) (fun hc1=>?_)
  ·
   refine G5 ?_;refine G3 ?_;refine Ay (out:=[]) (Af J J) Ae ?_;exact⟨rfl,rfl⟩
  have hsm0:lightOf lightBf ds 16=true:=by simpa using hs3_1
  obtain⟨hd16,hsm⟩:=light_ats hsm0;obtain⟨rs0,hs0⟩:=id hW.1;have hsn0:=hs0.nd;refine G5 ?_;refine .call4 J J J J J Body17 (law17_filled s ds oM hsm) (fun w h=>Blocks_ext h J hW.1) ?_;rintro v43 out43 ⟨p,x,rfl,hxb,hx,hplx,hnx⟩;have hLx:∀w,Lies out43 w→Lies (x.blks p) w:=fun w h=>hxb▸h;clear hxb;have hI:x.pl.Inv:=by rw[hplx];exact PD.Inv.fill ds PD.Inv.new
  have hO:x.pl.Ord:=by rw[hplx];exact PD.Ord.fill ds PD.Inv.new PD.Ord.new
  have hck0:∀q∈x.pl.P,q.2.check=0:=hI.ck;have h16:∀q∈x.P,q.2.ls.length≤16:=fun q hq=>(ck_small (hck0 q hq)).1;have hnm:x.pl.names.length=x.names.length:=rfl;refine G1 ?_;refine .call4 J J J J J Body18 (law17_known s ds oM hsm) (fun w h=>Blocks_ext h J hW.1) ?_;rintro v45 out45 ⟨pr,r,rfl,hrb,hr,hrel,hrn⟩;have hLr:∀w,Lies out45 w→Lies (r.blks pr) w:=fun w h=>hrb▸h;clear hrb;rw[←hplx]at hrel;have hrP:r.P=x.pl.P:=hrel.p;refine G7 ?_;refine .call4 J J J J J Body45 (lin_ord_at x hx hI hO p Sl.nil [] (Laq _) (fun c hc=>by cases hc) J (k:=0) (beneath_nil x.pl) J) (fun w h=>⟨(hLx w (Lies.of h (by repeat(first|exact An|refine Be ?_)))),[],SeqIs.none⟩) ?_;rintro v48 blO ⟨sO,rfl,hacO⟩;have hOl:(Cp x.pl []).length=x.names.length:=by rw[ord_nil,(isortD_perm x.pl _).length_eq];exact hnm
  have hO32:∀l∈(Cp x.pl []),l.length=32:=fun l hl=>hx.n32 l (ordL_names l hl);have hnO:=hacO.num;have hcO:=hacO.cap;obtain⟨kt,hkt⟩:∃kt,kt=if sO.n=0 then 0 else pickN gout sO.n:=⟨_,rfl⟩
  have hktl:kt≤(Cp x.pl []).length∧(0<(Cp x.pl []).length→kt<(Cp x.pl []).length):=by
   by_cases h0:sO.n=0
   ·rw[if_pos h0]at hkt;omega
   ·rw[if_neg h0]at hkt;have:=pickN_lt gout (n:=sO.n) oM;omega
  refine G13 ?_;refine .nei J J J J (show(!decide _)=false from congrArg not (decide_eq_true (dE))) (G2 ?_);refine .cond_f J J (G7 ?_);refine .cV J J J J Body20 (kit_pickZ gout _ sO.n kt J hkt oM) tV ?_;refine G9 ?_;refine .sliceHiA sO kt J J J J J oM Y30.h Sz34 ?_;refine .cV J J J J Body47 (lin_check_at x hx hI p ⟨sO.p,kt,sO.c⟩ ((Cp x.pl []).take kt) (o_pre hI kt)) (fun w h=>⟨(hLx w (Lies.of h (by repeat(first|exact An|refine Be ?_)))),rows_pre hacO (Lies.of h (by repeat(exact An))) hO32 hktl.1 oM⟩) ?_;refine .nei J J J J (show(!decide _)=false from congrArg not (decide_eq_true (dE))) (G3 ?_);refine .cV J J J J Body47 (lin_check_at x hx hI p sO (Cp x.pl []) (o_all hI)) (fun w h=>⟨(hLx w (Lies.of h (by repeat(first|exact An|refine Be ?_)))),(acc_rows hacO (Lies.of h (by repeat(exact An))) hO32 J oM)⟩) ?_;refine .nei J J J J (show(!decide _)=false from congrArg not (decide_eq_true (dE))) (G3 ?_);refine .cond_f J J (G2 ?_);refine .join (ι:=Unit) (fun u=>⟨[(2,sx.v),(3,sy.v),(11,sO.v)],(blO++[])⟩) (fun u=>True) ?_ ?_
  ·
   refine G7 ?_;refine .condP J (fun hc4=>?_) (fun hc4=>?_)
   ·
    have h00:0<(Cp x.pl []).length:=by omega
    have hkt2:=hktl.2 h00;obtain⟨bO,oO,hpO,seeO⟩:=par_open hacO h00 hO32;obtain⟨ck,hck⟩:∃n,n=(Cp x.pl []).getD kt []:=⟨_,rfl⟩;have hmck:ck∈(Cp x.pl []):=by rw[hck];exact getD_mem2 hkt2
    have h32ck:ck.length=32:=hO32 _ hmck;have hWO32:∀l∈((Cp x.pl []).take kt++(Cp x.pl []).drop (kt+1)),l.length=32:=fun l hl=>by rcases La9.1 hl with h9|h9;exact hO32 l (Lb9 h9);exact hO32 l (Lcn h9)
    refine G14 ?_;refine .loop (ι:=Nat) (fun i=>⟨[(2,sx.v),(3,sy.v),(9,ptr p 0),(10,ptr pr 0),(11,sO.v),(14,i64 (kt:Int)),(15, .bool (parU x.pl (Cp x.pl []) kt i)),(16,i64 (i:Int))],(blO++(out43++(out45++[])))⟩) (fun i=>kt+1≤i∧i≤(Cp x.pl []).length) (fun i=>(Cp x.pl []).length-i) (kt+1) ?_ ?_ ?_
    ·exact⟨Lah _,by omega⟩
    ·exact Ah (wk1 rfl (wk1 rfl (wk1 rfl (wk1 rfl (wk1 rfl (wk1 rfl (wk1 (by rw[parU_0];rfl) (wk1 (by rw[Lcc];rfl) wk0)))))))) (Ac sG (Ac (by repeat(first|exact B4|apply Cf)) (Ac sG Ae)))
    rintro i ⟨hik,hil⟩;refine G9 ?_;refine .condP J (fun hc5=>?_) (fun hc5=>?_)
    ·
     have hi2:i<(Cp x.pl []).length:=by omega
     obtain⟨nn,hnn⟩:∃n,n=(Cp x.pl []).getD i []:=⟨_,rfl⟩;have hmnn:nn∈(Cp x.pl []):=by rw[hnn];exact getD_mem2 hi2
     have h32nn:nn.length=32:=hO32 _ hmnn;refine G9 ?_;refine .idxSlP 32 J J J hpO J Y30.h Sz34 i J oM (.loadSN (n:=32) (Aa nn) J J J Y34.h J Sz34 (by rw[Aa,La0];exact h32nn) (fun w h=>by rw[hnn];exact seeO w (Lies.of h (by repeat(exact An))) i hi2) ?_);refine .call4 J J J J J Body26 (rd_get r hr pr x.pl hrP hck0 nn h32nn) (fun w h=>(hLr w (Lies.of h (by repeat(first|exact An|refine Be ?_))))) ?_;rintro v87 out87 (⟨h0,_⟩|⟨D,B,hD,hB,rfl,hbi⟩)
     ·exfalso;obtain⟨E,hE⟩:=(o_mem hI nn).1 hmnn;rw[h0]at hE;cases hE
     have hD16:D.ls.length≤16:=h16 _ (Bk hD);refine G3 ?_;refine .alloc (cs:=Block.zero.cells) J Block.zr J ?_;intro n17 hn17 hf17;refine .sA J J J J (Block.isCell (by exact hB.ok)) Sz50 (Block.length (by exact hB.ok)) Z0 (Block.length (by exact Block.zero_ok)) zU ?_;refine G4 ?_;refine .know (fun w h=>(hbi w (Lies.of h (by repeat(first|exact An|refine A4 ?_)))).dok) (fun hdok=>?_);have hprow:=parL_row hdok;refine .region (.lA J J J Y50.h J Sz50 Z0 (Block.length (by exact hB.ok)) ?_);refine .call4 J J J J J Body27 (r15_parA B D oM) (fun w h=>hbi w (Lies.of h (by repeat(first|exact An|refine A4 ?_)))) ?_;rintro v91 out91 ⟨sP,rfl,hacP⟩;have hnP:=hacP.num;have hpl:=parL_len D;refine G9 ?_;refine .loop (ι:=Nat×Bool) (fun y=>⟨[(2,sx.v),(3,sy.v),(9,ptr p 0),(10,ptr pr 0),(11,sO.v),(14,i64 (kt:Int)),(15, .bool y.2),(16,i64 (i:Int)),(19,sP.v),(20,i64 (y.1:Int))],(blO++(out43++(out45++(out91++[]))))⟩) (fun y=>y.1≤(Bi D).length∧y.2=(parU x.pl (Cp x.pl []) kt i||((Bi D).take y.1).any fun m=>decide (m=ck))) (fun y=>(Bi D).length-y.1) ((0,parU x.pl (Cp x.pl []) kt i)) ?_ ?_ ?_
     ·exact⟨Laq _,by simp⟩
     ·exact Ah wN (Ac sG (Ac sG (Ac sG (Ac sG Ae))))
     rintro⟨j,b9⟩ ⟨hj9,hb9⟩;simp only at hj9 hb9 ⊢;refine .join (ι:=Bool) (fun bb=>⟨[(2,sx.v),(3,sy.v),(9,ptr p 0),(10,ptr pr 0),(11,sO.v),(14,i64 (kt:Int)),(15, .bool bb),(16,i64 (i:Int)),(19,sP.v),(20,i64 (j:Int))],(blO++(out43++(out45++(out91++[]))))⟩) (fun bb=>j<(Bi D).length∧bb=(parU x.pl (Cp x.pl []) kt i||((Bi D).take j).any fun m=>decide (m=ck))) ?_ ?_
     ·
      refine G8 ?_;refine .condP J (fun hc6=>?_) (fun hc6=>?_)
      ·
       refine G2 ?_;exact⟨b9,⟨by omega,hb9⟩,Ah wN (Ac sG (Ac sG (Ac sG (Ac sG Ae))))⟩
      have hje:j=(Bi D).length:=by omega
      have hfin:parU x.pl (Cp x.pl []) kt (i+1)=b9:=by rw[parU_succ hi2 oM,hb9,hje,Ldt,any_eq,←hck,←hnn];unfold isPar;rw[hD]
      refine G12 ?_;exact⟨i+1,⟨by omega,by omega⟩,by omega,Ah (wk1 rfl (wk1 rfl (wk1 rfl (wk1 rfl (wk1 rfl (wk1 rfl (wk1 (by rw[hfin];rfl) (wk1 (by rw[Lcc];rfl) wk0)))))))) (Ac sG (Ac sG (Ac sG Ae)))⟩
     intro bb hj;obtain⟨hj2,hbb⟩:=hj;have hjpp:j<(Bi D).length:=hj2;obtain⟨pp,hpp⟩:∃kk,kk=(Bi D).getD j []:=⟨_,rfl⟩;have hmpp:pp∈(Bi D):=by rw[hpp];exact getD_mem2 hjpp
     have h32pp:pp.length=32:=hprow _ hmpp;obtain⟨bP,oPl,hpP,seeP⟩:=par_open hacP oM hprow;cases bb
     ·
      refine G2 ?_;refine .draw (oP [0,1,2,3,4,105,6,7,8,109,10,11,12]) Ar zK (G4 ?_);refine .idxSlP 32 J J J hpP J Y30.h Sz34 j J oM (.loadSN (n:=32) (Aa pp) J J J Y34.h J Sz34 (by rw[Aa,La0];exact h32pp) (fun w h=>by rw[hpp];exact seeP w (Lies.of h (by repeat(first|exact An|refine Be ?_))) j hjpp) ?_);refine G2 ?_;refine .idxSlP 32 J J J hpO J Y30.h Sz34 kt J oM (.loadSN (n:=32) (Aa ck) J J J Y34.h J Sz34 (by rw[Aa,La0];exact h32ck) (fun w h=>by rw[hck];exact seeO w (Lies.of h (by repeat(exact An))) kt hkt2) ?_);refine .eql_bytes J J J J eqGuardType34 Y34.h Y5.h Sz5 (by(simp[h32pp];done)) (by(simp[h32ck];done)) J ?_;refine G11 ?_;exact⟨(j+1,decide (pp=ck)),⟨by simp only;omega,by simp only;rw[any_succ hjpp,←Bool.or_assoc,←hbb,←hpp];rfl⟩,by simp only;omega,Ah wN (Ac sG (Ac sG (Ac sG (Ac sG Ae))))⟩
     refine G2 ?_;refine .draw (oP [0,1,2,3,4,105,6,7,8,109,10,11,12]) Ar zK (G22 ?_);exact⟨(j+1,true),⟨by simp only;omega,by simp only;rw[any_succ hjpp,←Bool.or_assoc,←hbb];rfl⟩,by simp only;omega,Ah wN (Ac sG (Ac sG (Ac sG (Ac sG Ae))))⟩
    have hie:i=(Cp x.pl []).length:=by omega
    refine G6 ?_
    try simp only[Lam,Lad,Lab]
    refine .draw (oP [0,1,2,4,5,6,7,403,408,9]) Ar zK (G2 ?_);refine .sliceHiA sO kt J J J J J oM Y30.h Sz34 ?_;refine G3 ?_;refine Tr.sliceLoA (kt+1) J J J J oM hacO oM Y30.h Sz34 ?_;intro s117 hn117 hnil117 hsee117 _ _;refine .call4 J J J J J Body22 (kit_namesA ⟨sO.p,kt,sO.c⟩ ((Cp x.pl []).take kt) (by show kt≤500000;omega)) (fun w h=>rows_pre hacO (Lies.of h (by repeat(exact An))) hO32 hktl.1 oM) ?_;rintro v113 out113 ⟨s113,rfl,hac113⟩;refine .appendAcc (n:=((Cp x.pl []).take kt).length) (z:=agg (Aa (List.replicate 32 0))) (by':=32) (As ((Cp x.pl []).drop (kt+1))) J J J J J Y30.h Y30.h Sz34 Cc (by unfold By;kernel_rfl) J hac113 sG (fun w h=>by rw[←flatB_dropK hO32];exact hsee117 w (Lies.of h (by repeat(first|exact An|refine Be ?_)))) hnil117 (flatB_cell _) (by rw[Laa];omega) (by rw[Laa];omega) (by rw[Aw (fun q hq=>hO32 q (Lcn hq)),Lat,hn117]) ?_;intro s118 bl118 hac118;have hWOl:((Cp x.pl []).take kt++(Cp x.pl []).drop (kt+1)).length=((Cp x.pl []).take kt).length+s117.n:=by rw[La2,Lat,hn117]
    refine G4 ?_
    try simp only[Lam,Lad,Lab]
    refine .draw (oP [0,1,4,302,3,5,6,7,8,10,11,12,113,309,214,415,316,17,18]) Ar zK (G3 ?_);refine .cV J J J J Body47 (lin_check_at x hx hI p s118 ((Cp x.pl []).take kt++(Cp x.pl []).drop (kt+1)) J) (fun w h=>⟨(hLx w (Lies.of h (by repeat(first|exact An|refine Be ?_)))),acc_rows (n:=((Cp x.pl []).take kt).length+s117.n) (by rw[Bo];exact hac118) (Lies.of h (by repeat(exact An))) hWO32 hWOl (by rw[Laa];omega)⟩) ?_;refine G1 ?_;refine .eqb J J J J Y4 (beq_not (by rw[hie];exact o_without hI hkt2)) ?_;refine G5 ?_;refine .idxSlP 32 J J J hpO J Y30.h Sz34 kt J oM (.loadSN (n:=32) (Aa ck) J J J Y34.h J Sz34 (by rw[Aa,La0];exact h32ck) (fun w h=>by rw[hck];exact seeO w (Lies.of h (by repeat(first|exact An|refine Be ?_))) kt hkt2) ?_);refine .call J J J J Body22 (kit_names sO (Cp x.pl []) oM) (FreshRow.loose _ _ _ _) (fun w h=>(acc_rows hacO (Lies.of h (by repeat(first|exact An|refine Be ?_))) hO32 J oM)) ?_;rintro v128 out128 ⟨q128,c128,rfl,hc128,rfl⟩;have hac128:Hw.Acc ⟨some ⟨q128,0,none⟩,sO.n,c128⟩ [⟨q128,As (Cp x.pl []),34,c128*32⟩] (As (Cp x.pl [])) 34 (Cp x.pl []).length 32:=by rw[hnO];exact Acc.some (by rw[hnO]at hc128;exact hc128) (Aw hO32)
    refine .mkRow2g (z:=agg (Aa (List.replicate 32 0))) [agg (Aa ck)] (Aa ck) J J J Y30.h Sz34 Cc J J (by intro v hv;rw[La1.1 hv];simp[Value.cells,Aa,h32ck]) dE (by simp[Value.cells,agg]) ?_;intro q133;refine .appendAcc (n:=(Cp x.pl []).length) (z:=agg (Aa (List.replicate 32 0))) (by':=32) (Aa ck) J J J J J Y30.h Y30.h Sz34 Cc (by unfold By;kernel_rfl) J hac128 (Ab rM Ae) (fun w h=>SeesP.of (Ap h Z0)) (fun e=>by cases e) (Az _) oM oM (by rw[Aa,La0,h32ck]) ?_;intro s134 bl134 hac134;refine .cV J J J J Body47 (lin_check_at x hx hI p s134 ((Cp x.pl [])++[ck]) (o_twice hI hmck)) (fun w h=>⟨(hLx w (Lies.of h (by repeat(first|exact An|refine A4 ?_|refine Be ?_)))),acc_rows (n:=(Cp x.pl []).length+1) (by rw[Bo,show As [ck]=Aa ck by simp[As]];exact hac134) (Lies.of h (by repeat(exact An))) (fun l hl=>by rcases La9.1 hl with h9|h9;exact hO32 l h9;rw[La1.1 h9];exact h32ck) (by rw[La2];rfl) oM⟩) ?_;refine .nei J J J J (show(!decide _)=false from congrArg not (decide_eq_true (dE))) (G3 ?_);refine .cond_f J J (G2 ?_);exact⟨(),trivial,Ah wN (Ac sG Ae)⟩
   refine G2 ?_;exact⟨(),trivial,Ah wN (Ac sG Ae)⟩
  intro u hj;skip;refine G2 ?_
  try simp only[Lam,Lad,Lab]
  refine G2 ?_;refine .call4 J J J J J Body49 (law17_picked sO (Cp x.pl []) sx lx oM) (fun w h=>⟨(acc_rows hacO (Lies.of h (by repeat(exact An))) hO32 J oM),ints_ext h J hW.2.1⟩) ?_;rintro v140 outA ⟨sA,LA,rfl,hacsA,hsA32,hsAl⟩;have hnsA:=hacsA.num;refine G2 ?_;refine .call4 J J J J J Body49 (law17_picked sO (Cp x.pl []) sy ly oM) (fun w h=>⟨(acc_rows hacO (Lies.of h (by repeat(first|exact An|refine Be ?_))) hO32 J oM),ints_ext h J hW.2.2⟩) ?_;rintro v143 outB ⟨sB,LB,rfl,hacsB,hsB32,hsBl⟩;have hnsB:=hacsB.num;obtain⟨nc,hnc⟩:∃n,n=comL LA LB:=⟨_,rfl⟩;obtain⟨hc1,hc2,hc3,hc4⟩:=com_le LA LB;have hceq:=com_eq LA LB;rw[←hnc]at hc1 hc2 hc3 hc4 hceq;have hcA:=hacsA.cap;have hcB:=hacsB.cap;refine G8 ?_;refine .cV J J J J Body50 (lin_commonK sA sB LA LB nc hnc) (fun w h=>⟨(acc_rows hacsA (Lies.of h (by repeat(first|exact An|refine Be ?_))) hsA32 J oM),(acc_rows hacsB (Lies.of h (by repeat(exact An))) hsB32 J oM)⟩) ?_;refine G4 ?_;refine .join (ι:=Unit) (fun u=>⟨[(22,sA.v),(218, .bool false)],(outA++[])⟩) (fun u=>True) ?_ ?_
  ·
   refine .draw (oP [0,1,2,3,4,5,6,7,8,9,10,11,12,13,14,15,16,17,18,19,20,21,22,23,24,25,26,27,28,129,30,31,32,133,34,35,36,37,38,39,40,41,42,43,344,45,46,47,48,49,51,52,350,353,54,55,56,57,58,60,61,62,63,359,64,65,66,67,68,69,70,71]) Ar zK (G1 ?_);refine .lss J J J J (decide_eq_false oM) (G4 ?_);refine .gtr J J J J (decide_eq_false oM) (G5 ?_);refine .gtr J J J J (decide_eq_false oM) (G5 ?_);refine two (fun r hr k=>Tr.lss J J J J hr k) (fun hs28_180=>?_) (fun hs28_180=>?_)
   ·
    have hs28_18:=of_decide_eq_true hs28_180;refine G4 ?_;refine two (fun r hr k=>Tr.lss J J J J hr k) (fun hs28_230=>?_) (fun hs28_230=>?_)
    ·
     have hs28_23:=of_decide_eq_true hs28_230;obtain⟨bA,oA,hpA,seeA⟩:=par_open hacsA oM hsA32;obtain⟨bB,oB,hpB,seeB⟩:=par_open hacsB oM hsB32;obtain⟨an,han⟩:∃n,n=LA.getD nc []:=⟨_,rfl⟩;obtain⟨bn,hbn⟩:∃n,n=LB.getD nc []:=⟨_,rfl⟩;have h32an:an.length=32:=by rw[han];exact hsA32 _ (getD_mem2 oM)
     have h32bn:bn.length=32:=by rw[hbn];exact hsB32 _ (getD_mem2 oM)
     have hab:an≠bn:=by rw[han,hbn];exact hc4 oM oM
     refine G4 ?_;refine .idxSlP 32 J J J hpA J Y30.h Sz34 nc J oM (.loadSN (n:=32) (Aa an) J J J Y34.h J Sz34 (by rw[Aa,La0];exact h32an) (fun w h=>by rw[han];exact seeA w (Lies.of h (by repeat(first|exact An|refine Be ?_))) nc oM) ?_);refine G2 ?_;refine .idxSlP 32 J J J hpB J Y30.h Sz34 nc J oM (.loadSN (n:=32) (Aa bn) J J J Y34.h J Sz34 (by rw[Aa,La0];exact h32bn) (fun w h=>by rw[hbn];exact seeB w (Lies.of h (by repeat(exact An))) nc oM) ?_);refine .eql_bytes J J J J eqGuardType34 Y34.h Y5.h Sz5 (by(simp[h32an];done)) (by(simp[h32bn];done)) (decide_eq_false (hab)) ?_;refine G5 ?_;refine .sliceHiA sA nc J J J J J oM Y30.h Sz34 (G2 ?_);refine .sliceHiA sB nc J J J J J oM Y30.h Sz34 (.cV J J J J Body23 (digs_same sA.p sB.p nc nc sA.c sB.c (LA.take nc) (fun l hl=>hsA32 l (Lb9 hl)) (by rw[Laa];omega) (by rw[Laa];omega) oM) (fun w h=>⟨rows_take (hacsA.see (Lies.of h (by repeat(first|exact An|refine Be ?_)))) hsA32,by rw[hc3];exact rows_take (hacsB.see (Lies.of h (by repeat(exact An)))) hsB32⟩) ?_);refine G7 ?_;refine .cV J J J J Body51 (lin_eq sA.p sB.p sA.n sB.n sA.c sB.c LA LB hsA32 hsB32 oM oM oM) (fun w h=>⟨hacsA.see (Lies.of h (by repeat(first|exact An|refine Be ?_))),hacsB.see (Lies.of h (by repeat(exact An)))⟩) ?_;refine .cV J J J J Body23 (digests_any2 sA.p sB.p sA.n sB.n sA.c sB.c LA LB hsA32 hsB32 oM oM oM) (fun w h=>⟨hacsA.see (Lies.of h (by repeat(first|exact An|refine Be ?_))),hacsB.see (Lies.of h (by repeat(exact An)))⟩) ?_;refine .neb J J J J Y4 (not_beq (rfl)) (G7 ?_);refine two (fun r hr k=>Tr.eqi J J J J hr k) (fun hs28_630=>?_) (fun hs28_630=>?_)
     ·
      have hs28_63:=of_decide_eq_true hs28_630;refine .cV J J J J Body51 (lin_eq sA.p sB.p sA.n sB.n sA.c sB.c LA LB hsA32 hsB32 oM oM oM) (fun w h=>⟨hacsA.see (Lies.of h (by repeat(first|exact An|refine Be ?_))),hacsB.see (Lies.of h (by repeat(exact An)))⟩) ?_;refine G6 ?_;refine .neb J J J J Y4 (not_beq (by(rw[Ldq,decide_eq_true_iff,decide_eq_true_iff,hceq];omega))) ?_;refine G3 ?_;exact⟨(),trivial,Ah wN (Ac (by repeat(first|exact B4|apply Cf)) Ae)⟩
     have hs28_63:=of_decide_eq_false hs28_630;refine .cV J J J J Body51 (lin_eq sA.p sB.p sA.n sB.n sA.c sB.c LA LB hsA32 hsB32 oM oM oM) (fun w h=>⟨hacsA.see (Lies.of h (by repeat(first|exact An|refine Be ?_))),hacsB.see (Lies.of h (by repeat(exact An)))⟩) ?_;refine G6 ?_;refine .neb J J J J Y4 (not_beq (by(rw[decide_eq_false_iff_not,hceq];omega))) ?_;refine G3 ?_;exact⟨(),trivial,Ah wN (Ac (by repeat(first|exact B4|apply Cf)) Ae)⟩
    have hs28_23:=of_decide_eq_false hs28_230;skip;refine G16 ?_;refine .sliceHiA sA nc J J J J J oM Y30.h Sz34 (G2 ?_);refine .sliceHiA sB nc J J J J J oM Y30.h Sz34 (.cV J J J J Body23 (digs_same sA.p sB.p nc nc sA.c sB.c (LA.take nc) (fun l hl=>hsA32 l (Lb9 hl)) (by rw[Laa];omega) (by rw[Laa];omega) oM) (fun w h=>⟨rows_take (hacsA.see (Lies.of h (by repeat(first|exact An|refine Be ?_)))) hsA32,by rw[hc3];exact rows_take (hacsB.see (Lies.of h (by repeat(exact An)))) hsB32⟩) ?_);refine G7 ?_;refine .cV J J J J Body51 (lin_eq sA.p sB.p sA.n sB.n sA.c sB.c LA LB hsA32 hsB32 oM oM oM) (fun w h=>⟨hacsA.see (Lies.of h (by repeat(first|exact An|refine Be ?_))),hacsB.see (Lies.of h (by repeat(exact An)))⟩) ?_;refine .cV J J J J Body23 (digests_any2 sA.p sB.p sA.n sB.n sA.c sB.c LA LB hsA32 hsB32 oM oM oM) (fun w h=>⟨hacsA.see (Lies.of h (by repeat(first|exact An|refine Be ?_))),hacsB.see (Lies.of h (by repeat(exact An)))⟩) ?_;refine .neb J J J J Y4 (not_beq (rfl)) (G7 ?_);refine two (fun r hr k=>Tr.eqi J J J J hr k) (fun hs28_630=>?_) (fun hs28_630=>?_)
    ·
     have hs28_63:=of_decide_eq_true hs28_630;refine .cV J J J J Body51 (lin_eq sA.p sB.p sA.n sB.n sA.c sB.c LA LB hsA32 hsB32 oM oM oM) (fun w h=>⟨hacsA.see (Lies.of h (by repeat(first|exact An|refine Be ?_))),hacsB.see (Lies.of h (by repeat(exact An)))⟩) ?_;refine G6 ?_;refine .neb J J J J Y4 (not_beq (by(rw[Ldq,decide_eq_true_iff,decide_eq_true_iff,hceq];omega))) ?_;refine G3 ?_;exact⟨(),trivial,Ah wN (Ac (by repeat(first|exact B4|apply Cf)) Ae)⟩
    have hs28_63:=of_decide_eq_false hs28_630;refine .cV J J J J Body51 (lin_eq sA.p sB.p sA.n sB.n sA.c sB.c LA LB hsA32 hsB32 oM oM oM) (fun w h=>⟨hacsA.see (Lies.of h (by repeat(first|exact An|refine Be ?_))),hacsB.see (Lies.of h (by repeat(exact An)))⟩) ?_;refine G6 ?_;refine .neb J J J J Y4 (not_beq (by(rw[decide_eq_false_iff_not,hceq];omega))) ?_;refine G3 ?_;exact⟨(),trivial,Ah wN (Ac (by repeat(first|exact B4|apply Cf)) Ae)⟩
   have hs28_18:=of_decide_eq_false hs28_180;refine G21 ?_;refine .sliceHiA sA nc J J J J J oM Y30.h Sz34 (G2 ?_);refine .sliceHiA sB nc J J J J J oM Y30.h Sz34 (.cV J J J J Body23 (digs_same sA.p sB.p nc nc sA.c sB.c (LA.take nc) (fun l hl=>hsA32 l (Lb9 hl)) (by rw[Laa];omega) (by rw[Laa];omega) oM) (fun w h=>⟨rows_take (hacsA.see (Lies.of h (by repeat(first|exact An|refine Be ?_)))) hsA32,by rw[hc3];exact rows_take (hacsB.see (Lies.of h (by repeat(exact An)))) hsB32⟩) ?_);refine G7 ?_;refine .cV J J J J Body51 (lin_eq sA.p sB.p sA.n sB.n sA.c sB.c LA LB hsA32 hsB32 oM oM oM) (fun w h=>⟨hacsA.see (Lies.of h (by repeat(first|exact An|refine Be ?_))),hacsB.see (Lies.of h (by repeat(exact An)))⟩) ?_;refine .cV J J J J Body23 (digests_any2 sA.p sB.p sA.n sB.n sA.c sB.c LA LB hsA32 hsB32 oM oM oM) (fun w h=>⟨hacsA.see (Lies.of h (by repeat(first|exact An|refine Be ?_))),hacsB.see (Lies.of h (by repeat(exact An)))⟩) ?_;refine .neb J J J J Y4 (not_beq (rfl)) (G7 ?_);refine two (fun r hr k=>Tr.eqi J J J J hr k) (fun hs28_630=>?_) (fun hs28_630=>?_)
   ·
    have hs28_63:=of_decide_eq_true hs28_630;refine .cV J J J J Body51 (lin_eq sA.p sB.p sA.n sB.n sA.c sB.c LA LB hsA32 hsB32 oM oM oM) (fun w h=>⟨hacsA.see (Lies.of h (by repeat(first|exact An|refine Be ?_))),hacsB.see (Lies.of h (by repeat(exact An)))⟩) ?_;refine G6 ?_;refine .neb J J J J Y4 (not_beq (by(rw[Ldq,decide_eq_true_iff,decide_eq_true_iff,hceq];omega))) ?_;refine G3 ?_;exact⟨(),trivial,Ah wN (Ac (by repeat(first|exact B4|apply Cf)) Ae)⟩
   have hs28_63:=of_decide_eq_false hs28_630;refine .cV J J J J Body51 (lin_eq sA.p sB.p sA.n sB.n sA.c sB.c LA LB hsA32 hsB32 oM oM oM) (fun w h=>⟨hacsA.see (Lies.of h (by repeat(first|exact An|refine Be ?_))),hacsB.see (Lies.of h (by repeat(exact An)))⟩) ?_;refine G6 ?_;refine .neb J J J J Y4 (not_beq (by(rw[decide_eq_false_iff_not,hceq];omega))) ?_;refine G3 ?_;exact⟨(),trivial,Ah wN (Ac (by repeat(first|exact B4|apply Cf)) Ae)⟩
  intro u hj;skip;refine .cond_f J J (G9 ?_);refine .loop (ι:=Nat) (fun i=>⟨[(22,sA.v),(25,i64 (i:Int))],(outA++[])⟩) (fun i=>i≤LA.length) (fun i=>LA.length-i) (0) ?_ ?_ ?_
  ·exact Laq _
  ·exact Ah wN (Ac sG Ae)
  rintro i hil;refine G9 ?_;refine .condP J (fun hc9=>?_) (fun hc9=>?_)
  ·
   have hi3:i<LA.length:=by omega
   obtain⟨bA,oA,hpA,seeA⟩:=par_open hacsA oM hsA32;obtain⟨t,hti,hpt0,hat,hpre0⟩:=place_at hi3;obtain⟨an,han⟩:∃n,n=LA.getD i []:=⟨_,rfl⟩;have h32an:an.length=32:=by rw[han];exact hsA32 _ (getD_mem2 hi3)
   rw[←han]at hpt0 hat hpre0;have hpt:=hpt0;have hpre:=hpre0;refine G9 ?_;refine .idxSlP 32 J J J hpA J Y30.h Sz34 i J oM (.loadSN (n:=32) (Aa an) J J J Y34.h J Sz34 (by rw[Aa,La0];exact h32an) (fun w h=>by rw[han];exact seeA w (Lies.of h (by repeat(exact An))) i hi3) ?_);refine .cV J J J J Body52 (lin_placeK sA LA an h32an (t:Int) hpt) (fun w h=>(acc_rows hacsA (Lies.of h (by repeat(exact An))) hsA32 J oM)) ?_;refine G4 ?_;refine .draw (oP [0,1,2,3,4,5,6,7,8,9,10,111,12,13,14,115,16,17,18,19,20,21,22,23,24,125,326,27,28]) Ar zK (G1 ?_);refine .lss J J J J (decide_eq_false oM) (G3 ?_);refine .gtr J J J J (decide_eq_false oM) (G4 ?_);refine .idxSlP 32 J J J hpA J Y30.h Sz34 t J oM (.loadSN (n:=32) (Aa an) J J J Y34.h J Sz34 (by rw[Aa,La0];exact h32an) (fun w h=>by rw[←hat];exact seeA w (Lies.of h (by repeat(exact An))) t oM) ?_);refine G2 ?_;refine .idxSlP 32 J J J hpA J Y30.h Sz34 i J oM (.loadSN (n:=32) (Aa an) J J J Y34.h J Sz34 (by rw[Aa,La0];exact h32an) (fun w h=>by rw[han];exact seeA w (Lies.of h (by repeat(exact An))) i hi3) ?_);refine .neq_bytes J J J J eqGuardType34 Y34.h Y5.h Sz5 (by(simp[h32an];done)) (by(simp[h32an];done)) (show(!decide _)=false from congrArg not (decide_eq_true (rfl))) ?_;refine G4 ?_;refine .sliceHiA sA t J J J J J oM Y30.h Sz34 (G2 ?_);refine .idxSlP 32 J J J hpA J Y30.h Sz34 i J oM (.loadSN (n:=32) (Aa an) J J J Y34.h J Sz34 (by rw[Aa,La0];exact h32an) (fun w h=>by rw[han];exact seeA w (Lies.of h (by repeat(exact An))) i hi3) ?_);refine .cV J J J J Body52 (lin_placeK ⟨sA.p,t,sA.c⟩ (LA.take t) an h32an (-1) hpre) (fun w h=>rows_pre hacsA (Lies.of h (by repeat(exact An))) hsA32 oM oM) ?_;refine .nei J J J J (show(!decide _)=false from congrArg not (decide_eq_true (rfl))) (G3 ?_);refine .cond_f J J (G9 ?_);exact⟨i+1,by omega,by omega,Ah wN (Ac sG Ae)⟩
  refine G10 ?_;refine G2 ?_;refine Ay (out:=[]) (Af J J) Ae ?_;exact⟨rfl,rfl⟩
 have hs3_1:=hs3_10;refine G13 ?_;refine .cond_t J J (G5 ?_);refine G3 ?_;refine Ay (out:=[]) (Af J J) Ae ?_;exact⟨rfl,rfl⟩
end Go.Proofs.YtpogmfngccolbaaGreat
namespace Go.Proofs.YtpogmfngccolbaaGreat
open Hw (La3 Le8)
open Go Go.ChangeShapes Go.WideShapes Go.ChangeAt Go.RowKit
variable{H:Type}{W:World}{b0 base:Nat}{held:Bool}{k:TypeId}{ps:List MemPlace}{r:Reach}{sp:Nat→Bool}{v:Value}{d:DataW H}{enc:TypeId×Value→H}
theorem ownLChk:ownKnob Tryz.prog.godebug=none:=by kernel_rfl
theorem laidOutLChk:laidOutB Tryz.prog=true:=by kernel_rfl
theorem ints_ofLChk{s:Hw.Sl}{rs ds:List Int}(h:Hw.SeqIs (fun r:Int=>[Hw.i64 r]) 1 (fun(_:World) (r d:Int)=>d=r∧(Lit.int .i64 r).wf=true) W s rs ds):IntsAt W s rs:=by
  have e:ds=rs:=Le8 (by rw[h.nd,h.nr]) fun i h1 h2=>(h.is i _ _ (La3 h2) (La3 h1)).1;subst e;exact h
theorem openInLChk{P:Program}{k e:TypeId}(hu:P.underlying k=some (.slice e))(he:P.underlying e=some (.int .i64))(hc:P.cellsOf e=1)
    (hval:Value.okWide P W r b0 k v) (hd:DataW.Trod enc P W base sp held k v d ps):∃s l,v=Hw.Sl.v s∧IntsAt W s l:=by
  simp only[Value.okWide,hu,Cell.okWide]at hval;obtain⟨a1,len,cap,rfl⟩:∃a1 len cap,v= .slice a1 len cap:=by
    unfold Cell.ok at hval;rw[hu]at hval;split at hval<;>first|exact hval.elim|exact⟨_,_,_,rfl⟩|simp_all
  obtain⟨fuel,hf⟩:=hd;obtain⟨s,rs,ds,h1,h2⟩:=Hw.open_seqS (cells:=fun r:Int=>[Hw.i64 r]) (Is:=fun(_:World) (r d:Int)=>d=r∧(Lit.int .i64 r).wf=true) hu hc (by decide) (fun ht=>by
    obtain⟨a,ea,_,wa⟩:=DataW.trod_int he ht;exact⟨a,a,ea,⟨rfl,wa⟩,rfl⟩) hf
  refine⟨s,rs,?_,ints_ofLChk h2⟩;simp[Value.cells]at h1;exact h1
theorem openSqLChkBlock(hu:Tryz.prog.underlying k=some (.slice 50))(hc:Tryz.prog.cellsOf 50=131)
    (hval:Value.okWide Tryz.prog W r b0 k v) (hd:DataW.Trod enc Tryz.prog W base sp held k v d ps):∃s l,v=Hw.Sl.v s∧BlocksAt W s l:=by
  simp only[Value.okWide,hu,Cell.okWide]at hval;obtain⟨a1,len,cap,rfl⟩:∃a1 len cap,v= .slice a1 len cap:=by
    unfold Cell.ok at hval;rw[hu]at hval;split at hval<;>first|exact hval.elim|exact⟨_,_,_,rfl⟩|simp_all
  obtain⟨fuel,hf⟩:=hd;obtain⟨s,l,h1,h2⟩:=Block.openS hu hc hf;refine⟨s,l,?_,h2⟩;simp[Value.cells]at h1;exact h1
theorem walkLChk(w:World)(s0:Hw.Sl)(l0:List DB)(hs0:BlocksAt w s0 l0)(a1:Int)(w1:(Lit.int .i64 a1).wf=true)(s2:Hw.Sl)(l2:List Int)(hs2:IntsAt w s2 l2)(s3:Hw.Sl)(l3:List Int)(hs3:IntsAt w s3 l3):Calls Tryz.prog 9 #[Hw.Sl.v s0,Hw.i64 a1,Hw.Sl.v s2,Hw.Sl.v s3] w fun e w'=>e= .returned (.bool true)∧Below w.heap.size w w':=
  by
  have fin:∀ {us:Array Value},Calls Tryz.prog 9 us w (fun e W'=>∃v out,e= .returned v∧(v= .bool true∧out=[])∧Hw.Ret [] out w W')→Calls Tryz.prog 9 us w (fun e w'=>e= .returned (.bool true)∧Below w.heap.size w w'):=
    fun h=>h.mono fun e w' ⟨v,out,he,⟨hv,ho⟩,hr⟩=>⟨by rw[he,hv],Hw.Keeps.below hr.keeps⟩
  exact fin (law_linearchecks s0 l0 a1 s2 l2 s3 l3 w ⟨hs0,hs2,hs3⟩)
theorem liftedLChk(os:Os)(started:os.Started)(H:Type)(enc:TypeId×Value→H):
    ReturnsInHanded {} Tryz.checked os 9 .any (Rows.linearChecksSpec.pre6 enc Tryz.prog Tryz.f9 Rows.linearChecksRow.domain false) (Rows.linearChecksSpec.post enc Tryz.prog Tryz.f9 false true false false):=by
  refine returnsInHanded_of_change (C:=Tryz.checked) ownLChk started (by kernel_rfl) Tryz.func9
    (ChangeSpec.witness6 (enc:=enc) (C:=Tryz.checked) false ⟨#[], #[.slice none 0 0, .int .i64 0, .slice none 0 0, .slice none 0 0],[]⟩ 8 (by kernel_rfl) (by kernel_rfl) (by kernel_rfl) (by kernel_rfl)) ?_
  intro W base args ds gs before hval0 hW hcnd _;have hval:∀(j:Nat) t v,Tryz.f9.params[j]? =some t→args[j]? =some v→Value.okWide Tryz.prog W .any base t v:=hval0;have hW':=hW;obtain⟨p,q,hA0,hV,rfl,hfz,hnd⟩:=hW;have hA:DataW.TrodAll enc Tryz.prog W 0 (fun _=>true) true Tryz.f9.params.toList args.toList ds p:=hA0;rw[Tryz.params9]at hA hval;obtain⟨v0,vs0,d0,ds0,p0,q0,hargs,rfl,rfl,h0,r0⟩:=trodAll_cons hA;obtain⟨v1,vs1,d1,ds1,p1,q1,rfl,rfl,rfl,h1,r1⟩:=trodAll_cons r0;obtain⟨v2,vs2,d2,ds2,p2,q2,rfl,rfl,rfl,h2,r2⟩:=trodAll_cons r1;obtain⟨v3,vs3,d3,ds3,p3,q3,rfl,rfl,rfl,h3,r3⟩:=trodAll_cons r2;obtain⟨rfl,rfl,rfl⟩:=trodAll_nil r3;obtain rfl:args= #[v0,v1,v2,v3]:=by cases args;simp_all
  obtain⟨rfl,rfl⟩:=trodVars_none hV;have k0:=h0;have lt0:∀x∈p0,x.block<W.heap.size:=by obtain⟨m,hm⟩:=k0;exact DataW.trod_lt m _ _ _ hm
  have k1:=h1;have lt1:∀x∈p1,x.block<W.heap.size:=by obtain⟨m,hm⟩:=k1;exact DataW.trod_lt m _ _ _ hm
  have k2:=h2;have lt2:∀x∈p2,x.block<W.heap.size:=by obtain⟨m,hm⟩:=k2;exact DataW.trod_lt m _ _ _ hm
  have k3:=h3;have lt3:∀x∈p3,x.block<W.heap.size:=by obtain⟨m,hm⟩:=k3;exact DataW.trod_lt m _ _ _ hm
  obtain⟨s0,l0,rfl,hs0⟩:=openSqLChkBlock Tryz.underlying22 (by kernel_rfl) (hval 0 22 v0 rfl rfl) h0;obtain⟨a1,rfl,rfl,rfl,w1⟩:=open_int Tryz.underlying3 (hval 1 3 v1 rfl rfl) h1;obtain⟨s2,l2,rfl,hs2⟩:=openInLChk Tryz.underlying23 Tryz.underlying3 (by kernel_rfl) (hval 2 23 v2 rfl rfl) h2;obtain⟨s3,l3,rfl,hs3⟩:=openInLChk Tryz.underlying23 Tryz.underlying3 (by kernel_rfl) (hval 3 23 v3 rfl rfl) h3;clear hA0 hval0;refine(walkLChk W s0 l0 hs0 a1 w1 s2 l2 hs2 s3 l3 hs3).mono fun e W' ⟨he,bel⟩=>?_;subst he;exact⟨_,rfl,_,_,_,[],_,[],hW',trodAll_mk1 (shut_bool Tryz.underlying4 _),(trodAll_cons_mk (Below.trod laidOutLChk (by kernel_rfl) (of_decide_eq_true (by kernel_rfl)) k0 bel lt0) (trodAll_cons_mk (Below.trod laidOutLChk (by kernel_rfl) (of_decide_eq_true (by kernel_rfl)) k1 bel lt1) (trodAll_cons_mk (Below.trod laidOutLChk (by kernel_rfl) (of_decide_eq_true (by kernel_rfl)) k2 bel lt2) (trodAll_cons_mk (Below.trod laidOutLChk (by kernel_rfl) (of_decide_eq_true (by kernel_rfl)) k3 bel lt3) trodAll_mk0)))),rfl,bel.frame _,fun h=>by cases h⟩
theorem linearChecks_holds:Rows.LinearChecksSaid:=
  OpenClaim.holds_of_wide 9 Tryz.f9 rfl rfl rfl rfl rfl rfl rfl ⟨rfl,rfl,rfl,rfl,rfl⟩ rfl rfl rfl rfl rfl (by kernel_rfl) Tryz.func9 closedLChk
    (of_decide_eq_true (by kernel_rfl)) (by unfold Func.isWrapper;first|(rw[if_pos (by decide+kernel)];kernel_rfl)|(rw[if_neg (by decide+kernel)];exact⟨rfl,rfl⟩))
    (fun os started H enc _=>liftedLChk os started H enc)
end Go.Proofs.YtpogmfngccolbaaGreat
end
