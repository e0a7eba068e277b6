/- WantNames returns true at every start, and leaves all old memory as it was. Conditions: none beyond the given statement's own. -/
import Derived.WalkKit
import Derived.Orders
import Derived.Deep.LoopGhost
import Derived.IntWalk
import Derived.Laws.StructEq
import Derived.ArgAppend
import Derived.Deep.AppendSrc
import Derived.Lib.Bytealg
import Derived.Lib.BytesEntry
import Derived.Laws.IdiomStrings
import Derived.WideKeyArr2
import Derived.ProofKit
import Derived.OpenShut
import Derived.Deep.Slices
import Derived.Laws.Pointers
import Derived.Laws.Cover3
import Derived.LaidEqlPtr
import Derived.LoopN
import Derived.RangeFuncLeaves
import Derived.RangeFuncSeq
import Derived.OrdersIn
import Derived.Maps.Keyed
import Derived.Maps.RangeRun
import Derived.DeepKeys4
import Derived.Below
import Derived.Test.YtgjnomgkddbhcaaGreatRows
import Derived.KernelRfl
import Derived.Laws.Externs
import Derived.Defers
import Derived.Laws.MathBits
import Derived.Shelf.SlSortCmp.WholeK
import Derived.Shelf.SlGeneric
import Derived.Test.YtgjnomgkddbhcaaGreatProg
import Derived.Shelf.SlSortCmp.NoneTotal
import Derived.Deep.QuietTactic
import Derived.BigQuiet
import Derived.ScopeJumps
import Derived.DeepKeys3
import Derived.ChangeOld
import Derived.JoinedOf
import Derived.Test.YtgjnomgkddbhcaaGreatWNaX5
set_option maxRecDepth 100000
set_option maxHeartbeats 8000000
set_option linter.unusedVariables false
set_option linter.unusedSimpArgs false
set_option linter.unusedSectionVars false
set_option linter.unnecessarySimpa false
section
namespace Go.Proofs.YtgjnomgkddbhcaaGreat
open Go Hw _root_.Go.Proofs.Tryz
section
variable{C:Cx}{ops:Array Oper}{rest:List (Nat×Oper)}{sl:List (Nat×Value)}{hp:List Blk}{Q:St→Prop}{c d:Nat}{ty:TypeId}{pos:String}{af:Array Edge}{g:Option (Nat×Bool)}
variable{xT yT:TypeId}{x y:Operand}{a b:Int}
end
def GetR(X:PD)(n:List UInt8)(v:Value)(out:List Blk):Prop:=
  Ap X.P n=none∧v= .tuple #[agg Block.zero.cells,i64 6]∧out=[]
  ∨∃D B,Ap X.P n=some D∧SameB B D∧v= .tuple #[agg B.cells,i64 0]∧∀W2,Lies out W2→BlockIs W2 B D
theorem ck_small{D:DB}(h:D.check=0):D.ls.length≤16∧D.ds.length≤90000:=by
  obtain⟨h1,h2⟩:=D.head_small h;exact⟨by omega,by omega⟩
theorem dag_get(x:DD)(hx:x.ok)(hck:∀p∈x.P,p.2.check=0)(p:Nat)(n:List UInt8)(h32:n.length=32):Meets prog 13 [ptr p 0,agg (Aa n)] [] (fun W=>Lies (x.blks p) W) (GetR x.pl n):=by
 intro W hW;have hlies:=hW;have hd:=DagSee.lies hW;refine Ac func13 J 27 ntmps13 J (G3 ?_);intro n3 hn3 hf3;refine .alloc (cs:=Block.zero.cells) J Block.zr J ?_;intro n4 hn4 hf4;refine G7 ?_;refine .cV J J J J Body52 (dag_valid x p) (fun w h=>hd.ext h) (G3 ?_);refine .cond_f J J (G3 ?_);refine .draw (oPq [0,1,2,103,104,105,6,7,8,209,410,11]) Av zK (G3 ?_);refine .loadE J J J Y87.h J sP (hd.at (o:=2) J) (.lA J J J Y31.h J Sz31 Z1 (by(simp[h32];done)) ?_);refine .lookFC evE ME hd.2 sP J J J J h32 (fun hg=>?_) (fun e hg=>?_)
 ·
  skip;refine G3 ?_;refine .alloc (cs:=DEnt.zero.cells) J DEnt.zr J ?_;intro n6 hn6 hf6;refine G11 ?_;refine .cond_t J J (G2 ?_);refine .build (cs:=Block.zero.cells) J J J (fun w=>by kernel_rfl) ?_;refine G4 ?_;refine G3 ?_;refine Ax (out:=[]) (Bn J J J Y37.h J Sz37 Z1 (by exact Block.length (by exact Block.zero_ok))) Af ?_;exact .inl ⟨DD.noP hg,rfl,rfl⟩
 obtain⟨hs1,hs2⟩:=ck_small (hck _ (La7.2 ⟨_,Bm hg,rfl⟩));simp only at hs1 hs2;refine G3 ?_;refine .alloc (cs:=DEnt.zero.cells) J DEnt.zr J ?_;intro n6 hn6 hf6;refine .sA J J J J (DEnt.isCell (by exact hx.entOk hg)) Sz98 (DEnt.length (by exact hx.entOk hg)) Z0 (DEnt.length (by exact DEnt.zero_ok)) zU ?_;refine G10 ?_;refine .cond_f J J (G5 ?_);refine .lN (Block.cells _) J J J Y37.h J Sz37 Z0 (DEnt.row_fBlock (by exact hx.entOk hg)) (DEnt.rl_fBlock (by exact hx.entOk hg)) ?_;refine .call4 J J J J J Body59 (dag_clone e.1.fBlock e.2 (hx.ent _ (Bm hg)).2.1.1 oM oM) (fun w h=>(hx.ent _ (Bm hg)).2.1.2 w ((Bg hlies h).sub (x.mcb p))) ?_;rintro v26 out26 ⟨B26,h26,rfl,hb26⟩;refine .sA J J J J (Block.isCell (by exact h26.ok)) Sz37 (Block.length (by exact h26.ok)) mR (Block.length (by exact Block.zero_ok)) uU ?_;refine G3 ?_;refine G2 ?_;refine Ax (out:=(out26++[])) (Bn J J J Y37.h J Sz37 mR (by exact Block.length (by exact h26.ok))) (Ad sG Af) ?_;exact .inr ⟨e.2,B26,(DD.atP hg).1,h26,rfl,fun W2 hl=>hb26 W2 (by simpa using hl)⟩
theorem row_one{q:Nat}{w:World}{a:List UInt8}(ha:a.length=32)(h:Sees w q 0 (Aa a)):RowsAt w ⟨some ⟨q,0,none⟩,1,1⟩ 32 [a]:=⟨rfl,fun l hl=>by rw[La1.1 hl];exact ha,Lab 1,SeesP.of (by simpa using h),(by show 1≤maxLen;decide),fun e=>by cases e⟩
open Classical in
noncomputable def rB(X:PD)(above:Int)(L:List (List UInt8))(n:List UInt8):Bool:=decide (X.Reach above L n)
theorem rB_iff{X:PD}{above:Int}{L:List (List UInt8)}{n:List UInt8}:rB X above L n=true↔X.Reach above L n:=by unfold rB;simp
theorem fillP_snoc(X:PD)(l:List DB)(d:DB):fillP X (l++[d])=((fillP X l).add d).1:=by unfold fillP;rw[Ldd];rfl
end Go.Proofs.YtgjnomgkddbhcaaGreat
namespace Go.Proofs.YtgjnomgkddbhcaaGreat
open Go Hw _root_.Go.Proofs.Tryz
variable{B:Blk}{C:Cx}{D:DB}{L ks:List (List UInt8)}{X:PD}{hp:List Blk}{k:Nat}{n:List UInt8}{w:World}{x:DD}
theorem nil_rows(W:World):RowsAt W Sl.nil 32 []:=rows_none
theorem getD_mem2(h:k<L.length):L.getD k []∈L:=by
  rw[La2,La6 h];exact Lca h
theorem P32(hx:x.ok)(h:∃D,Ap x.pl.P n=some D):n.length=32:=by
  obtain⟨D,hD⟩:=h;obtain⟨p,hp,e⟩:=La7.1 (Bm (show Ap x.P n=some D from hD));rw[←(Prod.mk.inj e).1];exact(hx.ent p hp).1
theorem names_mem(hI:X.Inv)(n:List UInt8):n∈X.names↔∃D,Ap X.P n=some D:=by rw[hI.nn];exact key_some
theorem nd_len:∀ {l m:List (List UInt8)},l.Nodup→(∀n∈l,n∈m)→l.length≤m.length
  | [],m,_,_=>Lan _
  | a::l,m,h,hs=>by
    obtain⟨h1,h2⟩:=Law.1 h;have ha:=hs a La8;have ih:=nd_len (l:=l) (m:=m.erase a) h2 (fun n hn=>(List.mem_erase_of_ne (fun e=>h1 (by rw[←e];exact hn))).2 (hs n (Lac _ hn)));have hl:=List.length_erase_of_mem ha;have hp:=List.length_pos_of_mem ha;rw[Lb3];omega
theorem reach_len(hI:X.Inv)(hnd:ks.Nodup)(hks:∀n,n∈ks↔X.Reach (-1) L n):ks.length≤X.names.length:=nd_len hnd fun n hn=>(names_mem hI n).2 (reach_P ((hks n).1 hn))
theorem hB_ok(hx:x.ok){q:Nat}{W:World}(hl:Lies (x.blks q) W)(h:Ap x.pl.P n=some D):D.ok:=by
  obtain⟨p,hp,e⟩:=La7.1 (Bm (show Ap x.P n=some D from h));have:=((hx.ent p hp).2.1.2 W (hl.sub (x.mcb q))).dok;rw[←(Prod.mk.inj e).2];exact this
structure PD.Ord(X:PD):Prop where
  par:∀k p,X.P[k]? =some p→∀m∈Bk p.2,m∈(X.P.take k).map (·.1)
  dep:∀n D,Ap X.P n=some D→(Ap X.dep n).getD 0=(Bk D).foldl (stepP X.dep) 0
theorem step_congr{d1 d2:List (List UInt8×Int)}:∀(l:List (List UInt8)) (a:Int),(∀n∈l,Ap d1 n=Ap d2 n)→l.foldl (stepP d1) a=l.foldl (stepP d2) a
  | [],_,_=>rfl
  | n::l,a,h=>by
    rw[Lcx,Lcx,show stepP d1 a n=stepP d2 a n from by unfold stepP;rw[h n La8]];exact step_congr l _ fun m hm=>h m (Lac _ hm)
theorem PD.Ord.new:PD.new.Ord where
  par:=fun k p h=>by
    have h2:([]:List (List UInt8×DB))[k]? =some p:=h;simp at h2
  dep:=fun n D h=>by cases h
theorem PD.Ord.drop(h:X.Ord)(n:List UInt8):(X.drop1 n).Ord:={ h with }
theorem PD.Ord.adm(hO:X.Ord)(hI:X.Inv)(hnP:n∉X.P.map (·.1))(hr:readyB X.P D=true):(X.adm n D).Ord:=by
  have hP0:Ap X.P n=none:=by
    cases h:Ap X.P n with
    |none=>rfl
    |some E=>exact absurd (La7.2 ⟨(n,E),Bm h,rfl⟩) hnP
  have hPe:(X.adm n D).P=X.P++[(n,D)]:=mput_app hP0 D;have hrd:∀m∈Bk D,m∈X.P.map (·.1):=fun m hm=>by
    have:=Lcb.1 hr m hm;obtain⟨E,hE⟩:=Ldn.1 this;exact La7.2 ⟨(m,E),Bm hE,rfl⟩
  have hd0:Ap X.dep n=none:=by
    cases h:Ap X.dep n with
    |none=>rfl
    |some E=>exact absurd (by rw[←hI.dk];exact La7.2 ⟨(n,E),Bm h,rfl⟩) hnP
  have hde:∀m,m≠n→Ap (X.adm n D).dep m=Ap X.dep m:=fun m hm=>mget_old hd0 _ (Ne.symm hm);constructor
  · intro k p hk m hm
    rw[hPe]at hk ⊢;rcases Lay k X.P.length with h1|h1
    · rw[Lb2 h1]at hk
      rw[Lc9 oM];exact hO.par k p hk m hm
    · have hke:k=X.P.length:=by
        have:=(Laa.1 hk).1;simp at this;omega
      subst hke;rw[Lb6 (Lab _),Lf2]at hk;cases hk;rw[Lc9 (Lab _),Ld0];exact hrd m hm
  · intro q E hq
    have hq2:Ap (Bd X.P n D) q=some E:=hq;have hnn:∀m∈X.P.map (·.1),m≠n:=fun m hm e=>hnP (e▸hm);by_cases hqn:q=n
    · subst hqn
      rw[mget_new hP0]at hq2;cases hq2;have e1:Ap (X.adm q D).dep q=some ((Bk D).foldl (stepP X.dep) 0):=mget_new hd0 _;rw[e1,Lbq];exact step_congr _ _ fun m hm=>(hde m (hnn m (hrd m hm))).symm
    · rw[mget_old hP0 _ (Ne.symm hqn)]at hq2
      rw[hde q hqn,hO.dep q E hq2];exact step_congr _ _ fun m hm=>(hde m (hnn m (by
        obtain⟨F,hF⟩:=(hI.par q E hq2 m hm).1;exact La7.2 ⟨(m,F),Bm hF,rfl⟩))).symm
theorem PD.Ord.settle:∀(f:Nat) {X:PD},X.Inv→X.Ord→(PD.settle f X).1.Ord
  |0,X,_,h=>h
  | f + 1,X,hI,h=>by
    cases hf:X.first with
    |none=>rw[settle_done hf];exact h
    | some n=>
      obtain⟨D,hD,hj⟩:=first_key hf;have hm:=hI.oc _ (Bm hD);by_cases h1:Cg X.P D=1
      · rw[settle_fit hf hD h1]
        exact PD.Ord.settle f ((hI.drop n).adm hm.2 (fun h2=>((mdel_keys hI.od n n).1 h2).2 rfl) hm.1 (judge_ready h1)) ((h.drop n).adm (hI.drop n) hm.2 (judge_ready h1))
      · rw[settle_wrong hf hD h1]
        exact PD.Ord.settle f (hI.drop n) (h.drop n)
theorem PD.Ord.add(hI:X.Inv)(h:X.Ord)(D:DB):(X.add D).1.Ord:=by
  by_cases hg:dgood D=0
  · cases ht:((Ap X.orp (Be D)).isSome||(Ap X.P (Be D)).isSome)with
    |true=>rw[add_there hg ht];exact h
    | false=>
      have ht2:=ht;rw[Bool.or_eq_false_iff]at ht2;have n1:Be D∉X.orp.map (·.1):=fun hm=>by
        obtain⟨v,hv⟩:=mget_of_key hm;rw[hv]at ht2;cases ht2.1
      have n2:Be D∉X.P.map (·.1):=fun hm=>by
        obtain⟨v,hv⟩:=mget_of_key hm;rw[hv]at ht2;cases ht2.2
      rcases judge_cases X.P D with hj|hj|hj
      · by_cases h64:64≤X.orp.length
        ·rw[add_full hg ht hj h64];exact h
        ·rw[add_keep hg ht hj h64];exact{ h with }
      · rw[add_fits hg ht hj]
        exact PD.Ord.settle _ (hI.adm n2 n1 (good_check hg) (judge_ready hj)) (h.adm hI n2 (judge_ready hj))
      ·rw[add_wrong hg ht hj];exact h
  ·rw[add_bad hg];exact h
theorem PD.Ord.fill:∀(ds:List DB) {X:PD},X.Inv→X.Ord→(fillP X ds).Ord
  | [],X,_,h=>h
  |D::ds,X,hI,h=>PD.Ord.fill ds (hI.add D) (PD.Ord.add hI h D)
def PD.dp(X:PD)(n:List UInt8):Int:=(Ap X.dep n).getD 0
theorem PD.Ord.before(hI:X.Inv)(hO:X.Ord)(hk:X.names[k]? =some n):∃D,Ap X.P n=some D∧(∀m∈Bk D,m∈X.names.take k)∧X.dp n=(Bk D).foldl (stepP X.dep) 0:=by
  rw[hI.nn,Lap]at hk;obtain⟨p,hp,rfl⟩:=Option.map_eq_some_iff.1 hk;have hm:=mget_some hI.nd hp;refine⟨p.2,hm,fun m hm2=>?_,hO.dep _ _ hm⟩;rw[hI.nn,←Lcj];exact hO.par k p hp m hm2
abbrev evI(x:Int):Value:=i64 x
theorem MI:MOk prog 58 31 3 (An 32 evI) (i64 0):=bytesT_ok _ underlying58 A25 Y5.h size_pos K25 (zr_run Zr3)
theorem MN:MOk prog 178 31 110 (An 32 evU) (agg []):=bytesT_ok _ underlying178 A25 Y5.h size_pos K25 (zr_run Zr110)
def setP(ls:List (List UInt8)):List (List UInt8×Unit):=ls.foldl (fun fs n=>Bd fs n ()) []
theorem setP_step{ls:List (List UInt8)}(hk:k<ls.length):setP (ls.take (k+1))=Bd (setP (ls.take k)) (ls.getD k []) ():=by
  unfold setP;have e:ls.getD k []=ls[k]:=by rw[La2,La6 hk];rfl
  rw[Lam hk,Ldd,e];rfl
def NSetR(ls:List (List UInt8))(v:Value)(out:List Blk):Prop:=∃m,v= .map (some m)∧out=[A2 m (An 32 evU) (setP ls)]
theorem lin_none(x:DD)(hx:x.ok)(h16:∀p∈x.P,p.2.ls.length≤16)(p:Nat):Mv 148 [ptr p 0] (fun W=>Lies (x.blks p) W) (.bool false):=by
 intro W hW;refine Ac func148 J 12 ntmps148 J (G8 ?_);refine .call4 J J J J J Body109 (dag_closure x hx h16 p Sl.nil [] (Lan _)) (fun w h=>⟨Bg hW h,nil_rows w⟩) ?_;rintro v7 out7 (⟨⟨n,hn,_⟩,_⟩|⟨_,s7,ks,rfl,_⟩)
 ·cases hn
 refine G10 ?_;refine .nei J J J J (show(!decide _)=false from congrArg not (decide_eq_true (rfl))) (G3 ?_);refine G2 ?_;refine Ax (out:=[]) (Ai J J) Af ?_;exact⟨rfl,rfl⟩
theorem lin_set(s:Sl)(ls:List (List UInt8)):Meets prog 149 [s.v] [] (fun W=>RowsAt W s 32 ls) (NSetR ls):=by
 intro W hW;have hlen:=hW.len;have hrow:=hW.row;have hmax:=hW.max;simp only[maxLen]at hmax;refine Ac func149 J 18 ntmps149 J (G7 ?_);refine .mkMap (An 32 evU) J J ?_;intro m6;refine G12 ?_;refine .loop (ι:=Nat×List (List UInt8×Unit)) (fun r=>⟨[(2, .map none),(3, .map (some m6)),(7,s.v),(8,i64 (s.n:Int)),(9,i64 (r.1:Int))],[A2 m6 (An 32 evU) r.2]⟩) (fun r=>r.1≤s.n∧r.2=setP (ls.take r.1)) (fun r=>s.n-r.1) ((0,[])) ?_ ?_ ?_
 ·exact⟨Lan _,rfl⟩
 ·exact Al wN (Ab rM Af)
 rintro⟨k,fs⟩ ⟨hk,hfs⟩;simp only at hk hfs ⊢;refine G6 ?_;refine .condP J (fun hc0=>?_) (fun hc0=>?_)
 ·
  have hk2:k<s.n:=by omega
  obtain⟨b,o,hbp,hbs⟩:=hW.see.at (by rw[A0 hrow];omega);have h32k:(ls.getD k []).length=32:=B6 hrow oM;refine G6 ?_;refine .idxSlP 32 J J J hbp J Y32.h Sz31 k J oM (.loadEN (Aa (ls.getD k [])) J J J Y31.h J Sz31 sP (by rw[Aa,La0];exact h32k) (Bt hrow hbs oM) ?_);refine .alloc (cs:=(Aa (List.replicate 32 0))) J Cf J ?_;intro n5 hn5 hf5;refine .sA J J J J zE Sz31 (by(rw[Aa,La0];assumption)) Z0 sP zU ?_;refine G4 ?_;refine .lA J J J Y31.h J Sz31 Z0 (by(rw[Aa,La0];assumption)) ?_;refine .build (cs:=[]) J J J (fun w=>by kernel_rfl) ?_;refine .mapPut (v:=()) MN J J J J J h32k rM ?_;refine G8 ?_;exact⟨(k+1,Bd fs (ls.getD k []) ()),⟨by simp only;omega,by simp only;rw[setP_step oM,hfs]⟩,by simp only;omega,Al (wk1 rfl (wk1 rfl (wk1 rfl (wk1 rfl (wk1 (by rw[Lc6];rfl) wk0))))) (Ab rM Af)⟩
 obtain rfl:k=s.n:=by omega
 refine G11 ?_;refine G2 ?_;refine Ax (out:=(A2 m6 (An 32 evU) fs::[])) (Ai J J) (Ab rM Af) ?_;exact⟨m6,rfl,by rw[hfs,La4 oM]⟩
structure DMap(X:PD)(fs:List (List UInt8×Int))(ks:List (List UInt8)):Prop where
  all:∀n∈ks,Ap fs n=some (X.dp n)
  only:∀n v,Ap fs n=some v→n∈ks
theorem DMap.none(X:PD):DMap X [] []:=⟨fun n hn=>(by cases hn),fun n v h=>(by cases h)⟩
theorem DMap.put{fs:List (List UInt8×Int)}(h:DMap X fs ks)(hn:n∉ks):DMap X (Bd fs n (X.dp n)) (ks++[n]):=by
  have h0:Ap fs n=Option.none:=by
    cases hm:Ap fs n with
    |none=>rfl
    |some v=>exact absurd (h.only n v hm) hn
  constructor
  · intro m hm
    rcases Lad.1 hm with h1|h1
    ·rw[mget_old h0 _ (fun e=>hn (e▸h1))];exact h.all m h1
    ·rw[La1.1 h1];exact mget_new h0 _
  · intro m v hm
    by_cases e:n=m
    ·rw[←e];exact Lb1 _ La8
    · rw[mget_old h0 _ e]at hm
      exact Lar _ (h.only m v hm)
theorem dp_le(hI:X.Inv)(n:List UInt8):0≤X.dp n:=by
  unfold PD.dp;cases h:Ap X.P n with
  |some D=>exact hI.d0 n D h
  | none=>
    cases h2:Ap X.dep n with
    |none=>exact Lgq _
    | some v=>
      exfalso;have h3:n∈X.P.map (·.1):=by rw[←hI.dk];exact La7.2 ⟨(n,v),Bm h2,rfl⟩
      obtain⟨D,hD⟩:=mget_of_key h3;rw[h]at hD;cases hD
theorem dp_big(hx:x.ok)(n:List UInt8):x.pl.dp n≤x.names.length:=by
  unfold PD.dp;have e:Ap x.pl.dep n=(Ap x.ent n).map fun e=>e.1.fDepth:=mget_map (fun e:EV=>e.1.fDepth) x.ent n;rw[e];cases h:Ap x.ent n with
  |none=>simp
  |some e=>exact(hx.ent _ (Bm h)).2.2.2
theorem step_take(hk:k<L.length):(L.take (k+1)).foldl (stepP X.dep) 0=if X.dp (L.getD k [])+1>(L.take k).foldl (stepP X.dep) 0 then X.dp (L.getD k [])+1 else(L.take k).foldl (stepP X.dep) 0:=by
  have e:L.getD k []=L[k]:=by rw[La2,La6 hk];rfl
  rw[Lam hk,Ldd,e];rfl
theorem step_bound{x:DD}(hx:x.ok)(hI:x.pl.Inv):∀(L:List (List UInt8)) (d:Int),0≤d→d≤20001→0≤L.foldl (stepP x.pl.dep) d∧L.foldl (stepP x.pl.dep) d≤20001
  | [],d,h0,h1=>⟨h0,h1⟩
  | a::L,d,h0,h1=>by
    have h2:=dp_big hx a;have h3:=dp_le hI a;have h4:=hx.big;unfold PD.dp at h2 h3;refine step_bound hx hI L _ ?_ ?_<;>unfold stepP<;>split<;>omega
theorem par_open{s:Sl}{bl:List Blk}(h:Hw.Acc s bl (As L) 31 L.length 32)(h0:0<L.length)(h32:∀l∈L,l.length=32):∃b o,s.p=some ⟨b,o,none⟩∧∀w,Lies bl w→∀k,k<L.length→Sees w b (o+k*32) (Aa (L.getD k [])):=by
  rcases h with ⟨_,_,_,e⟩|⟨q,c,rfl,h1,h2,rfl⟩
  ·omega
  ·exact⟨q,0,rfl,fun w hw k hk=>Bt h32 (sees_kok (hw _ La8) fun j v hj=>by rw[Lb4];exact hj) hk⟩
theorem depth_known(n:List UInt8)(h32:n.length=32)(a b c m:Nat)(fs:List (List UInt8×Int))(k:Int)(hk:Ap fs n=some k):Mv 185 [agg (Aa n),ptr a 0,ptr b 0,ptr c 0] (fun W=>W.cell? ⟨a,0,none⟩=some (.map (some m))∧BlkOk W (A2 m (An 32 evI) fs)) (i64 k):=by
 intro W hW;refine Ac func185 J 45 ntmps185 J (G3 ?_);intro n4 hn4 hf4;refine G6 ?_;refine .loadE J J J underlying58 J sP (hW.1) (.lA J J J Y31.h J Sz31 Z0 (by(simp[h32];done)) ?_);refine .lookFC evI MI hW.2 sP J J J J h32 (fun hg=>?_) (fun v hg=>?_)
 ·
  exfalso;rw[hk]at hg;cases hg
 obtain rfl:v=k:=by rw[hk]at hg;exact(Leg hg).symm
 refine G12 ?_;refine .cond_t J J (G6 ?_);refine G3 ?_;refine⟨_,[],Ai J J,sP,sP,?_,rfl⟩;rfl
theorem depth_next(x:DD)(hx:x.ok)(hI:x.pl.Inv)(p:Nat)(n:List UInt8)(h32:n.length=32)(D:DB)(hD:Ap x.pl.P n=some D)(a b c m:Nat)(fs:List (List UInt8×Int))(hno:Ap fs n=none)(hpar:∀q∈Bk D,Ap fs q=some (x.pl.dp q))(hdp:x.pl.dp n=(Bk D).foldl (stepP x.pl.dep) 0):Meets prog 185 [agg (Aa n),ptr a 0,ptr b 0,ptr c 0] [m] (fun W=>Lent [A2 m (An 32 evI) fs] W∧Lies (x.blks p) W∧(∀b∈x.blks p,b.n≠m)∧(W.cell? ⟨a,0,none⟩=some (.map (some m))∧a≠m)∧(W.cell? ⟨b,0,none⟩=some (ptr p 0)∧b≠m)∧W.cell? ⟨c,0,none⟩=some (.func (.func 185) #[] #[ptr a 0,ptr b 0,ptr c 0])∧c≠m) (fun v out=>v=i64 (x.pl.dp n)∧out=[A2 m (An 32 evI) (Bd fs n (x.pl.dp n))]):=by
 intro W hW;have h32q:True:=trivial;obtain⟨_,hlies,hxm,⟨hca,ham⟩,⟨hcb,hbm⟩,hcc,hcm⟩:=id hW;have hck:∀q∈x.P,q.2.check=0:=hI.ck;have h16:D.ls.length≤16:=(ck_small (hck _ (Bm hD))).1;have h17:(Bk D).length≤17:=by have:=parL_len D;omega
 have hdk:∀k,0≤((Bk D).take k).foldl (stepP x.pl.dep) 0∧((Bk D).take k).foldl (stepP x.pl.dep) 0≤20001:=fun k=>step_bound hx hI _ 0 (Lgq _) dE;have hbig:=hx.big;refine calls_of (hp0:=[A2 m (An 32 evI) fs]) func185 J 45 ntmps185 J hW.1.rep (G3 ?_);intro n4 hn4 hf4;refine G6 ?_;refine .loadE J J J underlying58 J (by(simp;omega)) (hca) ?_;refine .lA J J J Y31.h J Sz31 Z0 (by(simp[h32];done)) ?_;refine .lookF evI MI J J J J h32 Z1 (fun hg=>?_) (fun v hg=>?_)
 ·
  skip;refine G12 ?_;refine .cond_f J J (G4 ?_);refine .loadE J J J Y25.h J (by(simp;omega)) (hcb) ?_;refine .lA J J J Y31.h J Sz31 Z0 (by(simp[h32];done)) ?_;refine .call4 J J J J J Body13 (dag_get x hx hck p n h32) (fun w h=>Lies.keep hlies h.keeps (fun b hb=>by simpa using hxm b hb)) ?_;rintro v24 out24 (⟨h0,_⟩|⟨D2,B,hD2,hB,rfl,hbi⟩)
  ·exfalso;rw[h0]at hD;cases hD
  obtain rfl:D2=D:=by rw[hD]at hD2;exact(Leg hD2).symm
  refine G3 ?_;refine .alloc (cs:=Block.zero.cells) J Block.zr J ?_;intro n8 hn8 hf8;refine .sA J J J J (Block.isCell (by exact hB.ok)) Sz37 (Block.length (by exact hB.ok)) Z0 (Block.length (by exact Block.zero_ok)) zU ?_;refine G11 ?_;refine .lA J J J Y37.h J Sz37 Z0 (Block.length (by exact hB.ok)) ?_;refine .call4 J J J J J Body65 (db_parA B D2 oM) (fun w h=>hbi w (Lies.of h (by repeat(first|exact Cy|refine in_there ?_)))) ?_;rintro v28 out28 ⟨⟨p28,n28,c28⟩,rfl,hac28⟩;have hn28:n28=(Bk D2).length:=hac28.num;have hprow2:∀l∈Bk D2,l.length=32:=parL_row (hB_ok hx hlies hD2);refine G5 ?_;refine .loop (ι:=Nat×Int) (fun r=>⟨[(1,ptr a 0),(2,ptr b 0),(3,ptr c 0),(4,ptr n4 0),(5,i64 0),(10,i64 r.2),(28, .slice p28 n28 c28),(29,i64 (n28:Int)),(30,i64 (r.1:Int))],(out28++(out24++(⟨n4,Aa n,31,(Aa n).length⟩::(A2 m (An 32 evI) fs::[]))))⟩) (fun r=>r.1≤n28∧r.2=((Bk D2).take r.1).foldl (stepP x.pl.dep) 0) (fun r=>n28-r.1) ((0,0)) ?_ ?_ ?_
  ·exact⟨Lan _,rfl⟩
  ·exact Al wN (Ad sG (Ad sG (Ab rM (Ab rM Af))))
  rintro⟨k,dv⟩ ⟨hk,hdv⟩;simp only at hk hdv ⊢;have hdb:=hdk k;rw[←hdv]at hdb;have hdb2:=dp_le hI ((Bk D2).getD k []);have hdb3:=dp_big hx ((Bk D2).getD k []);refine .seq ?_;skip;refine G5 ?_;refine .condP J (fun hc1=>?_) (fun hc1=>?_)
  ·
   have hk3:k<(Bk D2).length:=by omega
   obtain⟨b28,o28,hp28,see28⟩:∃b o,p28=some ⟨b,o,none⟩∧∀w,Lies out28 w→∀k,k<(Bk D2).length→Sees w b (o+k*32) (Aa ((Bk D2).getD k [])):=par_open hac28 oM hprow2;have h32q:((Bk D2).getD k []).length=32:=hprow2 _ (getD_mem2 hk3);refine G6 ?_;refine .idxSlP 32 J J J hp28 J Y32.h Sz31 k J oM (.loadSN (n:=32) (Aa ((Bk D2).getD k [])) J J J Y31.h J Sz31 (by rw[Aa,La0];exact h32q) (fun w h=>see28 w (Lies.of h (by repeat(exact Cy))) k hk3) ?_);refine .alloc (cs:=(Aa (List.replicate 32 0))) J Cf J ?_;intro n12 hn12 hf12;refine .sA J J J J zE Sz31 (by(rw[Aa,La0];assumption)) Z0 sP zU ?_;refine G4 ?_;refine .loadE J J J underlying181 J (by(simp;omega)) (hcc) ?_;refine .lA J J J Y31.h J Sz31 Z0 (by(rw[Aa,La0];assumption)) ?_;refine .callCV J J J J J Body185 (depth_known ((Bk D2).getD k []) h32q a b c m fs (x.pl.dp ((Bk D2).getD k [])) (hpar _ (getD_mem2 hk3))) (fun w h=>⟨h.keeps.cell (by simpa using ham) hca,Bu h mR⟩) ?_;refine G1 ?_;refine .max2 J J J J (rfl) (G9 ?_);refine⟨(k+1,_),⟨by simp only;omega,?_⟩,by simp only;omega,Al wN (Ad sG (Ad sG (Ab rM (Ab rM Af))))⟩;simp only;rw[step_take hk3,←hdv];rfl
  obtain rfl:k=n28:=by omega
  obtain rfl:dv=x.pl.dp n:=by rw[hdv,hdp,La4 oM]
  refine G7 ?_;refine .loadE J J J underlying58 J (by(simp;omega)) (hca) ?_;refine .lA J J J Y31.h J Sz31 mR (by(simp[h32];done)) ?_;refine G1 ?_;refine .mapPut (v:=x.pl.dp n) MI J J J J J h32 rM ?_;refine G8 ?_;refine G2 ?_;refine Ax (out:=(A2 m (An 32 evI) (Bd fs n (x.pl.dp n))::[])) (Ai J J) (Ab rM Af) ?_;exact⟨rfl,rfl⟩
 exfalso;rw[hno]at hg;cases hg
theorem nodup_inj{α β:Type}{f:α→β}{l:List α}(h:(l.map f).Nodup)(a:α)(ha:a∈l)(b:α)(hb:b∈l)(e:f a=f b):a=b:=by
  obtain⟨i,hi,rfl⟩:=Lcq ha;obtain⟨j,hj,rfl⟩:=Lcq hb;have h2:=Le9.1 h;rcases Lgf i j with h3|h3|h3
  ·exact absurd (by rw[Lfe,Lfe];exact e) (h2 i j (by simpa using hi) (by simpa using hj) h3)
  ·subst h3;rfl
  ·exact absurd (by rw[Lfe,Lfe];exact e.symm) (h2 j i (by simpa using hj) (by simpa using hi) h3)
theorem names_apart{A B:Blk}(h:HRep C hp w)(hA:A∈hp)(hB:B∈hp)(hc:¬A.cs.length=B.cs.length):A.n≠B.n:=fun e=>hc (by rw[nodup_inj h.nodup A hA B hB e])
theorem own_apart{hp L:List Blk}(h:HRep C hp w)(hB:B∈hp)(hL:Lies L C.W0)(hl:C.lent=[]:=by rfl):∀b∈L,b.n≠B.n:=fun b hb e=>by
  have h1:=(hL b hb).lt;rcases h.own B hB with h2|h2
  ·omega
  ·rw[hl]at h2;cases h2
def DepV(X:PD)(p a b c m:Nat)(fs:List (List UInt8×Int))(ks:List (List UInt8))(v:Value)(bl:List Blk):Prop:=
  v= .func (.func 185) #[] #[ptr a 0,ptr b 0,ptr c 0]∧bl=[A2 m (An 32 evI) fs,⟨c,[.func (.func 185) #[] #[ptr a 0,ptr b 0,ptr c 0]],181,1⟩,⟨a,[.map (some m)],58,1⟩,⟨b,[ptr p 0],25,1⟩]∧DMap X fs ks
def DepR(X:PD)(p:Nat)(ls:List (List UInt8))(v:Value)(out:List Blk):Prop:=∃a b c m fs ks,DepV X p a b c m fs ks v out∧∀n∈ls,n∈X.names→n∈ks
theorem mput_in{κ ν:Type}[DecidableEq κ]{fs:List (κ×ν)}{q:κ×ν}{a:κ}{v:ν}(hq:q∈fs):q.1∈(Bd fs a v).map (·.1):=by
  unfold Bd;cases h:midx fs a with
  |none=>exact La7.2 ⟨q,Lar _ hq,rfl⟩
  | some j=>
    simp only;obtain⟨i,hi,e⟩:=Lcq hq;unfold midx at h;rw[Lbt]at h;obtain⟨hl,he,_⟩:=h;by_cases hij:j=i
    · subst hij
      rw[e]at he;exact La7.2 ⟨(a,v),List.mem_set hl _,by rw[←of_decide_eq_true he]⟩
    · refine La7.2 ⟨q,?_,rfl⟩
      rw[←e];exact List.mem_iff_getElem.2 ⟨i,by rw[Lbj];exact hi,List.getElem_set_ne hij _⟩
theorem setP_keys(ls:List (List UInt8)):((setP ls).map (·.1)).Nodup∧∀n∈ls,n∈(setP ls).map (·.1):=by
  have key:∀(l:List (List UInt8)) (fs:List (List UInt8×Unit)),(fs.map (·.1)).Nodup→((l.foldl (fun fs n=>Bd fs n ()) fs).map (·.1)).Nodup∧∀n,(n∈l∨n∈fs.map (·.1))→n∈(l.foldl (fun fs n=>Bd fs n ()) fs).map (·.1):=by
    intro l
    induction l with
    |nil=>intro fs h;exact⟨h,fun n hn=>by rcases hn with h1|h1;cases h1;exact h1⟩
    | cons a l ih=>
      intro fs h;obtain⟨h1,h2⟩:=ih (Bd fs a ()) (mput_nodup h a ());refine⟨h1,fun n hn=>h2 n ?_⟩;by_cases e:n=a
      · right
        rw[e];cases hm:Ap fs a with
        |none=>exact La7.2 ⟨(a,()),Bm (mget_new hm ()),rfl⟩
        |some u=>exact mput_in (q:=(a,u)) (Bm hm)
      · rcases hn with hn|hn
        · rcases Laf.1 hn with hn|hn
          ·exact absurd hn e
          ·exact .inl hn
        · obtain⟨q,hq,rfl⟩:=La7.1 hn
          exact .inr (mput_in hq)
  obtain⟨h1,h2⟩:=key ls [] Lcs;exact⟨h1,fun n hn=>h2 n (.inl hn)⟩
theorem take_succ_getD(hk:k<L.length):L.take (k+1)=L.take k++[L.getD k []]:=by
  rw[Lam hk,La2,La6 hk];rfl
theorem not_before(h:L.Nodup)(hk:k<L.length):L.getD k []∉L.take k:=by
  have h2:(L.take (k+1)).Nodup:=h.sublist (List.take_sublist _ _);rw[take_succ_getD hk,Lb5]at h2;exact fun hm=>h2.2.2 _ hm _ La8 rfl
theorem lin_depths(x:DD)(hx:x.ok)(hI:x.pl.Inv)(hO:x.pl.Ord)(p:Nat)(s:Sl)(ls:List (List UInt8)):Meets prog 151 [ptr p 0,s.v] [] (fun W=>Lies (x.blks p) W∧RowsAt W s 32 ls) (DepR x.pl p ls):=by
  intro W hW;have h32k:True:=trivial;have hbig:=hx.big;have hnln:x.pl.names.length=x.names.length:=rfl;have hnd:x.pl.names.Nodup:=by rw[hI.nn];exact hI.nd
  refine Ac func151 J 31 ntmps151 J (.sr (.box1 J J J ?_));intro n2 hn2 hf2;refine .a J J J (.nsr (.mkMap (An 32 evI) J J ?_));intro m10;refine .alloc (cs:=[.map none]) J Zr58 J ?_;intro n5 hn5 hf5;refine .s1 J J J J J Sz58 Z0 sP (by rfl) zU ?_;refine .nsr (.alloc (cs:=[.nilFunc]) J Zr181 J ?_);intro n6 hn6 hf6;refine .nsr (.makeFunc J J J J (.s1 J J J J J Sz181 Z0 sP (by rfl) zU ?_));refine .nsr (.m J J J (.call4 J J J J J Body149 (lin_set s ls) (fun w h=>Cm h J hW.2) ?_));rintro v13 out13 ⟨m13,rfl,rfl⟩;refine .a J J J (.na (.seq (.sr (.load1 J J J Y25.h J Z4 (by rfl) ?_))));refine .call4 J J J J J Body16 (dag_names x hx p) (fun w h=>Bg hW.1 h) ?_;rintro v15 out15 ⟨s15,rfl,hac15⟩;have hn15:=hac15.num;refine .lenSl J J J Y32.h (.m J J J (.na (.block (.loop (ι:=Nat×List (List UInt8×Int)×List (List UInt8×Unit)) (fun r=>⟨[(2,ptr n2 0),(4, .nilFunc),(5,ptr n5 0),(6,ptr n6 0),(7, .map (some m13)),(15,s15.v),(16,i64 (s15.n:Int)),(17,i64 (r.1:Int))],(A2 m10 (An 32 evI) r.2.1::(A2 m13 (An 32 evU) r.2.2::(out15++(⟨n6,[.func (.func 185) #[] #[ptr n5 0,ptr n2 0,ptr n6 0]],181,1⟩::(⟨n5,[.map (some m10)],58,1⟩::(⟨n2,[ptr p 0],25,1⟩::[]))))))⟩) (fun r=>r.1≤s15.n∧DMap x.pl r.2.1 (x.pl.names.take r.1)∧(r.2.2.map (·.1)).Nodup∧∀n∈ls,n∈x.pl.names.take r.1∨n∈r.2.2.map (·.1)) (fun r=>s15.n-r.1) ((0,[],setP ls)) ?_ ?_ ?_))))
  ·exact⟨Lan _,DMap.none _,(setP_keys ls).1,fun n hn=> .inr ((setP_keys ls).2 n hn)⟩
  ·exact Al wN (Ab rM (Ab (by repeat(first|exact A8|apply Ci)) (Ad sG (Ab rM (Ab rM (Ab rM Af))))))
  rintro⟨k,fs,rs⟩ ⟨hk,hfs,hrn,hrs⟩;simp only at hk hfs hrn hrs ⊢;refine .sr (.lss J J J J J (.na (.seq (.condP J (fun hc0=>?_) (fun hc0=>?_)))))
  ·
    have hk3:k<x.pl.names.length:=by omega
    obtain⟨b15,o15,hp15,see15⟩:=par_open hac15 oM hx.n32;have h32k:(x.pl.names.getD k []).length=32:=hx.n32 _ (getD_mem2 hk3);obtain⟨D,hD,hbef,hdp⟩:=hO.before hI (k:=k) (n:=(x.pl.names.getD k [])) (by rw[La2,La6 hk3];rfl);have hno:Ap fs (x.pl.names.getD k [])=none:=by
      cases h9:Ap fs (x.pl.names.getD k [])with
      |none=>rfl
      |some v9=>exact absurd (hfs.only _ _ h9) (not_before hnd hk3)
    have hpar:∀q∈Bk D,Ap fs q=some (x.pl.dp q):=fun q hq=>hfs.all q (hbef q hq);refine .skip (Bi (.seq (.block (.sr (.idxSlP 32 J J J hp15 J Y32.h Sz31 k J oM (.loadSN (n:=32) (Aa (x.pl.names.getD k [])) J J J Y31.h J Sz31 (by rw[Aa,La0];exact h32k) (fun w h=>see15 w (Lies.of h (by repeat(first|exact Cy|refine in_there ?_))) k hk3) ?_))))));refine .alloc (cs:=(Aa (List.replicate 32 0))) J Cf J ?_;intro n9 hn9 hf9;refine .sA J J J J zE Sz31 (by(rw[Aa,La0];assumption)) Z0 sP zU ?_;refine .na (.seq (.sr (.m J J J (.lenMap underlying178 J J J Z2 ?_))));refine .eqi J J J J J (.na (.condP J (fun hc1=>?_) (fun hc1=>?_)))
    ·
      have hfin:∀n∈ls,n∈x.pl.names→n∈x.pl.names.take k:=fun n hn _=>by
        rcases hrs n hn with h9|h9
        ·exact h9
        · have hz:rs=[]:=Laj oM
          rw[hz]at h9;cases h9
      refine .exit (at_x (bl_x J (at_x (at_x (bl_h (Bi (.sr (.load1 J J J underlying181 J mR (by rfl) ?_))))))));refine .a J J J (.na ?_);refine .ret (en_r (Ax (out:=(A2 m10 (An 32 evI) fs::(⟨n6,[.func (.func 185) #[] #[ptr n5 0,ptr n2 0,ptr n6 0]],181,1⟩::(⟨n5,[.map (some m10)],58,1⟩::(⟨n2,[ptr p 0],25,1⟩::[]))))) (Ai J J) (Ab rM (Ab rM (Ab rM (Ab rM Af)))) ?_));exact⟨n5,n2,n6,m10,fs,_,⟨rfl,rfl,hfs⟩,hfin⟩
    refine .skip (Bi (.sr (.load1 J J J underlying181 J mR (by rfl) ?_)));refine .lA J J J Y31.h J Sz31 Z0 (by(rw[Aa,La0];assumption)) ?_;refine .callCL (L:=[A2 m10 (An 32 evI) fs]) J J J J J J Body185 (depth_next x hx hI p (x.pl.names.getD k []) h32k D hD n5 n2 n6 m10 fs hno hpar hdp) (show List.Perm _ (A2 m10 (An 32 evI) fs::_)from rM) (Cw J) (fun w h=>⟨Lent.of h (by repeat(first|exact sg_end|apply Ct)),Bg hW.1 h,own_apart (B:=A2 m10 (An 32 evI) fs) h Z1 hW.1,⟨(Bu (B:=⟨n5,[.map (some m10)],58,1⟩) h mR).cell (o:=0) J,names_apart (A:=⟨n5,[.map (some m10)],58,1⟩) (B:=A2 m10 (An 32 evI) fs) h mR Z1 (by show ¬(1:Nat)=0;decide)⟩,⟨(Bu (B:=⟨n2,[ptr p 0],25,1⟩) h mR).cell (o:=0) J,names_apart (A:=⟨n2,[ptr p 0],25,1⟩) (B:=A2 m10 (An 32 evI) fs) h mR Z1 (by show ¬(1:Nat)=0;decide)⟩,(Bu (B:=⟨n6,[.func (.func 185) #[] #[ptr n5 0,ptr n2 0,ptr n6 0]],181,1⟩) h mR).cell (o:=0) J,names_apart (A:=⟨n6,[.func (.func 185) #[] #[ptr n5 0,ptr n2 0,ptr n6 0]],181,1⟩) (B:=A2 m10 (An 32 evI) fs) h mR Z1 (by show ¬(1:Nat)=0;decide)⟩) ?_;rintro v26 out26 ⟨rfl,rfl⟩;refine .na (.region (.m J J J (.lA J J J Y31.h J Sz31 Z1 (by(rw[Aa,La0];assumption)) ?_)));refine .mapDel MN J J J J h32k rM ?_;refine .nil (bl_n (Bi (.region (.aI J J J J oM (.m J J J (.na ?_))))));refine⟨(k+1,Bd fs (x.pl.names.getD k []) (x.pl.dp (x.pl.names.getD k [])),mdel rs (x.pl.names.getD k [])),⟨by simp only;omega,?_,mdel_nodup hrn _,fun n hn=>?_⟩,by simp only;omega,Al wN (Ab rM (Ab rM (Ad sG (Ab rM (Ab rM (Ab rM Af))))))⟩
    ·simp only;rw[take_succ_getD hk3];exact hfs.put (not_before hnd hk3)
    · simp only
      by_cases e:n=(x.pl.names.getD k [])
      ·left;rw[take_succ_getD hk3,e];exact Lb1 _ La8
      · rcases hrs n hn with h9|h9
        ·left;rw[take_succ_getD hk3];exact Lar _ h9
        ·right;exact(mdel_keys hrn _ _).2 ⟨h9,e⟩
  have hfin:∀n∈ls,n∈x.pl.names→n∈x.pl.names.take k:=fun n _ hn=>by rw[La4 oM];exact hn
  refine .exit (at_x (at_x (bl_h (Bi (.sr (.load1 J J J underlying181 J mR (by rfl) ?_))))));refine .a J J J (.na ?_);refine .ret (en_r (Ax (out:=(A2 m10 (An 32 evI) fs::(⟨n6,[.func (.func 185) #[] #[ptr n5 0,ptr n2 0,ptr n6 0]],181,1⟩::(⟨n5,[.map (some m10)],58,1⟩::(⟨n2,[ptr p 0],25,1⟩::[]))))) (Ai J J) (Ab rM (Ab rM (Ab rM (Ab rM Af)))) ?_));exact⟨n5,n2,n6,m10,fs,_,⟨rfl,rfl,hfs⟩,hfin⟩
open Go.RowKit Go.Shelf Go.Lib Go.Sort
set_option maxHeartbeats 2000000
variable{W w:World}{α:Type}
theorem ret_grow{W W':World}{out:List Blk}(h:Ret [] out W W'):∃q os',W'=grow (W.drewN q) os':=by
  have k:=h.keeps;refine⟨W'.drawn-W.drawn,W'.heap.extract W.heap.size W'.heap.size,?_⟩;have hd:W.drawn+(W'.drawn-W.drawn)=W'.drawn:=by have:=k.drawn;omega
  have hh:W.heap++W'.heap.extract W.heap.size W'.heap.size=W'.heap:=by
    refine Le7 fun i=>?_;rcases Lay i W.heap.size with h1|h1
    ·rw[Lda h1];exact(k.block i h1 sP).symm
    · rw[Array.getElem?_append_right h1,Array.getElem?_extract]
      have:=k.size;split
      ·rw[show W.heap.size+(i-W.heap.size)=i by omega]
      ·rw[Lcd oM]
  obtain⟨hp,tp,dr,os,ot⟩:=W';obtain⟨hp0,tp0,dr0,os0,ot0⟩:=W;have e1:=k.os;have e2:=k.tape;have e3:=k.output;simp only at e1 e2 e3 hd hh;subst e1;subst e2;subst e3;simp only[grow,World.drewN,hd,hh]
theorem sort_keep[Inhabited α]{enc:α→List Value}{k q m:Nat}{dk:Array α}{os:Array Obj}{i:Nat}(hi:i<W.heap.size)(hne:i≠q):(sortWorldK enc k W q 0 m dk os).heap[i]? =W.heap[i]? :=by
  simp only[sortWorldK,grow,putRowK,putRow,mapBlock];rw[Lda (by simpa using hi),Ldm,if_neg (fun e:q=i=>hne e.symm)];rfl
theorem flatK_any[Inhabited α](g:α→List UInt8)(hg:∀x,(g x).length=32)(d:Array α):∀(j:Nat) (v:Value),(As (d.toList.map g))[j]? =some v→j<d.size*32∧(flatK (fun x=>Aa (g x)) 32 d)[j]! =v:=fun j v hj=>by
  have h32:∀l∈d.toList.map g,l.length=32:=fun l hl=>by obtain⟨x,_,rfl⟩:=La7.1 hl;exact hg x
  have hlen:=A0 h32;have hlt:=(Laa.1 hj).1;rw[hlen]at hlt;have hlt2:j<d.size*32:=by simpa using hlt
  refine⟨hlt2,?_⟩;rw[get_flatK _ _ _ _ hlt2];have hi:j/32<d.size:=by omega
  have hc:((d.toList.map g).map Aa)[j/32]? =some (Aa (g d[j/32]!)):=by
    rw[Lap,Lap];have:d.toList[j/32]? =some d[j/32]! :=by simp[hi]
    rw[this];rfl
  have hm:j%32<(Aa (g d[j/32]!)).length:=by rw[Aa,La0,hg];omega
  have:=flat_get (m:=32) (fun l hl=>flatB_all h32 l hl) hc hm;have e:j/32*32+j%32=j:=by omega
  rw[e]at this;have hj2:((d.toList.map g).map Aa).flatten[j]? =some v:=hj;rw[hj2]at this;rw[Lg2,←this];rfl
theorem sort_by(q n c m:Nat)(ks:List (List UInt8))(h32:∀l∈ks,l.length=32)(hl:ks.length=n)(h0:0<n)(hbig:n≤1000000)(hm:n*32≤m)(f:Nat)(caps:List Value)(cf:List UInt8→List UInt8→Int)(swo:SWO (ltOf fun x y: {l:List UInt8//l∈ks}=>cf x.1 y.1))(bl:List Blk)
    (eg:∀args w,(callFunc f args).run prog w= .ok (.enter f args) w) (hcm:∀x∈ks,∀y∈ks,Meets prog f ([agg (Aa x),agg (Aa y)]++caps) [] (Lies bl) (fun v out=>v=i64 (cf x y)∧out=[])):
    Meets prog 54 [.slice (some ⟨q,0,none⟩) n c, .func (.func f) #[] caps.toArray] [q] (fun W=>BlkOk W ⟨q,As ks,31,m⟩∧Lies bl W∧∀b∈bl,b.n≠q)
    (fun v out=>v= .tuple #[]∧∃ks':List (List UInt8),ks'.Perm ks∧ks'.Pairwise (fun a b=>¬cf b a<0)∧out=[⟨q,As ks',31,m⟩]):=fun W ⟨hb,hbl,hbq⟩=>by
  haveI:Inhabited {l:List UInt8//l∈ks}:=⟨⟨ks[0]'oM,Lca _⟩⟩
  obtain⟨d,hd⟩:∃d:Array {l:List UInt8//l∈ks},d=ks.attach.toArray:=⟨_,rfl⟩;have hdl:d.toList.map (·.1)=ks:=by rw[hd];simp
  have hds:d.size=n:=by rw[hd,←hl];simp
  have hg:∀x: {l:List UInt8//l∈ks},x.1.length=32:=fun x=>h32 x.1 x.2;have hb0:∃full fr,BlkAt W ⟨q,As ks,31,m⟩ full fr:=hb;obtain⟨full,fr,hbk⟩:=hb0;have hfl:=A0 h32;have hH:HoldsK (fun x: {l:List UInt8//l∈ks}=>Aa x.1) 32 W q 0 d:=fun j hj=>by
    rw[size_flatK]at hj;have hj2:j<(As ks).length:=by rw[hfl,hl,←hds];exact hj
    have h1:=La6 hj2;have h2:=(flatK_any (fun x: {l:List UInt8//l∈ks}=>x.1) hg d j _ (by rw[hdl];exact h1)).2;rw[h2];exact⟨hb.cell (b:=⟨q,As ks,31,m⟩) (by rw[Lb4];exact h1),hbk.unfrozen (by show 0+j<m;omega)⟩
  have hcmp:CmpLays prog f caps.toArray (fun x: {l:List UInt8//l∈ks}=>Aa x.1) 32 (fun x y=>cf x.1 y.1) q 0 d.size W:=fun k os dk hk x y=>by
    have hl2:Lies bl (sortWorldK (fun x: {l:List UInt8//l∈ks}=>Aa x.1) 32 W q 0 k dk os):=fun b hb2=>(hbl b hb2).of_heap (sort_keep (hbl b hb2).lt (hbq b hb2));have h3:=hcm x.1 x.2 y.1 y.2 _ hl2;have e:([agg (Aa x.1),agg (Aa y.1)]++caps).toArray= #[.agg (Aa x.1).toArray, .agg (Aa y.1).toArray]++caps.toArray:=by simp[agg]
    rw[e]at h3;exact h3.mono fun e' W' ⟨v,out,he,⟨hv,_⟩,hr⟩=>⟨by rw[he,hv],ret_grow hr⟩
  have hz25:∀w,(Go.sizeOf (sortD_ren.t 24)).run prog w= .ok 32 w:=by
    intro w;have e:sortD_ren.t 24=31:=by rfl
    rw[e];exact Cb Sz31 w
  have hcon:=AnyQ.slices_SortFunc sortD 32 (fun w=>run_isAgg_arr Y31.h rfl w) (fun w=>hz25 w) (fun x: {l:List UInt8//l∈ks}=>Aa x.1) (fun x=>by rw[Aa,La0,hg x]) (fun x v hv=>by obtain⟨u,_,rfl⟩:=La7.1 hv;rfl) (fun x y=>cf x.1 y.1) swo f caps.toArray q 0 c d W eg hcmp hH hb.lt oM;have hcon2:Calls prog 54 #[.slice (some ⟨q,0,none⟩) d.size c, .func (.func f) #[] caps.toArray] W _:=hcon;rw[hds]at hcon2;refine hcon2.mono fun e W' ⟨he,d',k,os,hp,hs,hw⟩=>?_;subst hw;have hsz':d'.size=d.size:=hp.1;obtain⟨ks',hk'⟩:∃ks',ks'=d'.toList.map (·.1):=⟨_,rfl⟩;have h32':∀l∈ks',l.length=32:=fun l hl=>by rw[hk']at hl;obtain⟨x,_,rfl⟩:=La7.1 hl;exact hg x
  have hlen':ks'.length=n:=by rw[hk'];simp[hsz',hds]
  have hperm:ks'.Perm ks:=by
    have h4:(d'.toList.map (·.1)).Perm (d.toList.map (·.1)):=by
      refine List.Perm.map _ ?_;have h3:=hp.2.2;have e1:d.extract 0 d.size=d:=by simp
      have e2:d'.extract 0 d.size=d':=by rw[←hsz'];simp
      rw[←hds]at h3;rwa[e1,e2]at h3
    rw[hk'];rw[hdl]at h4;exact h4
  have hsort:ks'.Pairwise (fun a b=>¬cf b a<0):=by
    rw[hk'];refine Lgi.2 (Le9.2 fun i j hi hj hij=>?_);have h4:=hs i j (Lan _) hij (by rw[←hds,←hsz'];simpa using hj);have h5:decide (cf d'[j]!.1 d'[i]!.1<0)=false:=h4;rw[decide_eq_false_iff_not]at h5;have hi2:i<d'.size:=by simpa using hi
    have hj2:j<d'.size:=by simpa using hj
    rw[getElem!_pos d' j hj2,getElem!_pos d' i hi2]at h5;simpa using h5
  refine⟨_,_,he,⟨rfl,ks',hperm,hsort,rfl⟩,⟨⟨rfl,rfl,rfl,?_,Lgt W.drawn k,fun i hi hn=>?_⟩,fun b hb2=>?_,by simp,fun b hb2=>?_⟩⟩
  ·simp[sortWorldK,grow,putRowK]
  ·exact sort_keep hi (by simpa using hn)
  · rw[La1.1 hb2]
    have hq:W.heap[q]? =some (.cells full 31 fr):=hbk.heap;have hql:q<W.heap.size:=hb.lt;refine⟨putCells id 0 (flatK (fun x: {l:List UInt8//l∈ks}=>Aa x.1) 32 d') full,fr,?_,by simpa[putCells]using hbk.size,?_,hbk.free⟩
    · simp only[sortWorldK,grow,putRowK,putRow,mapBlock]
      rw[Lda (by simpa using hql),Ldm,if_pos rfl,show(Go.Sort.ahead W k).heap[q]? =some (Obj.cells full 31 fr)from hq];rfl
    · have hms:=hbk.size
      simp only at hms;rw[prefix_iff];intro j v hj;simp only at hj;have hf:=flatK_any (fun x: {l:List UInt8//l∈ks}=>x.1) hg d' j v (by rw[←hk'];exact hj);simp only[putCells,Ldl,Array.getElem?_mapIdx];have hjf:j<full.size:=by rw[hms];have:=hf.1;omega
      rw[Lcz hjf];simp only[Lbh,La5,Lan,true_and,Lb4,size_flatK,Lg0];rw[if_pos hf.1,hf.2];rfl
  ·rw[La1.1 hb2];exact .inr sP
theorem sort_none_f(p:Option Addr)(c:Nat)(f:Value):Mv 54 [.slice p 0 c,f] (fun _=>True) (.tuple #[]):=fun W _=>by
  have hcon:=AnyF.slices_SortFunc_none sortD p c f W;have hcon2:Calls prog 54 #[.slice p 0 c,f] W _:=hcon;refine hcon2.mono fun e W' h=>?_;obtain⟨he,hw⟩:=h;subst hw;exact⟨_,[],he,⟨rfl,rfl⟩,⟨Keeps.refl _ _,fun b hb=>(by cases hb),Lcs,fun b hb=>(by cases hb)⟩⟩
def or2(x y:Int):Int:=if x≠0 then x else y
theorem cmp_or2(q:Nat)(x y:Int):Mv 56 [.slice (some ⟨q,0,none⟩) 2 2] (fun W=>Sees W q 0 [i64 x,i64 y]) (i64 (or2 x y)):=by
  intro W hW;refine Ac func56 J 18 ntmps56 J (G19 ?_);refine .loop (ι:=Nat) (fun k=>⟨[(0, .slice (some ⟨q,0,none⟩) 2 2),(3,i64 0),(6, .slice (some ⟨q,0,none⟩) 2 2),(7,i64 2),(8,i64 (k:Int))],[]⟩) (fun k=>k≤2∧(0<k→x=0)∧(1<k→y=0)) (fun k=>2-k) (0) ?_ ?_ ?_
  ·exact⟨by decide,fun h=>by omega,fun h=>by omega⟩
  ·exact Ae wN wh0 nD
  rintro k ⟨hk,hx,hy⟩;refine G6 ?_;refine .condP J (fun hc0=>?_) (fun hc0=>?_)
  ·
    have hk2:k<2:=by omega
    obtain⟨z,hz⟩:∃z,[x,y][k]? =some z:=⟨_,La6 (by simpa using hk2)⟩;have hzz:z=[x,y].getD k 0:=by rw[La2,hz];rfl
    have hzc:[i64 x,i64 y][k]? =some (i64 z):=by rcases(show k=0∨k=1 by omega)with rfl|rfl<;>(simp at hz;simp[hz])
    refine G6 ?_;refine .idxSlP 1 J J J J J Y50.h Sz3 k J oM (.loadE J J J Y3.h J sP ((by have:=hW k _ hzc;simpa using this)) ?_);refine G10 ?_;refine .condNP J (fun hc1=>?_) (fun hc1=>?_)
    ·
      refine G6 ?_;refine G7 ?_;refine⟨_,[],Ai J J,sP,sP,?_,rfl⟩;first
        | (rcases(show k=0∨k=1 by omega)with rfl|rfl
           · obtain rfl:z=x:=by rw[hzz];rfl
             rw[or2,if_pos oM]
           · obtain rfl:z=y:=by rw[hzz];rfl
             rw[or2,if_neg (by have:=hx oM;omega)])
        |rw[or2,hx oM,hy oM];rfl
    refine G8 ?_;refine⟨k+1,⟨by omega,fun _=>?_,fun _=>?_⟩,by omega,Ae wN wh0 nD⟩
    · rcases(show k=0∨k=1 by omega)with rfl|rfl
      ·rw[hzz]at hc1;simpa using hc1
      ·exact hx oM
    · obtain rfl:k=1:=by omega
      rw[hzz]at hc1;simpa using hc1
  have hke:k=2:=by omega
  refine G11 ?_;refine G2 ?_;refine⟨_,[],Ai J J,sP,sP,?_,rfl⟩;first
    | (rcases(show k=0∨k=1 by omega)with rfl|rfl
       · obtain rfl:z=x:=by rw[hzz];rfl
         rw[or2,if_pos oM]
       · obtain rfl:z=y:=by rw[hzz];rfl
         rw[or2,if_neg (by have:=hx oM;omega)])
    |rw[or2,hx oM,hy oM];rfl
def cmpD(X:PD)(a b:List UInt8):Int:=or2 (cmpI (X.dp a) (X.dp b)) (cmpB a b)
def LeD(X:PD)(a b:List UInt8):Prop:=X.dp a<X.dp b∨X.dp a=X.dp b∧cmpB a b≤0
theorem cmpD_neg(X:PD)(a b:List UInt8):cmpD X a b<0↔X.dp a<X.dp b∨X.dp a=X.dp b∧cmpB a b<0:=by
  unfold cmpD or2 cmpI;split<;>(repeat split)<;>omega
theorem cmpD_le(X:PD)(a b:List UInt8):¬cmpD X b a<0↔LeD X a b:=by
  have:=cmpB_neg a b;rw[cmpD_neg];unfold LeD;omega
theorem swoD(X:PD)(ks:List (List UInt8)):SWO (ltOf fun x y: {l:List UInt8//l∈ks}=>cmpD X x.1 y.1):=by
  have e:∀x y: {l:List UInt8//l∈ks},ltOf (fun x y: {l:List UInt8//l∈ks}=>cmpD X x.1 y.1) x y=decide (cmpD X x.1 y.1<0):=fun _ _=>rfl;constructor
  · intro x
    rw[e,decide_eq_false_iff_not,cmpD_neg,cmpB_self];omega
  · intro x y z h1 h2
    rw[e,decide_eq_true_eq,cmpD_neg]at*;have:=cmpB_trans x.1 y.1 z.1;omega
  · intro x y z h1 h2
    rw[e,decide_eq_false_iff_not,cmpD_le]at*;have:=cmpB_trans z.1 y.1 x.1;unfold LeD at*;omega
def SortD(X:PD)(ks:List (List UInt8)):Prop:=ks.Pairwise (LeD X)
theorem sortD_unique{X:PD}{a b:List (List UInt8)}(hp:a.Perm b)(ha:SortD X a)(hb:SortD X b):a=b:=
  hp.eq_of_pairwise (fun x y _ _ h1 h2=>by
    have h3:=cmpB_neg x y;unfold LeD at h1 h2;exact(cmpB_zero x y).1 oM) ha hb
theorem Lies.app{a b:List Blk}(h1:Lies a w)(h2:Lies b w):Lies (a++b) w:=fun x hx=>by
  rcases Lad.1 hx with h|h
  ·exact h1 x h
  ·exact h2 x h
theorem sort_acc_by(s:Sl)(bl:List Blk)(ks:List (List UInt8))(h32:∀l∈ks,l.length=32)(hbig:ks.length≤1000000)(hac:Hw.Acc s bl (As ks) 31 ks.length 32)(f:Nat)(caps:List Value)(cf:List UInt8→List UInt8→Int)(swo:SWO (ltOf fun x y: {l:List UInt8//l∈ks}=>cf x.1 y.1))(bl2:List Blk)
    (eg:∀args w,(callFunc f args).run prog w= .ok (.enter f args) w) (hcm:∀x∈ks,∀y∈ks,Meets prog f ([agg (Aa x),agg (Aa y)]++caps) [] (Lies bl2) (fun v out=>v=i64 (cf x y)∧out=[])):
    Meets prog 54 [s.v, .func (.func f) #[] caps.toArray] (bl.map (·.n)) (fun W=>Lies bl W∧Lies bl2 W∧∀b∈bl2,∀b'∈bl,b.n≠b'.n)
    (fun v out=>v= .tuple #[]∧∃ks':List (List UInt8),ks'.Perm ks∧ks'.Pairwise (fun a b=>¬cf b a<0)∧Hw.Acc s out (As ks') 31 ks.length 32):=fun W ⟨h1,h2,h3⟩=>by
  rcases hac with ⟨rfl,rfl,hz,hn⟩|⟨q,c,rfl,hnc,hfl,rfl⟩
  · obtain rfl:=Laj hn
    exact(sort_none_f none 0 _ W trivial).mono fun e W' ⟨v,out,he,⟨hv,ho⟩,hr⟩=>⟨v,out,he,⟨hv,[],Lcy _,List.Pairwise.nil, .inl ⟨rfl,ho,rfl,rfl⟩⟩,hr⟩
  · have hb:BlkOk W ⟨q,As ks,31,c*32⟩:=h1 _ (La1.2 rfl)
    by_cases h0:ks.length=0
    · obtain rfl:=Laj h0
      refine(sort_none_f (some ⟨q,0,none⟩) c _ W trivial).mono fun e W' ⟨v,out,he,⟨hv,ho⟩,hr⟩=>⟨v,[⟨q,As [],31,c*32⟩],he,⟨hv,[],Lcy _,List.Pairwise.nil, .inr ⟨q,c,rfl,hnc,hfl,rfl⟩⟩,⟨hr.keeps.mono sP,fun b hb2=>?_,by simp,fun b hb2=>?_⟩⟩
      · rw[La1.1 hb2]
        exact hb.of_heap (hr.keeps.block q hb.lt sP)
      ·rw[La1.1 hb2];exact .inr sP
    · refine(sort_by q ks.length c (c*32) ks h32 rfl oM hbig (Leb 32 hnc) f caps cf swo bl2 eg hcm W ⟨hb,h2,fun b hb2=>h3 b hb2 _ (La1.2 rfl)⟩).mono fun e W' ⟨v,out,he,⟨hv,ks',hp,hs,ho⟩,hr⟩=>⟨v,out,he,⟨hv,ks',hp,hs,?_⟩,hr⟩
      have h32':∀l∈ks',l.length=32:=fun l hl=>h32 l (hp.mem_iff.1 hl);exact .inr ⟨q,c,rfl,hnc,by rw[A0 h32',hp.length_eq],ho⟩
theorem order_cmp(x:PD)(a b:List UInt8)(ha:a.length=32)(hb:b.length=32)(qf na nb nc m:Nat)(fs:List (List UInt8×Int))(hda:Ap fs a=some (x.dp a))(hdb:Ap fs b=some (x.dp b)):Mv 183 [agg (Aa a),agg (Aa b),ptr qf 0] (fun W=>W.cell? ⟨qf,0,none⟩=some (.func (.func 185) #[] #[ptr na 0,ptr nb 0,ptr nc 0])∧W.cell? ⟨na,0,none⟩=some (.map (some m))∧BlkOk W (A2 m (An 32 evI) fs)) (i64 (cmpD x a b)):=by
 intro W hW;refine Ac func183 J 18 ntmps183 J (G3 ?_);intro n3 hn3 hf3;refine G1 ?_;intro n4 hn4 hf4;refine G4 ?_;refine .draw (oPq [100,101,103,104,107,108,302,305,306,309,210,311,12]) Av zK (.loadE J J J underlying181 J sP (hW.1) (.lA J J J Y31.h J Sz31 Z1 (by(simp[ha];done)) ?_));refine .loadE J J J underlying181 J sP (hW.1) (.lA J J J Y31.h J Sz31 Z0 (by(simp[hb];done)) ?_);refine .lA J J J Y31.h J Sz31 Z1 (by(simp[ha];done)) ?_;refine .lA J J J Y31.h J Sz31 Z0 (by(simp[hb];done)) ?_;refine .callCV J J J J J Body185 (depth_known a ha na nb nc m fs (x.dp a) hda) (fun w h=>⟨h.keeps.cell sP hW.2.1,mblk_keep hW.2.2 h⟩) (.callCV J J J J J Body185 (depth_known b hb na nb nc m fs (x.dp b) hdb) (fun w h=>⟨h.keeps.cell sP hW.2.1,mblk_keep hW.2.2 h⟩) (.cV J J J J Body184 (cmp_int (x.dp a) (x.dp b)) tV (.cV J J J J Body58 (block_cmp a b ha hb) tV (.mkRow2 (z:=i64 0) [i64 (cmpI (x.dp a) (x.dp b)),i64 (cmpB a b)] [i64 (cmpI (x.dp a) (x.dp b)),i64 (cmpB a b)] rfl J Y50.h Sz3 Zr3 J J (by intro v hv;simp only[Laf,Laz,or_false]at hv;rcases hv with rfl|rfl<;>simp[Value.cells]) dE (by simp[Value.cells]) ?_))));intro q16;refine .cV J J J J Body56 (cmp_or2 q16 (cmpI (x.dp a) (x.dp b)) (cmpB a b)) (fun w h=>Aq h Z0) ?_;refine G3 ?_;refine G2 ?_;refine Ax (out:=[]) (Ai J J) Af ?_;exact⟨rfl,rfl⟩
theorem order_pre{C:Cx}{hp bl keep L:List Blk}{B:Blk}(h:HRep C hp w)(hp1:hp.Perm (bl++keep))(hB:B∈hp)(hL:Lies L C.W0)(hd:∀b∈L,∀b2∈bl,b.n≠b2.n)(hl:C.lent=bl.map (·.n):=by rfl)(hBb:∀b2∈bl,B.n≠b2.n):Lies bl w∧Lies (B::L) w∧∀b∈B::L,∀b2∈bl,b.n≠b2.n:=by
  refine⟨fun b hb=>h.cells b (hp1.mem_iff.2 (Lar _ hb)),fun b hb=>?_,fun b hb=>?_⟩
  · rcases Laf.1 hb with rfl|hb
    ·exact h.cells _ hB
    · refine(hL b hb).of_heap (h.keeps.block b.n (hL b hb).lt fun hm=>?_)
      rw[hl]at hm;obtain⟨b2,h2,e⟩:=La7.1 hm;exact hd b hb b2 h2 e.symm
  · rcases Laf.1 hb with rfl|hb
    ·exact hBb
    ·exact hd b hb
theorem lin_order(x:PD)(s:Sl)(bl:List Blk)(ks:List (List UInt8))(h32:∀l∈ks,l.length=32)(hbig:ks.length≤1000000)(hac:Hw.Acc s bl (As ks) 31 ks.length 32)(na nb nc m:Nat)(fs:List (List UInt8×Int))(hfs:∀n∈ks,Ap fs n=some (x.dp n)):Meets prog 150 [s.v, .func (.func 185) #[] #[ptr na 0,ptr nb 0,ptr nc 0]] (bl.map (·.n)) (fun W=>Lent bl W∧Lies [⟨na,[.map (some m)],58,1⟩,A2 m (An 32 evI) fs] W∧∀b∈ [⟨na,[.map (some m)],58,1⟩,A2 m (An 32 evI) fs],∀b2∈bl,b.n≠b2.n) (fun v out=>v= .tuple #[]∧∃ks2:List (List UInt8),ks2.Perm ks∧SortD x ks2∧Hw.Acc s out (As ks2) 31 ks.length 32):=by
 intro W hW;have eg:∀args w,(callFunc 183 args).run prog w= .ok (.enter 183 args) w:=enters_of func183 zK rfl;refine calls_of (hp0:=bl) func150 J 7 ntmps150 J hW.1.rep (G2 ?_);refine .box1 J J J ?_;intro n3 hn3 hf3;refine G5 ?_;refine .callL (L:=bl) J J J J J Body54 (sort_acc_by s bl ks h32 hbig hac 183 [ptr n3 0] (cmpD x) (swoD x ks) (⟨n3,[.func (.func 185) #[] #[ptr na 0,ptr nb 0,ptr nc 0]],181,1⟩::[⟨na,[.map (some m)],58,1⟩,A2 m (An 32 evI) fs]) eg (fun a ha b hb=>(order_cmp x a b (h32 a ha) (h32 b hb) n3 na nb nc m fs (hfs a ha) (hfs b hb)).imp (fun w hl=>⟨(hl _ La8).cell (o:=0) J,(hl _ (Lac _ La8)).cell (o:=0) J,hl _ (Lac _ (Lac _ La8))⟩) fun v out h=>h)) (by repeat(first|exact sg_end|apply Ct)) (Cw J) (fun w h=>order_pre (B:=⟨n3,[.func (.func 185) #[] #[ptr na 0,ptr nb 0,ptr nc 0]],181,1⟩) h (by repeat(first|exact sg_end|apply Ct)) Z0 hW.2.1 hW.2.2 J (fun b2 h2 e=>hf3 b2 h2 e.symm)) ?_;rintro v6 out6 ⟨rfl,ks2,hp2,hs2,hac2⟩;refine G2 ?_;refine Ax (out:=(out6++[])) (res_none J) (Ad sG Af) ?_;exact⟨rfl,ks2,hp2,hs2.imp fun h=>(cmpD_le x _ _).1 h,by simpa using hac2⟩
end Go.Proofs.YtgjnomgkddbhcaaGreat
namespace Go.Proofs.YtgjnomgkddbhcaaGreat
open Go Hw _root_.Go.Proofs.Tryz
variable{W:World}
theorem seesP_left{p:Option Addr}{a b:List Value}(h:SeesP W p (a++b)):SeesP W p a:=fun j v hj=>h j v (by rw[Lb2 (Laa.1 hj).1];exact hj)
theorem rows_take{s:Sl}{ls:List (List UInt8)}{m:Nat}(h:SeesP W s.p (As ls))(hr:∀l∈ls,l.length=32):SeesP W s.p (As (ls.take m)):=by
  have e:As ls=As (ls.take m)++As (ls.drop m):=by rw[←Cl,Lcp]
  rw[e]at h;exact seesP_left h
theorem reach_nil{X:PD}{a:Int}{n:List UInt8}(h:X.Reach a [] n):False:=by
  induction h with
  |base h1 _ _=>cases h1
  |step _ _ _ _ _ ih=>exact ih
end Go.Proofs.YtgjnomgkddbhcaaGreat
namespace Go.Proofs.YtgjnomgkddbhcaaGreat
open Go Hw Ed
variable{j n:Nat}{k st w:List UInt64}{p:List UInt8}{α:Type}{l:List α}
theorem cons_of8(h:l.length=n+1):∃a t,l=a::t∧t.length=n:=by
  cases l with
  |nil=>cases h
  |cons a t=>exact⟨a,t,rfl,by simpa using h⟩
def forceA{α:Type}(s:Nat)(f:Nat→α):α:=Nat.casesOn (motive:=fun _=>α) s (f 0) (fun m=>f (m+1))
theorem forceA_eq(s:Nat)(f:Nat→α):forceA s f=f s:=by cases s<;>rfl
def aN(a b:Nat):Nat:=Nat.mod (Nat.add a b) 18446744073709551616
def shN(x s:Nat):Nat:=Nat.mod (Nat.mul x (Nat.pow 2 s)) 18446744073709551616
def rolN(x s:Nat):Nat:=Nat.lor (shN x s) (Nat.div x (Nat.pow 2 (Nat.sub 64 s)))
def o8N(x:Nat)(b:UInt8):Nat:=Nat.lor (shN x 8) b.toNat
def sg0N(x:Nat):Nat:=Nat.xor (Nat.xor (rolN x 63) (rolN x 56)) (Nat.div x (Nat.pow 2 7))
def sg1N(x:Nat):Nat:=Nat.xor (Nat.xor (rolN x 45) (rolN x 3)) (Nat.div x (Nat.pow 2 6))
def t1N(e f g h k w:Nat):Nat:=aN (aN (aN (aN h (Nat.xor (Nat.xor (rolN e 50) (rolN e 46)) (rolN e 23))) (Nat.xor (Nat.land e f) (Nat.land (Nat.xor 18446744073709551615 e) g))) k) w
def t2N(a b c:Nat):Nat:=aN (Nat.xor (Nat.xor (rolN a 36) (rolN a 30)) (rolN a 25)) (Nat.xor (Nat.xor (Nat.land a b) (Nat.land a c)) (Nat.land b c))
def wgo:List UInt8→List Nat→List Nat
  |a::b::c::d::e::f::g::h::t,r=>forceA (o8N (o8N (o8N (o8N (o8N (o8N (o8N (o8N 0 a) b) c) d) e) f) g) h) fun v=>wgo t (v::r)
  |_,r=>r
def nxN(r:List Nat):Nat:=aN (aN (aN (r.getD 15 0) (sg0N (r.getD 14 0))) (r.getD 6 0)) (sg1N (r.getD 1 0))
def sgo:Nat→List Nat→List Nat
  |0,r=>r
  |n+1,r=>forceA (nxN r) fun v=>sgo n (v::r)
def rgo:List Nat→List Nat→Nat→Nat→Nat→Nat→Nat→Nat→Nat→Nat→List Nat
  |k::ks,w::ws,a,b,c,d,e,f,g,h=>forceA (t1N e f g h k w) fun t=>forceA (aN t (t2N a b c)) fun a2=>forceA (aN d t) fun e2=>rgo ks ws a2 a b c e2 e f g
  |_,_,a,b,c,d,e,f,g,h=>[a,b,c,d,e,f,g,h]
def adN:List Nat→List Nat→List Nat
  |x::xs,y::ys=>forceA (aN x y) fun z=>z::adN xs ys
  |_,_=>[]
def rgoL(ks ws:List Nat):List Nat→List Nat
  | [a,b,c,d,e,f,g,h]=>rgo ks ws a b c d e f g h
  |_=>[]
def pieceN(ks st:List Nat)(p:List UInt8):List Nat:=adN st (rgoL ks (sgo 64 (wgo p [])).reverse st)
def runN(ks st:List Nat)(bs:List UInt8):Nat→List Nat
  |0=>st
  |i+1=>pieceN ks (runN ks st bs i) ((bs.drop (128*i)).take 128)
def padT(n:Nat):List UInt8:=128::(List.replicate (padZ n) 0++(beUp 0 8++beUp (UInt64.ofNat (8*n)) 8))
def allN(ks st:List Nat)(l:List UInt8):List Nat:=forceA l.length fun n=>runN ks st (l++padT n) ((n+17+padZ n)/128)
theorem padT_eq(l:List UInt8):padB l=l++padT l.length:=by simp[padB,padT]
theorem sh_hom(x:UInt64)(s:Nat):(A3 x s).toNat=shN x.toNat s:=by rw[A3,Lbw];rfl
theorem sr_hom(x:UInt64)(s:Nat):(Aw x s).toNat=Nat.div x.toNat (Nat.pow 2 s):=by
  have h:x.toNat/2^s<18446744073709551616:=Ley (Lcw _ _) x.toNat_lt;rw[Aw,Lbw];exact Lag h
theorem add_hom(x y:UInt64):(x+y).toNat=aN x.toNat y.toNat:=Lbb x y
theorem or_hom(x y:UInt64):(x|||y).toNat=Nat.lor x.toNat y.toNat:=Lef x y
theorem xor_hom(x y:UInt64):(x^^^y).toNat=Nat.xor x.toNat y.toNat:=UInt64.toNat_xor x y
theorem and_hom(x y:UInt64):(x&&&y).toNat=Nat.land x.toNat y.toNat:=Lfd x y
theorem rol_hom(x:UInt64)(s:Nat):(rolW x s).toNat=rolN x.toNat s:=by rw[rolW,or_hom,sh_hom,sr_hom];rfl
theorem sg0_hom(x:UInt64):(sig0 x).toNat=sg0N x.toNat:=by simp only[sig0,xor_hom,rol_hom,sr_hom];rfl
theorem sg1_hom(x:UInt64):(sig1 x).toNat=sg1N x.toNat:=by simp only[sig1,xor_hom,rol_hom,sr_hom];rfl
theorem t1_hom(s:W8)(k w:UInt64):(rndT1 s k w).toNat=t1N s.e.toNat s.f.toNat s.g.toNat s.h.toNat k.toNat w.toNat:=by
  simp only[rndT1,add_hom,xor_hom,and_hom,rol_hom];rfl
theorem t2_hom(s:W8):(rndT2 s).toNat=t2N s.a.toNat s.b.toNat s.c.toNat:=by
  simp only[rndT2,add_hom,xor_hom,and_hom,rol_hom];rfl
theorem o8_hom(x:UInt64)(b:UInt8):(A3 x 8|||b.toUInt64).toNat=o8N x.toNat b:=by
  rw[or_hom,sh_hom,Ldt];rfl
def wU:List UInt8→List UInt64
  |a::b::c::d::e::f::g::h::t=>(A3 (A3 (A3 (A3 (A3 (A3 (A3 (A3 0 8|||a.toUInt64) 8|||b.toUInt64) 8|||c.toUInt64) 8|||d.toUInt64) 8|||e.toUInt64) 8|||f.toUInt64) 8|||g.toUInt64) 8|||h.toUInt64)::wU t
  |_=>[]
theorem wgo_eq:∀(n:Nat) (p:List UInt8) (r:List Nat),p.length=8*n→wgo p r=((wU p).map UInt64.toNat).reverse++r
  | 0,p,r,h=>by
    obtain rfl:=Laj h;rfl
  | n+1,p,r,h=>by
    have h:p.length=8*n+7+1:=h
    iterate 8 (obtain⟨a,l,e,h2⟩:=cons_of8 h;clear h;subst e;have h:=h2;clear h2)
    rw[wgo,forceA_eq,wgo_eq n _ _ h,wU,Lao,List.reverse_cons,La9];simp only[o8_hom];rfl
theorem schA_words(p:List UInt8)(h:p.length=128):schA p 128=wU p++List.replicate 64 0:=by
  iterate 128 (obtain⟨a,l,e,h2⟩:=cons_of8 h;clear h;subst e;have h:=h2;clear h2)
  obtain rfl:=Laj h;clear h;refine Eq.trans ?_ rfl;kernel_rfl
theorem wU_length:∀(n:Nat) (p:List UInt8),p.length=8*n→(wU p).length=n
  | 0,p,h=>by
    obtain rfl:=Laj h;rfl
  | n+1,p,h=>by
    have h:p.length=8*n+7+1:=h
    iterate 8 (obtain⟨a,l,e,h2⟩:=cons_of8 h;clear h;subst e;have h:=h2;clear h2)
    rw[wU,Lb3,wU_length n _ h]
def SJ(w:List UInt64)(j:Nat):List Nat:=(((schB w j).take (16+j)).map UInt64.toNat).reverse
theorem take_set(h:n<l.length)(v:α):(l.set n v).take (n+1)=l.take n++[v]:=by
  have hl:(l.take n).length=n:=by rw[Lai];omega
  rw[Le3,if_pos h,Lbk,hl,La4 oM,show n+1-n=1 by omega];rfl
theorem SJ_get(hw:w.length=80){j i:Nat}(hj:j≤64)(hi:i<16+j):(SJ w j).getD i 0=((schB w j).getD (15+j-i) 0).toNat:=by
  have hl:((schB w j).take (16+j)).length=16+j:=by rw[Lai,schB_length,hw];omega
  have h1:15+j-i<(schB w j).length:=by rw[schB_length,hw];omega
  rw[SJ,La2,List.getElem?_reverse (by rw[La0,hl];exact hi),La0,hl,Lap,Lei oM,show 16+j-1-i=15+j-i by omega,La2,La6 h1];rfl
theorem SJ_succ(hw:w.length=80)(hj:j<64):SJ w (j+1)=nxN (SJ w j)::SJ w j:=by
  have h1:SJ w (j+1)=((schB w j).getD j 0+sig0 ((schB w j).getD (j+1) 0)+(schB w j).getD (j+9) 0+sig1 ((schB w j).getD (j+14) 0)).toNat::SJ w j:=by
    rw[SJ,schB,show 16+(j+1)=(16+j)+1 by omega,take_set (by rw[schB_length,hw];omega),Lak,List.reverse_append];rfl
  rw[h1,nxN,SJ_get hw oM oM,SJ_get hw oM oM,SJ_get hw oM oM,SJ_get hw oM oM,show 15+j-15=j by omega,show 15+j-14=j+1 by omega,show 15+j-6=j+9 by omega,show 15+j-1=j+14 by omega];simp only[add_hom,sg0_hom,sg1_hom]
theorem sgo_run{w:List UInt64}(hw:w.length=80):∀n j,j+n≤64→sgo n (SJ w j)=SJ w (j+n)
  |0,j,_=>rfl
  | n+1,j,h=>by
    rw[sgo,forceA_eq,←SJ_succ hw oM,sgo_run hw n (j+1) oM,show j+1+n=j+(n+1) by omega]
theorem sch_N(h:p.length=128):(sgo 64 (wgo p [])).reverse=(schW p).map UInt64.toNat:=by
  have hw:(schA p 128).length=80:=schA_length p 128;have e:wgo p []=SJ (schA p 128) 0:=by
    rw[wgo_eq 16 p [] h,SJ,Lat,schB,schA_words p h,Lc9 (by rw[wU_length 16 p h];omega),La4 (by rw[wU_length 16 p h];omega)]
  rw[e,sgo_run hw 64 0 oM,SJ,List.reverse_reverse,schW,La4 (by rw[schB_length,hw];omega)]
def rndF(ks ws:List UInt64)(s:W8):W8:=(ks.zip ws).foldl (fun s p=>rnd1 s p.1 p.2) s
theorem rnds_F{k w:List UInt64}(s:W8)(hk:k.length=80)(hw:w.length=80):∀t,t≤80→rnds k w s t=rndF (k.take t) (w.take t) s
  |0,_=>by simp[rnds,rndF]
  | t +1,h=>by
    have e:rndF (k.take (t+1)) (w.take (t+1)) s=rnd1 (rndF (k.take t) (w.take t) s) (k[t]'oM) (w[t]'oM):=by
      rw[Lam oM,Lam oM,rndF,List.zip_append (by rw[Lai,Lai,hk,hw]),Ldd];rfl
    rw[rnds,rnds_F s hk hw t oM,e,La2,La2,La6 oM,La6 oM];rfl
theorem rgo_eq:∀(ks ws:List UInt64) (s:W8),rgo (ks.map UInt64.toNat) (ws.map UInt64.toNat) s.a.toNat s.b.toNat s.c.toNat s.d.toNat s.e.toNat s.f.toNat s.g.toNat s.h.toNat=(rndF ks ws s).l.map UInt64.toNat
  | [],ws,s=>by simp only[rndF,List.zip_nil_left,Lev,Lem,rgo,W8.l,Lao]
  |_::_,[],s=>by simp only[rndF,List.zip_nil_right,Lev,Lem,Lao,rgo,W8.l]
  | k::ks,w::ws,s=>by
    have e:rndF (k::ks) (w::ws) s=rndF ks ws (rnd1 s k w):=by simp only[rndF,List.zip_cons_cons,Lcx]
    rw[Lao,Lao,rgo,forceA_eq,forceA_eq,forceA_eq,e,←rgo_eq ks ws];simp only[rnd1,add_hom,t1_hom,t2_hom]
theorem add8{st xs:List UInt64}(h1:st.length=8)(h2:xs.length=8):(addUp st xs 8).map UInt64.toNat=adN (st.map UInt64.toNat) (xs.map UInt64.toNat):=by
  iterate 8 (obtain⟨a,l,e,h3⟩:=cons_of8 h1;clear h1;subst e;have h1:=h3;clear h3)
  obtain rfl:=Laj h1
  iterate 8 (obtain⟨a,l,e,h3⟩:=cons_of8 h2;clear h2;subst e;have h2:=h3;clear h3)
  obtain rfl:=Laj h2;simp only[Lao,Lem,adN,forceA_eq,←add_hom];rfl
theorem piece_N(hk:k.length=80)(hs:st.length=8)(hp:p.length=128):(pieceW k st p).map UInt64.toNat=pieceN (k.map UInt64.toNat) (st.map UInt64.toNat) p:=by
  have hw:(schW p).length=80:=by rw[schW,schB_length,schA_length]
  have e:rgoL (k.map UInt64.toNat) ((schW p).map UInt64.toNat) (st.map UInt64.toNat)=(rnds k (schW p) (W8.of st) 80).l.map UInt64.toNat:=by
    rw[rnds_F _ hk hw 80 oM,La4 oM,La4 oM,←rgo_eq]
    iterate 8 (obtain⟨a,l,e,h3⟩:=cons_of8 hs;clear hs;subst e;have hs:=h3;clear h3)
    obtain rfl:=Laj hs;rfl
  rw[pieceW,add8 hs rfl,pieceN,sch_N hp,e]
theorem run_N{k st:List UInt64}{bs:List UInt8}(hk:k.length=80)(hs:st.length=8):∀i,128*i≤bs.length→(runW k st bs i).map UInt64.toNat=runN (k.map UInt64.toNat) (st.map UInt64.toNat) bs i
  |0,_=>rfl
  | i+1,h=>by
    rw[runW,runN,piece_N hk (by rw[runW_length];exact hs) (by rw[Lai,Lce];omega),run_N hk hs i oM]
theorem all_N(l:List UInt8)(hk:k.length=80)(hs:st.length=8):(allW k st l).map UInt64.toNat=allN (k.map UInt64.toNat) (st.map UInt64.toNat) l:=by
  rw[allW,run_N hk hs _ (by have:=padB_mod l;omega),allN,forceA_eq,padT_eq,←padB_length,padT_eq]
def kN:List Nat:=[4794697086780616226,8158064640168781261,13096744586834688815,16840607885511220156,4131703408338449720,6480981068601479193,10538285296894168987,12329834152419229976,15566598209576043074,1334009975649890238,2608012711638119052,6128411473006802146,8268148722764581231,9286055187155687089,11230858885718282805,13951009754708518548,16472876342353939154,17275323862435702243,1135362057144423861,2597628984639134821,3308224258029322869,5365058923640841347,6679025012923562964,8573033837759648693,10970295158949994411,12119686244451234320,12683024718118986047,13788192230050041572,14330467153632333762,15395433587784984357,489312712824947311,1452737877330783856,2861767655752347644,3322285676063803686,5560940570517711597,5996557281743188959,7280758554555802590,8532644243296465576,9350256976987008742,10552545826968843579,11727347734174303076,12113106623233404929,14000437183269869457,14369950271660146224,15101387698204529176,15463397548674623760,17586052441742319658,1182934255886127544,1847814050463011016,2177327727835720531,2830643537854262169,3796741975233480872,4115178125766777443,5681478168544905931,6601373596472566643,7507060721942968483,8399075790359081724,8693463985226723168,9568029438360202098,10144078919501101548,10430055236837252648,11840083180663258601,13761210420658862357,14299343276471374635,14566680578165727644,15097957966210449927,16922976911328602910,17689382322260857208,500013540394364858,748580250866718886,1242879168328830382,1977374033974150939,2944078676154940804,3659926193048069267,4368137639120453308,4836135668995329356,5532061633213252278,6448918945643986474,6902733635092675308,7801388544844847127]
def stN:List Nat:=[7640891576956012808,13503953896175478587,4354685564936845355,11912009170470909681,5840696475078001361,11170449401992604703,2270897969802886507,6620516959819538809]
def siN:List Nat:=[2463787394917988140,11481187982095705282,2563595384472711505,10824532655140301501,10819967247969091555,13717434660681038226,3098927326965381290,1060366662362279074]
theorem kN_eq:kW.map UInt64.toNat=kN:=by kernel_rfl
theorem stN_eq:startW.map UInt64.toNat=stN:=by kernel_rfl
theorem of_to(l:List UInt64):(l.map UInt64.toNat).map UInt64.ofNat=l:=by
  rw[List.map_map];exact(List.map_congr_left fun x _=>UInt64.ofNat_toNat).trans (List.map_id l)
theorem sha512_N(l:List UInt8):sha512 l=sumUp ((allN kN stN l).map UInt64.ofNat) 64:=by
  rw[←kN_eq,←stN_eq,←all_N l rfl rfl,of_to];rfl
theorem siN_eq:shaI.map UInt64.toNat=siN:=by kernel_rfl
theorem sha256_N(l:List UInt8):sha256 l=(sumUp ((allN kN siN l).map UInt64.ofNat) 64).take 32:=by
  rw[←kN_eq,←siN_eq,←all_N l rfl shaI_length,of_to];rfl
end Go.Proofs.YtgjnomgkddbhcaaGreat
namespace Go.Proofs.YtgjnomgkddbhcaaGreat
open Go Hw _root_.Go.Proofs.Tryz
open Ed
def pbN(n:Nat):List UInt8:=forceA (fastN n) fun s=>forceA (pwm PF 256 (uz s%PF) (PF-2)) fun i=>pb ⟨fe (ux s*i%PF),fe (uy s*i%PF)⟩
variable{n:Nat}
theorem pbN_eq(h:n<2^256):pb (cv.mul n bP)=pbN n:=by
  rw[fast_at h rfl rfl,pbN,forceA_eq,forceA_eq,affX,affY,force_eq,force_eq]
def h512(l:List UInt8):List UInt8:=sumUp ((allN kN stN l).map UInt64.ofNat) 64
def h256(l:List UInt8):List UInt8:=(sumUp ((allN kN siN l).map UInt64.ofNat) 64).take 32
def blkD(K:List UInt8)(D0:DB)(e S:Nat):DB:=bsg D0 K (leb 32 e++leb 32 S)
def blkOk(H K:List UInt8)(n:Nat)(D0:DB)(r e S N:Nat):Bool:=
  Nat.beq (le (h512 (H.drop 32++btxt { D0 with w:=K }))%L) r&&(Nat.beq (le (pbN r)) e&&(Nat.beq ((le (h512 (leb 32 e++(K++btxt { D0 with w:=K })))%L*n+r)%L) S
    &&(Nat.beq (le (h256 (blkD K D0 e S).bytes)) N&&(decide (D0.check=0)&&decide ((blkD K D0 e S).check=0)))))
theorem le_32{l:List UInt8}{x:Nat}(h:l.length=32)(e:le l=x):l=leb 32 x:=by rw[←e,←h,leb_le]
def BlkF(seed K:List UInt8)(D0:DB)(e S N:Nat):Prop:=(blkD K D0 e S).ok∧Be (blkD K D0 e S)=leb 32 N∧dgood (blkD K D0 e S)=0∧∀B:Block,B.ok→Meets prog 116 [agg (Aa seed),agg B.cells] [] (fun W=>BlockIs W B D0) (BlkR 0 (blkD K D0 e S))
theorem blk_facts{seed H K:List UInt8}(h32:seed.length=32)(hH:sha512 seed=H)(hn:le (clampB (H.take 32))=n)(hK:sgK H=K){D0:DB}{r e S N:Nat}(hl:D0.ls.length≤40)(hd:D0.ds.length≤2000)(hD0:D0.ok)(h:blkOk H K n D0 r e S N=true):BlkF seed K D0 e S N:=by
  unfold blkOk at h;simp only[Lal,decide_eq_true_eq]at h;obtain⟨h1,h2,h3,h4,h5,h6⟩:=h;rw[h512,←sha512_N]at h1 h3;rw[h256,←sha256_N]at h4;have h1:=Lbx h1;have h2:=Lbx h2;have h3:=Lbx h3;have h4:=Lbx h4;have hr:r<2^256:=by rw[←h1];exact lm _
  have hKl:K.length=32:=by rw[←hK];exact sgK_length H
  obtain⟨T,hT⟩:∃T,T=btxt { D0 with w:=K }:=⟨_,rfl⟩;rw[←hT]at h1 h3;obtain⟨s1,hs1⟩:∃s1,sha512 (H.drop 32++T)=s1:=⟨_,rfl⟩;rw[hs1]at h1;have e1:le (sgR s1)=r:=by rw[sgR,le_leb32 (lm _),h1]
  have e2:sgF s1=leb 32 e:=by
    rw[sgF,e1,pbN_eq hr];refine le_32 ?_ h2;rw[←pbN_eq hr];exact Cd _
  obtain⟨s2,hs2⟩:∃s2,sha512 (leb 32 e++(K++T))=s2:=⟨_,rfl⟩;rw[hs2]at h3;have e3:sgS H s1 s2=leb 32 S:=by rw[sgS,e1,hn,sgR,le_leb32 (lm _),h3]
  have g:=good_self H s1 T (s2:=s2) (by rw[e2,hK];exact hs2);rw[hK,e2,e3]at g;refine⟨⟨hKl,hD0.prev,by show(leb 32 e++leb 32 S).length=64;rw[La3,Ak,Ak],hD0.ls⟩,?_,?_,fun B hB=>?_⟩
  · unfold Be
    rw[if_pos h6];exact le_32 (sha256_length _) h4
  · unfold dgood
    rw[if_pos h6];refine if_pos ?_;have e4:btxt (blkD K D0 e S)=T:=hT.symm;rw[e4];exact g
  · have c:=r15_Sign B D0 hB hl hd seed h32 H s1 s2 ⟨hH⟩ ⟨by rw[hK,←hT];exact hs1⟩ ⟨by rw[hK,←hT,e2];exact hs2⟩ h5
    rw[hK,e2,e3]at c;exact c
end Go.Proofs.YtgjnomgkddbhcaaGreat
namespace Go.Proofs.YtgjnomgkddbhcaaGreat
open Go Hw Ed
def s1B:List UInt8:=[1,0,0,0,0,0,0,0,0,0,0,0,0,0,0,0,0,0,0,0,0,0,0,0,0,0,0,0,0,0,0,77]
def s1H:List UInt8:=[87,159,104,236,80,14,38,174,240,0,164,75,108,245,33,87,115,113,131,28,237,105,185,222,57,145,233,242,112,190,170,213,35,11,137,144,70,23,17,214,148,220,86,67,25,124,131,91,42,247,30,195,63,213,16,142,181,57,199,82,96,7,203,83]
def s1K:List UInt8:=[96,107,246,169,182,86,212,252,106,138,137,108,60,10,195,142,100,120,65,80,61,64,193,87,241,248,221,83,126,228,255,164]
theorem s1_h:sha512 s1B=s1H:=by rw[sha512_N];kernel_rfl
theorem s1_n:le (clampB ((s1H).take 32))=38748270507491543869280182973643753799655646515636239770492563660028217171792:=by kernel_rfl
theorem s1_k:sgK s1H=s1K:=by
  rw[sgK,s1_n,pbN_eq dE];kernel_rfl
def mA0:DB:=DB.zero
def mAR:Nat×Nat×Nat×Nat:=(565907765622320541399421425701583650488762096448569470237382742425803974514,100601403375759064195258946539497424308391876113719775996124634348183556250024,3579687427427459069974335426959508808461923918647704402293925102387200652691,97113733480288696092322898458545537851336488749795256506728843684697484984565)
def mAN:List UInt8:=leb 32 mAR.2.2.2
def mAD:DB:=blkD s1K mA0 mAR.2.1 mAR.2.2.1
theorem mA_ok:blkOk s1H s1K 38748270507491543869280182973643753799655646515636239770492563660028217171792 mA0 mAR.1 mAR.2.1 mAR.2.2.1 mAR.2.2.2=true:=by kernel_rfl
theorem mA_len:mAN.length=32:=Ak 32 _
theorem mA_f:BlkF s1B s1K mA0 mAR.2.1 mAR.2.2.1 mAR.2.2.2:=blk_facts (H:=s1H) rfl s1_h s1_n s1_k dE dE ⟨rfl,by rfl,rfl,fun l hl=>(by first|(cases hl;done)|(rw[La1.1 hl];rfl))⟩ mA_ok
def mB0:DB:={ DB.zero with seq:=1,prev:=mAN }
def mBR:Nat×Nat×Nat×Nat:=(1042854690461855033549293643297295419211154182590953024946931292553013138148,65806961080161634906959505977140487317327363723346420782109779725411984570611,7208915343660222524937526513360399956949480183635538504188365353118992172452,46058863218359618658494336369744020781322587224099048705861084924914012010741)
def mBN:List UInt8:=leb 32 mBR.2.2.2
def mBD:DB:=blkD s1K mB0 mBR.2.1 mBR.2.2.1
theorem mB_ok:blkOk s1H s1K 38748270507491543869280182973643753799655646515636239770492563660028217171792 mB0 mBR.1 mBR.2.1 mBR.2.2.1 mBR.2.2.2=true:=by kernel_rfl
theorem mB_len:mBN.length=32:=Ak 32 _
theorem mB_f:BlkF s1B s1K mB0 mBR.2.1 mBR.2.2.1 mBR.2.2.2:=blk_facts (H:=s1H) rfl s1_h s1_n s1_k dE dE ⟨rfl,by rfl,rfl,fun l hl=>(by first|(cases hl;done)|(rw[La1.1 hl];rfl))⟩ mB_ok
end Go.Proofs.YtgjnomgkddbhcaaGreat
namespace Go.Proofs.YtgjnomgkddbhcaaGreat
open Go Hw _root_.Go.Proofs.Tryz
open Ed
variable{T:TypeId}{a b c:Block}{m q:Nat}{w:World}
theorem s1B_length:s1B.length=32:=rfl
theorem kitS1  :Mv 117 [i64 1] (fun _=>True) (agg (Aa s1B)):=by
 intro W hW;refine Ac func117 J 9 ntmps117 J (G2 ?_);refine .alloc (cs:=(Aa (List.replicate 32 0))) J Zr28 J ?_;intro n2 hn2 hf2;refine G5 ?_;refine .conv J J J Y3.h Y5.h (show Value.int .u8 (IntKind.u8.wrap 1)=u8 1 from rfl) (G1 ?_)
 refine .shrN 1 8 J J J J J dE (.conv J J J Y3.h Y5.h (show Value.int .u8 (IntKind.u8.wrap ((1/2^8:Nat):Int))=u8 0 from rfl) (.build (cs:=Aa s1B) J J J (fun w=>by kernel_rfl) ?_));refine .sA J J J J zE Sz28 (by(simp[s1B_length];done)) Z0 sP zU ?_;refine G2 ?_;refine G2 ?_;refine⟨_,[],Au J J Y28.h J Sz28 Z0 (by simp[s1B_length]),sP,sP,?_,rfl⟩;rfl
def ChainS(Da Db Dc:DB)(v:Value)(out:List Blk):Prop:=∃(q:Nat) (Ba Bb Bc:Block) (bl:List Blk),SameB Ba Da∧SameB Bb Db∧SameB Bc Dc∧v= .slice (some ⟨q,0,none⟩) 3 3∧out=⟨q,tri Ba Bb Bc,37,(tri Ba Bb Bc).length⟩::bl∧∀W2,Lies bl W2→BlockIs W2 Ba Da∧BlockIs W2 Bb Db∧BlockIs W2 Bc Dc
theorem tri_sees(ha:a.ok)(hb:b.ok)(hc:c.ok)(h:BlkOk w ⟨q,tri a b c,T,m⟩):Sees w q (0+0*131) a.cells∧Sees w q (0+1*131) b.cells∧Sees w q (0+2*131) c.cells:=by
  have part:∀(o:Nat) (l:List Value),((tri a b c).drop o).take 131=l→Sees w q o l:=fun o l e=>sees_kok h fun j v hj=>by
    rw[←e]at hj;have h1:=(Laa.1 hj).1;rw[Lei (by rw[Lai]at h1;omega),Lbd]at hj;exact hj
  exact⟨part _ _ (tri_0 ha),part _ _ (tri_1 ha hb),part _ _ (tri_2 ha hb hc)⟩
theorem tri_blocks{Da Db Dc:DB}(h:BlkOk w ⟨q,tri a b c,T,m⟩)(hi:BlockIs w a Da∧BlockIs w b Db∧BlockIs w c Dc):BlocksAt w ⟨some ⟨q,0,none⟩,3,3⟩ [Da,Db,Dc]:=by
  obtain⟨ha,hb,hc⟩:=hi;refine⟨[a,b,c],rfl,rfl,fun i r d hr hd=>?_,fun r hr=>?_,Lab 3,?_,(by show 3≤maxLen;decide),fun e=>by cases e⟩
  · rcases i with _|_|_|i
    ·cases hr;cases hd;exact ha
    ·cases hr;cases hd;exact hb
    ·cases hr;cases hd;exact hc
    ·cases hr
  · simp only[Laf,Laz,or_false]at hr
    rcases hr with rfl|rfl|rfl
    ·exact Block.length ha.ok
    ·exact Block.length hb.ok
    ·exact Block.length hc.ok
  · refine SeesP.of (sees_kok h fun j v hj=>?_)
    rw[Lb4];exact hj
theorem mA_g:dgood mAD=0:=mA_f.2.2.1
theorem mB_g:dgood mBD=0:=mB_f.2.2.1
theorem mA_nm:Be mAD=mAN:=mA_f.2.1
theorem mB_nm:Be mBD=mBN:=mB_f.2.1
def cX1:PD:=PD.new.adm mAN mAD
def cX2:PD:=cX1.adm mBN mBD
theorem c_add1:PD.new.add mAD=(cX1,[mAN],0):=by
  have h:=add_fits (X:=PD.new) mA_g (by rw[mA_nm];kernel_rfl) zK;rw[mA_nm]at h;have e:PD.settle (PD.new.adm mAN mAD).orp.length (PD.new.adm mAN mAD)=(cX1,[]):=by kernel_rfl
  rw[h,e]
theorem c_add2:cX1.add mBD=(cX2,[mBN],0):=by
  have h:=add_fits (X:=cX1) mB_g (by rw[mB_nm];kernel_rfl) zK;rw[mB_nm]at h;have e:PD.settle (cX1.adm mBN mBD).orp.length (cX1.adm mBN mBD)=(cX2,[]):=by kernel_rfl
  rw[h,e]
theorem rB_nil(X:PD)(n:List UInt8):rB X (-1) [] n=false:=by
  cases h:rB X (-1) [] n with
  |false=>rfl
  |true=>exact(reach_nil (rB_iff.1 h)).elim
theorem reach_in{X:PD}(hI:X.Inv){L:List (List UInt8)}{n:List UInt8}{D:DB}(hn:n∈L)(hD:Ap X.P n=some D):X.Reach (-1) L n:= .base hn hD (by have:=hI.d0 n D hD;omega)
end Go.Proofs.YtgjnomgkddbhcaaGreat
namespace Go.Proofs.YtgjnomgkddbhcaaGreat
open Go Hw _root_.Go.Proofs.Tryz
def PD.has(X:PD)(n:List UInt8):Bool:=(Ap X.P n).isSome
variable{κ:Type}{n:κ}
theorem has_names{X:PD}(hI:X.Inv){n:List UInt8}(h:X.has n=true):n∈X.names:=(names_mem hI n).2 (Ldn.1 h)
theorem has_is(x:DD)(n:List UInt8):(Ap x.ent n).isSome=x.pl.has n:=by
  have e:Ap x.pl.P n=(Ap x.ent n).map (·.2):=x.getP n;unfold PD.has;rw[e];cases Ap x.ent n<;>rfl
theorem dag_hasP(x:DD)(hx:x.ok)(p:Nat)(n:List UInt8)(h32:n.length=32):Mv 66 [ptr p 0,agg (Aa n)] (fun W=>Lies (x.blks p) W) (.bool (x.pl.has n)):=by
  rw[←has_is];exact(dag_has x hx p n h32).imp (fun w h=>DagSee.lies h) fun v out h=>h
theorem keysP_put[DecidableEq κ]{ms:List (κ×Unit)}(h:Ap ms n=none):(Bd ms n ()).map (·.1)=ms.map (·.1)++[n]:=by rw[mput_app h,Lak];rfl
theorem not_key{κ ν:Type}[DecidableEq κ]{ms:List (κ×ν)}{n:κ}(h:Ap ms n=none):n∉ms.map (·.1):=fun hm=>by
  obtain⟨v,hv⟩:=mget_of_key hm;rw[h]at hv;cases hv
section
variable{X:PD}{L dn l st:List (List UInt8)}{ms:List (List UInt8×Unit)}{n:List UInt8}
end
variable{L R hs l ws:List (List UInt8)}{W:World}{X:PD}{i k:Nat}{n v:List UInt8}{x:DD}
theorem MS:MOk prog 114 31 110 (An 32 evU) (agg []):=bytesT_ok _ underlying114 A25 Y5.h size_pos K25 (zr_run Zr110)
theorem filter_take(hk:k<L.length)(P:List UInt8→Bool):(L.take (k+1)).filter P=if P (L.getD k [])=true then(L.take k).filter P++[L.getD k []]else(L.take k).filter P:=by
  have e:L.getD k []=L[k]:=by rw[La2,La6 hk];rfl
  rw[Lam hk,Lgd,e];cases h:P L[k]<;>simp[h]
theorem want_set(s:Sl)(ls:List (List UInt8)):Meets prog 71 [s.v] [] (fun W=>RowsAt W s 32 ls) (NSetR ls):=by
 intro W hW;have hlen:=hW.len;have hrow:=hW.row;have hmax:=hW.max;simp only[maxLen]at hmax;refine Ac func71 J 20 ntmps71 J (.sr (.a J J J (.nsr (.m J J J (.lenSl J J J Y32.h (.mkMapH (An 32 evU) MS J J J ?_))))));intro m8;refine .a J J J (.na (.seq (.sr (.m J J J (.lenSl J J J Y32.h (.m J J J (.na (.block (.loop (ι:=Nat×List (List UInt8×Unit)) (fun r=>⟨[(3, .map (some m8)),(9,s.v),(10,i64 (s.n:Int)),(11,i64 (r.1:Int))],[A2 m8 (An 32 evU) r.2]⟩) (fun r=>r.1≤s.n∧r.2=setP (ls.take r.1)) (fun r=>s.n-r.1) ((0,[])) ?_ ?_ ?_)))))))))
 ·exact⟨Lan _,rfl⟩
 ·exact Al wN (Ab rM Af)
 rintro⟨k,fs⟩ ⟨hk,hfs⟩;simp only at hk hfs ⊢;refine .sr (.lss J J J J J (.na (.seq ?_)));first
  |refine Sat.condP rfl (fun hc0=>?_) (fun hc0=>?_)
  |refine Sat.condNP rfl (fun hc0=>?_) (fun hc0=>?_)
  |refine Sat.cond rfl (fun hc0=>?_) (fun hc0=>?_)
 ·
  have hk2:k<s.n:=by omega
  obtain⟨b,o,hbp,hbs⟩:=hW.see.at (by rw[A0 hrow];omega);have h32k:(ls.getD k []).length=32:=B6 hrow oM;refine .skip (Bi (.seq (.block (.sr (.idxSlP 32 J J J hbp J Y32.h Sz31 k J oM (.loadEN (Aa (ls.getD k [])) J J J Y31.h J Sz31 sP (by rw[Aa,La0];exact h32k) (Bt hrow hbs oM) ?_))))));refine .alloc (cs:=(Aa (List.replicate 32 0))) J Cf J ?_;intro n5 hn5 hf5;first
   |refine Tr.sA rfl rfl rfl rfl (by first|exact Am _|exact A1 _|simp[isCell]) Sz31 (by first|(simp[h32k];done)|assumption|(rw[Aa,La0];assumption)) mM (by first|(simp[h32k];done)|assumption|(rw[Aa,La0];assumption)) uU ?_
   |refine Tr.storeN _ rfl rfl rfl rfl rfl (by first|exact Am _|exact A1 _|simp[isCell]) Sz31 (by first|(simp[h32k];done)|assumption|(rw[Aa,La0];assumption)) mM (by first|(simp[h32k];done)|assumption|(rw[Aa,La0];assumption)) (by exact rfl) uU ?_
  refine .na (.region (.m J J J ?_));first
   |refine Tr.lA rfl rfl rfl Y31.h rfl Sz31 mM (by first|(simp[h32k];done)|assumption|(rw[Aa,La0];assumption)) ?_
   |refine Tr.lN _ rfl rfl rfl Y31.h rfl Sz31 mM (by exact rfl) (by first|(simp[h32k];done)|assumption|(rw[Aa,La0];assumption)) ?_
  refine .build (cs:=[]) J J J (fun w=>by kernel_rfl) ?_;refine .mapPut (v:=()) MS J J J J J h32k rM ?_;refine .nil (bl_n (Bi (.region (.aI J J J J oM (.m J J J (.na ?_))))));exact⟨(k+1,Bd fs (ls.getD k []) ()),⟨by simp only;omega,by simp only;rw[setP_step oM,hfs]⟩,by simp only;omega,Al (wk1 rfl (wk1 rfl (wk1 rfl (wk1 (by rw[Lc6];rfl) wk0)))) (Ab rM Af)⟩
 obtain rfl:k=s.n:=by omega
 refine .exit (at_x (at_x (bl_h (Bi (.sr (.m J J J (.a J J J (.na ?_))))))));refine .ret (en_r (Ax (out:=(A2 m8 (An 32 evU) fs::[])) (Ai J J) (Ab rM Af) ?_));exact⟨m8,rfl,by rw[hfs,La4 oM]⟩
theorem want_out2(n:List UInt8)(h32:n.length=32)(qa qb ma mb:Nat)(fa fb:List (List UInt8×Unit)):Mv 108 [agg (Aa n),ptr qa 0,ptr qb 0] (fun W=>W.cell? ⟨qa,0,none⟩=some (.map (some ma))∧W.cell? ⟨qb,0,none⟩=some (.map (some mb))∧BlkOk W (A2 ma (An 32 evU) fa)∧BlkOk W (A2 mb (An 32 evU) fb)) (.bool ((Ap fa n).isNone&&(Ap fb n).isNone)):=by
 intro W hW;refine Ac func108 J 27 ntmps108 J (.sr (.boxA J J ?_));intro n3 hn3 hf3;refine .a J J J (.nsr (.loadE J J J underlying114 J (by first|(simp;done)|(simp;exact hW.2.2)|(simp[Cx.with];done)|(simp[Cx.with];omega)) (hW.1) ?_));first
  |refine Tr.lA rfl rfl rfl Y31.h rfl Sz31 mM (by first|(simp[h32];done)|assumption|(rw[Aa,La0];assumption)) ?_
  |refine Tr.lN _ rfl rfl rfl Y31.h rfl Sz31 mM (by exact rfl) (by first|(simp[h32];done)|assumption|(rw[Aa,La0];assumption)) ?_
 refine .lookOkC MS hW.2.2.1 sP J J J J h32 ?_;rw[show((Ap fa n).map (An 32 evU).ev).getD (agg [])=agg []from by cases Ap fa n<;>rfl];refine .m J J J (.eX J J J J (.extractB J J J J (fun hs1_50=>?_) (fun hs1_50=>?_)))
 ·
  first|have hs1_5:=of_decide_eq_true hs1_50|have hs1_5:=of_decide_eq_false hs1_50|have hs1_5:=nd_t hs1_50|have hs1_5:=nd_f hs1_50|have hs1_5:=hs1_50
  refine .alloc (cs:=[]) J Zr110 J ?_;intro n5 hn5 hf5;first
   |refine Tr.sA rfl rfl rfl rfl (by first|exact Am _|exact A1 _|simp[isCell]) Sz110 (by first|(simp[h32];done)|assumption|(rw[Aa,La0];assumption)) mM (by first|(simp[h32];done)|assumption|(rw[Aa,La0];assumption)) uU ?_
   |refine Tr.storeN _ rfl rfl rfl rfl rfl (by first|exact Am _|exact A1 _|simp[isCell]) Sz110 (by first|(simp[h32];done)|assumption|(rw[Aa,La0];assumption)) mM (by first|(simp[h32];done)|assumption|(rw[Aa,La0];assumption)) (by exact rfl) uU ?_
  refine .a J J J (.nsr (.loadE J J J underlying114 J (by first|(simp;done)|(simp;exact hW.2.2)|(simp[Cx.with];done)|(simp[Cx.with];omega)) (hW.2.1) ?_));first
   |refine Tr.lA rfl rfl rfl Y31.h rfl Sz31 mM (by first|(simp[h32];done)|assumption|(rw[Aa,La0];assumption)) ?_
   |refine Tr.lN _ rfl rfl rfl Y31.h rfl Sz31 mM (by exact rfl) (by first|(simp[h32];done)|assumption|(rw[Aa,La0];assumption)) ?_
  refine .lookOkC MS hW.2.2.2 sP J J J J h32 ?_;rw[show((Ap fb n).map (An 32 evU).ev).getD (agg [])=agg []from by cases Ap fb n<;>rfl];refine .m J J J (.eX J J J J (.eX J J J J (.alloc (cs:=[]) J Zr110 J ?_)));intro n7 hn7 hf7;first
   |refine Tr.sA rfl rfl rfl rfl (by first|exact Am _|exact A1 _|simp[isCell]) Sz110 (by first|(simp[h32];done)|assumption|(rw[Aa,La0];assumption)) mM (by first|(simp[h32];done)|assumption|(rw[Aa,La0];assumption)) uU ?_
   |refine Tr.storeN _ rfl rfl rfl rfl rfl (by first|exact Am _|exact A1 _|simp[isCell]) Sz110 (by first|(simp[h32];done)|assumption|(rw[Aa,La0];assumption)) mM (by first|(simp[h32];done)|assumption|(rw[Aa,La0];assumption)) (by exact rfl) uU ?_
  refine .a J J J (.nsr (.m J J J (.not J J J (.m J J J (.skp J J (.skp J J (.pick J J J J J J (.a J J J (.na ?_)))))))));refine .ret (en_r (Ax (out:=[]) (Ai J J) Af ?_));refine⟨?_,rfl⟩;cases ha9:Ap fa n<;>cases hb9:Ap fb n<;>simp_all
 first|have hs1_5:=of_decide_eq_true hs1_50|have hs1_5:=of_decide_eq_false hs1_50|have hs1_5:=nd_t hs1_50|have hs1_5:=nd_f hs1_50|have hs1_5:=hs1_50
 refine .alloc (cs:=[]) J Zr110 J ?_;intro n5 hn5 hf5;first
  |refine Tr.sA rfl rfl rfl rfl (by first|exact Am _|exact A1 _|simp[isCell]) Sz110 (by first|(simp[h32];done)|assumption|(rw[Aa,La0];assumption)) mM (by first|(simp[h32];done)|assumption|(rw[Aa,La0];assumption)) uU ?_
  |refine Tr.storeN _ rfl rfl rfl rfl rfl (by first|exact Am _|exact A1 _|simp[isCell]) Sz110 (by first|(simp[h32];done)|assumption|(rw[Aa,La0];assumption)) mM (by first|(simp[h32];done)|assumption|(rw[Aa,La0];assumption)) (by exact rfl) uU ?_
 refine .a J J J (.nsr (.loadE J J J underlying114 J (by first|(simp;done)|(simp;exact hW.2.2)|(simp[Cx.with];done)|(simp[Cx.with];omega)) (hW.2.1) ?_));first
  |refine Tr.lA rfl rfl rfl Y31.h rfl Sz31 mM (by first|(simp[h32];done)|assumption|(rw[Aa,La0];assumption)) ?_
  |refine Tr.lN _ rfl rfl rfl Y31.h rfl Sz31 mM (by exact rfl) (by first|(simp[h32];done)|assumption|(rw[Aa,La0];assumption)) ?_
 refine .lookOkC MS hW.2.2.2 sP J J J J h32 ?_;rw[show((Ap fb n).map (An 32 evU).ev).getD (agg [])=agg []from by cases Ap fb n<;>rfl];refine .m J J J (.eX J J J J (.eX J J J J (.alloc (cs:=[]) J Zr110 J ?_)));intro n7 hn7 hf7;first
  |refine Tr.sA rfl rfl rfl rfl (by first|exact Am _|exact A1 _|simp[isCell]) Sz110 (by first|(simp[h32];done)|assumption|(rw[Aa,La0];assumption)) mM (by first|(simp[h32];done)|assumption|(rw[Aa,La0];assumption)) uU ?_
  |refine Tr.storeN _ rfl rfl rfl rfl rfl (by first|exact Am _|exact A1 _|simp[isCell]) Sz110 (by first|(simp[h32];done)|assumption|(rw[Aa,La0];assumption)) mM (by first|(simp[h32];done)|assumption|(rw[Aa,La0];assumption)) (by exact rfl) uU ?_
 refine .a J J J (.nsr (.m J J J (.not J J J (.m J J J (.m J J J (.not J J J (.pick J J J J J J (.a J J J (.na ?_)))))))));refine .ret (en_r (Ax (out:=[]) (Ai J J) Af ?_));refine⟨?_,rfl⟩;cases ha9:Ap fa n<;>cases hb9:Ap fb n<;>simp_all
theorem want_out1(n:List UInt8)(h32:n.length=32)(qa qb ma:Nat)(fa:List (List UInt8×Unit)):Mv 108 [agg (Aa n),ptr qa 0,ptr qb 0] (fun W=>W.cell? ⟨qa,0,none⟩=some (.map (some ma))∧W.cell? ⟨qb,0,none⟩=some (.map none)∧BlkOk W (A2 ma (An 32 evU) fa)) (.bool (Ap fa n).isNone):=by
 intro W hW;refine Ac func108 J 27 ntmps108 J (.sr (.boxA J J ?_));intro n3 hn3 hf3;refine .a J J J (.nsr (.loadE J J J underlying114 J (by first|(simp;done)|(simp;exact hW.2.2)|(simp[Cx.with];done)|(simp[Cx.with];omega)) (hW.1) ?_));first
  |refine Tr.lA rfl rfl rfl Y31.h rfl Sz31 mM (by first|(simp[h32];done)|assumption|(rw[Aa,La0];assumption)) ?_
  |refine Tr.lN _ rfl rfl rfl Y31.h rfl Sz31 mM (by exact rfl) (by first|(simp[h32];done)|assumption|(rw[Aa,La0];assumption)) ?_
 refine .lookOkC MS hW.2.2 sP J J J J h32 ?_;rw[show((Ap fa n).map (An 32 evU).ev).getD (agg [])=agg []from by cases Ap fa n<;>rfl];refine .m J J J (.eX J J J J (.extractB J J J J (fun hs1_50=>?_) (fun hs1_50=>?_)))
 ·
  first|have hs1_5:=of_decide_eq_true hs1_50|have hs1_5:=of_decide_eq_false hs1_50|have hs1_5:=nd_t hs1_50|have hs1_5:=nd_f hs1_50|have hs1_5:=hs1_50
  refine .alloc (cs:=[]) J Zr110 J ?_;intro n5 hn5 hf5;first
   |refine Tr.sA rfl rfl rfl rfl (by first|exact Am _|exact A1 _|simp[isCell]) Sz110 (by first|(simp[h32];done)|assumption|(rw[Aa,La0];assumption)) mM (by first|(simp[h32];done)|assumption|(rw[Aa,La0];assumption)) uU ?_
   |refine Tr.storeN _ rfl rfl rfl rfl rfl (by first|exact Am _|exact A1 _|simp[isCell]) Sz110 (by first|(simp[h32];done)|assumption|(rw[Aa,La0];assumption)) mM (by first|(simp[h32];done)|assumption|(rw[Aa,La0];assumption)) (by exact rfl) uU ?_
  refine .a J J J (.nsr (.loadE J J J underlying114 J (by first|(simp;done)|(simp;exact hW.2.2)|(simp[Cx.with];done)|(simp[Cx.with];omega)) (hW.2.1) ?_));first
   |refine Tr.lA rfl rfl rfl Y31.h rfl Sz31 mM (by first|(simp[h32];done)|assumption|(rw[Aa,La0];assumption)) ?_
   |refine Tr.lN _ rfl rfl rfl Y31.h rfl Sz31 mM (by exact rfl) (by first|(simp[h32];done)|assumption|(rw[Aa,La0];assumption)) ?_
  refine .lookNil MS J J J J h32 (.m J J J (.eX J J J J (.eX J J J J (.alloc (cs:=[]) J Zr110 J ?_))));intro n7 hn7 hf7;first
   |refine Tr.sA rfl rfl rfl rfl (by first|exact Am _|exact A1 _|simp[isCell]) Sz110 (by first|(simp[h32];done)|assumption|(rw[Aa,La0];assumption)) mM (by first|(simp[h32];done)|assumption|(rw[Aa,La0];assumption)) uU ?_
   |refine Tr.storeN _ rfl rfl rfl rfl rfl (by first|exact Am _|exact A1 _|simp[isCell]) Sz110 (by first|(simp[h32];done)|assumption|(rw[Aa,La0];assumption)) mM (by first|(simp[h32];done)|assumption|(rw[Aa,La0];assumption)) (by exact rfl) uU ?_
  refine .a J J J (.nsr (.m J J J (.not J J J (.m J J J (.skp J J (.skp J J (.pick J J J J J J (.a J J J (.na ?_)))))))));refine .ret (en_r (Ax (out:=[]) (Ai J J) Af ?_));refine⟨?_,rfl⟩;cases ha9:Ap fa n<;>simp_all
 first|have hs1_5:=of_decide_eq_true hs1_50|have hs1_5:=of_decide_eq_false hs1_50|have hs1_5:=nd_t hs1_50|have hs1_5:=nd_f hs1_50|have hs1_5:=hs1_50
 refine .alloc (cs:=[]) J Zr110 J ?_;intro n5 hn5 hf5;first
  |refine Tr.sA rfl rfl rfl rfl (by first|exact Am _|exact A1 _|simp[isCell]) Sz110 (by first|(simp[h32];done)|assumption|(rw[Aa,La0];assumption)) mM (by first|(simp[h32];done)|assumption|(rw[Aa,La0];assumption)) uU ?_
  |refine Tr.storeN _ rfl rfl rfl rfl rfl (by first|exact Am _|exact A1 _|simp[isCell]) Sz110 (by first|(simp[h32];done)|assumption|(rw[Aa,La0];assumption)) mM (by first|(simp[h32];done)|assumption|(rw[Aa,La0];assumption)) (by exact rfl) uU ?_
 refine .a J J J (.nsr (.loadE J J J underlying114 J (by first|(simp;done)|(simp;exact hW.2.2)|(simp[Cx.with];done)|(simp[Cx.with];omega)) (hW.2.1) ?_));first
  |refine Tr.lA rfl rfl rfl Y31.h rfl Sz31 mM (by first|(simp[h32];done)|assumption|(rw[Aa,La0];assumption)) ?_
  |refine Tr.lN _ rfl rfl rfl Y31.h rfl Sz31 mM (by exact rfl) (by first|(simp[h32];done)|assumption|(rw[Aa,La0];assumption)) ?_
 refine .lookNil MS J J J J h32 (.m J J J (.eX J J J J (.eX J J J J (.alloc (cs:=[]) J Zr110 J ?_))));intro n7 hn7 hf7;first
  |refine Tr.sA rfl rfl rfl rfl (by first|exact Am _|exact A1 _|simp[isCell]) Sz110 (by first|(simp[h32];done)|assumption|(rw[Aa,La0];assumption)) mM (by first|(simp[h32];done)|assumption|(rw[Aa,La0];assumption)) uU ?_
  |refine Tr.storeN _ rfl rfl rfl rfl rfl (by first|exact Am _|exact A1 _|simp[isCell]) Sz110 (by first|(simp[h32];done)|assumption|(rw[Aa,La0];assumption)) mM (by first|(simp[h32];done)|assumption|(rw[Aa,La0];assumption)) (by exact rfl) uU ?_
 refine .a J J J (.nsr (.m J J J (.not J J J (.m J J J (.m J J J (.not J J J (.pick J J J J J J (.a J J J (.na ?_)))))))));refine .ret (en_r (Ax (out:=[]) (Ai J J) Af ?_));refine⟨?_,rfl⟩;cases ha9:Ap fa n<;>simp_all
theorem want_outside(a b:Option Nat):Meets prog 74 [.map a, .map b] [] (fun _=>True) (fun v out=>∃qa qb,v= .func (.func 108) #[] #[ptr qa 0,ptr qb 0]∧out=[⟨qa,[.map a],114,1⟩,⟨qb,[.map b],114,1⟩]):=by
 intro W hW;refine Ac func74 J 6 ntmps74 J (.sr (.box1 J J J ?_));intro n2 hn2 hf2;refine .box1 J J J ?_;intro n3 hn3 hf3;refine .a J J J (.nsr (.makeFunc J J J J (.a J J J (.na ?_))));refine .ret (en_r (Ax (out:=(⟨n2,[.map a],114,1⟩::(⟨n3,[.map b],114,1⟩::[]))) (Ai J J) (Ab rM (Ab rM Af)) ?_));exact⟨n2,n3,rfl,rfl⟩
theorem filter_has(s:Sl)(ls:List (List UInt8))(x:DD)(hx:x.ok)(p:Nat)(hbig:ls.length≤1000000):Meets prog 72 [s.v, .func (.func 66) #[ptr p 0] #[]] [] (fun W=>RowsAt W s 32 ls∧Lies (x.blks p) W) (RowA (ls.filter (fun n=>x.pl.has n))):=by
 intro W hW;have h32k:True:=trivial;have hlen:=hW.1.len;have hrow:=hW.1.row;have hmax:=hW.1.max;simp only[maxLen]at hmax;have hln:ls.length≤1000000:=hbig;refine Ac func72 J 23 ntmps72 J (.sr (.a J J J (.nsr (.a J J J (.na (.seq (.sr (.m J J J (.lenSl J J J Y32.h (.m J J J (.na (.block (.loop (ι:=Nat×Sl×List Blk) (fun r=>⟨[(1, .func (.func 66) #[ptr p 0] #[]),(5,r.2.1.v),(8,s.v),(9,i64 (s.n:Int)),(10,i64 (r.1:Int))],(r.2.2++[])⟩) (fun r=>r.1≤s.n∧Hw.Acc r.2.1 r.2.2 (As ((ls.take r.1).filter (fun n=>x.pl.has n))) 31 ((ls.take r.1).filter (fun n=>x.pl.has n)).length 32) (fun r=>s.n-r.1) ((0,Sl.nil,[])) ?_ ?_ ?_)))))))))))))
 ·exact⟨Lan _,Acc.none⟩
 ·exact Al wN (Ad sG Af)
 rintro⟨k,s5,bl5⟩ ⟨hk,hac5⟩;simp only at hk hac5 ⊢;have hfl:=Lc2 (fun n=>x.pl.has n) (ls.take k);rw[Lai]at hfl;refine .sr (.lss J J J J J (.na (.seq ?_)));first
  |refine Sat.condP rfl (fun hc0=>?_) (fun hc0=>?_)
  |refine Sat.condNP rfl (fun hc0=>?_) (fun hc0=>?_)
  |refine Sat.cond rfl (fun hc0=>?_) (fun hc0=>?_)
 ·
  have hk2:k<s.n:=by omega
  obtain⟨b,o,hbp,hbs⟩:=hW.1.see.at (by rw[A0 hrow];omega);obtain⟨kk,hkk⟩:∃kk,kk=ls.getD k []:=⟨_,rfl⟩;have h32k:kk.length=32:=by rw[hkk];exact B6 hrow oM
  refine .skip (Bi (.seq (.block (.sr (.idxSlP 32 J J J hbp J Y32.h Sz31 k J oM (.loadEN (Aa kk) J J J Y31.h J Sz31 sP (by rw[Aa,La0];exact h32k) (by rw[hkk];exact Bt hrow hbs oM) ?_))))));refine .alloc (cs:=(Aa (List.replicate 32 0))) J Cf J ?_;intro n7 hn7 hf7;first
   |refine Tr.sA rfl rfl rfl rfl (by first|exact Am _|exact A1 _|simp[isCell]) Sz31 (by first|(simp[h32k];done)|assumption|(rw[Aa,La0];assumption)) mM (by first|(simp[h32k];done)|assumption|(rw[Aa,La0];assumption)) uU ?_
   |refine Tr.storeN _ rfl rfl rfl rfl rfl (by first|exact Am _|exact A1 _|simp[isCell]) Sz31 (by first|(simp[h32k];done)|assumption|(rw[Aa,La0];assumption)) mM (by first|(simp[h32k];done)|assumption|(rw[Aa,La0];assumption)) (by exact rfl) uU ?_
  refine .nsr (.m J J J ?_);first
   |refine Tr.lA rfl rfl rfl Y31.h rfl Sz31 mM (by first|(simp[h32k];done)|assumption|(rw[Aa,La0];assumption)) ?_
   |refine Tr.lN _ rfl rfl rfl Y31.h rfl Sz31 mM (by exact rfl) (by first|(simp[h32k];done)|assumption|(rw[Aa,La0];assumption)) ?_
  refine .callCV J J J J J Body66 (dag_hasP x hx p kk h32k) (fun w h=>Bg hW.2 h) (.na ?_);first
   |refine Sat.condP rfl (fun hc1=>?_) (fun hc1=>?_)
   |refine Sat.condNP rfl (fun hc1=>?_) (fun hc1=>?_)
   |refine Sat.cond rfl (fun hc1=>?_) (fun hc1=>?_)
  ·
   refine .region (.m J J J ?_);first
    |refine Tr.lA rfl rfl rfl Y31.h rfl Sz31 mM (by first|(simp[h32k];done)|assumption|(rw[Aa,La0];assumption)) ?_
    |refine Tr.lN _ rfl rfl rfl Y31.h rfl Sz31 mM (by exact rfl) (by first|(simp[h32k];done)|assumption|(rw[Aa,La0];assumption)) ?_
   refine .mkRow2 (z:=agg (Aa (List.replicate 32 0))) [agg (Aa kk)] (Aa kk) J J Y32.h Sz31 Cf J J (by intro v hv;rw[La1.1 hv];simp[Value.cells,agg,Aa,h32k]) dE (by simp[Value.cells,agg]) ?_;intro q19;refine .appendAcc (n:=((ls.take k).filter (fun n=>x.pl.has n)).length) (z:=agg (Aa (List.replicate 32 0))) (by':=32) (Aa kk) J J J J J Y32.h Y32.h Sz31 Cf (by unfold By;kernel_rfl) J hac5 sG (fun w h=>SeesP.of (Aq h mM)) (fun e=>by cases e) (Am _) oM oM (by rw[Aa,La0,h32k]) ?_;intro s20 bl20 hac20;refine .a J J J (.nil (bl_n (Bi (.region (.aI J J J J oM (.m J J J (.na ?_)))))));exact⟨(k+1,s20,bl20),⟨by simp only;omega,by simp only;rw[filter_take oM,←hkk,if_pos (by first|exact hc1|simpa using hc1),Cl,La3,show As [kk]=Aa kk by simp[As]];exact hac20⟩,by simp only;omega,Al wN (Ad sG Af)⟩
  refine .skip (bl_n (Bi (.region (.aI J J J J oM (.m J J J (.na ?_))))));exact⟨(k+1,s5,bl5),⟨by simp only;omega,by simp only;rw[filter_take oM,←hkk,if_neg (by first|exact hc1|(intro h9;simp_all;done)|simpa using hc1)];exact hac5⟩,by simp only;omega,Al wN (Ad sG Af)⟩
 have hke:k=s.n:=by omega
 refine .exit (at_x (at_x (bl_h (Bi (.sr (.m J J J (.a J J J (.na ?_))))))));refine .ret (en_r (Ax (out:=(bl5++[])) (Ai J J) (Ad sG Af) ?_));rw[La4 oM]at hac5;exact⟨s5,rfl,by simpa using hac5⟩
theorem filter_out2(s:Sl)(ls:List (List UInt8))(qa qb ma mb:Nat)(fa fb:List (List UInt8×Unit))(hbig:ls.length≤1000000):Meets prog 72 [s.v, .func (.func 108) #[] #[ptr qa 0,ptr qb 0]] [] (fun W=>RowsAt W s 32 ls∧W.cell? ⟨qa,0,none⟩=some (.map (some ma))∧W.cell? ⟨qb,0,none⟩=some (.map (some mb))∧BlkOk W (A2 ma (An 32 evU) fa)∧BlkOk W (A2 mb (An 32 evU) fb)) (RowA (ls.filter (fun n=>(Ap fa n).isNone&&(Ap fb n).isNone))):=by
 intro W hW;have h32k:True:=trivial;have hlen:=hW.1.len;have hrow:=hW.1.row;have hmax:=hW.1.max;simp only[maxLen]at hmax;have hln:ls.length≤1000000:=hbig;refine Ac func72 J 23 ntmps72 J (.sr (.a J J J (.nsr (.a J J J (.na (.seq (.sr (.m J J J (.lenSl J J J Y32.h (.m J J J (.na (.block (.loop (ι:=Nat×Sl×List Blk) (fun r=>⟨[(1, .func (.func 108) #[] #[ptr qa 0,ptr qb 0]),(5,r.2.1.v),(8,s.v),(9,i64 (s.n:Int)),(10,i64 (r.1:Int))],(r.2.2++[])⟩) (fun r=>r.1≤s.n∧Hw.Acc r.2.1 r.2.2 (As ((ls.take r.1).filter (fun n=>(Ap fa n).isNone&&(Ap fb n).isNone))) 31 ((ls.take r.1).filter (fun n=>(Ap fa n).isNone&&(Ap fb n).isNone)).length 32) (fun r=>s.n-r.1) ((0,Sl.nil,[])) ?_ ?_ ?_)))))))))))))
 ·exact⟨Lan _,Acc.none⟩
 ·exact Al wN (Ad sG Af)
 rintro⟨k,s5,bl5⟩ ⟨hk,hac5⟩;simp only at hk hac5 ⊢;have hfl:=Lc2 (fun n=>(Ap fa n).isNone&&(Ap fb n).isNone) (ls.take k);rw[Lai]at hfl;refine .sr (.lss J J J J J (.na (.seq ?_)));first
  |refine Sat.condP rfl (fun hc0=>?_) (fun hc0=>?_)
  |refine Sat.condNP rfl (fun hc0=>?_) (fun hc0=>?_)
  |refine Sat.cond rfl (fun hc0=>?_) (fun hc0=>?_)
 ·
  have hk2:k<s.n:=by omega
  obtain⟨b,o,hbp,hbs⟩:=hW.1.see.at (by rw[A0 hrow];omega);obtain⟨kk,hkk⟩:∃kk,kk=ls.getD k []:=⟨_,rfl⟩;have h32k:kk.length=32:=by rw[hkk];exact B6 hrow oM
  refine .skip (Bi (.seq (.block (.sr (.idxSlP 32 J J J hbp J Y32.h Sz31 k J oM (.loadEN (Aa kk) J J J Y31.h J Sz31 sP (by rw[Aa,La0];exact h32k) (by rw[hkk];exact Bt hrow hbs oM) ?_))))));refine .alloc (cs:=(Aa (List.replicate 32 0))) J Cf J ?_;intro n7 hn7 hf7;first
   |refine Tr.sA rfl rfl rfl rfl (by first|exact Am _|exact A1 _|simp[isCell]) Sz31 (by first|(simp[h32k];done)|assumption|(rw[Aa,La0];assumption)) mM (by first|(simp[h32k];done)|assumption|(rw[Aa,La0];assumption)) uU ?_
   |refine Tr.storeN _ rfl rfl rfl rfl rfl (by first|exact Am _|exact A1 _|simp[isCell]) Sz31 (by first|(simp[h32k];done)|assumption|(rw[Aa,La0];assumption)) mM (by first|(simp[h32k];done)|assumption|(rw[Aa,La0];assumption)) (by exact rfl) uU ?_
  refine .nsr (.m J J J ?_);first
   |refine Tr.lA rfl rfl rfl Y31.h rfl Sz31 mM (by first|(simp[h32k];done)|assumption|(rw[Aa,La0];assumption)) ?_
   |refine Tr.lN _ rfl rfl rfl Y31.h rfl Sz31 mM (by exact rfl) (by first|(simp[h32k];done)|assumption|(rw[Aa,La0];assumption)) ?_
  refine .callCV J J J J J Body108 (want_out2 kk h32k qa qb ma mb fa fb) (fun w h=>⟨h.keeps.cell sP hW.2.1,h.keeps.cell sP hW.2.2.1,mblk_keep hW.2.2.2.1 h,mblk_keep hW.2.2.2.2 h⟩) (.na ?_);first
   |refine Sat.condP rfl (fun hc1=>?_) (fun hc1=>?_)
   |refine Sat.condNP rfl (fun hc1=>?_) (fun hc1=>?_)
   |refine Sat.cond rfl (fun hc1=>?_) (fun hc1=>?_)
  ·
   refine .region (.m J J J ?_);first
    |refine Tr.lA rfl rfl rfl Y31.h rfl Sz31 mM (by first|(simp[h32k];done)|assumption|(rw[Aa,La0];assumption)) ?_
    |refine Tr.lN _ rfl rfl rfl Y31.h rfl Sz31 mM (by exact rfl) (by first|(simp[h32k];done)|assumption|(rw[Aa,La0];assumption)) ?_
   refine .mkRow2 (z:=agg (Aa (List.replicate 32 0))) [agg (Aa kk)] (Aa kk) J J Y32.h Sz31 Cf J J (by intro v hv;rw[La1.1 hv];simp[Value.cells,agg,Aa,h32k]) dE (by simp[Value.cells,agg]) ?_;intro q19;refine .appendAcc (n:=((ls.take k).filter (fun n=>(Ap fa n).isNone&&(Ap fb n).isNone)).length) (z:=agg (Aa (List.replicate 32 0))) (by':=32) (Aa kk) J J J J J Y32.h Y32.h Sz31 Cf (by unfold By;kernel_rfl) J hac5 sG (fun w h=>SeesP.of (Aq h mM)) (fun e=>by cases e) (Am _) oM oM (by rw[Aa,La0,h32k]) ?_;intro s20 bl20 hac20;refine .a J J J (.nil (bl_n (Bi (.region (.aI J J J J oM (.m J J J (.na ?_)))))));exact⟨(k+1,s20,bl20),⟨by simp only;omega,by simp only;rw[filter_take oM,←hkk,if_pos (by first|exact hc1|simpa using hc1),Cl,La3,show As [kk]=Aa kk by simp[As]];exact hac20⟩,by simp only;omega,Al wN (Ad sG Af)⟩
  refine .skip (bl_n (Bi (.region (.aI J J J J oM (.m J J J (.na ?_))))));exact⟨(k+1,s5,bl5),⟨by simp only;omega,by simp only;rw[filter_take oM,←hkk,if_neg (by first|exact hc1|(intro h9;simp_all;done)|simpa using hc1)];exact hac5⟩,by simp only;omega,Al wN (Ad sG Af)⟩
 have hke:k=s.n:=by omega
 refine .exit (at_x (at_x (bl_h (Bi (.sr (.m J J J (.a J J J (.na ?_))))))));refine .ret (en_r (Ax (out:=(bl5++[])) (Ai J J) (Ad sG Af) ?_));rw[La4 oM]at hac5;exact⟨s5,rfl,by simpa using hac5⟩
theorem filter_out1(s:Sl)(ls:List (List UInt8))(qa qb ma:Nat)(fa:List (List UInt8×Unit))(hbig:ls.length≤1000000):Meets prog 72 [s.v, .func (.func 108) #[] #[ptr qa 0,ptr qb 0]] [] (fun W=>RowsAt W s 32 ls∧W.cell? ⟨qa,0,none⟩=some (.map (some ma))∧W.cell? ⟨qb,0,none⟩=some (.map none)∧BlkOk W (A2 ma (An 32 evU) fa)) (RowA (ls.filter (fun n=>(Ap fa n).isNone))):=by
 intro W hW;have h32k:True:=trivial;have hlen:=hW.1.len;have hrow:=hW.1.row;have hmax:=hW.1.max;simp only[maxLen]at hmax;have hln:ls.length≤1000000:=hbig;refine Ac func72 J 23 ntmps72 J (.sr (.a J J J (.nsr (.a J J J (.na (.seq (.sr (.m J J J (.lenSl J J J Y32.h (.m J J J (.na (.block (.loop (ι:=Nat×Sl×List Blk) (fun r=>⟨[(1, .func (.func 108) #[] #[ptr qa 0,ptr qb 0]),(5,r.2.1.v),(8,s.v),(9,i64 (s.n:Int)),(10,i64 (r.1:Int))],(r.2.2++[])⟩) (fun r=>r.1≤s.n∧Hw.Acc r.2.1 r.2.2 (As ((ls.take r.1).filter (fun n=>(Ap fa n).isNone))) 31 ((ls.take r.1).filter (fun n=>(Ap fa n).isNone)).length 32) (fun r=>s.n-r.1) ((0,Sl.nil,[])) ?_ ?_ ?_)))))))))))))
 ·exact⟨Lan _,Acc.none⟩
 ·exact Al wN (Ad sG Af)
 rintro⟨k,s5,bl5⟩ ⟨hk,hac5⟩;simp only at hk hac5 ⊢;have hfl:=Lc2 (fun n=>(Ap fa n).isNone) (ls.take k);rw[Lai]at hfl;refine .sr (.lss J J J J J (.na (.seq ?_)));first
  |refine Sat.condP rfl (fun hc0=>?_) (fun hc0=>?_)
  |refine Sat.condNP rfl (fun hc0=>?_) (fun hc0=>?_)
  |refine Sat.cond rfl (fun hc0=>?_) (fun hc0=>?_)
 ·
  have hk2:k<s.n:=by omega
  obtain⟨b,o,hbp,hbs⟩:=hW.1.see.at (by rw[A0 hrow];omega);obtain⟨kk,hkk⟩:∃kk,kk=ls.getD k []:=⟨_,rfl⟩;have h32k:kk.length=32:=by rw[hkk];exact B6 hrow oM
  refine .skip (Bi (.seq (.block (.sr (.idxSlP 32 J J J hbp J Y32.h Sz31 k J oM (.loadEN (Aa kk) J J J Y31.h J Sz31 sP (by rw[Aa,La0];exact h32k) (by rw[hkk];exact Bt hrow hbs oM) ?_))))));refine .alloc (cs:=(Aa (List.replicate 32 0))) J Cf J ?_;intro n7 hn7 hf7;first
   |refine Tr.sA rfl rfl rfl rfl (by first|exact Am _|exact A1 _|simp[isCell]) Sz31 (by first|(simp[h32k];done)|assumption|(rw[Aa,La0];assumption)) mM (by first|(simp[h32k];done)|assumption|(rw[Aa,La0];assumption)) uU ?_
   |refine Tr.storeN _ rfl rfl rfl rfl rfl (by first|exact Am _|exact A1 _|simp[isCell]) Sz31 (by first|(simp[h32k];done)|assumption|(rw[Aa,La0];assumption)) mM (by first|(simp[h32k];done)|assumption|(rw[Aa,La0];assumption)) (by exact rfl) uU ?_
  refine .nsr (.m J J J ?_);first
   |refine Tr.lA rfl rfl rfl Y31.h rfl Sz31 mM (by first|(simp[h32k];done)|assumption|(rw[Aa,La0];assumption)) ?_
   |refine Tr.lN _ rfl rfl rfl Y31.h rfl Sz31 mM (by exact rfl) (by first|(simp[h32k];done)|assumption|(rw[Aa,La0];assumption)) ?_
  refine .callCV J J J J J Body108 (want_out1 kk h32k qa qb ma fa) (fun w h=>⟨h.keeps.cell sP hW.2.1,h.keeps.cell sP hW.2.2.1,mblk_keep hW.2.2.2 h⟩) (.na ?_);first
   |refine Sat.condP rfl (fun hc1=>?_) (fun hc1=>?_)
   |refine Sat.condNP rfl (fun hc1=>?_) (fun hc1=>?_)
   |refine Sat.cond rfl (fun hc1=>?_) (fun hc1=>?_)
  ·
   refine .region (.m J J J ?_);first
    |refine Tr.lA rfl rfl rfl Y31.h rfl Sz31 mM (by first|(simp[h32k];done)|assumption|(rw[Aa,La0];assumption)) ?_
    |refine Tr.lN _ rfl rfl rfl Y31.h rfl Sz31 mM (by exact rfl) (by first|(simp[h32k];done)|assumption|(rw[Aa,La0];assumption)) ?_
   refine .mkRow2 (z:=agg (Aa (List.replicate 32 0))) [agg (Aa kk)] (Aa kk) J J Y32.h Sz31 Cf J J (by intro v hv;rw[La1.1 hv];simp[Value.cells,agg,Aa,h32k]) dE (by simp[Value.cells,agg]) ?_;intro q19;refine .appendAcc (n:=((ls.take k).filter (fun n=>(Ap fa n).isNone)).length) (z:=agg (Aa (List.replicate 32 0))) (by':=32) (Aa kk) J J J J J Y32.h Y32.h Sz31 Cf (by unfold By;kernel_rfl) J hac5 sG (fun w h=>SeesP.of (Aq h mM)) (fun e=>by cases e) (Am _) oM oM (by rw[Aa,La0,h32k]) ?_;intro s20 bl20 hac20;refine .a J J J (.nil (bl_n (Bi (.region (.aI J J J J oM (.m J J J (.na ?_)))))));exact⟨(k+1,s20,bl20),⟨by simp only;omega,by simp only;rw[filter_take oM,←hkk,if_pos (by first|exact hc1|simpa using hc1),Cl,La3,show As [kk]=Aa kk by simp[As]];exact hac20⟩,by simp only;omega,Al wN (Ad sG Af)⟩
  refine .skip (bl_n (Bi (.region (.aI J J J J oM (.m J J J (.na ?_))))));exact⟨(k+1,s5,bl5),⟨by simp only;omega,by simp only;rw[filter_take oM,←hkk,if_neg (by first|exact hc1|(intro h9;simp_all;done)|simpa using hc1)];exact hac5⟩,by simp only;omega,Al wN (Ad sG Af)⟩
 have hke:k=s.n:=by omega
 refine .exit (at_x (at_x (bl_h (Bi (.sr (.m J J J (.a J J J (.na ?_))))))));refine .ret (en_r (Ax (out:=(bl5++[])) (Ai J J) (Ad sG Af) ?_));rw[La4 oM]at hac5;exact⟨s5,rfl,by simpa using hac5⟩
def leD(X:PD)(a b:List UInt8):Bool:=decide (X.dp a<X.dp b)||(decide (X.dp a=X.dp b)&&decide (cmpB a b≤0))
theorem leD_iff{a b:List UInt8}:leD X a b=true↔LeD X a b:=by unfold leD LeD;simp
def isortD(X:PD)(l:List (List UInt8)):List (List UInt8):=l.mergeSort (leD X)
theorem isortD_perm(X:PD)(l:List (List UInt8)):(isortD X l).Perm l:=List.mergeSort_perm l _
theorem isortD_sort(X:PD)(l:List (List UInt8)):SortD X (isortD X l):=by
  have h:=List.pairwise_mergeSort (le:=leD X) (fun a b c h1 h2=>by
    rw[leD_iff]at*;have:=cmpB_trans a b c;unfold LeD at*;omega) (fun a b=>by
    rw[Lbz,leD_iff,leD_iff];have:=cmpB_neg a b;unfold LeD;omega) l
  exact h.imp fun h=>leD_iff.1 h
theorem isortD_eq{a l:List (List UInt8)}(hp:a.Perm l)(hs:SortD X a):a=isortD X l:=sortD_unique (hp.trans (isortD_perm X l).symm) hs (isortD_sort X l)
theorem lent_pre{C:Cx}{hp bl keep L:List Blk}{w:World}(h:HRep C hp w)(hp1:hp.Perm (bl++keep))(hL:∀b∈L,b∈keep):Lent bl w∧Lies L w∧∀b∈L,∀b2∈bl,b.n≠b2.n:=by
  have h1:=h.perm hp1;refine⟨Lent.of h hp1,fun b hb=>h1.cells b (Lb1 _ (hL b hb)),fun b hb b2 hb2 e=>?_⟩;have h2:=h1.nodup;rw[Lak,Lb5]at h2;exact h2.2.2 _ (La7.2 ⟨b2,hb2,rfl⟩) _ (La7.2 ⟨b,hL b hb,rfl⟩) e.symm
theorem setP_len:∀(l:List (List UInt8)) (fs:List (List UInt8×Unit)),(l.foldl (fun fs n=>Bd fs n ()) fs).length≤fs.length+l.length∧((l.foldl (fun fs n=>Bd fs n ()) fs).length=fs.length+l.length↔l.Nodup∧∀n∈l,n∉fs.map (·.1))
  | [],fs=>⟨Lab _,⟨fun _=>⟨Lcs,fun n hn=>by cases hn⟩,fun _=>rfl⟩⟩
  | a ::l,fs=>by
    obtain⟨h1,h2⟩:=setP_len l (Bd fs a ());rw[Lcx,Lb3,Law];cases hm:Ap fs a with
    | none=>
      have hl:(Bd fs a ()).length=fs.length+1:=by rw[mput_app hm];simp
      have hk:=keysP_put hm;refine⟨by omega,⟨fun h=>?_,fun h=>?_⟩⟩
      · obtain⟨h3,h4⟩:=h2.1 oM
        refine⟨⟨fun ha=>h4 a ha (by rw[hk];exact Lb1 _ La8),h3⟩,fun n hn=>?_⟩;rcases Laf.1 hn with rfl|hn
        ·exact not_key hm
        ·exact fun hf=>h4 n hn (by rw[hk];exact Lar _ hf)
      · have h5:=h2.2 ⟨h.1.2,fun n hn hf=>by
          rw[hk]at hf;rcases Lad.1 hf with h6|h6
          ·exact h.2 n (Lac _ hn) h6
          ·rw[La1.1 h6]at hn;exact h.1.1 hn⟩
        omega
    | some u=>
      have ha:a∈fs.map (·.1):=La7.2 ⟨(a,u),Bm hm,rfl⟩;have hl:(Bd fs a ()).length=fs.length:=by
        unfold Bd;cases hi:midx fs a with
        | none=>
          exfalso;unfold midx at hi;rw[Ldf]at hi;have h9:=hi _ (Bm hm);simp at h9
        |some j=>simp only[Lbj]
      exact⟨by omega,⟨fun h=>by omega,fun h=>absurd ha (h.2 a La8)⟩⟩
theorem setP_full(ls:List (List UInt8)):(setP ls).length=ls.length↔ls.Nodup:=by
  have h:=(setP_len ls []).2;rw[Leh,Lb4]at h;exact⟨fun h1=>(h.1 h1).1,fun h1=>h.2 ⟨h1,fun n _ hn=>by cases hn⟩⟩
def SortR(X:PD)(ls:List (List UInt8))(v:Value)(out:List Blk):Prop:=
  ((∃n∈ls,X.has n=false)∧v= .tuple #[.slice none 0 0,i64 6]∧out=[])
  ∨ (∀n∈ls,X.has n=true)∧(¬ls.Nodup∧v= .tuple #[.slice none 0 0,i64 2]∧out=[]
    ∨ls.Nodup∧∃s:Sl,v= .tuple #[s.v,i64 0]∧Hw.Acc s out (As (isortD X ls)) 31 ls.length 32)
theorem lin_sort(x:DD)(hx:x.ok)(hI:x.pl.Inv)(hO:x.pl.Ord)(p:Nat)(s:Sl)(ls:List (List UInt8))(hls:ls.length≤90000):Meets prog 110 [ptr p 0,s.v] [] (fun W=>Lies (x.blks p) W∧RowsAt W s 32 ls) (SortR x.pl ls):=by
 intro W hW;have h32k:True:=trivial;obtain⟨hlies,hrh⟩:=id hW;have hck:∀q∈x.P,q.2.check=0:=hI.ck;have h16:∀q∈x.P,q.2.ls.length≤16:=fun q hq=>(ck_small (hck q hq)).1;have hlen:=hrh.len;have hrow:=hrh.row;refine Ac func110 J 35 ntmps110 J (G10 ?_);refine .cV J J J J Body148 (lin_none x hx h16 p) (fun w h=>Bg hlies h) (G2 ?_);refine .cond_f J J (G11 ?_);refine .loop (ι:=Nat) (fun k=>⟨[(0,ptr p 0),(1,s.v),(4, .slice none 0 0),(5,i64 0),(10,s.v),(11,i64 (s.n:Int)),(12,i64 (k:Int))],[]⟩) (fun k=>k≤s.n∧∀j,j<k→x.pl.has (ls.getD j [])=true) (fun k=>s.n-k) (0) ?_ ?_ ?_
 ·exact⟨Lan _,fun j hj=>absurd hj (Nat.not_lt_zero _)⟩
 ·exact Al wN Af
 rintro k ⟨hk,hg⟩;refine G6 ?_;refine .condP J (fun hc1=>?_) (fun hc1=>?_)
 ·
  have hk2:k<s.n:=by omega
  obtain⟨b,o,hbp,hbs⟩:=hrh.see.at (by rw[A0 hrow];omega);have h32k:(ls.getD k []).length=32:=B6 hrow oM;refine G6 ?_;refine .idxSlP 32 J J J hbp J Y32.h Sz31 k J oM (.loadEN (Aa (ls.getD k [])) J J J Y31.h J Sz31 sP (by rw[Aa,La0];exact h32k) (Bt hrow hbs oM) ?_);refine .alloc (cs:=(Aa (List.replicate 32 0))) J Cf J ?_;intro n7 hn7 hf7;refine .sA J J J J zE Sz31 (by(rw[Aa,La0];assumption)) Z0 sP zU ?_;refine G5 ?_;refine .lA J J J Y31.h J Sz31 Z0 (by(rw[Aa,La0];assumption)) ?_;refine .cV J J J J Body66 (dag_hasP x hx p (ls.getD k []) h32k) (fun w h=>Bg hlies h) (G3 ?_);refine .cond J (fun hc2=>?_) (fun hc2=>?_)
  ·
   refine G6 ?_;refine G7 ?_;refine Ax (out:=[]) (Cq J J J) Af ?_;exact .inl ⟨⟨_,getD_mem2 (show k<ls.length by omega),by simpa using hc2⟩,rfl,rfl⟩
  refine G8 ?_;exact⟨k+1,⟨by omega,fun j hj=>by rcases Ldo.1 hj with h|rfl;exact hg j h;simpa using hc2⟩,by omega,Al (wk1 rfl (wk1 rfl (wk1 rfl (wk1 rfl (wk1 rfl (wk1 rfl (wk1 (by rw[Lc6];rfl) wk0))))))) Af⟩
 obtain rfl:k=s.n:=by omega
 have hall:∀n∈ls,x.pl.has n=true:=fun n hn=>by
  obtain⟨j,hj,e⟩:=Lcq hn;have h9:=hg j oM;rw[La2,La6 hj]at h9;rw[←e];exact h9
 refine G9 ?_;refine .call4 J J J J J Body149 (lin_set s ls) (fun w h=>Cm h J hrh) ?_;rintro v22 out22 ⟨m22,rfl,rfl⟩;refine .lenMap underlying178 J J J Z0 ?_;refine G5 ?_;refine .condNP J (fun hc3=>?_) (fun hc3=>?_)
 ·
  have hnd:¬ls.Nodup:=fun h9=>by have h8:=(setP_full ls).2 h9;omega
  refine G6 ?_;refine G3 ?_;refine Ax (out:=[]) (Cq J J J) Af ?_;exact .inr ⟨hall, .inl ⟨hnd,rfl,rfl⟩⟩
 have hnd:ls.Nodup:=(setP_full ls).1 oM;refine G5 ?_;refine .call4 J J J J J Body53 (cl_digs s ls oM) (fun w h=>Cm h J hrh) ?_;rintro v28 out28 ⟨s28,rfl,hac28⟩;rw[←hlen]at hac28;refine G8 ?_;refine .call4 J J J J J Body151 (lin_depths x hx hI hO p s28 ls) (fun w h=>⟨Bg hlies h,acc_rows hac28 (Lies.of h (by repeat(exact Cy))) hrow J oM⟩) ?_;rintro v32 out32 ⟨aD,bD,cD,mD,fsD,ksD,⟨rfl,rfl,hfsD⟩,hksD⟩;have hdep:∀n∈ls,Ap fsD n=some (x.pl.dp n):=fun n hn=>hfsD.all n (hksD n hn (has_names hI (hall n hn)));simp only[Lae,Lah,La9];refine .callL (L:=out28) J J J J J Body150 (lin_order x.pl s28 out28 ls hrow oM hac28 aD bD cD mD fsD hdep) sG (Cw J) (fun w h=>by have h9:=lent_pre (bl:=out28) (L:=[⟨aD,[.map (some mD)],58,1⟩,A2 mD (An 32 evI) fsD]) h sG (by intro b hb;simp only[Laf,Laz,or_false]at hb;rcases hb with rfl|rfl;exact Z2;exact Z0);exact h9) ?_;rintro v33 out33 ⟨rfl,ks2,hp2,hs2,hac33⟩;refine G9 ?_;refine G2 ?_;refine Ax (out:=(out33++[])) (Cq J J J) (Ad sG Af) ?_;exact .inr ⟨hall, .inr ⟨hnd,s28,rfl,by rw[←isortD_eq hp2 hs2];simpa using hac33⟩⟩
noncomputable def gvL(X:PD)(ws hs:List (List UInt8)):List (List UInt8):=isortD X (X.names.filter fun n=>rB X (-1) (ws.filter fun n=>X.has n) n&& !rB X (-1) (hs.filter fun n=>X.has n) n)
theorem setP_mem(ls:List (List UInt8))(n:List UInt8):n∈(setP ls).map (·.1)↔n∈ls:=by
  refine⟨?_,fun h=>(setP_keys ls).2 n h⟩;have key:∀(l:List (List UInt8)) (fs:List (List UInt8×Unit)),n∈(l.foldl (fun fs n=>Bd fs n ()) fs).map (·.1)→n∈l∨n∈fs.map (·.1):=by
    intro l
    induction l with
    |nil=>intro fs h;exact .inr h
    | cons a l ih=>
      intro fs h;rcases ih _ h with h1|h1
      ·exact .inl (Lac _ h1)
      · obtain⟨p,hp,rfl⟩:=La7.1 h1
        rcases mput_mem hp with h2|rfl
        ·exact .inr (La7.2 ⟨p,h2,rfl⟩)
        ·exact .inl La8
  intro h;rcases key ls [] h with h1|h1
  ·exact h1
  ·cases h1
theorem setP_none(ls:List (List UInt8))(n:List UInt8):(Ap (setP ls) n).isNone=decide (n∉ls):=by
  cases h:Ap (setP ls) n with
  | none=>
    have h1:n∉ls:=fun hn=>not_key h ((setP_mem ls n).2 hn);simp[h1]
  | some u=>
    have h1:n∈ls:=(setP_mem ls n).1 (La7.2 ⟨(n,u),Bm h,rfl⟩);simp[h1]
theorem gv_perm(hI:X.Inv){ws hs al th:List (List UInt8)}(hnd:al.Nodup)(ha:∀n,n∈al↔X.Reach (-1) (ws.filter fun n=>X.has n) n)(ht:∀n,n∈th↔X.Reach (-1) (hs.filter fun n=>X.has n) n):
    isortD X (al.filter fun n=>(Ap (setP th) n).isNone)=gvL X ws hs:=by
  refine isortD_eq ((isortD_perm X _).trans ?_) (isortD_sort X _);refine(Lf8 (hnd.filter _) ((hI.nn▸hI.nd:X.names.Nodup).filter _)).2 fun n=>?_;rw[Lax,Lax,setP_none,Lal,rB_iff,Lcf,←Bool.not_eq_true,rB_iff,ha,decide_eq_true_iff,ht,names_mem hI];exact⟨fun h=>⟨reach_P h.1,h⟩,fun h=>h.2⟩
theorem gv_has(hI:X.Inv):∀n∈gvL X ws hs,X.has n=true:=fun n hn=>by
  obtain⟨D,hD⟩:=(names_mem hI n).1 (Lax.1 ((isortD_perm X _).mem_iff.1 hn)).1;unfold PD.has;rw[hD];rfl
theorem want_none(x:DD)(hx:x.ok)(hI:x.pl.Inv)(p:Nat):Mv 70 [ptr p 0] (fun W=>Lies (x.blks p) W) (.bool false):=by
 intro W hW;have hck:∀q∈x.P,q.2.check=0:=hI.ck;refine Ac func70 J 13 ntmps70 J (.sr (.a J J J (.nsr (.m J J J (.build (cs:=Aa (List.replicate 32 0)) J J J (fun w=>by kernel_rfl) ?_)))));refine .call4 J J J J J Body13 (dag_get x hx hck p (List.replicate 32 0) J) (fun w h=>Bg hW h) ?_;rintro v8 out8 (⟨_,rfl,rfl⟩|⟨D,B,hD,hB,rfl,hbi⟩)
 ·
  skip;refine .m J J J (.eX J J J J (.eX J J J J (.alloc (cs:=Block.zero.cells) J Block.zr J ?_)));intro n3 hn3 hf3;refine .sA J J J J (Block.isCell (by first|exact hB.ok|exact Block.zero_ok|exact oK|exact secrets.zero_ok|exact far.zero_ok|exact Rdr.zero_ok|exact DEnt.zero_ok|exact DPl.zero_ok )) Sz37 (Block.length (by first|exact hB.ok|exact Block.zero_ok|exact oK|exact secrets.zero_ok|exact far.zero_ok|exact Rdr.zero_ok|exact DEnt.zero_ok|exact DPl.zero_ok )) mM (Block.length (by first|exact hB.ok|exact Block.zero_ok|exact oK|exact secrets.zero_ok|exact far.zero_ok|exact Rdr.zero_ok|exact DEnt.zero_ok|exact DPl.zero_ok )) uU ?_;refine .a J J J (.nsr (.m J J J (.eqi J J J J (decide_eq_false dE) (.a J J J (.na ?_)))));refine .ret (en_r (Ax (out:=[]) (Ai J J) Af ?_));exact⟨rfl,rfl⟩
 skip;refine .m J J J (.eX J J J J (.eX J J J J (.alloc (cs:=Block.zero.cells) J Block.zr J ?_)));intro n3 hn3 hf3;refine .sA J J J J (Block.isCell (by first|exact hB.ok|exact Block.zero_ok|exact oK|exact secrets.zero_ok|exact far.zero_ok|exact Rdr.zero_ok|exact DEnt.zero_ok|exact DPl.zero_ok )) Sz37 (Block.length (by first|exact hB.ok|exact Block.zero_ok|exact oK|exact secrets.zero_ok|exact far.zero_ok|exact Rdr.zero_ok|exact DEnt.zero_ok|exact DPl.zero_ok )) mM (Block.length (by first|exact hB.ok|exact Block.zero_ok|exact oK|exact secrets.zero_ok|exact far.zero_ok|exact Rdr.zero_ok|exact DEnt.zero_ok|exact DPl.zero_ok )) uU ?_;refine .a J J J (.nsr (.m J J J (.eqi J J J J (decide_eq_false dE) (.a J J J (.na ?_)))));refine .ret (en_r (Ax (out:=[]) (Ai J J) Af ?_));exact⟨rfl,rfl⟩
theorem compact_short(s:Sl)(h1:s.n<2):Mv 107 [s.v] (fun _=>True) s.v:=by
 intro W hW;refine Ac func107 J 61 ntmps107 J (.sr (.a J J J (.na (.seq (.sr (.m J J J (.lenSl J J J Y32.h (.lss J J J J (decide_eq_true oM) (.na (.cond_t J J (.sr (.m J J J (.a J J J (.na ?_))))))))))))));refine .ret (at_r (en_r ?_));refine⟨_,[],Ai J J,sP,sP,?_,rfl⟩;rfl
theorem take_drop_flat(L:List (List UInt8))(i:Nat):As L=As (L.take i)++As (L.drop i):=by rw[←Cl,Lcp]
theorem flat_take_len(h32:∀l∈L,l.length=32)(hi:i≤L.length):(As (L.take i)).length=i*32:=by rw[A0 (fun l hl=>h32 l (Ld8 hl)),Lai,Lco hi]
theorem upd_set:∀ {L:List (List UInt8)} {i:Nat} {v:List UInt8},(∀l∈L,l.length=32)→v.length=32→i<L.length→upd (As L) (0+i*32) (Aa v)=As (L.set i v):=fun {L i v} h hv hi=>by
  have e1:L=L.take i++L[i]::L.drop (i+1):=by rw[←Lc3 hi,Lcp]
  have e2:L.set i v=L.take i++v::L.drop (i+1):=by rw[Le3,if_pos hi]
  have l1:(As (L.take i)).length=i*32:=flat_take_len h oM;have l2:(Aa L[i]).length=32:=by rw[Aa,La0];exact h _ (Lca hi)
  have l3:(Aa v).length=32:=by rw[Aa,La0];exact hv
  have f:∀(a:List (List UInt8)) (b:List UInt8) (d:List (List UInt8)),As (a++b::d)=As a++(Aa b++As d):=fun a b d=>by simp[As]
  have e3:As L=As (L.take i)++(Aa L[i]++As (L.drop (i+1))):=by rw[←f,←e1]
  rw[e2,f,e3,Lb4,←l1,upd];rw[List.take_left,l3,←List.drop_drop,List.drop_left,←l2,List.drop_left,La9]
theorem getD_at(h:i<l.length):l.getD i []=l[i]:=by rw[La2,La6 h];rfl
def onceL(l:List (List UInt8)):List (List UInt8):=isort (ddp l)
theorem once_mem:n∈onceL l↔n∈l:=by unfold onceL;rw[(isort_perm _).mem_iff,mem_ddp]
theorem once_nd(l:List (List UInt8)):(onceL l).Nodup:=(isort_perm _).nodup_iff.2 (ddp_nodup l)
theorem once_sort(l:List (List UInt8)):SortB (onceL l):=isort_sort _
theorem once_eq{k l:List (List UInt8)}(hs:SortB k)(hnd:k.Nodup)(hm:∀n,n∈k↔n∈l):k=onceL l:=
  isort_eq ((Lf8 hnd (ddp_nodup l)).2 fun n=>by rw[mem_ddp,hm]) hs
theorem once_self{k:List (List UInt8)}(hs:SortB k)(hnd:k.Nodup):onceL k=k:=(once_eq hs hnd fun _=>Iff.rfl).symm
theorem ddp_len:∀l:List (List UInt8),(ddp l).length≤l.length
  | []=>Lab _
  | b::l=>by
    have:=ddp_len l;show(if b∈ddp l then ddp l else b::ddp l).length≤_;split
    ·rw[Lb3];omega
    ·rw[Lb3,Lb3];omega
theorem once_len(l:List (List UInt8)):(onceL l).length≤l.length:=by unfold onceL;rw[(isort_perm _).length_eq];exact ddp_len l
noncomputable def askF(X:PD)(hs:List (List UInt8)):List (List UInt8):=onceL (hs.filter fun n=> !X.has n&&decide (n∉X.orphans))
noncomputable def askR(X:PD)(hs:List (List UInt8)):List (List UInt8):=X.missing.filter fun n=>decide (n∉askF X hs)
noncomputable def askL(X:PD)(hs:List (List UInt8)):List (List UInt8):=(askF X hs++askR X hs).take 32
theorem miss_lacks(h:n∈X.missing):X.lacks n=true:=by
  have h1:=(isort_perm _).mem_iff.1 h;rw[mem_ddp]at h1;exact(Lax.1 h1).2
theorem orp_mem:n∈X.orphans↔n∈X.orp.map (·.1):=(isort_perm _).mem_iff
theorem lacks_not(h:X.lacks n=true):X.has n=false∧n∉X.orphans:=by
  unfold PD.lacks at h;rw[Lal,Lcf,Lcf]at h;refine⟨h.2,fun hm=>?_⟩;obtain⟨v,hv⟩:=mget_of_key (orp_mem.1 hm);rw[hv]at h;exact absurd h.1 sP
theorem miss_nd(X:PD):X.missing.Nodup:=once_nd _
theorem miss_sort(X:PD):SortB X.missing:=once_sort _
theorem askF_mem:n∈askF X hs↔n∈hs∧X.has n=false∧n∉X.orphans:=by
  unfold askF;rw[once_mem,Lax,Lal,Lcf,decide_eq_true_iff]
theorem askR_mem:n∈askR X hs↔n∈X.missing∧n∉hs:=by
  unfold askR;rw[Lax,decide_eq_true_iff,askF_mem];refine⟨fun⟨h1,h2⟩=>⟨h1,fun h3=>h2 ⟨h3,lacks_not (miss_lacks h1)⟩⟩,fun⟨h1,h2⟩=>⟨h1,fun h3=>h2 h3.1⟩⟩
def cpF(L:List (List UInt8)):Nat→List (List UInt8)
  |0=>[]
  |i+1=>if i=0∨L.getD i []≠L.getD (i-1) []then cpF L i++[L.getD i []]else cpF L i
theorem take_snocD(h:i<L.length):L.take (i+1)=L.take i++[L.getD i []]:=by
  rw[getD_at h,Lam h]
theorem cp_yes(h:i=0∨L.getD i []≠L.getD (i-1) []):cpF L (i+1)=cpF L i++[L.getD i []]:=if_pos h
theorem cp_no(h0:0<i)(h:L.getD i []=L.getD (i-1) []):cpF L (i+1)=cpF L i:=if_neg fun h9=>by
  rcases h9 with h9|h9
  ·omega
  ·exact h9 h
theorem cp_mem{L:List (List UInt8)}{n:List UInt8}:∀i,i≤L.length→(n∈cpF L i↔n∈L.take i)
  |0,_=>by simp[cpF]
  | i +1,hi=>by
    have ih:=cp_mem (L:=L) (n:=n) i oM;rw[take_snocD (show i<L.length by omega),Lad,La1];by_cases h:i=0∨L.getD i []≠L.getD (i-1) []
    ·rw[cp_yes h,Lad,La1,ih]
    · have h0:0<i:=by omega
      have he:L.getD i []=L.getD (i-1) []:=Classical.byContradiction fun h9=>h (.inr h9);rw[cp_no h0 he,ih];refine⟨.inl,fun h9=>h9.elim id fun e=>?_⟩;rw[e,he,getD_at (show i-1<L.length by omega)];exact List.mem_iff_getElem.2 ⟨i-1,by rw[Lai];omega,List.getElem_take⟩
theorem cp_len{L:List (List UInt8)}:∀i,(cpF L i).length≤i
  |0=>Lab _
  | i+1=>by
    have ih:=cp_len (L:=L) i;rw[cpF];split
    ·rw[La3,Lav];omega
    ·omega
theorem cp_lt{L:List (List UInt8)}{k:Nat}(h0:0<k)(h:L.getD k []=L.getD (k-1) []):∀i,k<i→(cpF L i).length<i
  |0,hi=>by omega
  | i +1,hi=>by
    by_cases hk:k=i
    · subst hk
      have:=cp_len (L:=L) k;rw[cp_no h0 h];omega
    · have ih:=cp_lt h0 h i oM
      rw[cpF];split
      ·rw[La3,Lav];omega
      ·omega
theorem cp_all{L:List (List UInt8)}:∀k,k≤L.length→(∀j,1≤j→j<k→L.getD j []≠L.getD (j-1) [])→cpF L k=L.take k
  |0,_,_=>by simp[cpF]
  | k+1,hk,h=>by
    have ih:=cp_all k oM fun j h1 h2=>h j h1 oM;rw[cp_yes (by by_cases h0:k=0;exact .inl h0;exact .inr (h k oM oM)),ih,take_snocD oM]
theorem cp_sort{L:List (List UInt8)}(hs:SortB L):∀i,i≤L.length→(cpF L i).Pairwise fun a b=>cmpB a b<0
  |0,_=>List.Pairwise.nil
  | i + 1,hi=>by
    have ih:=cp_sort hs i oM;by_cases h:i=0∨L.getD i []≠L.getD (i-1) []
    · rw[cp_yes h,List.pairwise_append]
      refine⟨ih,by simp,fun a ha b hb=>?_⟩;rw[La1.1 hb];have h1:=(cp_mem i oM).1 ha;obtain⟨j,hj,e⟩:=Lcq h1;rw[Lai]at hj;rw[List.getElem_take]at e;have hle:∀x y (hx:x≤y) (hy:y<L.length),cmpB (L.getD x []) (L.getD y [])≤0:=fun x y hx hy=>by
        rcases Lfn hx with h2|rfl
        ·rw[getD_at oM,getD_at hy];exact Le9.1 hs x y oM hy h2
        ·rw[(cmpB_zero _ _).2 rfl];exact Lgq 0
      have ej:a=L.getD j []:=by rw[getD_at oM,e]
      have h2:=hle j i oM oM;rw[ej];have h3:cmpB (L.getD j []) (L.getD i [])≠0:=fun hz=>by
        have e2:=(cmpB_zero _ _).1 hz;have h4:=hle j (i-1) oM oM;have h5:=hle (i-1) i oM oM;rw[e2]at h4;have h6:=cmpB_neg (L.getD (i-1) []) (L.getD i []);have h7:L.getD (i-1) []=L.getD i []:=(cmpB_zero _ _).1 oM;rcases h with h|h
        ·omega
        ·exact h h7.symm
      omega
    · have he:L.getD i []=L.getD (i-1) []:=Classical.byContradiction fun h9=>h (.inr h9)
      rw[cp_no oM he];exact ih
theorem cp_once(hs:SortB L):cpF L L.length=onceL L:=by
  have h:=cp_sort hs L.length (Lab _);refine once_eq (h.imp fun h=>Int.le_of_lt h) (h.imp fun {a b} h1 e=>?_) fun n=>?_
  ·subst e;rw[(cmpB_zero _ _).2 rfl]at h1;omega
  ·rw[cp_mem L.length (Lab _),Ld0]
theorem once_isort(l:List (List UInt8)):onceL (isort l)=onceL l:=once_eq (once_sort _) (once_nd _) fun n=>by rw[once_mem,(isort_perm l).mem_iff]
structure CptI(L R:List (List UInt8))(i:Nat):Prop where
  len:R.length=L.length
  pre:R.take (cpF L i).length=cpF L i
  post:∀j,i-1≤j→R.getD j []=L.getD j []
theorem CptI.start(h0:0<k)(hk:k<L.length)(hall:cpF L k=L.take k)(h:L.getD k []=L.getD (k-1) []):CptI L L (k+1)∧(cpF L (k+1)).length=k:=by
  have e:cpF L (k+1)=L.take k:=by rw[cp_no h0 h,hall]
  have el:(cpF L (k+1)).length=k:=by rw[e,Lai];omega
  exact⟨⟨rfl,by rw[el,e],fun j _=>rfl⟩,el⟩
theorem getD_set{k j:Nat}(hk:k<R.length):(R.set k v).getD j []=if k=j then v else R.getD j []:=by
  rw[La2,La2,Lcl];split
  ·first|rfl|(rw[if_pos hk];rfl)
  ·rfl
theorem CptI.put(h:CptI L R i)(hi:i<L.length)(hlt:(cpF L i).length<i)(h2:L.getD i []≠L.getD (i-1) []):CptI L (R.set (cpF L i).length (R.getD i [])) (i+1) where
  len:=by rw[Lbj];exact h.len
  pre:=by
    have hl:=h.len;rw[cp_yes (.inr h2),La3,Lav,take_snocD (by rw[Lbj];omega),getD_set oM,if_pos rfl,h.post i oM,List.take_set_of_le (Lab _),h.pre]
  post:=fun j hj=>by
    have hl:=h.len;rw[getD_set oM,if_neg oM];exact h.post j oM
theorem CptI.skip(h:CptI L R i)(h0:0<i)(h2:L.getD i []=L.getD (i-1) []):CptI L R (i+1) where
  len:=h.len
  pre:=by rw[cp_no h0 h2];exact h.pre
  post:=fun j hj=>h.post j oM
theorem set_32(h:∀l∈L,l.length=32)(hv:v.length=32):∀l∈L.set k v,l.length=32:=fun l hl=>by
  rcases Lea hl with h1|rfl
  ·exact h l h1
  ·exact hv
theorem compact_digs(q n c:Nat)(L:List (List UInt8))(h32:∀l∈L,l.length=32)(hn:L.length=n)(hnc:n≤c)(h2:2≤n)(hbig:n≤1000000):Meets prog 107 [.slice (some ⟨q,0,none⟩) n c] [q] (fun W=>Lent [⟨q,As L,31,c*32⟩] W) (fun v out=>v= .slice (some ⟨q,0,none⟩) (cpF L n).length c∧out=[⟨q,As (cpF L n),31,c*32⟩]):=by
 intro W hW;have h32aa:True:=trivial;have h32bb:True:=trivial;have hcl:=cp_len (L:=L) n;refine calls_of (hp0:=[⟨q,As L,31,c*32⟩]) func107 J 61 ntmps107 J hW.rep (.sr (.a J J J (.na (.seq (.sr (.m J J J (.lenSl J J J Y32.h (.lss J J J J (decide_eq_false oM) (.na (.cond_f J J (.skip (Bi (.seq (.sr (.a J J J (.na (.block (.loop (ι:=Nat) (fun k=>⟨[(0, .slice (some ⟨q,0,none⟩) n c),(3,i64 (k:Int))],[⟨q,As L,31,c*32⟩]⟩) (fun k=>1≤k∧k≤n∧∀j,1≤j→j<k→L.getD j []≠L.getD (j-1) []) (fun k=>n-k) (1) ?_ ?_ ?_))))))))))))))))))
 ·exact⟨Lab 1,by omega,fun j h1 h2=>by omega⟩
 ·exact Al wN (Ab rM Af)
 rintro k ⟨hk1,hkn,hg⟩;refine .seq (.sr (.m J J J (.m J J J (.lenSl J J J Y32.h (.lss J J J J J (.na ?_))))));first
  |refine Sat.condP rfl (fun hc1=>?_) (fun hc1=>?_)
  |refine Sat.condNP rfl (fun hc1=>?_) (fun hc1=>?_)
  |refine Sat.cond rfl (fun hc1=>?_) (fun hc1=>?_)
 ·
  have hk2:k<n:=by omega
  obtain⟨aa,haa⟩:∃a,a=L.getD k []:=⟨_,rfl⟩;obtain⟨bb,hbb⟩:∃a,a=L.getD (k-1) []:=⟨_,rfl⟩;have h32aa:aa.length=32:=by rw[haa];exact h32 _ (getD_mem2 oM)
  have h32bb:bb.length=32:=by rw[hbb];exact h32 _ (getD_mem2 oM)
  refine .skip (Bi (.seq (.block (.seq (.draw (oPq [0,1,2,103,4,5,6,7,108,9]) Av zK (.m J J J (.m J J J (.idxSlP 32 J J J J J Y32.h Sz31 k J oM (.loadSN (n:=32) (Aa aa) J J J Y31.h J Sz31 (by rw[Aa,La0];exact h32aa) (fun w h=>by rw[haa];exact Bt h32 (Aq h mM) oM) ?_)))))))));refine .m J J J (.m J J J (.sub_i64 J J J J oM (.idxSlP 32 J J J J J Y32.h Sz31 (k-1) oM oM (.loadSN (n:=32) (Aa bb) J J J Y31.h J Sz31 (by rw[Aa,La0];exact h32bb) (fun w h=>by rw[hbb];exact Bt h32 (Aq h mM) oM) ?_))));refine .eql_bytes J J J J eqGuardType31 Y31.h Y5.h Sz5 (by first|(simp[h32aa,h32bb];done)|assumption|(rw[Aa,La0];assumption)) (by first|(simp[h32aa,h32bb];done)|assumption|(rw[Aa,La0];assumption)) J ?_;refine .na ?_;first
   |refine Sat.condP rfl (fun hc2=>?_) (fun hc2=>?_)
   |refine Sat.condNP rfl (fun hc2=>?_) (fun hc2=>?_)
   |refine Sat.cond rfl (fun hc2=>?_) (fun hc2=>?_)
  ·
   have heq:L.getD k []=L.getD (k-1) []:=by rw[←haa,←hbb];exact hc2
   have hst:=CptI.start (L:=L) oM oM (cp_all k oM hg) heq;clear h32aa h32bb;have h32aa:True:=trivial;have h32bb:True:=trivial;refine .sr (.m J J J (.m J J J (.sliceLoN k J J J J J oM hnc Y32.h Sz31 ?_)));rw[if_neg (show ¬c=k by omega)];refine .a J J J (.na (.seq (.sr (.a J J J (.na (.block (.loop (ι:=Nat×List (List UInt8)) (fun r=>⟨[(0, .slice (some ⟨q,0,none⟩) n c),(3,i64 ((cpF L (k+r.1)).length:Int)),(4, .slice (some ⟨q,0+k*32,none⟩) (n-k) (c-k)),(5,i64 (r.1:Int))],[⟨q,As r.2,31,c*32⟩]⟩) (fun r=>1≤r.1∧k+r.1≤n∧CptI L r.2 (k+r.1)∧∀l∈r.2,l.length=32) (fun r=>n-r.1) ((1,L)) ?_ ?_ ?_)))))))
   ·exact⟨Lab 1,by simp only;omega,hst.1,h32⟩
   ·exact Al (wk1 rfl (wk1 (congrArg (fun z:Nat=>some (i64 (z:Int))) hst.2.symm) wN)) (Ab rM Af)
   rintro⟨j,R⟩ ⟨hj1,hjn,hC,hR32⟩;simp only at hj1 hjn hC hR32 ⊢;have hRl:=hC.len;have hcj:=cp_lt (L:=L) oM heq (k+j) oM;refine .seq (.sr (.m J J J (.m J J J (.lenSl J J J Y32.h (.lss J J J J J (.na ?_))))));first
    |refine Sat.condP rfl (fun hc3=>?_) (fun hc3=>?_)
    |refine Sat.condNP rfl (fun hc3=>?_) (fun hc3=>?_)
    |refine Sat.cond rfl (fun hc3=>?_) (fun hc3=>?_)
   ·
    have hj2:k+j<n:=by omega
    obtain⟨aa,haa⟩:∃a,a=R.getD (k+j) []:=⟨_,rfl⟩;obtain⟨bb,hbb⟩:∃a,a=R.getD (k+j-1) []:=⟨_,rfl⟩;have h32aa:aa.length=32:=by rw[haa];exact hR32 _ (getD_mem2 oM)
    have h32bb:bb.length=32:=by rw[hbb];exact hR32 _ (getD_mem2 oM)
    have hpa:=hC.post (k+j) oM;have hpb:=hC.post (k+j-1) oM;refine .skip (Bi (.seq (.block (.seq (.draw (oPq [0,1,2,103,4,5,6,7,108,9]) Av zK (.m J J J (.m J J J (.idxSlP 32 J J J J J Y32.h Sz31 j J oM (.loadSN (n:=32) (Aa aa) J J J Y31.h J Sz31 (by rw[Aa,La0];exact h32aa) (fun w h=>by rw[haa,show 0+k*32+j*32=0+(k+j)*32 by omega];exact Bt hR32 (Aq h mM) oM) ?_)))))))));refine .m J J J (.m J J J (.sub_i64 J J J J oM (.idxSlP 32 J J J J J Y32.h Sz31 (j-1) oM oM (.loadSN (n:=32) (Aa bb) J J J Y31.h J Sz31 (by rw[Aa,La0];exact h32bb) (fun w h=>by rw[hbb,show 0+k*32+(j-1)*32=0+(k+j-1)*32 by omega];exact Bt hR32 (Aq h mM) oM) ?_))));refine .neq_bytes J J J J eqGuardType31 Y31.h Y5.h Sz5 (by first|(simp[h32aa,h32bb];done)|assumption|(rw[Aa,La0];assumption)) (by first|(simp[h32aa,h32bb];done)|assumption|(rw[Aa,La0];assumption)) J ?_;refine .na ?_;first
     |refine Sat.condP rfl (fun hc4=>?_) (fun hc4=>?_)
     |refine Sat.condNP rfl (fun hc4=>?_) (fun hc4=>?_)
     |refine Sat.cond rfl (fun hc4=>?_) (fun hc4=>?_)
    ·
     have hne:L.getD (k+j) []≠L.getD (k+j-1) []:=by rw[←hpa,←hpb,←haa,←hbb];exact hc4
     have hcn:(cpF L (k+(j+1))).length=(cpF L (k+j)).length+1:=by rw[←Lc7,cp_yes (.inr hne),La3];rfl
     refine .sr (.m J J J (.m J J J (.m J J J (.m J J J (.idxSlP 32 J J J J J Y32.h Sz31 j J oM (.loadSN (n:=32) (Aa aa) J J J Y31.h J Sz31 (by rw[Aa,La0];exact h32aa) (fun w h=>by rw[haa,show 0+k*32+j*32=0+(k+j)*32 by omega];exact Bt hR32 (Aq h mM) oM) ?_))))));refine .idxSlP 32 J J J J J Y32.h Sz31 (cpF L (k+j)).length J oM (.storeN (Aa aa) (cs':=As (R.set (cpF L (k+j)).length aa)) J J J J J (Am _) Sz31 (by rw[Aa,La0];exact h32aa) mM (by rw[A0 hR32,Aa,La0,h32aa];omega) (upd_set hR32 h32aa oM) uU ?_);refine .na (.region (.m J J J (.aI J J J J oM (.a J J J (.nil (bl_n (Bi (.region (.m J J J (.aI J J J J oM (.a J J J (.na ?_))))))))))));refine⟨(j+1,R.set (cpF L (k+j)).length aa),⟨by simp only;omega,by simp only;omega,?_,set_32 hR32 h32aa⟩,by simp only;omega,Al (wk1 J (wk1 (by show Hw.look _ _=some (i64 (((cpF L (k+(j+1))).length:Nat):Int));rw[hcn];first|rfl|(rw[Lc6];rfl)) wN)) (Ab rM Af)⟩;simp only;rw[show aa=R.getD (k+j) []from haa,←Lc7];exact hC.put oM hcj hne
    have heq2:L.getD (k+j) []=L.getD (k+j-1) []:=by rw[←hpa,←hpb,←haa,←hbb];simpa using hc4
    have hcn:(cpF L (k+(j+1))).length=(cpF L (k+j)).length:=by rw[←Lc7,cp_no oM heq2]
    refine .skip (bl_n (Bi (.region (.m J J J (.aI J J J J oM (.a J J J (.na ?_)))))));exact⟨(j+1,R),⟨by simp only;omega,by simp only;omega,hC.skip oM heq2,hR32⟩,by simp only;omega,Al (wk1 rfl (wk1 (by show Hw.look _ _=some (i64 (((cpF L (k+(j+1))).length:Nat):Int));rw[hcn];first|rfl|(rw[Lc6];rfl)) wN)) (Ab rM Af)⟩
   have hje:k+j=n:=by omega
   rw[hje]at hC hcj ⊢;refine .exit (at_x (at_x (bl_h (Bi (.seq ?_)))));rw[take_drop_flat R (cpF L n).length];refine .trunc (q:=q) rM ?_;refine .region (.m J J J (.m J J J (.sliceLoN (cpF L n).length J J J J J oM hnc Y32.h Sz31 ?_)));rw[if_neg (show ¬c=(cpF L n).length by omega)];refine .clearB (size:=32) (z:=agg (Aa (List.replicate 32 0))) J J J Y32.h Cf J dE rM (by rw[flat_take_len hR32 oM];omega) oM ?_;refine .nsr (.m J J J (.m J J J (.sliceHiA ⟨some ⟨q,0,none⟩,n,c⟩ (cpF L n).length J J J J J (by show(cpF L n).length≤c;omega) Y32.h Sz31 ?_)));dsimp only[Sl.v];refine .a J J J (.na ?_);refine .ret (bl_r (at_r (at_r (bl_r (at_r (en_r (Ax (out:=(⟨q,As (R.take (cpF L n).length),31,c*32⟩::[])) (Ai J J) (Ab rM Af) ?_)))))));rw[hC.pre];exact⟨rfl,rfl⟩
  refine .skip (bl_n (Bi (.region (.m J J J (.aI J J J J oM (.a J J J (.na ?_)))))));exact⟨k+1,⟨by omega,by omega,fun j h1 h2=>by rcases Ldo.1 h2 with h|rfl;exact hg j h1 h;rw[←haa,←hbb];exact hc2⟩,by omega,Al wN (Ab rM Af)⟩
 obtain rfl:k=n:=by omega
 have hall:=cp_all k oM hg;refine .exit (at_x (at_x (bl_h (Bi (.sr (.m J J J (.a J J J (.na ?_))))))));refine .ret (en_r (Ax (out:=(⟨q,As L,31,c*32⟩::[])) (Ai J J) (Ab rM Af) ?_));rw[hall,La4 oM,hn];exact⟨rfl,rfl⟩
theorem compact_acc(s:Sl)(bl:List Blk)(ks:List (List UInt8))(h32:∀l∈ks,l.length=32)(hbig:ks.length≤1000000)(hac:Hw.Acc s bl (As ks) 31 ks.length 32):
    Meets prog 107 [s.v] (bl.map (·.n)) (fun W=>Lent bl W) (fun v out=>∃s2:Sl,v=s2.v∧Hw.Acc s2 out (As (cpF ks ks.length)) 31 (cpF ks ks.length).length 32):=fun W h1=>by
  rcases hac with ⟨rfl,rfl,hz,hn⟩|⟨q,c,rfl,hnc,hfl,rfl⟩
  · obtain rfl:=Laj hn
    exact(compact_short Sl.nil (by show 0<2;omega) W trivial).mono fun e W' ⟨v,out,he,⟨hv,ho⟩,hr⟩=>⟨v,out,he,⟨Sl.nil,hv,by subst ho;exact Acc.none⟩,hr⟩
  · by_cases h0:ks.length<2
    · have e9:cpF ks ks.length=ks:=by
        rw[cp_all ks.length (Lab _) (fun j h1 h2=>by omega),Ld0]
      rw[e9];have hb:BlkOk W ⟨q,As ks,31,c*32⟩:=h1.1 _ (La1.2 rfl);refine(compact_short ⟨some ⟨q,0,none⟩,ks.length,c⟩ h0 W trivial).mono fun e W' ⟨v,out,he,⟨hv,ho⟩,hr⟩=>⟨v,[⟨q,As ks,31,c*32⟩],he,⟨⟨some ⟨q,0,none⟩,ks.length,c⟩,hv, .inr ⟨q,c,rfl,hnc,hfl,rfl⟩⟩,⟨hr.keeps.mono sP,fun b hb2=>?_,by simp,fun b hb2=>?_⟩⟩
      · rw[La1.1 hb2]
        exact hb.of_heap (hr.keeps.block q hb.lt sP)
      ·rw[La1.1 hb2];exact .inr sP
    · refine(compact_digs q ks.length c ks h32 rfl hnc oM hbig W h1).mono fun e W' ⟨v,out,he,⟨hv,ho⟩,hr⟩=>⟨v,out,he,⟨⟨some ⟨q,0,none⟩,(cpF ks ks.length).length,c⟩,hv,?_⟩,hr⟩
      have h9:=cp_len (L:=ks) ks.length;exact .inr ⟨q,c,rfl,by omega,A0 (fun l hl=>h32 l (by have:=(cp_mem ks.length (Lab _)).1 hl;rwa[Ld0]at this)),ho⟩
theorem once_32(h:∀k∈l,k.length=32):∀k∈onceL l,k.length=32:=fun k hk=>h k (once_mem.1 hk)
theorem reach_once{a:Int}{f:List UInt8→Bool}:X.Reach a ((onceL ws).filter f) n↔X.Reach a (ws.filter f) n:=
  ⟨reach_mono fun m hm=>by rw[Lax,once_mem]at hm;exact Lax.2 hm,reach_mono fun m hm=>by rw[Lax]at hm;exact Lax.2 ⟨once_mem.2 hm.1,hm.2⟩⟩
theorem orph_32(hx:x.ok):∀l∈x.pl.orphans,l.length=32:=fun l hl=>by
  have h1:=orp_mem.1 hl;rw[orp_keys]at h1;obtain⟨q,hq,rfl⟩:=La7.1 h1;exact(hx.orp q hq).1
theorem miss_32(hx:x.ok){p:Nat}(hl:Lies (x.blks p) W):∀l∈x.pl.missing,l.length=32:=fun l hm=>by
  have h1:=(isort_perm _).mem_iff.1 hm;rw[mem_ddp]at h1;obtain⟨m,hm2,h2⟩:=Lgu.1 (Lax.1 h1).1;obtain⟨q,hq,rfl⟩:=La7.1 hm2;obtain⟨q0,hq0,rfl⟩:=La7.1 (show q∈x.orp.map fun p=>(p.1,p.2.2)from hq);have h3:=(hx.orp q0 hq0).2.1.2 W (fun b hb=>hl b (x.mcb p b hb));exact parL_row h3.dok l h2
theorem sum_le{α:Type}(f:α→List (List UInt8))(k:Nat):∀(L:List α),(∀a∈L,(f a).length≤k)→(L.map f).flatten.length≤k*L.length
  | [],_=>Lan _
  | a::L,h=>by
    have h1:=sum_le f k L fun b hb=>h b (Lac _ hb);have h2:=h a La8;rw[Lao,Lct,La3,Lb3,Nat.mul_succ];omega
theorem miss_len(hx:x.ok):x.pl.missing.length≤1088:=by
  unfold PD.missing;rw[(isort_perm _).length_eq];refine Lbn (ddp_len _) (Lbn (Lc2 _ _) ?_);have h1:=sum_le (fun q:List UInt8×DB=>Bk q.2) 17 x.pl.orp fun q hq=>by
    obtain⟨q0,hq0,rfl⟩:=La7.1 (show q∈x.orp.map fun p=>(p.1,p.2.2)from hq);have h2:=(hx.orp q0 hq0).2.2;have h3:=parL_len q0.2.2;simp only at h3 ⊢;omega
  have h4:x.pl.orp.length=x.orp.length:=La0 _;have h5:=hx.orpn;omega
theorem ask_filt:(hs.filter fun n=>(Ap (setP (hs.filter fun n=>X.has n)) n).isNone&&(Ap (setP X.orphans) n).isNone)=hs.filter fun n=> !X.has n&&decide (n∉X.orphans):=by
  refine Lgk fun n hn=>?_;rw[setP_none,setP_none];congr 1;rw[Lel,decide_eq_true_iff,Lax,Lcf];cases X.has n<;>simp[hn]
theorem ask_rest:(X.missing.filter fun n=>(Ap (setP (askF X hs)) n).isNone)=askR X hs:=by
  unfold askR;exact Lgk fun n _=>setP_none _ n
theorem want_onceG(s:Sl)(ls:List (List UInt8))(h1:ls.length≤90000):Meets prog 73 [s.v] [] (fun W=>RowsAt W s 32 ls) (RowA (onceL ls)):=by
 intro W hW;have hlen:=hW.len;have hrow:=hW.row;refine Ac func73 J 9 ntmps73 J (.sr (.a J J J (.nsr (.m J J J (.call4 J J J J J Body53 (cl_digs s ls oM) (fun w h=>Cm h J hW) ?_)))));rintro v4 out4 ⟨s4,rfl,hac4⟩;rw[←hlen]at hac4;refine .a J J J (.nsr (.m J J J (.callL (L:=out4) J J J J J Body54 (sort_acc s4 out4 ls hrow oM hac4) sG (Cw J) (fun w h=>Lies.of h iN) ?_)));rintro v6 out6 ⟨rfl,ks,hkp,hks,hac6⟩;rw[←hkp.length_eq]at hac6;have hkl:=hkp.length_eq;refine .nsr (.m J J J (.callL (L:=out6) J J J J J Body107 (compact_acc s4 out6 ks (fun l hl=>hrow l (hkp.mem_iff.1 hl)) oM hac6) sG (Cw J) (fun w h=>Lent.of h sG) ?_));rintro v8 out8 ⟨s8,rfl,hac8⟩;refine .a J J J (.na ?_);refine .ret (en_r (Ax (out:=(out8++[])) (Ai J J) (Ad sG Af) ?_));have e9:cpF ks ks.length=onceL ls:=by rw[cp_once hks,isort_eq hkp hks,once_isort]
 rw[e9]at hac8;exact⟨s8,rfl,by simpa using hac8⟩
theorem want_givenG(x:DD)(hx:x.ok)(hI:x.pl.Inv)(hO:x.pl.Ord)(p:Nat)(sw sh:Sl)(ws hs:List (List UInt8))(hw1:ws.length≤90000)(hh1:hs.length≤90000):Meets prog 77 [ptr p 0,sw.v,sh.v] [] (fun W=>Lies (x.blks p) W∧RowsAt W sw 32 ws∧RowsAt W sh 32 hs) (RowA (gvL x.pl ws hs)):=by
 intro W hW;obtain⟨hlies,hrw,hrh⟩:=id hW;have hck:∀q∈x.P,q.2.check=0:=hI.ck;have h16:∀q∈x.P,q.2.ls.length≤16:=fun q hq=>(ck_small (hck q hq)).1;have hbig:=hx.big;have hnm:x.pl.names.length=x.names.length:=rfl;have hw32:=hrw.row;have hh32:=hrh.row;refine Ac func77 J 44 ntmps77 J (.sr (.a J J J (.nsr (.m J J J (.m J J J (.call4 J J J J J Body73 (want_onceG sw ws hw1) (fun w h=>Cm h J hrw) ?_))))));rintro v16 out16 ⟨s16,rfl,hac16⟩;have hol16:=once_len ws;refine .m J J J (.makeFunc J J J J (.call4 J J J J J Body72 (filter_has s16 (onceL ws) x hx p oM) (fun w h=>⟨acc_rows hac16 (Lies.of h iN) (once_32 hw32) J oM,Bg hlies h⟩) ?_));rintro v19 out19 ⟨s19,rfl,hac19⟩;have hn19:=hac19.num;have hf19:=Lc2 (fun n=>x.pl.has n) (onceL ws);refine .call4 J J J J J Body109 (dag_closure x hx h16 p s19 ((onceL ws).filter fun n=>x.pl.has n) oM) (fun w h=>⟨Bg hlies h,acc_rows hac19 (Lies.of h iN) (fun l hl=>once_32 hw32 l (Lax.1 hl).1) J oM⟩) ?_;rintro v20 out20 (⟨⟨n9,hn9,h09⟩,_⟩|⟨_,s20,al,rfl,hac20,hso20,hnd20,hx20⟩)
 ·exfalso;have h8:x.pl.has n9=true:=(Lax.1 hn9).2;unfold PD.has at h8;rw[h09]at h8;cases h8
 have hb20:al.length≤400000:=by have h9:=reach_len hI hnd20 hx20;have h8:x.pl.names.length=x.names.length:=rfl;omega
 have h3220:∀l∈al,l.length=32:=fun l hl=>P32 hx (reach_P ((hx20 l).1 hl));replace hx20:=fun n=>(hx20 n).trans (reach_once (f:=fun n=>x.pl.has n) (ws:=ws));refine .m J J J (.eX J J J J (.eX J J J J (.a J J J (.a J J J (.nsr (.m J J J (.m J J J (.call4 J J J J J Body73 (want_onceG sh hs hh1) (fun w h=>Cm h J hrh) ?_))))))));rintro v26 out26 ⟨s26,rfl,hac26⟩;have hol26:=once_len hs;refine .m J J J (.makeFunc J J J J (.call4 J J J J J Body72 (filter_has s26 (onceL hs) x hx p oM) (fun w h=>⟨acc_rows hac26 (Lies.of h iN) (once_32 hh32) J oM,Bg hlies h⟩) ?_));rintro v29 out29 ⟨s29,rfl,hac29⟩;have hn29:=hac29.num;have hf29:=Lc2 (fun n=>x.pl.has n) (onceL hs);refine .call4 J J J J J Body109 (dag_closure x hx h16 p s29 ((onceL hs).filter fun n=>x.pl.has n) oM) (fun w h=>⟨Bg hlies h,acc_rows hac29 (Lies.of h iN) (fun l hl=>once_32 hh32 l (Lax.1 hl).1) J oM⟩) ?_;rintro v30 out30 (⟨⟨n9,hn9,h09⟩,_⟩|⟨_,s30,th,rfl,hac30,hso30,hnd30,hx30⟩)
 ·exfalso;have h8:x.pl.has n9=true:=(Lax.1 hn9).2;unfold PD.has at h8;rw[h09]at h8;cases h8
 have hb30:th.length≤400000:=by have h9:=reach_len hI hnd30 hx30;have h8:x.pl.names.length=x.names.length:=rfl;omega
 have h3230:∀l∈th,l.length=32:=fun l hl=>P32 hx (reach_P ((hx30 l).1 hl));replace hx30:=fun n=>(hx30 n).trans (reach_once (f:=fun n=>x.pl.has n) (ws:=hs));refine .m J J J (.eX J J J J (.eX J J J J (.a J J J (.a J J J (.nsr (.m J J J (.m J J J (.m J J J (.call4 J J J J J Body71 (want_set s30 th) (fun w h=>acc_rows hac30 (Lies.of h iN) h3230 J oM) ?_)))))))));rintro v37 out37 ⟨m37,rfl,rfl⟩;refine .call4 J J J J J Body74 (want_outside (some m37) none) tV ?_;rintro v38 out38 ⟨qa,qb,rfl,rfl⟩;simp only[Lae,Lah,La9];refine .call4 J J J J J Body72 (filter_out1 s20 al qa qb m37 (setP th) oM) (fun w h=>⟨acc_rows hac20 (Lies.of h iN) h3220 J oM,(Bu (B:=⟨qa,[.map (some m37)],114,1⟩) h mM).cell (o:=0) J,(Bu (B:=⟨qb,[.map none],114,1⟩) h mM).cell (o:=0) J,Bu h mM⟩) ?_;rintro v39 out39 ⟨s39,rfl,hac39⟩;have hn39:=hac39.num;have hf39:=Lc2 (fun n=>(Ap (setP th) n).isNone) al;have h3239:∀l∈al.filter fun n=>(Ap (setP th) n).isNone,l.length=32:=fun l hl=>h3220 l (Lax.1 hl).1;have hall:al.length≤x.names.length:=by rw[←hnm];exact nd_len hnd20 fun n hn=>(names_mem hI n).2 (reach_P ((hx20 n).1 hn))
 refine .call4 J J J J J Body110 (lin_sort x hx hI hO p s39 (al.filter fun n=>(Ap (setP th) n).isNone) oM) (fun w h=>⟨Bg hlies h,acc_rows hac39 (Lies.of h iN) h3239 J oM⟩) ?_;rintro v40 out40 (⟨⟨n9,hn9,h09⟩,_⟩|⟨_,⟨hd9,_⟩|⟨_,s40,rfl,hac40⟩⟩)
 ·exfalso;obtain⟨D9,hD9⟩:=reach_P ((hx20 n9).1 (Lax.1 hn9).1);unfold PD.has at h09;rw[hD9]at h09;cases h09
 ·exact absurd (hnd20.filter _) hd9
 have hgv:=gv_perm hI (ws:=ws) (hs:=hs) hnd20 hx20 hx30;rw[←(isortD_perm x.pl _).length_eq,hgv]at hac40;refine .m J J J (.eX J J J J (.eX J J J J (.a J J J (.a J J J (.nsr (.m J J J (.a J J J (.na ?_))))))));refine .ret (en_r (Ax (out:=(out40++[])) (Ai J J) (Ad sG Af) ?_));exact⟨s40,rfl,by simpa using hac40⟩
theorem want_needs(x:DD)(hx:x.ok)(hI:x.pl.Inv)(hO:x.pl.Ord)(p:Nat)(sw sh:Sl)(ws hs:List (List UInt8))(hw1:ws.length≤90000)(hh1:hs.length≤90000):Mv 34 [ptr p 0,sw.v,sh.v] (fun W=>Lies (x.blks p) W∧RowsAt W sw 32 ws∧RowsAt W sh 32 hs) (i64 ((gvL x.pl ws hs).length:Int)):=by
 intro W hW;refine Ac func34 J 14 ntmps34 J (.sr (.a J J J (.na (.seq (.sr (.m J J J (.cV J J J J Body70 (want_none x hx hI p) (fun w h=>Bg hW.1 h) (.na (.cond_f J J (.skip (Bi (.sr (.m J J J (.m J J J (.m J J J (.call4 J J J J J Body77 (want_givenG x hx hI hO p sw sh ws hs hw1 hh1) (fun w h=>⟨Bg hW.1 h,Cm h J hW.2.1,Cm h J hW.2.2⟩) ?_))))))))))))))));rintro v12 out12 ⟨s12,rfl,hac12⟩;refine .lenSl J J J Y32.h (.a J J J (.na ?_));refine .ret (en_r (Ax (out:=[]) (Ai J J) Af ?_));exact⟨by rw[hac12.num],rfl⟩
theorem want_askG(x:DD)(hx:x.ok)(hI:x.pl.Inv)(p:Nat)(sh:Sl)(hs:List (List UInt8))(hh1:hs.length≤90000):Meets prog 27 [ptr p 0,sh.v] [] (fun W=>Lies (x.blks p) W∧RowsAt W sh 32 hs) (RowA (askL x.pl hs)):=by
 intro W hW;obtain⟨hlies,hrh⟩:=id hW;have hh32:=hrh.row;have hbig:=hx.big;have hno:=hx.orpn;have hso:x.pl.orphans.length≤64:=by unfold PD.orphans;rw[(isort_perm _).length_eq,orp_keys,La0];exact hno
 have ho32:=orph_32 hx;have hm32:=miss_32 hx hlies;have hml:=miss_len hx;refine Ac func27 J 41 ntmps27 J (.sr (.a J J J (.na (.seq (.sr (.m J J J (.cV J J J J Body70 (want_none x hx hI p) (fun w h=>Bg hlies h) (.na (.cond_f J J (.skip (Bi (.sr (.m J J J (.m J J J (.makeFunc J J J J (.call4 J J J J J Body72 (filter_has sh hs x hx p oM) (fun w h=>⟨Cm h J hrh,Bg hlies h⟩) ?_))))))))))))))));rintro v14 out14 ⟨s14,rfl,hac14⟩;have hf14:=Lc2 (fun n=>x.pl.has n) hs;refine .call4 J J J J J Body71 (want_set s14 (hs.filter fun n=>x.pl.has n)) (fun w h=>acc_rows hac14 (Lies.of h iN) (fun l hl=>hh32 l (Lax.1 hl).1) J oM) ?_;rintro v15 out15 ⟨m15,rfl,rfl⟩;refine .a J J J (.nsr (.m J J J (.m J J J (.m J J J (.call4 J J J J J Body17 (dag_orphans x hx p) (fun w h=>Bg hlies h) ?_)))));rintro v19 out19 ⟨s19,rfl,hac19⟩;refine .call4 J J J J J Body71 (want_set s19 x.pl.orphans) (fun w h=>acc_rows hac19 (Lies.of h iN) ho32 J oM) ?_;rintro v20 out20 ⟨m20,rfl,rfl⟩;refine .call4 J J J J J Body74 (want_outside (some m15) (some m20)) tV ?_;rintro v21 out21 ⟨q21a,q21b,rfl,rfl⟩;simp only[Lae,Lah,La9];refine .call4 J J J J J Body72 (filter_out2 sh hs q21a q21b m15 m20 (setP (hs.filter fun n=>x.pl.has n)) (setP x.pl.orphans) oM) (fun w h=>⟨Cm h J hrh,(Bu (B:=⟨q21a,[.map (some m15)],114,1⟩) h mM).cell (o:=0) J,(Bu (B:=⟨q21b,[.map (some m20)],114,1⟩) h mM).cell (o:=0) J,Bu h mM,Bu h mM⟩) ?_;rintro v22 out22 ⟨s22,rfl,hac22⟩;rw[ask_filt]at hac22;have hn22:=hac22.num;have hf22:=Lc2 (fun n=> !x.pl.has n&&decide (n∉x.pl.orphans)) hs;refine .call4 J J J J J Body73 (want_onceG s22 (hs.filter fun n=> !x.pl.has n&&decide (n∉x.pl.orphans)) oM) (fun w h=>acc_rows hac22 (Lies.of h iN) (fun l hl=>hh32 l (Lax.1 hl).1) J oM) ?_;rintro v23 out23 ⟨s23,rfl,hac23⟩;change Hw.Acc s23 out23 (As (askF x.pl hs)) 31 (askF x.pl hs).length 32 at hac23;have hn23:=hac23.num;have hF32:∀l∈askF x.pl hs,l.length=32:=fun l hl=>hh32 l (askF_mem.1 hl).1;have hFl:(askF x.pl hs).length≤hs.length:=Lbn (once_len _) hf22;refine .a J J J (.nsr (.m J J J (.call4 J J J J J Body19 (dag_missing x hx p) (fun w h=>Bg hlies h) ?_)));rintro v25 out25 ⟨s25,rfl,hac25⟩;refine .call4 J J J J J Body73 (want_onceG s25 x.pl.missing oM) (fun w h=>acc_rows hac25 (Lies.of h iN) hm32 J oM) ?_;rintro v26 out26 ⟨s26,rfl,hac26⟩;rw[once_self (miss_sort x.pl) (miss_nd x.pl)]at hac26;refine .m J J J (.call4 J J J J J Body71 (want_set s23 (askF x.pl hs)) (fun w h=>acc_rows hac23 (Lies.of h iN) hF32 J oM) ?_);rintro v28 out28 ⟨m28,rfl,rfl⟩;refine .call4 J J J J J Body74 (want_outside (some m28) none) tV ?_;rintro v29 out29 ⟨q29a,q29b,rfl,rfl⟩;simp only[Lae,Lah,La9]
 refine .call4 J J J J J Body72 (filter_out1 s26 x.pl.missing q29a q29b m28 (setP (askF x.pl hs)) oM) (fun w h=>⟨acc_rows hac26 (Lies.of h iN) hm32 J oM,(Bu (B:=⟨q29a,[.map (some m28)],114,1⟩) h mM).cell (o:=0) J,(Bu (B:=⟨q29b,[.map none],114,1⟩) h mM).cell (o:=0) J,Bu h mM⟩) ?_;rintro v30 out30 ⟨s30,rfl,hac30⟩;rw[ask_rest]at hac30;have hn30:=hac30.num;have hR32:∀l∈askR x.pl hs,l.length=32:=fun l hl=>hm32 l (askR_mem.1 hl).1;have hRl:(askR x.pl hs).length≤x.pl.missing.length:=Lc2 _ _;refine .a J J J (.nsr (.m J J J (.m J J J (.appendAcc (n:=(askF x.pl hs).length) (z:=agg (Aa (List.replicate 32 0))) (by':=32) (As (askR x.pl hs)) J J J J J Y32.h Y32.h Sz31 Cf (by unfold By;kernel_rfl) J hac23 sG (fun w h=>hac30.see (Lies.of h iN)) (fun e=>by have:=hac30.nil e;omega) (flatB_cell _) oM oM (by rw[A0 hR32,hn30]) ?_))));intro s33 bl33 hac33';have hac33:Hw.Acc s33 bl33 (As (askF x.pl hs++askR x.pl hs)) 31 (askF x.pl hs++askR x.pl hs).length 32:=by rw[Cl,La3,←hn30];exact hac33'
 clear hac33';have hn33:=hac33.num;have hc33:=hac33.cap;have hA32:∀l∈askF x.pl hs++askR x.pl hs,l.length=32:=fun l hl=>by rcases Lad.1 hl with h|h;exact hF32 l h;exact hR32 l h
 refine .a J J J (.na (.join (ι:=Sl×List Blk) (fun z=>⟨[(8,z.1.v)],(z.2++[])⟩) (fun z=>Hw.Acc z.1 z.2 (As (askL x.pl hs)) 31 (askL x.pl hs).length 32) ?_ ?_))
 ·
  refine .sr (.m J J J (.lenSl J J J Y32.h (.gtr J J J J J (.na ?_))));first
   |refine Sat.condP rfl (fun hc1=>?_) (fun hc1=>?_)
   |refine Sat.condNP rfl (fun hc1=>?_) (fun hc1=>?_)
   |refine Sat.cond rfl (fun hc1=>?_) (fun hc1=>?_)
  ·
   refine .region (.m J J J (.sliceHiA s33 32 J J J J J oM Y32.h Sz31 (.call4 J J J J J Body53 (cl_digs ⟨s33.p,32,s33.c⟩ ((askF x.pl hs++askR x.pl hs).take 32) (by show 32≤90000;omega)) (fun w h=>⟨by rw[Lai];show min 32 _=32;omega,fun l hl=>hA32 l (Ld8 hl),by show 32≤s33.c;omega,rows_take (hac33.see (Lies.of h iN)) hA32,by show 32≤maxLen;unfold maxLen;omega,hac33.nilc⟩) ?_)));rintro v39 out39 ⟨s39,rfl,hac39⟩;refine .a J J J (.na ?_);exact⟨(s39,out39),(by simp only;unfold askL;rw[Lai,Lco oM];exact hac39),Al (wk1 rfl wk0) (Ad sG Af)⟩
  refine .skip (Bi ?_);exact⟨(s33,bl33),(by simp only;unfold askL;rw[La4 oM];exact hac33),Al (wk1 rfl wk0) (Ad sG Af)⟩
 intro z hj;skip;refine .sr (.m J J J (.a J J J (.na ?_)));refine .ret (en_r (Ax (out:=(z.2++[])) (Ai J J) (Ad sG Af) ?_));exact⟨z.1,rfl,by simpa using hj⟩
def PD.blk(X:PD)(n:List UInt8):DB:=(Ap X.P n).getD DB.zero
def GiveB(ds:List DB)(v:Value)(out:List Blk):Prop:=∃(sl:Sl) (bl bl2:List Blk) (rs:List Block),v=sl.v∧out=bl++bl2∧OwnSeq Block.cells 131 BlockIs 37 sl bl bl2 rs ds ds.length
noncomputable def takeE:PD→List DB→List Int
  |_,[]=>[]
  |X,d::ds=>(X.add d).2.2::takeE (X.add d).1 ds
noncomputable def takeN:PD→List DB→Nat
  |_,[]=>0
  |X,d::ds=>(X.add d).2.1.length+takeN (X.add d).1 ds
theorem takeE_snoc:∀(ds:List DB) (X:PD) (d:DB),takeE X (ds++[d])=takeE X ds++[((fillP X ds).add d).2.2]
  | [],X,d=>rfl
  | e::ds,X,d=>by
    rw[Lae,takeE,takeE,takeE_snoc ds,Lae];rfl
theorem takeN_snoc:∀(ds:List DB) (X:PD) (d:DB),takeN X (ds++[d])=takeN X ds+((fillP X ds).add d).2.1.length
  | [],X,d=>by
    show(X.add d).2.1.length+0=0+_;rw[Lb4];rfl
  | e::ds,X,d=>by
    rw[Lae,takeN,takeN,takeN_snoc ds,Lc7];rfl
theorem intsV_cell(l:List Int):∀u∈l.map i64,isCell u=true:=fun u hu=>by obtain⟨a,_,rfl⟩:=La7.1 hu;rfl
theorem want_each(x:DD)(hx:x.ok)(hI:x.pl.Inv)(p:Nat)(s:Sl)(ns:List (List UInt8))(hn:ns.length≤1000)(hall:∀n∈ns,x.pl.has n=true):Meets prog 78 [s.v, .func (.func 13) #[ptr p 0] #[]] [] (fun W=>Lies (x.blks p) W∧RowsAt W s 32 ns) (GiveB (ns.map x.pl.blk)):=by
 intro W hW;have h32k:True:=trivial;have hlen:=hW.2.len;have hrow:=hW.2.row;have hck:∀q∈x.P,q.2.check=0:=hI.ck;refine Ac func78 J 30 ntmps78 J (.sr (.a J J J (.nsr (.a J J J (.na (.seq (.sr (.m J J J (.lenSl J J J Y32.h (.m J J J (.na (.block (.loop (ι:=Nat×Sl×List Blk×List Blk×List Block) (fun q=>⟨[(1, .func (.func 13) #[ptr p 0] #[]),(5,q.2.1.v),(10,s.v),(11,i64 (s.n:Int)),(12,i64 (q.1:Int))],(q.2.2.1++(q.2.2.2.1++[]))⟩) (fun q=>q.1≤s.n∧OwnSeq Block.cells 131 BlockIs 37 q.2.1 q.2.2.1 q.2.2.2.1 q.2.2.2.2 ((ns.take q.1).map x.pl.blk) q.1) (fun q=>s.n-q.1) ((0,Sl.nil,[],[],[])) ?_ ?_ ?_)))))))))))))
 ·exact⟨Lan _,OwnSeq.none⟩
 ·exact Al wN (Ad sG (Ad sG Af))
 rintro⟨k,s5,bl5,bo5,rs⟩ ⟨hk,hos⟩;simp only at hk hos ⊢;refine .sr (.lss J J J J J (.na (.seq ?_)));first
  |refine Sat.condP rfl (fun hc0=>?_) (fun hc0=>?_)
  |refine Sat.condNP rfl (fun hc0=>?_) (fun hc0=>?_)
  |refine Sat.cond rfl (fun hc0=>?_) (fun hc0=>?_)
 ·
  have hk2:k<s.n:=by omega
  obtain⟨b,o,hbp,hbs⟩:=hW.2.see.at (by rw[A0 hrow];omega);obtain⟨kk,hkk⟩:∃q,q=ns.getD k []:=⟨_,rfl⟩;have h32k:kk.length=32:=by rw[hkk];exact B6 hrow oM
  obtain⟨Dk,hDk⟩:=Ldn.1 (hall kk (by rw[hkk];exact getD_mem2 oM));refine .skip (Bi (.seq (.block (.sr (.idxSlP 32 J J J hbp J Y32.h Sz31 k J oM (.loadEN (Aa kk) J J J Y31.h J Sz31 sP (by rw[Aa,La0];exact h32k) (by rw[hkk];exact Bt hrow hbs oM) ?_))))));refine .alloc (cs:=(Aa (List.replicate 32 0))) J Cf J ?_;intro n7 hn7 hf7;first
   |refine Tr.sA rfl rfl rfl rfl (by first|exact Am _|exact A1 _|simp[isCell]) Sz31 (by first|(simp[h32k];done)|assumption|(rw[Aa,La0];assumption)) mM (by first|(simp[h32k];done)|assumption|(rw[Aa,La0];assumption)) uU ?_
   |refine Tr.storeN _ rfl rfl rfl rfl rfl (by first|exact Am _|exact A1 _|simp[isCell]) Sz31 (by first|(simp[h32k];done)|assumption|(rw[Aa,La0];assumption)) mM (by first|(simp[h32k];done)|assumption|(rw[Aa,La0];assumption)) (by exact rfl) uU ?_
  refine .nsr (.m J J J ?_);first
   |refine Tr.lA rfl rfl rfl Y31.h rfl Sz31 mM (by first|(simp[h32k];done)|assumption|(rw[Aa,La0];assumption)) ?_
   |refine Tr.lN _ rfl rfl rfl Y31.h rfl Sz31 mM (by exact rfl) (by first|(simp[h32k];done)|assumption|(rw[Aa,La0];assumption)) ?_
  refine .call4C J J J J J J Body13 (dag_get x hx hck p kk h32k) (fun w h=>Bg hW.1 h) ?_;rintro v19 out19 (⟨h0,_⟩|⟨D,B,hD,hB,rfl,hbi⟩)
  ·exfalso;rw[h0]at hDk;cases hDk
  refine .m J J J (.eX J J J J (.eX J J J J (.alloc (cs:=Block.zero.cells) J Block.zr J ?_)));intro n8 hn8 hf8;refine .sA J J J J (Block.isCell (by first|exact hB.ok|exact Block.zero_ok|(simp[h32k];done)|exact oK|exact secrets.zero_ok|exact far.zero_ok|exact Rdr.zero_ok|exact DEnt.zero_ok|exact DPl.zero_ok )) Sz37 (Block.length (by first|exact hB.ok|exact Block.zero_ok|(simp[h32k];done)|exact oK|exact secrets.zero_ok|exact far.zero_ok|exact Rdr.zero_ok|exact DEnt.zero_ok|exact DPl.zero_ok )) mM (Block.length (by first|exact hB.ok|exact Block.zero_ok|(simp[h32k];done)|exact oK|exact secrets.zero_ok|exact far.zero_ok|exact Rdr.zero_ok|exact DEnt.zero_ok|exact DPl.zero_ok )) uU ?_;refine .a J J J (.nsr (.m J J J (.eqi J J J J (decide_eq_true (dE)) (.na (.cond_t J J (.region (.m J J J (.lA J J J Y37.h J Sz37 mM (Block.length (by first|exact hB.ok|exact Block.zero_ok|(simp[h32k];done)|exact oK|exact secrets.zero_ok|exact far.zero_ok|exact Rdr.zero_ok|exact DEnt.zero_ok|exact DPl.zero_ok )) ?_))))))));refine .mkRow (z:=agg Block.zero.cells) [agg B.cells] B.cells J J J Y22.h Sz37 Block.zr J J (by intro v hv;rw[La1.1 hv];exact Block.length hB.ok) dE (by simp[Value.cells]) ?_;intro q26;refine .appendAcc (n:=k) (z:=agg Block.zero.cells) (by':=184) (B.cells) J J J J J Y22.h Y22.h Sz37 Block.zr (by unfold By;kernel_rfl) J hos.acc sG (fun w h=>SeesP.of (Aq h mM)) (fun e=>by cases e) (Block.isCell hB.ok) oM oM (by rw[Block.length hB.ok]) ?_;intro s27 bl27 hac27;refine .a J J J (.nil (bl_n (Bi (.region (.aI J J J J oM (.m J J J (.na ?_)))))));refine⟨(k+1,s27,bl27,out19++bo5,rs++[B]),⟨by simp only;omega,?_⟩,by simp only;omega,Al wN (Ad sG (pm_two (Ad sG (Ad sG Af))))⟩;simp only;rw[take_succ_getD oM,Lak,List.map_singleton,←hkk,show x.pl.blk kk=D by unfold PD.blk;rw[hD];rfl];exact hos.snoc hac27 (Block.length hB.ok) (fun W2 hl=>hbi W2 hl)
 have hke:k=s.n:=by omega
 refine .exit (at_x (at_x (bl_h (Bi (.sr (.m J J J (.a J J J (.na ?_))))))));refine .ret (en_r (Ax (out:=(bl5++(bo5++[]))) (Ai J J) (Ad sG (Ad sG Af)) ?_));refine⟨s5,bl5,bo5,rs,rfl,by simp,?_⟩;rw[La0,hlen,←hke];have e9:ns.take k=ns:=La4 oM;rw[e9]at hos;exact hos
theorem want_giveG(x:DD)(hx:x.ok)(hI:x.pl.Inv)(hO:x.pl.Ord)(p:Nat)(sw sh:Sl)(ws hs:List (List UInt8))(hw1:ws.length≤90000)(hh1:hs.length≤90000)(most:Int)(hm:1≤most):Meets prog 33 [ptr p 0,sw.v,sh.v,i64 most] [] (fun W=>Lies (x.blks p) W∧RowsAt W sw 32 ws∧RowsAt W sh 32 hs) (fun v out=>∃v0,v= .tuple #[v0,i64 0]∧GiveB (((gvL x.pl ws hs).take (min (min (gvL x.pl ws hs).length most.toNat) 8)).map x.pl.blk) v0 out):=by
 intro W hW;refine Ac func33 J 28 ntmps33 J (.sr (.a J J J (.a J J J (.na (.seq (.sr (.m J J J (.cV J J J J Body70 (want_none x hx hI p) (fun w h=>Bg hW.1 h) (.na (.cond_f J J (.skip (Bi (.seq (.sr (.m J J J (.lss J J J J (decide_eq_false oM) (.na (.cond_f J J (.skip (Bi (.sr (.m J J J (.m J J J (.m J J J (.call4 J J J J J Body77 (want_givenG x hx hI hO p sw sh ws hs hw1 hh1) (fun w h=>⟨Bg hW.1 h,Cm h J hW.2.1,Cm h J hW.2.2⟩) ?_)))))))))))))))))))))))));rintro v18 out18 ⟨s18,rfl,hac18⟩;have hn18:=hac18.num;have hc18:=hac18.cap;obtain⟨mn,hmn⟩:∃mn,mn=min (min (gvL x.pl ws hs).length most.toNat) 8:=⟨_,rfl⟩;have h32g:∀l∈gvL x.pl ws hs,l.length=32:=fun l hl=>P32 hx (Ldn.1 (gv_has hI l hl));refine .a J J J (.nsr (.m J J J (.m J J J (.lenSl J J J Y32.h (.m J J J (.min3 J J J J J (show _=i64 (mn:Int)from congrArg (Value.int .i64) (show(if(8:Int)<(if most<(s18.n:Int)then most else(s18.n:Int))then(8:Int)else(if most<(s18.n:Int)then most else(s18.n:Int)))=(mn:Int) by rw[hmn];repeat(first|omega|split))) ?_))))));refine .sliceHiA s18 mn J J J J J oM Y32.h Sz31 (.m J J J (.makeFunc J J J J (.call4 J J J J J Body78 (want_each x hx hI p ⟨s18.p,mn,s18.c⟩ ((gvL x.pl ws hs).take mn) (by rw[Lai];omega) (fun n hn=>gv_has hI n (Ld8 hn))) (fun w h=>⟨Bg hW.1 h,⟨by rw[Lai];show min mn _=mn;omega,fun l hl=>h32g l (Ld8 hl),by show mn≤s18.c;omega,rows_take (hac18.see (Lies.of h iN)) h32g,by show mn≤maxLen;unfold maxLen;omega,hac18.nilc⟩⟩) ?_)));rintro v27 out27 ⟨s27,bl27,bo27,rs27,rfl,rfl,hos27⟩;simp only[La9];refine .a J J J (.a J J J (.na ?_));refine .ret (en_r (Ax (out:=(bl27++(bo27++[]))) (Cq J J J) (Ad sG (Ad sG Af)) ?_));rw[←hmn];exact⟨s27.v,rfl,s27,bl27,bo27,rs27,rfl,by simp,hos27⟩
theorem want_give_arg(x:DD)(hx:x.ok)(hI:x.pl.Inv)(p:Nat)(sw sh:Sl)(most:Int)(hm:most<1):Mv 33 [ptr p 0,sw.v,sh.v,i64 most] (fun W=>Lies (x.blks p) W) (.tuple #[.slice none 0 0,i64 2]):=by
 intro W hW;refine Ac func33 J 28 ntmps33 J (.sr (.a J J J (.a J J J (.na (.seq (.sr (.m J J J (.cV J J J J Body70 (want_none x hx hI p) (fun w h=>Bg hW h) (.na (.cond_f J J (.skip (Bi (.seq (.sr (.m J J J (.lss J J J J (decide_eq_true oM) (.na (.cond_t J J (.sr (.a J J J (.a J J J (.na ?_))))))))))))))))))))));refine .ret (at_r (en_r ?_));refine⟨_,[],Cq J J J,sP,sP,?_,rfl⟩;rfl
theorem same_ofT{B:Block}{D:DB}(h:BlockIs W B D):SameB B D:=⟨h.ok,h.w,h.seq,h.prev,h.sg,h.ls.len.symm,h.ds.len.symm⟩
def TakeR(x:DD)(p:Nat)(ds:List DB)(al:List Blk)(v:Value)(out:List Blk):Prop:=∃(x':DD) (s:Sl) (bl:List Blk),v= .tuple #[i64 (takeN x.pl ds:Int),s.v]∧out=x'.blks p++(bl++al)∧x'.ok∧x'.pl=fillP x.pl ds∧Hw.Acc s bl ((takeE x.pl ds).map i64) 39 ds.length 1∧x'.names.length+x'.orp.length≤x.names.length+x.orp.length+ds.length
theorem mem_len{α:Type}{l:List α}{a:α}(h:l[k]? =some a):k<l.length:=(Laa.1 h).1
theorem take_see{s:Sl}{rs:List Block}{ds:List DB}(h:SeqIs Block.cells 131 BlockIs W s rs ds){k b o:Nat}{r:Block}(hr:rs[k]? =some r)(hp:s.p=some ⟨b,o,none⟩):Sees W b (o+k*131) r.cells:=by
  obtain⟨b2,o2,r2,d2,hp2,hr2,hd2,hi,hl,hs⟩:=h.at dE (show k<s.n by rw[←h.nr];exact mem_len hr);rw[hp]at hp2;cases hp2;rw[hr]at hr2;cases hr2;exact hs
theorem add_len(hx:x.ok)(d:DB):(x.pl.add d).2.1.length≤65:=by
  have ho:x.pl.orp.length=x.orp.length:=La0 _;have h1:=hx.orpn;unfold PD.add;split
  · split
    ·exact Lan _
    · split
      ·exact Lan _
      · split
        ·split<;>exact Lan _
        · have h2:=settle_len (x.pl.adm (Be d) d).orp.length (x.pl.adm (Be d) d)
          have h3:(x.pl.adm (Be d) d).orp.length=x.orp.length:=ho;simp only[Lb3];omega
  ·exact Lan _
theorem want_take(x:DD)(hx:x.ok)(p:Nat)(s:Sl)(rs:List Block)(ds:List DB)(al:List Blk)(hal:∀W,Lies al W→SeqIs Block.cells 131 BlockIs W s rs ds)(hn:ds.length≤1000)(hroom:x.names.length+x.orp.length+ds.length<20000):Meets prog 41 [ptr p 0,s.v] ((x.blks p++al).map (·.n)) (fun W=>Lent (x.blks p++al) W) (TakeR x p ds al):=by
 intro W hW;have hs0:=hal W (hW.1.sub fun b hb=>Lb1 _ hb);have hsn:=hs0.nd;generalize hlt:(x.blks p++al).map (·.n)=lt;refine calls_of (hp0:=(x.blks p++al)) func41 J 38 ntmps41 J (hlt▸hW.rep) (.sr (.a J J J (.a J J J (.nsr (.a J J J (.nsr (.m J J J (.lenSl J J J Y22.h (.mkRoomN (z:=i64 0) (by':=8) s.n J J J J J Y73 Sz39 Zr39 (by unfold By;kernel_rfl) oM oM ?_)))))))));intro q14;have hac0:Hw.Acc ⟨some ⟨q14,0,none⟩,0,s.n⟩ [⟨q14,([]:List Int).map i64,39,s.n*1⟩] (([]:List Int).map i64) 39 0 1:=Acc.some (Lan _) rfl;refine .a J J J (.na (.seq (.sr (.m J J J (.lenSl J J J Y22.h (.m J J J (.na (.block (.loop (ι:=Nat×DD×Sl×List Blk) (fun q=>⟨[(0,ptr p 0),(6,i64 (takeN x.pl (ds.take q.1):Int)),(7,q.2.2.1.v),(15,s.v),(16,i64 (s.n:Int)),(17,i64 (q.1:Int))],(q.2.1.blks p++(al++(q.2.2.2++[])))⟩) (fun q=>q.1≤s.n∧q.2.1.ok∧q.2.1.pl=fillP x.pl (ds.take q.1)∧Hw.Acc q.2.2.1 q.2.2.2 ((takeE x.pl (ds.take q.1)).map i64) 39 q.1 1∧q.2.1.names.length+q.2.1.orp.length≤x.names.length+x.orp.length+q.1∧takeN x.pl (ds.take q.1)≤20000*q.1) (fun q=>s.n-q.1) ((0,x,⟨some ⟨q14,0,none⟩,0,s.n⟩,[⟨q14,([]:List Int).map i64,39,s.n*1⟩])) ?_ ?_ ?_)))))))))
 ·exact⟨Lan _,hx,rfl,hac0,Lab _,Lab _⟩
 ·exact Al wN (Ad (by repeat(first|exact sg_here|exact sg_end|apply sg_seg|apply Ct)) (Ad (by repeat(first|exact sg_here|exact sg_end|apply sg_seg|apply Ct)) (Ad (by repeat(first|exact sg_here|exact sg_end|apply sg_seg|apply Ct)) Af)))
 rintro⟨k,x1,s7,bl7⟩ ⟨hk,hx1,hpl1,hac7,hnx1,htn⟩;simp only at hk hx1 hpl1 hac7 hnx1 htn ⊢;refine .sr (.lss J J J J J (.na (.seq ?_)));first
  |refine Sat.condP rfl (fun hc0=>?_) (fun hc0=>?_)
  |refine Sat.condNP rfl (fun hc0=>?_) (fun hc0=>?_)
  |refine Sat.cond rfl (fun hc0=>?_) (fun hc0=>?_)
 ·
  have hk2:k<s.n:=by omega
  obtain⟨b,o,r,d,hsp,hr,hd,hrB,hlen,hsee⟩:=hs0.at dE hk2;have hal32:=add_len hx1 d;refine .skip (Bi (.seq (.block (.sr (.idxSlP 131 J J J hsp J Y22.h Sz37 k J oM (.loadSN (n:=131) r.cells J J J Y37.h J Sz37 hlen (fun w h=>take_see (hal w (Lies.of h iN)) hr hsp) ?_))))));refine .alloc (cs:=Block.zero.cells) J Block.zr J ?_;intro n9 hn9 hf9;refine .sA J J J J (Block.isCell (by first|exact hrB.ok|exact oK|exact secrets.zero_ok|exact far.zero_ok|exact Rdr.zero_ok|exact DEnt.zero_ok|exact DPl.zero_ok )) Sz37 (Block.length (by first|exact hrB.ok|exact oK|exact secrets.zero_ok|exact far.zero_ok|exact Rdr.zero_ok|exact DEnt.zero_ok|exact DPl.zero_ok )) mM (Block.length (by first|exact hrB.ok|exact oK|exact secrets.zero_ok|exact far.zero_ok|exact Rdr.zero_ok|exact DEnt.zero_ok|exact DPl.zero_ok )) uU ?_;refine .nsr (.m J J J (.lA J J J Y37.h J Sz37 mM (Block.length (by first|exact hrB.ok|exact oK|exact secrets.zero_ok|exact far.zero_ok|exact Rdr.zero_ok|exact DEnt.zero_ok|exact DPl.zero_ok )) ?_));refine .callL (L:=(x1.blks p++al)) J J J J J Body50 (dag_add x1 hx1 p r d al ⟨same_ofT (hal W (hW.1.sub fun b hb=>Lb1 _ hb)|>.is k r d hr hd),fun w hw=>(hal w hw).is k r d hr hd⟩ oM) (sg_two sG sG) (Cw J) (fun w h=>Lent.of h (sg_two sG sG)) ?_;rintro v24 out24 ⟨x2,s24,bl24,rfl,rfl,hx2,hac24,h3224,hpl2,hnx2⟩;have hn24:=hac24.num;obtain⟨ee,hee⟩:∃e,e=(x1.pl.add d).2.2:=⟨_,rfl⟩;rw[←hee];simp only[La9];refine .m J J J (.eX J J J J (.eX J J J J (.a J J J (.a J J J (.nsr (.m J J J (.m J J J (.lenSl J J J Y32.h (.aI J J J J oM (.a J J J (.na (.region (.m J J J (.m J J J (.mkRow (z:=i64 0) [i64 ee] (([ee]:List Int).map i64) J J J Y73 Sz39 Zr39 J J (by intro v hv;rw[La1.1 hv];rfl) dE J ?_)))))))))))))));intro q33;refine .appendAcc (n:=k) (z:=i64 0) (by':=8) (([ee]:List Int).map i64) J J J J J Y73 Y73 Sz39 Zr39 (by unfold By;kernel_rfl) J hac7 (by repeat(first|exact sg_here|exact sg_end|apply sg_seg|apply Ct)) (fun w h=>SeesP.of (Aq h mM)) (fun e=>by cases e) (intsV_cell _) oM oM J ?_;intro s34 bl34 hac34;refine .a J J J (.nil (bl_n (Bi (.region (.aI J J J J oM (.m J J J (.na ?_)))))));refine⟨(k+1,x2,s34,bl34),⟨by simp only;omega,hx2,?_,?_,by simp only;omega,?_⟩,by simp only;omega,Al (wk1 J (wk1 (by show Hw.look _ _=some (i64 ((takeN x.pl (ds.take (k+1)):Nat):Int));rw[take_snoc hd,takeN_snoc,←hpl1,Lc6,←hn24];rfl) wN)) (Ad (by repeat(first|exact sg_here|exact sg_end|apply sg_seg|apply Ct)) (Ad (by repeat(first|exact sg_here|exact sg_end|apply sg_seg|apply Ct)) (Ad (by repeat(first|exact sg_here|exact sg_end|apply sg_seg|apply Ct)) Af)))⟩
  ·simp only;rw[take_snoc hd,fillP_snoc,←hpl1,hpl2]
  ·simp only;rw[take_snoc hd,takeE_snoc,←hpl1,←hee,Lak];exact hac34
  ·simp only;rw[take_snoc hd,takeN_snoc,←hpl1];omega
 have hke:k=s.n:=by omega
 have hkl:ds.take k=ds:=La4 oM;rw[hkl]at hpl1 hac7;refine .exit (at_x (at_x (bl_h (Bi (.sr (.m J J J (.m J J J (.a J J J (.a J J J (.na ?_))))))))));refine .ret (en_r (Ax (out:=(x1.blks p++(bl7++(al++[])))) (Cq J J J) (Ad sG (Ad sG (Ad sG Af))) ?_));refine⟨x1,s7,bl7,by rw[hkl],by simp,hx1,hpl1,?_,by omega⟩;rw[hsn,←hke];exact hac7
theorem whole_1(n:List UInt8)(h32:n.length=32)(x:DD)(hx:x.ok)(p qd:Nat):Mv 84 [agg (Aa n),ptr qd 0] (fun W=>Lies (x.blks p) W∧W.cell? ⟨qd,0,none⟩=some (ptr p 0)) (.bool (!x.pl.has n)):=by
 intro W hW;refine Ac func84 J 8 ntmps84 J (.sr (.boxA J J ?_));intro n2 hn2 hf2;refine .a J J J (.nsr (.loadE J J J Y25.h J (by first|(simp;done)|(simp;exact hW.2.2)|(simp[Cx.with];done)|(simp[Cx.with];omega)) (hW.2) ?_));first
  |refine Tr.lA rfl rfl rfl Y31.h rfl Sz31 mM (by first|(simp[h32];done)|assumption|(rw[Aa,La0];assumption)) ?_
  |refine Tr.lN _ rfl rfl rfl Y31.h rfl Sz31 mM (by exact rfl) (by first|(simp[h32];done)|assumption|(rw[Aa,La0];assumption)) ?_
 refine .cV J J J J Body66 (dag_hasP x hx p n h32) (fun w h=>Bg hW.1 h) (.not J J J (.a J J J (.na ?_)));refine .ret (en_r (Ax (out:=[]) (Ai J J) Af ?_));exact⟨rfl,rfl⟩
theorem index_whole(s:Sl)(ls:List (List UInt8))(x:DD)(hx:x.ok)(p qd:Nat):Mv 118 [s.v, .func (.func 84) #[] #[ptr qd 0]] (fun W=>RowsAt W s 32 ls∧Lies (x.blks p) W∧W.cell? ⟨qd,0,none⟩=some (ptr p 0)) (i64 (fstBad (fun n=> !x.pl.has n) ls)):=by
 intro W hW;have hlen:=hW.1.len;have hrow:=hW.1.row;have hmax:=hW.1.max;simp only[maxLen]at hmax;have hcap:=hW.1.cap;refine Ac func118 J 19 ntmps118 J (.sr (.a J J J (.na (.seq (.sr (.m J J J (.lenSl J J J Y32.h (.m J J J (.na (.block (.loop (ι:=Nat) (fun k=>⟨[(0,s.v),(1, .func (.func 84) #[] #[ptr qd 0]),(7,i64 (s.n:Int)),(8,i64 (k:Int))],[]⟩) (fun k=>k≤s.n∧∀j,j<k→(ls.map (fun n=> !x.pl.has n))[j]? =some false) (fun k=>s.n-k) (0) ?_ ?_ ?_)))))))))))
 ·exact⟨by omega,fun j hj=>by omega⟩
 ·exact Ae wN wh0 nD
 rintro k ⟨hk,hg⟩;refine .sr (.lss J J J J J (.na (.seq ?_)));first
  |refine Sat.condP rfl (fun hc0=>?_) (fun hc0=>?_)
  |refine Sat.condNP rfl (fun hc0=>?_) (fun hc0=>?_)
  |refine Sat.cond rfl (fun hc0=>?_) (fun hc0=>?_)
 ·
  have hk2:k<s.n:=by omega
  obtain⟨b,o,hbp,hbs⟩:=hW.1.see.at (by rw[A0 hrow];omega);have h32k:(ls.getD k []).length=32:=B6 hrow oM;have hd:ls[k]? =some (ls.getD k []):=by rw[La2,La6 (show k<ls.length by omega)];rfl
  refine .skip (Bi (.seq (.block (.sr (.m J J J (.a J J J (.nsr (.m J J J (.m J J J (.m J J J (.idxSlP 32 J J J hbp J Y32.h Sz31 k oM oM (.loadEN (Aa (ls.getD k [])) J J J Y31.h J Sz31 sP (by rw[Aa,La0];exact h32k) (Bt hrow hbs oM) ?_))))))))))));refine .callCV J J J J J Body84 (whole_1 (ls.getD k []) h32k x hx p qd) (fun w hh2=>⟨Bg hW.2.1 hh2,hh2.keeps.cell sP hW.2.2⟩) (.na ?_);first
   |refine Sat.condP rfl (fun hc1=>?_) (fun hc1=>?_)
   |refine Sat.condNP rfl (fun hc1=>?_) (fun hc1=>?_)
   |refine Sat.cond rfl (fun hc1=>?_) (fun hc1=>?_)
  ·
   refine .sr (.m J J J (.a J J J (.na ?_)));refine .ret (bl_r (at_r (at_r (bl_r (at_r (en_r ?_))))));refine⟨_,[],Ai J J,sP,sP,?_,rfl⟩;first
    |exact congrArg i64 (fstBad_none (by intro j hj;exact hg j (by rw[hlen]at hj;exact hj))).symm
    |exact congrArg i64 (fstBad_at hg (by rw[Lap,hd];simpa using hc1)).symm
  refine .skip (bl_n (Bi (.region (.aI J J J J oM (.m J J J (.na ?_))))));exact⟨k+1,⟨by omega,fun j hj=>by rcases Ldo.1 hj with h|rfl;exact hg j h;rw[Lap,hd];simpa using hc1⟩,by omega,Ae wN wh0 nD⟩
 obtain rfl:k=s.n:=by omega
 refine .exit (at_x (at_x (bl_h (Bi (.sr (.a J J J (.na ?_)))))));refine .ret (en_r ?_);refine⟨_,[],Ai J J,sP,sP,?_,rfl⟩;first
  |exact congrArg i64 (fstBad_none (by intro j hj;exact hg j (by rw[hlen]at hj;exact hj))).symm
  |exact congrArg i64 (fstBad_at hg (by rw[Lap,hd];simpa using hc1)).symm
theorem contains_whole(s:Sl)(ls:List (List UInt8))(x:DD)(hx:x.ok)(p qd:Nat):Mv 83 [s.v, .func (.func 84) #[] #[ptr qd 0]] (fun W=>RowsAt W s 32 ls∧Lies (x.blks p) W∧W.cell? ⟨qd,0,none⟩=some (ptr p 0)) (.bool (ls.any (fun n=> !x.pl.has n))):=by
 intro W hW;refine Ac func83 J 9 ntmps83 J (.sr (.a J J J (.nsr (.m J J J (.m J J J (.cV J J J J Body118 (index_whole s ls x hx p qd) (fun w hh2=>⟨Cm hh2 J hW.1,Bg hW.2.1 hh2,hh2.keeps.cell sP hW.2.2⟩) (.geq J J J J J (.a J J J (.na ?_)))))))));refine .ret (en_r ?_);refine⟨_,[],Ai J J,sP,sP,?_,rfl⟩;exact congrArg Value.bool (fstBad_ge _ _)
theorem want_whole(x:DD)(hx:x.ok)(hI:x.pl.Inv)(p:Nat)(sh:Sl)(hs:List (List UInt8)):Mv 43 [ptr p 0,sh.v] (fun W=>Lies (x.blks p) W∧RowsAt W sh 32 hs) (.bool (!hs.any (fun n=> !x.pl.has n))):=by
 intro W hW;refine Ac func43 J 11 ntmps43 J (.sr (.box1 J J J ?_));intro n2 hn2 hf2;refine .a J J J (.na (.seq (.sr (.load1 J J J Y25.h J mM (by first|rfl|exact get_wds (by first|omega|(simp;omega))|exact get_wds (by first|omega|(simp;omega))|exact get_words (by first|omega|(simp;done)|(simp;omega))|exact get_bytes (by first|omega|(simp;done)|(simp;omega))|exact get_ints (by first|omega|(simp;done)|(simp;omega))) ?_))));refine .cV J J J J Body70 (want_none x hx hI p) (fun w h=>Bg hW.1 h) (.na (.cond_f J J (.skip (Bi (.sr (.m J J J (.makeFunc J J J J (.cV J J J J Body83 (contains_whole sh hs x hx p n2) (fun w h=>⟨Cm h J hW.2,Bg hW.1 h,(Bu (B:=⟨n2,[ptr p 0],25,1⟩) h mM).cell (o:=0) J⟩) ?_))))))));refine .not J J J (.a J J J (.na ?_));refine .ret (en_r (Ax (out:=[]) (Ai J J) Af ?_));exact⟨by simp,rfl⟩
end Go.Proofs.YtgjnomgkddbhcaaGreat
namespace Go.Proofs.YtgjnomgkddbhcaaGreat
open Go Hw Ed
def mC0:DB:={ DB.zero with seq:=2,prev:=mBN }
def mCR:Nat×Nat×Nat×Nat:=(4918219388157574454008950300951600336261496714867819213746146962254068804302,12066615373167398837812297369869085678792139161754506735642922152132469909793,2391075413008516104747883083306106368920068902258276330310763233931621502074,86861518318388596130886399270894904004484937538936997900655612364818747309780)
def mCN:List UInt8:=leb 32 mCR.2.2.2
def mCD:DB:=blkD s1K mC0 mCR.2.1 mCR.2.2.1
theorem mC_ok:blkOk s1H s1K 38748270507491543869280182973643753799655646515636239770492563660028217171792 mC0 mCR.1 mCR.2.1 mCR.2.2.1 mCR.2.2.2=true:=by kernel_rfl
theorem mC_len:mCN.length=32:=Ak 32 _
theorem mC_f:BlkF s1B s1K mC0 mCR.2.1 mCR.2.2.1 mCR.2.2.2:=blk_facts (H:=s1H) rfl s1_h s1_n s1_k dE dE ⟨rfl,by rfl,rfl,fun l hl=>(by first|(cases hl;done)|(rw[La1.1 hl];rfl))⟩ mC_ok
end Go.Proofs.YtgjnomgkddbhcaaGreat
namespace Go.Proofs.YtgjnomgkddbhcaaGreat
open Go Hw _root_.Go.Proofs.Tryz
open Ed
variable{D Da Db Dc:DB}{L:List (List UInt8)}{T:TypeId}{X:PD}{a b c:Block}{m q:Nat}{n:List UInt8}{w:World}
theorem law24_signed(n:Int)(seed:List UInt8)(h32:seed.length=32)(B:Block)(hB:B.ok)(D D1:DB)(hD1:D1.ok)(cSeed:Mv 117 [i64 n] (fun _=>True) (agg (Aa seed)))(cS:∀B:Block,B.ok→Meets prog 116 [agg (Aa seed),agg B.cells] [] (fun W=>BlockIs W B D) (BlkR 0 D1)):Meets prog 82 [i64 n,agg B.cells] [] (fun W=>BlockIs W B D) (BlkV D1):=by
 intro W hW;refine Ac func82 J 15 ntmps82 J (.sr (.boxA J J ?_));intro n3 hn3 hf3;refine .alloc (cs:=Block.zero.cells) J Block.zr J ?_;intro n4 hn4 hf4;refine .na (.seq (.draw (oPq [0,102,301,303,4,5,6,207,408,9]) Av zK (.m J J J (.lA J J J Y37.h J Sz37 mM (Block.length (by first|exact hB|exact h11.ok|(simp[h32];done)|exact oK|exact secrets.zero_ok|exact far.zero_ok|exact Rdr.zero_ok|exact DEnt.zero_ok|exact DPl.zero_ok )) ?_))));refine .cV J J J J Body117 (cSeed) tV (.call J J J J Body116 (cS B hB) (BlkR.loose 0 D1 hD1) (fun w h=>hW.ext h J) ?_);rintro v11 out11 ⟨B11,h11,rfl,ho11⟩;refine .m J J J (.eX J J J J (.eX J J J J (.alloc (cs:=Block.zero.cells) J Block.zr J ?_)));intro n5 hn5 hf5;refine .sA J J J J (Block.isCell (by first|exact hB|exact h11.ok|(simp[h32];done)|exact oK|exact secrets.zero_ok|exact far.zero_ok|exact Rdr.zero_ok|exact DEnt.zero_ok|exact DPl.zero_ok )) Sz37 (Block.length (by first|exact hB|exact h11.ok|(simp[h32];done)|exact oK|exact secrets.zero_ok|exact far.zero_ok|exact Rdr.zero_ok|exact DEnt.zero_ok|exact DPl.zero_ok )) mM (Block.length (by first|exact hB|exact h11.ok|(simp[h32];done)|exact oK|exact secrets.zero_ok|exact far.zero_ok|exact Rdr.zero_ok|exact DEnt.zero_ok|exact DPl.zero_ok )) uU ?_;refine .a J J J (.nsr (.lA J J J Y37.h J Sz37 mM (Block.length (by first|exact hB|exact h11.ok|(simp[h32];done)|exact oK|exact secrets.zero_ok|exact far.zero_ok|exact Rdr.zero_ok|exact DEnt.zero_ok|exact DPl.zero_ok )) ?_));refine .sA J J J J (Block.isCell (by first|exact hB|exact h11.ok|(simp[h32];done)|exact oK|exact secrets.zero_ok|exact far.zero_ok|exact Rdr.zero_ok|exact DEnt.zero_ok|exact DPl.zero_ok )) Sz37 (Block.length (by first|exact hB|exact h11.ok|(simp[h32];done)|exact oK|exact secrets.zero_ok|exact far.zero_ok|exact Rdr.zero_ok|exact DEnt.zero_ok|exact DPl.zero_ok )) mM (Block.length (by first|exact hB|exact h11.ok|(simp[h32];done)|exact oK|exact secrets.zero_ok|exact far.zero_ok|exact Rdr.zero_ok|exact DEnt.zero_ok|exact DPl.zero_ok )) uU ?_;refine .na ?_;refine .ret (en_r (Ax (out:=(out11++[])) (Au J J Y37.h J Sz37 mM (by first|(simp[h32];done)|exact Block.length (by first|exact hB|exact h11.ok|(simp[h32];done)|exact oK|exact secrets.zero_ok|exact far.zero_ok|exact Rdr.zero_ok|exact DEnt.zero_ok|exact DPl.zero_ok ))) (Ad sG Af) ?_));exact⟨B11,h11,rfl,by simpa using ho11⟩
theorem law24_filled(s:Sl)(ds:List DB)(hn:s.n≤1000)(hsm:∀d∈ds,d.ls.length≤500000∧d.ds.length≤500000):Meets prog 23 [s.v] [] (fun W=>BlocksAt W s ds) (fun v out=>∃(p:Nat) (x:DD),v=ptr p 0∧out=x.blks p∧x.ok∧x.pl=fillP PD.new ds∧x.names.length+x.orp.length≤ds.length):=by
 intro W hW;obtain⟨rs,hs⟩:=hW;have hnd:=hs.nd;refine Ac func23 J 20 ntmps23 J (.sr (.a J J J (.nsr (.call4 J J J J J Body49 (dag_new2) tV ?_))));rintro v5 out5 ⟨p,x0,rfl,rfl,hx0,hplx0,hnx0⟩;refine .a J J J (.na (.seq (.sr (.a J J J (.na (.block (.loop (ι:=Nat×DD) (fun r=>⟨[(0,s.v),(3,ptr p 0),(4,i64 (r.1:Int))],(r.2.blks p++[])⟩) (fun r=>r.1≤s.n∧r.2.ok∧r.2.pl=fillP PD.new (ds.take r.1)∧r.2.names.length+r.2.orp.length≤r.1) (fun r=>s.n-r.1) ((0,x0)) ?_ ?_ ?_)))))))
 ·exact⟨Lan _,hx0,hplx0,Lg8 hnx0⟩
 ·exact Al wN (Ad sG Af)
 rintro⟨k,x⟩ ⟨hk,hx,hplx,hnx⟩;simp only at hk hx hplx hnx ⊢;refine .seq (.sr (.m J J J (.m J J J (.lenSl J J J Y22.h (.lss J J J J J (.na ?_))))));first
  |refine Sat.condP rfl (fun hc0=>?_) (fun hc0=>?_)
  |refine Sat.condNP rfl (fun hc0=>?_) (fun hc0=>?_)
  |refine Sat.cond rfl (fun hc0=>?_) (fun hc0=>?_)
 ·
  have hk2:k<s.n:=by omega
  obtain⟨b,o,r,d,hsp,hr,hd,his,hlen,hsee⟩:=hs.at dE hk2;refine .skip (Bi (.seq (.block (.region (.m J J J (.m J J J (.m J J J (.idxSlP 131 J J J hsp J Y22.h Sz37 k J oM (.loadEN r.cells J J J Y37.h J Sz37 sP hlen hsee (.call4 J J J J J Body51 (db_own r d (hsm d (Lcn hd)).1 (hsm d (Lcn hd)).2) (fun w h=>his.ext h J) ?_))))))))));rintro v17 out17 ⟨B17,h17,rfl,hb17⟩;refine .callL (L:=(x.blks p++out17)) J J J J J Body50 (dag_add x hx p B17 d out17 ⟨h17,hb17⟩ oM) (sg_two sG sG) (Cw J) (fun w h=>Lent.of h (sg_two sG sG)) ?_;rintro v18 out18 ⟨x1,⟨p18,n18,c18⟩,bl18,rfl,rfl,hx1,hac18,h3218,hplx1,hnx1⟩;simp only[La9];refine .nil (bl_n (Bi (.region (.m J J J (.aI J J J J oM (.a J J J (.na ?_)))))));exact⟨(k+1,x1),⟨by simp only;omega,hx1,by show x1.pl=_;rw[hplx1,hplx,take_snoc hd,fillP_snoc],by simp only;omega⟩,by simp only;omega,Al wN (Ad sG Af)⟩
 have hke:k=s.n:=by omega
 refine .exit (at_x (at_x (bl_h (Bi (.sr (.m J J J (.a J J J (.na ?_))))))));refine .ret (en_r (Ax (out:=(x.blks p++[])) (Ai J J) (Ad sG Af) ?_));refine⟨p,x,rfl,by simp,hx,?_,by omega⟩;rw[hke,La4 oM]at hplx;exact hplx
theorem law24_chain(Da Db Dc:DB)(na nb:List UInt8)(hDa:Da.ok)(hDb:Db.ok)(hDc:Dc.ok)(lna:na.length=32)(lnb:nb.length=32)(hna:Be Da=na)(hnb:Be Db=nb)(cSa:∀B:Block,B.ok→Meets prog 116 [agg (Aa s1B),agg B.cells] [] (fun W=>BlockIs W B DB.zero) (BlkR 0 Da))(cSb:∀B:Block,B.ok→Meets prog 116 [agg (Aa s1B),agg B.cells] [] (fun W=>BlockIs W B { DB.zero with seq:=1,prev:=na }) (BlkR 0 Db))(cSc:∀B:Block,B.ok→Meets prog 116 [agg (Aa s1B),agg B.cells] [] (fun W=>BlockIs W B { DB.zero with seq:=2,prev:=nb }) (BlkR 0 Dc)):Meets prog 40 [] [] (fun _=>True) (ChainS Da Db Dc):=by
 intro W hW;refine Ac func40 J 16 ntmps40 J (.sr (.a J J J (.nsr (.build (cs:=Block.zero.cells) J J J (fun w=>by kernel_rfl) ?_))));refine .call4 J J J J J Body82 (law24_signed 1 s1B J Block.zero Block.zero_ok DB.zero Da hDa kitS1 cSa) (fun w h=>zero_is w) ?_;rintro v4 out4 ⟨Ba,ha,rfl,hoa⟩;have cNa:=r15_Name Ba Da ha.ok;rw[hna]at cNa;refine .alloc (cs:=Block.zero.cells) J Block.zr J ?_;intro n1 hn1 hf1;refine .sA J J J J (Block.isCell (by first|(simp[lna,lnb];done)|exact oK|exact secrets.zero_ok|exact far.zero_ok|exact Rdr.zero_ok|exact DEnt.zero_ok|exact DPl.zero_ok  |exact ha.ok|exact hb.ok|exact hc.ok|exact sp_ok _ lna|exact sp_ok _ lnb)) Sz37 (Block.length (by first|(simp[lna,lnb];done)|exact oK|exact secrets.zero_ok|exact far.zero_ok|exact Rdr.zero_ok|exact DEnt.zero_ok|exact DPl.zero_ok  |exact ha.ok|exact hb.ok|exact hc.ok|exact sp_ok _ lna|exact sp_ok _ lnb)) mM (Block.length (by first|(simp[lna,lnb];done)|exact oK|exact secrets.zero_ok|exact far.zero_ok|exact Rdr.zero_ok|exact DEnt.zero_ok|exact DPl.zero_ok  |exact ha.ok|exact hb.ok|exact hc.ok|exact sp_ok _ lna|exact sp_ok _ lnb)) uU ?_;refine .nsr (.lA J J J Y37.h J Sz37 mM (Block.length (by first|(simp[lna,lnb];done)|exact oK|exact secrets.zero_ok|exact far.zero_ok|exact Rdr.zero_ok|exact DEnt.zero_ok|exact DPl.zero_ok  |exact ha.ok|exact hb.ok|exact hc.ok|exact sp_ok _ lna|exact sp_ok _ lnb)) ?_);refine .cV J J J J Body37 (cNa) (fun w h=>hoa w (Lies.of h iN)) ?_;refine .build (cs:=({ Block.zero with fSeq:=1,fPrev:=na }:Block).cells) J J J (fun w=>build_sp 1 na lna w) (.call4 J J J J J Body82 (law24_signed 1 s1B J _ (sp_ok 1 lna) _ Db hDb kitS1 cSb) (fun w h=>sp_is w 1 lna) ?_);rintro v8 out8 ⟨Bb,hb,rfl,hob⟩;have cNb:=r15_Name Bb Db hb.ok;rw[hnb]at cNb;refine .alloc (cs:=Block.zero.cells) J Block.zr J ?_;intro n2 hn2 hf2;refine .sA J J J J (Block.isCell (by first|(simp[lna,lnb];done)|exact oK|exact secrets.zero_ok|exact far.zero_ok|exact Rdr.zero_ok|exact DEnt.zero_ok|exact DPl.zero_ok  |exact ha.ok|exact hb.ok|exact hc.ok|exact sp_ok _ lna|exact sp_ok _ lnb)) Sz37 (Block.length (by first|(simp[lna,lnb];done)|exact oK|exact secrets.zero_ok|exact far.zero_ok|exact Rdr.zero_ok|exact DEnt.zero_ok|exact DPl.zero_ok  |exact ha.ok|exact hb.ok|exact hc.ok|exact sp_ok _ lna|exact sp_ok _ lnb)) mM (Block.length (by first|(simp[lna,lnb];done)|exact oK|exact secrets.zero_ok|exact far.zero_ok|exact Rdr.zero_ok|exact DEnt.zero_ok|exact DPl.zero_ok  |exact ha.ok|exact hb.ok|exact hc.ok|exact sp_ok _ lna|exact sp_ok _ lnb)) uU ?_
 refine .na (.seq (.drawZ (oPq [100,101,102,303,4,305,206,7]) Av zK (.lA J J J Y37.h J Sz37 mM (Block.length (by first|(simp[lna,lnb];done)|exact oK|exact secrets.zero_ok|exact far.zero_ok|exact Rdr.zero_ok|exact DEnt.zero_ok|exact DPl.zero_ok  |exact ha.ok|exact hb.ok|exact hc.ok|exact sp_ok _ lna|exact sp_ok _ lnb)) ?_)));refine .lA J J J Y37.h J Sz37 mM (Block.length (by first|(simp[lna,lnb];done)|exact oK|exact secrets.zero_ok|exact far.zero_ok|exact Rdr.zero_ok|exact DEnt.zero_ok|exact DPl.zero_ok  |exact ha.ok|exact hb.ok|exact hc.ok|exact sp_ok _ lna|exact sp_ok _ lnb)) ?_;refine .lA J J J Y37.h J Sz37 mM (Block.length (by first|(simp[lna,lnb];done)|exact oK|exact secrets.zero_ok|exact far.zero_ok|exact Rdr.zero_ok|exact DEnt.zero_ok|exact DPl.zero_ok  |exact ha.ok|exact hb.ok|exact hc.ok|exact sp_ok _ lna|exact sp_ok _ lnb)) ?_;refine .cV J J J J Body37 (cNb) (fun w h=>hob w (Lies.of h iN)) ?_;refine .build (cs:=({ Block.zero with fSeq:=2,fPrev:=nb }:Block).cells) J J J (fun w=>build_sp 2 nb lnb w) (.call J J J J Body82 (law24_signed 1 s1B J _ (sp_ok 2 lnb) _ Dc hDc kitS1 cSc) (BlkV.loose Dc hDc) (fun w h=>sp_is w 2 lnb) ?_);rintro v14 out14 ⟨Bc,hc,rfl,hoc⟩;refine .mkRow2 (z:=agg Block.zero.cells) [agg Ba.cells,agg Bb.cells,agg Bc.cells] (tri Ba Bb Bc) J J Y22.h Sz37 Block.zr J J (by intro v hv;simp only[Laf,Laz,or_false]at hv;rcases hv with rfl|rfl|rfl;exact Block.length ha.ok;exact Block.length hb.ok;exact Block.length hc.ok) dE (by simp[Value.cells,agg,tri]) ?_;intro q15;refine .a J J J (.na ?_);refine .ret (en_r (Ax (out:=(⟨q15,tri Ba Bb Bc,37,(tri Ba Bb Bc).length⟩::(out14++(out8++(out4++[]))))) (Ai J J) (Ab rM (Ad sG (Ad sG (Ad sG Af)))) ?_));exact⟨q15,Ba,Bb,Bc,_,ha,hb,hc,rfl,rfl,fun W2 hl=>⟨hoa W2 (hl.sub iN),hob W2 (hl.sub iN),hoc W2 (hl.sub iN)⟩⟩
theorem mC_g:dgood mCD=0:=mC_f.2.2.1
theorem mC_nm:Be mCD=mCN:=mC_f.2.1
def wX3:PD:=cX2.adm mCN mCD
theorem w_add3:cX2.add mCD=(wX3,[mCN],0):=by
  have h:=add_fits (X:=cX2) mC_g (by rw[mC_nm];kernel_rfl) zK;rw[mC_nm]at h;have e:PD.settle (cX2.adm mCN mCD).orp.length (cX2.adm mCN mCD)=(wX3,[]):=by kernel_rfl
  rw[h,e]
theorem w_fill:fillP PD.new [mAD,mBD,mCD]=wX3:=by
  simp only[fillP,Lcx,Lev,c_add1,c_add2,w_add3]
theorem w_fill1:fillP PD.new [mAD]=cX1:=by
  simp only[fillP,Lcx,Lev,c_add1]
theorem w_inv:wX3.Inv:=by rw[←w_fill];exact PD.Inv.fill _ PD.Inv.new
theorem w_perm:wX3.names.Perm [mAN,mBN,mCN]:=of_decide_eq_true zK
theorem w_hA:Ap wX3.P mAN=some mAD:=by kernel_rfl
theorem w_hB:Ap wX3.P mBN=some mBD:=by kernel_rfl
theorem w_hC:Ap wX3.P mCN=some mCD:=by kernel_rfl
theorem w_pC:Bk mCD=[mBN]:=by kernel_rfl
theorem w_pB:Bk mBD=[mAN]:=by kernel_rfl
theorem w_pA:Bk mAD=[]:=by kernel_rfl
theorem w_has(h:Ap X.P n=some D):X.has n=true:=by unfold PD.has;rw[h];rfl
theorem w_sub{a:Int}{L S:List (List UInt8)}(hL:∀n∈L,n∈S)(hp:∀n∈S,∀D,Ap X.P n=some D→∀m∈Bk D,m∈S)(h:X.Reach a L n):n∈S:=by
  induction h with
  |base h1 _ _=>exact hL _ h1
  |step _ hP hn _ _ ih=>exact hp _ ih _ hP _ hn
theorem w_rCC:rB wX3 (-1) [mCN] mCN=true:=rB_iff.2 (reach_in w_inv La8 w_hC)
theorem w_rCB:rB wX3 (-1) [mCN] mBN=true:=rB_iff.2 (.step (rB_iff.1 w_rCC) w_hC (by rw[w_pC];exact La8) w_hB (by have:=w_inv.d0 _ _ w_hB;omega))
theorem w_rCA:rB wX3 (-1) [mCN] mAN=true:=rB_iff.2 (.step (rB_iff.1 w_rCB) w_hB (by rw[w_pB];exact La8) w_hA (by have:=w_inv.d0 _ _ w_hA;omega))
theorem w_rAA:rB wX3 (-1) [mAN] mAN=true:=rB_iff.2 (reach_in w_inv La8 w_hA)
theorem w_only(h:n≠mAN):rB wX3 (-1) [mAN] n=false:=by
  cases h9:rB wX3 (-1) [mAN] n with
  |false=>rfl
  |true=>exact absurd (La1.1 (w_sub (S:=[mAN]) (fun m hm=>hm) (fun m hm D hD k hk=>by
      rw[La1.1 hm,w_hA]at hD;cases hD;rw[w_pA]at hk;cases hk) (rB_iff.1 h9))) h
theorem w_gv:gvL wX3 [mCN] [mAN]=[mBN,mCN]:=by
  unfold gvL;refine(isortD_eq ?_ ?_).symm
  · refine List.Perm.trans ?_ (w_perm.filter _).symm
    rw[List.filter_cons_of_neg,Ldx,Ldx,List.filter_nil]
    all_goals
      rw[show([mCN].filter fun n=>wX3.has n)=[mCN] by rw[Ldx (w_has w_hC)];rfl,show([mAN].filter fun n=>wX3.has n)=[mAN] by rw[Ldx (w_has w_hA)];rfl]
    ·rw[w_rCC,w_only (of_decide_eq_true zK)];rfl
    ·rw[w_rCB,w_only (of_decide_eq_true zK)];rfl
    ·rw[w_rCA,w_rAA];decide
  · unfold SortD LeD
    simp only[Le5,Laf,Laz,or_false,forall_eq,show wX3.dp mBN=1 from by kernel_rfl,show wX3.dp mCN=2 from by kernel_rfl];exact⟨.inl dE,fun a ha=>(by cases ha),List.Pairwise.nil⟩
theorem w_blk(h:Ap X.P n=some D):X.blk n=D:=by unfold PD.blk;rw[h];rfl
theorem w_give1:((gvL wX3 [mCN] [mAN]).take (min (min (gvL wX3 [mCN] [mAN]).length (Int.toNat 1)) 8)).map wX3.blk=[mBD]:=by
  rw[w_gv];show[wX3.blk mBN]=_;rw[w_blk w_hB]
theorem w_give8:((gvL wX3 [mCN] [mAN]).take (min (min (gvL wX3 [mCN] [mAN]).length (Int.toNat 8)) 8)).map wX3.blk=[mBD,mCD]:=by
  rw[w_gv];show[wX3.blk mBN,wX3.blk mCN]=_;rw[w_blk w_hB,w_blk w_hC]
theorem w_ask:askL cX1 [mCN]=[mCN]:=by kernel_rfl
theorem chain24_facts:∃(Da Db Dc:DB) (na nb nc:List UInt8) (X1 X3:PD),(Da.ok∧Db.ok∧Dc.ok)∧(na.length=32∧nb.length=32∧nc.length=32)∧(Be Da=na∧Be Db=nb∧Be Dc=nc)
    ∧(∀B:Block,B.ok→Meets prog 116 [agg (Aa s1B),agg B.cells] [] (fun W=>BlockIs W B DB.zero) (BlkR 0 Da))∧(∀B:Block,B.ok→Meets prog 116 [agg (Aa s1B),agg B.cells] [] (fun W=>BlockIs W B { DB.zero with seq:=1,prev:=na }) (BlkR 0 Db))∧(∀B:Block,B.ok→Meets prog 116 [agg (Aa s1B),agg B.cells] [] (fun W=>BlockIs W B { DB.zero with seq:=2,prev:=nb }) (BlkR 0 Dc))∧(∀d∈ [Da,Db,Dc],d.ls.length≤500000∧d.ds.length≤500000)
    ∧(fillP PD.new [Da]=X1∧fillP PD.new [Da,Db,Dc]=X3)∧((gvL X3 [nc] [na]).take (min (min (gvL X3 [nc] [na]).length (Int.toNat 1)) 8)).map X3.blk=[Db]∧((gvL X3 [nc] [na]).take (min (min (gvL X3 [nc] [na]).length (Int.toNat 8)) 8)).map X3.blk=[Db,Dc]∧askL X1 [nc]=[nc]:=
  ⟨mAD,mBD,mCD,mAN,mBN,mCN,cX1,wX3,⟨mA_f.1,mB_f.1,mC_f.1⟩,⟨mA_len,mB_len,mC_len⟩,⟨mA_nm,mB_nm,mC_nm⟩,mA_f.2.2.2,mB_f.2.2.2,mC_f.2.2.2,
    (fun d hd=>by simp only[Laf,Laz,or_false]at hd;rcases hd with rfl|rfl|rfl<;>exact of_decide_eq_true zK),⟨w_fill1,w_fill⟩,w_give1,w_give8,w_ask⟩
theorem sameB_self{W:World}{A B:Block}{d:DB}(h1:BlockIs W A d)(h2:BlockIs W B d):sameB A B d.ls d.ls d.ds d.ds=true:=by
  simp[sameB,h1.w,h2.w,h1.seq,h2.seq,h1.prev,h2.prev,h1.sg,h2.sg]
theorem kit_blockS(A B:Block)(d:DB)(hn:d.ls.length≤1000000):Mv 79 [agg A.cells,agg B.cells] (fun W=>BlockIs W A d∧BlockIs W B d) (.bool true):=fun W hW=>by
  rw[←sameB_self hW.1 hW.2];exact kit_block A B hW.1.ok hW.2.ok d.ls d.ls d.ds d.ds (by rw[←hW.1.ls.len];exact hn) W ⟨⟨hW.1.ls,hW.1.ds⟩,⟨hW.2.ls,hW.2.ds⟩⟩
theorem kit_blocksS(s u:Sl)(xs:List DB)(hsm:∀d∈xs,d.ls.length≤1000000):Mv 35 [s.v,u.v] (fun W=>BlocksAt W s xs∧BlocksAt W u xs) (.bool true):=by
 intro W hW;obtain⟨⟨rs,hs⟩,⟨ru,hu⟩⟩:=id hW;have hnd:=hs.nd;have hnu:=hu.nd;have hmax:=hs.max;simp only[maxLen]at hmax;refine Ac func35 J 27 ntmps35 J (.sr (.a J J J (.na (.seq (.sr (.m J J J (.lenSl J J J Y22.h (.m J J J (.lenSl J J J Y22.h (.nei J J J J (show(!decide _)=false from congrArg not (decide_eq_true oM)) (.na (.cond_f J J (.skip (Bi (.seq (.sr (.a J J J (.na (.block (.loop (ι:=Nat) (fun k=>⟨[(0,s.v),(1,u.v),(5,i64 (k:Int))],[]⟩) (fun k=>k≤s.n) (fun k=>s.n-k) (0) ?_ ?_ ?_))))))))))))))))))))
 ·exact Lan _
 ·exact Ae wN wh0 nD
 rintro k hk;refine .seq (.sr (.m J J J (.m J J J (.lenSl J J J Y22.h (.lss J J J J J (.na ?_))))));first
  |refine Sat.condP rfl (fun hc1=>?_) (fun hc1=>?_)
  |refine Sat.condNP rfl (fun hc1=>?_) (fun hc1=>?_)
  |refine Sat.cond rfl (fun hc1=>?_) (fun hc1=>?_)
 ·
  have hk2:k<s.n:=by omega
  obtain⟨b,o,r,d,hsp,hr,hd,his,hlen,hsee⟩:=hs.at dE hk2;obtain⟨b2,o2,r2,d2,hspu,hru,hdu,hiu,hlenu,hseeu⟩:=hu.at dE (show k<u.n by omega);obtain rfl:d=d2:=by rw[hd]at hdu;cases hdu;rfl
  refine .skip (Bi (.seq (.block (.seq (.draw (oPq [0,1,2,103,4,5,6,107,308,9]) Av zK (.m J J J (.m J J J (.idxSlP 131 J J J hsp J Y22.h Sz37 k J oM (.loadEN r.cells J J J Y37.h J Sz37 sP hlen hsee (.m J J J (.m J J J (.idxSlP 131 J J J hspu J Y22.h Sz37 k J oM (.loadEN r2.cells J J J Y37.h J Sz37 sP hlenu hseeu (.cV J J J J Body79 (kit_blockS r r2 d (hsm d (Lcn hd))) (fun w h=>⟨his.ext h J,hiu.ext h J⟩) (.not J J J (.na (.cond_f J J (.skip (bl_n (Bi (.region (.m J J J (.aI J J J J oM (.a J J J (.na ?_)))))))))))))))))))))))));exact⟨k+1,by omega,by omega,Ae wN wh0 nD⟩
 obtain rfl:k=s.n:=by omega
 refine .exit (at_x (at_x (bl_h (Bi (.sr (.a J J J (.na ?_)))))));refine .ret (en_r ?_);refine⟨_,[],Ai J J,sP,sP,?_,rfl⟩;rfl
def DagAt(W:World)(p:Nat)(X:PD):Prop:=∃x:DD,x.ok∧x.pl=X∧Lies (x.blks p) W
def FilL(ds:List DB)(v:Value)(out:List Blk):Prop:=∃p:Nat,v=ptr p 0∧∀W2,Lies out W2→DagAt W2 p (fillP PD.new ds)
theorem FilL.loose(ds:List DB):Loose (FilL ds):=fun l hl=>by
  obtain⟨n,_,hn⟩:=fresh_is 0 l;exact⟨_,[⟨n,[undef],0,0⟩],⟨0,rfl,fun W2 h=>(lie_none h).elim⟩,none_nodup hl hn _⟩
theorem law24_filledL(s:Sl)(ds:List DB)(hn:s.n≤1000)(hsm:∀d∈ds,d.ls.length≤500000∧d.ds.length≤500000):Meets prog 23 [s.v] [] (fun W=>BlocksAt W s ds) (FilL ds):=
  (law24_filled s ds hn hsm).imp (fun w h=>h) fun v out ⟨p,x,h1,h2,h3,h4,_⟩=>⟨p,h1,fun W2 h=>⟨x,h3,h4,h2▸h⟩⟩
def GiveF(L:List DB)(v:Value)(out:List Blk):Prop:=∃s:Sl,v= .tuple #[s.v,i64 0]∧s.n=L.length∧∀W,Lies out W→BlocksAt W s L
theorem want_giveF(X:PD)(hI:X.Inv)(hO:X.Ord)(p:Nat)(sw sh:Sl)(ws hs:List (List UInt8))(hw1:ws.length≤90000)(hh1:hs.length≤90000)(most:Int)(hm:1≤most){L:List DB}(h:((gvL X ws hs).take (min (min (gvL X ws hs).length most.toNat) 8)).map X.blk=L):
    Meets prog 33 [ptr p 0,sw.v,sh.v,i64 most] [] (fun W=>DagAt W p X∧RowsAt W sw 32 ws∧RowsAt W sh 32 hs) (GiveF L):=by
  rintro W ⟨⟨x,hx,rfl,hl⟩,h2,h3⟩;refine(want_giveG x hx hI hO p sw sh ws hs hw1 hh1 most hm W ⟨hl,h2,h3⟩).mono fun e W' ⟨v,out,he,⟨v0,hv,sl,bl,bl2,rs,hv0,ho,hos⟩,hr⟩=>⟨v,out,he,?_,hr⟩;have h8:L.length≤8:=by rw[←h,La0,Lai];omega
  rw[h]at hos;subst ho;exact⟨sl,by rw[hv,hv0],hos.acc.num,fun W hl=>⟨rs,hos.seq (hl.sub fun b hb=>Lar _ hb) (hl.sub fun b hb=>Lb1 _ hb) oM⟩⟩
theorem want_askF(X:PD)(hI:X.Inv)(p:Nat)(sh:Sl)(hs:List (List UInt8))(hh1:hs.length≤90000)(h:askL X hs=L):
    Meets prog 27 [ptr p 0,sh.v] [] (fun W=>DagAt W p X∧RowsAt W sh 32 hs) (RowsR L):=by
  rintro W ⟨⟨x,hx,rfl,hl⟩,h2⟩;rw[←h];exact(want_askG x hx hI p sh hs hh1 W ⟨hl,h2⟩).mono fun e W' ⟨v,out,he,⟨s,hv,hac⟩,hr⟩=>⟨v,out,he,⟨s,hv,hac.num,fun W2 h2=>hac.see h2⟩,hr⟩
theorem tri_cut(hw:BlkOk w ⟨q,tri a b c,T,m⟩)(o:Nat){l:List Value}(e:((tri a b c).drop o).take l.length=l):Sees w q o l:=sees_kok hw fun j v hj=>by
  rw[←e]at hj;have h1:=(Laa.1 hj).1;rw[Lei (by rw[Lai]at h1;omega),Lbd]at hj;exact hj
theorem tri_some{q o n c0:Nat}{rs:List Block}{ds:List DB}(hw:BlkOk w ⟨q,tri a b c,T,m⟩)(hr:rs.length=n)(hd:ds.length=n)(hi:∀(i:Nat) (r:Block) (d:DB),rs[i]? =some r→ds[i]? =some d→BlockIs w r d)(ho:∀r∈rs,r.ok)(hn:n≤c0)(hc:c0≤1000)(e:((tri a b c).drop o).take (rs.map Block.cells).flatten.length=(rs.map Block.cells).flatten):
    BlocksAt w ⟨some ⟨q,o,none⟩,n,c0⟩ ds:=
  ⟨rs,hr,hd,hi,fun r h=>Block.length (ho r h),hn,SeesP.of (tri_cut hw o e),(by show n≤maxLen;unfold maxLen;omega),fun e=>by cases e⟩
theorem tri_first(h:BlkOk w ⟨q,tri a b c,T,m⟩)(hi:BlockIs w a Da∧BlockIs w b Db∧BlockIs w c Dc):BlocksAt w ⟨some ⟨q,0,none⟩,1,3⟩ [Da]:=
  tri_some (rs:=[a]) h rfl rfl (fun i r d hr hd=>by rcases i with _|i;cases hr;cases hd;exact hi.1;cases hr) (fun r hr=>by rw[La1.1 hr];exact hi.1.ok) dE dE
    (by have h1:=Block.length hi.1.ok;simp[tri,h1])
theorem tri_mid(h:BlkOk w ⟨q,tri a b c,T,m⟩)(hi:BlockIs w a Da∧BlockIs w b Db∧BlockIs w c Dc):BlocksAt w ⟨some ⟨q,131,none⟩,1,2⟩ [Db]:=
  tri_some (rs:=[b]) h rfl rfl (fun i r d hr hd=>by rcases i with _|i;cases hr;cases hd;exact hi.2.1;cases hr) (fun r hr=>by rw[La1.1 hr];exact hi.2.1.ok) dE dE
    (by have h1:=Block.length hi.1.ok;have h2:=Block.length hi.2.1.ok;simp[tri,h2,Lbf,h1])
theorem tri_rest(h:BlkOk w ⟨q,tri a b c,T,m⟩)(hi:BlockIs w a Da∧BlockIs w b Db∧BlockIs w c Dc):BlocksAt w ⟨some ⟨q,131,none⟩,2,2⟩ [Db,Dc]:=
  tri_some (rs:=[b,c]) h rfl rfl (fun i r d hr hd=>by rcases i with _|_|i;cases hr;cases hd;exact hi.2.1;cases hr;cases hd;exact hi.2.2;cases hr) (fun r hr=>by simp only[Laf,Laz,or_false]at hr;rcases hr with rfl|rfl;exact hi.2.1.ok;exact hi.2.2.ok) dE dE
    (by have h1:=Block.length hi.1.ok;have h2:=Block.length hi.2.1.ok;have h3:=Block.length hi.2.2.ok;simp[tri,h2,h3,Lbf,h1];exact La4 (by simp[h2,h3]))
theorem law24_lives  :Mv 21 [] (fun _=>True) (.bool true):=by
 intro W hW;obtain⟨Da,Db,Dc,na,nb,nc,X1,X3,⟨hDa,hDb,hDc⟩,⟨lna,lnb,lnc⟩,⟨hna,hnb,hnc⟩,cSa,cSb,cSc,hsm,⟨hfil1,hfil3⟩,hg1,hg8,hask⟩:=chain24_facts;have hI1:X1.Inv:=by rw[←hfil1];exact PD.Inv.fill _ PD.Inv.new
 have hI3:X3.Inv:=by rw[←hfil3];exact PD.Inv.fill _ PD.Inv.new
 have hO3:X3.Ord:=by rw[←hfil3];exact PD.Ord.fill _ PD.Inv.new PD.Ord.new
 have hsm1:∀d∈ [Da],d.ls.length≤500000∧d.ds.length≤500000:=fun d hd=>hsm d (by rw[La1.1 hd];exact La8);refine Ac func21 J 66 ntmps21 J (.sr (.a J J J (.nsr (.call4 J J J J J Body40 (law24_chain Da Db Dc na nb hDa hDb hDc lna lnb hna hnb cSa cSb cSc) tV ?_))));rintro v8 out8 ⟨q,Ba,Bb,Bc,bl,ha,hb,hc,rfl,rfl,hch⟩;have cNa:=r15_Name Ba Da ha.ok;have cNc:=r15_Name Bc Dc hc.ok;rw[hna]at cNa;rw[hnc]at cNc;refine .a J J J (.nil (Bi (.seq ?_)))
 try simp only[Lae,Lah,La9]
 refine .withK (sp_k (sp_x sp_n)) J (.draw (oPq [0,1,2,4,5,6,303,307,208,209,410,411]) Av zK (.m J J J (.idxSlP 131 J J J J J Y22.h Sz37 0 J dE (.kloadSN (n:=131) Ba.cells J J J Y37.h J Sz37 (Block.length ha.ok) (fun w h=>(tri_sees ha.ok hb.ok hc.ok (h ⟨q,tri Ba Bb Bc,37,(tri Ba Bb Bc).length⟩ (by simp[Cx.with]))).1) ?_))));refine .m J J J (.idxSlP 131 J J J J J Y22.h Sz37 2 J dE (.kloadSN (n:=131) Bc.cells J J J Y37.h J Sz37 (Block.length hc.ok) (fun w h=>(tri_sees ha.ok hb.ok hc.ok (h ⟨q,tri Ba Bb Bc,37,(tri Ba Bb Bc).length⟩ (by simp[Cx.with]))).2.2) ?_));refine .cV J J J J Body37 (cNa) (fun w h=>(hch w (Lies.of h iN)).1) ?_;refine .cV J J J J Body37 (cNc) (fun w h=>(hch w (Lies.of h iN)).2.2) ?_;refine .alloc (cs:=(Aa (List.replicate 32 0))) J Cf J ?_;intro n2 hn2 hf2;refine .alloc (cs:=(Aa (List.replicate 32 0))) J Cf J ?_;intro n3 hn3 hf3;first
  |refine Tr.sA rfl rfl rfl rfl (by first|exact Am _|exact A1 _|simp[isCell]) Sz31 (by first|(simp[lna,lnc];done)|assumption|(rw[Aa,La0];assumption)) mM (by first|(simp[lna,lnc];done)|assumption|(rw[Aa,La0];assumption)) uU ?_
  |refine Tr.storeN _ rfl rfl rfl rfl rfl (by first|exact Am _|exact A1 _|simp[isCell]) Sz31 (by first|(simp[lna,lnc];done)|assumption|(rw[Aa,La0];assumption)) mM (by first|(simp[lna,lnc];done)|assumption|(rw[Aa,La0];assumption)) (by exact rfl) uU ?_
 first
  |refine Tr.sA rfl rfl rfl rfl (by first|exact Am _|exact A1 _|simp[isCell]) Sz31 (by first|(simp[lna,lnc];done)|assumption|(rw[Aa,La0];assumption)) mM (by first|(simp[lna,lnc];done)|assumption|(rw[Aa,La0];assumption)) uU ?_
  |refine Tr.storeN _ rfl rfl rfl rfl rfl (by first|exact Am _|exact A1 _|simp[isCell]) Sz31 (by first|(simp[lna,lnc];done)|assumption|(rw[Aa,La0];assumption)) mM (by first|(simp[lna,lnc];done)|assumption|(rw[Aa,La0];assumption)) (by exact rfl) uU ?_
 refine .nil ?_
 refine Bi ?_
 refine .seq ?_
 try simp only[Lae,Lah,La9]
 refine .withK (sp_k (sp_k (sp_x (sp_v sp_n)))) J (.draw (oPq [0,2,4,301,203,205,406,7,8,9,10,11]) Av zK ?_)
 try simp only[Lae,Lah,La9]
 refine .m J J J ?_;first
  |refine Tr.kloadAll rfl rfl rfl Y31.h rfl Sz31 mM (by first|(simp[lna,lnc];done)|assumption|(rw[Aa,La0];assumption)) ?_
  |refine Tr.kloadN _ rfl rfl rfl Y31.h rfl Sz31 mM (by exact rfl) (by first|(simp[lna,lnc];done)|assumption|(rw[Aa,La0];assumption)) ?_
 first
  |refine Tr.kloadAll rfl rfl rfl Y31.h rfl Sz31 mM (by first|(simp[lna,lnc];done)|assumption|(rw[Aa,La0];assumption)) ?_
  |refine Tr.kloadN _ rfl rfl rfl Y31.h rfl Sz31 mM (by exact rfl) (by first|(simp[lna,lnc];done)|assumption|(rw[Aa,La0];assumption)) ?_
 refine .call J J J J Body23 (law24_filledL ⟨some ⟨q,0,none⟩,3,3⟩ [Da,Db,Dc] sP hsm) (FilL.loose _) (fun w h=>(tri_blocks (Bu (B:=⟨q,tri Ba Bb Bc,37,(tri Ba Bb Bc).length⟩) h mM) (hch w (Lies.of h iN)))) ?_;rintro v19 out19 ⟨p19,rfl,hd19⟩;rw[hfil3]at hd19;refine .mkRow2 (z:=agg (Aa (List.replicate 32 0))) [agg (Aa nc)] (As [nc]) J J Y32.h Sz31 Cf J J (by intro v hv;simp only[Laf,Laz,or_false]at hv;rcases hv with rfl<;>simp[Value.cells,agg,Aa,lnc]) dE (by simp[Value.cells,agg,As]) ?_;intro q21;refine .mkRow2 (z:=agg (Aa (List.replicate 32 0))) [agg (Aa na)] (As [na]) J J Y32.h Sz31 Cf J J (by intro v hv;simp only[Laf,Laz,or_false]at hv;rcases hv with rfl<;>simp[Value.cells,agg,Aa,lna]) dE (by simp[Value.cells,agg,As]) ?_;intro q23;refine .call4 J J J J J Body33 (want_giveF X3 hI3 hO3 p19 ⟨some ⟨q21,0,none⟩,1,1⟩ ⟨some ⟨q23,0,none⟩,1,1⟩ [nc] [na] sP sP 1 dE hg1) (fun w h=>⟨hd19 w (Lies.of h iN),row_one lnc (by have h9:=Aq (b:=q21) (cs:=As [nc]) h mM;simpa[As]using h9),row_one lna (by have h9:=Aq (b:=q23) (cs:=As [na]) h mM;simpa[As]using h9)⟩) ?_;rintro v24 out24 ⟨s24,rfl,hn24,hb24⟩;refine .m J J J (.eX J J J J (.eX J J J J (.a J J J (.a J J J (.nil (Bi (.seq ?_)))))))
 try simp only[Lae,Lah,La9]
 refine .withK (sp_x (sp_v (sp_v (sp_x (sp_x (sp_v (sp_k (sp_k sp_n)))))))) J (.draw (oPq [0,2,4,301,203,205,406,7,8,9,10,11]) Av zK ?_)
 try simp only[Lae,Lah,La9]
 refine .m J J J ?_;first
  |refine Tr.kloadAll rfl rfl rfl Y31.h rfl Sz31 mM (by first|(simp[lna,lnc];done)|assumption|(rw[Aa,La0];assumption)) ?_
  |refine Tr.kloadN _ rfl rfl rfl Y31.h rfl Sz31 mM (by exact rfl) (by first|(simp[lna,lnc];done)|assumption|(rw[Aa,La0];assumption)) ?_
 first
  |refine Tr.kloadAll rfl rfl rfl Y31.h rfl Sz31 mM (by first|(simp[lna,lnc];done)|assumption|(rw[Aa,La0];assumption)) ?_
  |refine Tr.kloadN _ rfl rfl rfl Y31.h rfl Sz31 mM (by exact rfl) (by first|(simp[lna,lnc];done)|assumption|(rw[Aa,La0];assumption)) ?_
 refine .call J J J J Body23 (law24_filledL ⟨some ⟨q,0,none⟩,3,3⟩ [Da,Db,Dc] sP hsm) (FilL.loose _) (fun w h=>(tri_blocks (Bu (B:=⟨q,tri Ba Bb Bc,37,(tri Ba Bb Bc).length⟩) h mM) (hch w (Lies.of h iN)))) ?_;rintro v29 out29 ⟨p29,rfl,hd29⟩;rw[hfil3]at hd29;refine .mkRow2 (z:=agg (Aa (List.replicate 32 0))) [agg (Aa nc)] (As [nc]) J J Y32.h Sz31 Cf J J (by intro v hv;simp only[Laf,Laz,or_false]at hv;rcases hv with rfl<;>simp[Value.cells,agg,Aa,lnc]) dE (by simp[Value.cells,agg,As]) ?_;intro q31;refine .mkRow2 (z:=agg (Aa (List.replicate 32 0))) [agg (Aa na)] (As [na]) J J Y32.h Sz31 Cf J J (by intro v hv;simp only[Laf,Laz,or_false]at hv;rcases hv with rfl<;>simp[Value.cells,agg,Aa,lna]) dE (by simp[Value.cells,agg,As]) ?_;intro q33;refine .call4 J J J J J Body33 (want_giveF X3 hI3 hO3 p29 ⟨some ⟨q31,0,none⟩,1,1⟩ ⟨some ⟨q33,0,none⟩,1,1⟩ [nc] [na] sP sP 8 dE hg8) (fun w h=>⟨hd29 w (Lies.of h iN),row_one lnc (by have h9:=Aq (b:=q31) (cs:=As [nc]) h mM;simpa[As]using h9),row_one lna (by have h9:=Aq (b:=q33) (cs:=As [na]) h mM;simpa[As]using h9)⟩) ?_;rintro v34 out34 ⟨s34,rfl,hn34,hb34⟩;refine .m J J J (.eX J J J J (.eX J J J J (.a J J J (.a J J J (.nil (Bi (.seq ?_)))))))
 try simp only[Lae,Lah,La9]
 refine .withK (sp_x (sp_v (sp_v (sp_x (sp_x (sp_v (sp_v (sp_x (sp_x (sp_v (sp_k (sp_k sp_n)))))))))))) J (.draw (oPq [0,1,2,3,4,5,6,7,8,10,13,309,211,312,214,315,16,17,18,19,20,321,22,23,24,25,26,327,28,29]) Av zK ?_)
 try simp only[Lae,Lah,La9]
 refine .m J J J (.eqi J J J J (decide_eq_true (rfl)) (.m J J J (.m J J J (.eqi J J J J (decide_eq_true (rfl)) (.pick J J J J J J (.m J J J (.m J J J (.sliceHiA ⟨some ⟨q,0,none⟩,3,3⟩ 1 J J J J J (by show 1≤3;decide) Y22.h Sz37 ?_))))))));first
  |refine Tr.kloadAll rfl rfl rfl Y31.h rfl Sz31 mM (by first|(simp[lna,lnc];done)|assumption|(rw[Aa,La0];assumption)) ?_
  |refine Tr.kloadN _ rfl rfl rfl Y31.h rfl Sz31 mM (by exact rfl) (by first|(simp[lna,lnc];done)|assumption|(rw[Aa,La0];assumption)) ?_
 first
  |refine Tr.kloadAll rfl rfl rfl Y31.h rfl Sz31 mM (by first|(simp[lna,lnc];done)|assumption|(rw[Aa,La0];assumption)) ?_
  |refine Tr.kloadN _ rfl rfl rfl Y31.h rfl Sz31 mM (by exact rfl) (by first|(simp[lna,lnc];done)|assumption|(rw[Aa,La0];assumption)) ?_
 refine .call J J J J Body23 (law24_filledL ⟨some ⟨q,0,none⟩,1,3⟩ [Da] sP hsm1) (FilL.loose _) (fun w h=>(tri_first (Bu (B:=⟨q,tri Ba Bb Bc,37,(tri Ba Bb Bc).length⟩) h mM) (hch w (Lies.of h iN)))) ?_;rintro v46 out46 ⟨p46,rfl,hd46⟩;rw[hfil1]at hd46;refine .mkRow2g (z:=agg (Aa (List.replicate 32 0))) [agg (Aa nc)] (As [nc]) J J J Y32.h Sz31 Cf J J (by intro v hv;simp only[Laf,Laz,or_false]at hv;rcases hv with rfl<;>simp[Value.cells,agg,Aa,lnc]) dE (by simp[Value.cells,agg,As]) ?_;intro q48;refine .call J J J J Body27 (want_askF X1 hI1 p46 ⟨some ⟨q48,0,none⟩,1,1⟩ [nc] sP hask) (RowsR.loose (one_32 lnc)) (fun w h=>⟨hd46 w (Lies.of h iN),row_one lnc (by have h9:=Aq (b:=q48) (cs:=As [nc]) h mM;simpa[As]using h9)⟩) ?_;rintro v49 out49 ⟨⟨p49,n49,c49⟩,rfl,hn49,hs49⟩;obtain rfl:n49=1:=hn49;refine .mkRow2g (z:=agg (Aa (List.replicate 32 0))) [agg (Aa nc)] (As [nc]) J J J Y32.h Sz31 Cf J J (by intro v hv;simp only[Laf,Laz,or_false]at hv;rcases hv with rfl<;>simp[Value.cells,agg,Aa,lnc]) dE (by simp[Value.cells,agg,As]) ?_;intro q51;refine .cV J J J J Body20 (dig_same p49 (some ⟨q51,0,none⟩) 1 c49 1 [nc] (one_32 lnc) J dE) (fun w h=>⟨hs49 w (Lies.of h iN),SeesP.of (Aq (b:=q51) h mM)⟩) ?_;refine .pick J J J J J J (.m J J J (.m J J J (.m J J J (.sliceLoHiN 1 2 J J J J J J J dE dE Y22.h Sz37 (.cV J J J J Body35 (kit_blocksS s24 ⟨some ⟨q,131,none⟩,1,2⟩ [Db] (fun d hd=>by have:=hsm d (by rw[La1.1 hd];simp);omega)) (fun w h=>⟨hb24 w (Lies.of h iN),(tri_mid (Bu (B:=⟨q,tri Ba Bb Bc,37,(tri Ba Bb Bc).length⟩) h mM) (hch w (Lies.of h iN)))⟩) ?_)))));refine .pick J J J J J J (.m J J J (.m J J J (.m J J J (.sliceLoN 1 J J J J J dE dE Y22.h Sz37 (.cV J J J J Body35 (kit_blocksS s34 ⟨some ⟨q,131,none⟩,2,2⟩ [Db,Dc] (fun d hd=>by have:=hsm d (Lac _ hd);omega)) (fun w h=>⟨hb34 w (Lies.of h iN),(tri_rest (Bu (B:=⟨q,tri Ba Bb Bc,37,(tri Ba Bb Bc).length⟩) h mM) (hch w (Lies.of h iN)))⟩) ?_)))));refine .pick J J J J J J (.a J J J (.nil (Bi ?_)));refine .ret (en_r (Ax (out:=[]) (Ai J J) Af ?_));exact⟨rfl,rfl⟩
theorem kit_errs_same(q1 q2 n c1 c2:Nat)(l:List Int)(hl:l.length=n)(hn:n≤1000):Mv 42 [.slice (some ⟨q1,0,none⟩) n c1, .slice (some ⟨q2,0,none⟩) n c2] (fun W=>Sees W q1 0 (l.map i64)∧Sees W q2 0 (l.map i64)) (.bool true):=by
 intro W hW;refine Ac func42 J 26 ntmps42 J (.sr (.a J J J (.na (.seq (.sr (.m J J J (.lenSl J J J Y73 (.m J J J (.lenSl J J J Y73 (.nei J J J J (show(!decide _)=false from congrArg not (decide_eq_true oM)) (.na (.cond_f J J (.skip (Bi (.seq (.sr (.a J J J (.na (.block (.loop (ι:=Nat) (fun k=>⟨[(0, .slice (some ⟨q1,0,none⟩) n c1),(1, .slice (some ⟨q2,0,none⟩) n c2),(5,i64 (k:Int))],[]⟩) (fun k=>k≤n) (fun k=>n-k) (0) ?_ ?_ ?_))))))))))))))))))))
 ·exact Lan _
 ·exact Ae wN wh0 nD
 rintro k hk;refine .seq (.sr (.m J J J (.m J J J (.lenSl J J J Y73 (.lss J J J J J (.na ?_))))));first
  |refine Sat.condP rfl (fun hc1=>?_) (fun hc1=>?_)
  |refine Sat.condNP rfl (fun hc1=>?_) (fun hc1=>?_)
  |refine Sat.cond rfl (fun hc1=>?_) (fun hc1=>?_)
 ·
  have hk2:k<n:=by omega
  obtain⟨zz,hzz⟩:∃z,z=l.getD k 0:=⟨_,rfl⟩;have hzc:(l.map i64)[k]? =some (i64 zz):=by rw[hzz,Lap,La2,La6 oM];rfl
  refine .skip (Bi (.seq (.block (.seq (.draw (oPq [0,1,2,103,4,5,6,107,8]) Av zK (.m J J J (.m J J J (.idxSlP 1 J J J J J Y73 Sz39 k J oM (.loadE J J J underlying39 J (by first|(simp;done)|(simp;exact hW.2.2)|(simp[Cx.with];done)|(simp[Cx.with];omega)) ((by have:=hW.1 k _ hzc;simpa using this)) ?_)))))))));refine .m J J J (.m J J J (.idxSlP 1 J J J J J Y73 Sz39 k J oM (.loadE J J J underlying39 J (by first|(simp;done)|(simp;exact hW.2.2)|(simp[Cx.with];done)|(simp[Cx.with];omega)) ((by have:=hW.2 k _ hzc;simpa using this)) ?_)));refine .nei J J J J (show(!decide _)=false from congrArg not (decide_eq_true (rfl))) (.na (.cond_f J J (.skip (bl_n (Bi (.region (.m J J J (.aI J J J J oM (.a J J J (.na ?_))))))))));exact⟨k+1,by omega,by omega,Ae wN wh0 nD⟩
 obtain rfl:k=n:=by omega
 refine .exit (at_x (at_x (bl_h (Bi (.sr (.a J J J (.na ?_)))))));refine .ret (en_r ?_);refine⟨_,[],Ai J J,sP,sP,?_,rfl⟩;rfl
def wzD:DB:={ DB.zero with seq:=1 }
theorem wz_g:dgood wzD=2:=by
  have h:wzD.check=2:=by kernel_rfl
  unfold dgood;rw[if_neg (by rw[h];decide),h]
def wX4:PD:={ cX1 with orp:=[(mCN,mCD)] }
def wX5:PD:=((wX4.adm mBN mBD).drop1 mCN).adm mCN mCD
theorem n_add1:cX1.add mAD=(cX1,[],8):=add_there mA_g (by rw[mA_nm];kernel_rfl)
theorem n_add2:cX1.add mCD=(wX4,[],0):=by
  have h:=add_keep (X:=cX1) mC_g (by rw[mC_nm];kernel_rfl) zK dE;rw[mC_nm]at h;exact h
theorem n_add3:wX4.add wzD=(wX4,[],2):=by rw[add_bad (by rw[wz_g];decide),wz_g]
theorem n_add4:wX4.add mBD=(wX5,[mBN,mCN],0):=by
  have h:=add_fits (X:=wX4) mB_g (by rw[mB_nm];kernel_rfl) zK;rw[mB_nm]at h;have e:PD.settle (wX4.adm mBN mBD).orp.length (wX4.adm mBN mBD)=(wX5,[mCN]):=by kernel_rfl
  rw[h,e]
theorem n_fill:fillP cX1 [mAD,mCD,wzD,mBD]=wX5:=by
  simp only[fillP,Lcx,Lev,n_add1,n_add2,n_add3,n_add4]
theorem n_errs:takeE cX1 [mAD,mCD,wzD,mBD]=[8,0,2,0]:=by simp only[takeE,n_add1,n_add2,n_add3,n_add4]
theorem n_num:takeN cX1 [mAD,mCD,wzD,mBD]=2:=by simp only[takeN,n_add1,n_add2,n_add3,n_add4];rfl
theorem n_inv:wX5.Inv:=by rw[←n_fill,←w_fill1];exact PD.Inv.fill _ (PD.Inv.fill _ PD.Inv.new)
theorem n_hA:Ap wX5.P mAN=some mAD:=by kernel_rfl
theorem n_hB:Ap wX5.P mBN=some mBD:=by kernel_rfl
theorem n_hC:Ap wX5.P mCN=some mCD:=by kernel_rfl
theorem n_rC:rB wX5 (-1) [mCN] mCN=true:=rB_iff.2 (reach_in n_inv La8 n_hC)
theorem n_rB:rB wX5 (-1) [mCN] mBN=true:=rB_iff.2 (.step (rB_iff.1 n_rC) n_hC (by rw[w_pC];exact La8) n_hB (by have:=n_inv.d0 _ _ n_hB;omega))
theorem n_rA:rB wX5 (-1) [mCN] mAN=true:=rB_iff.2 (.step (rB_iff.1 n_rB) n_hB (by rw[w_pB];exact La8) n_hA (by have:=n_inv.d0 _ _ n_hA;omega))
theorem n_perm:wX5.names.Perm [mAN,mBN,mCN]:=of_decide_eq_true zK
theorem n_gv:(gvL wX5 [mCN] []).length=3:=by
  unfold gvL;rw[(isortD_perm _ _).length_eq,Ld2.2,n_perm.length_eq]
  ·rfl
  · intro n hn
    rw[show([mCN].filter fun n=>wX5.has n)=[mCN] by rw[Ldx (w_has n_hC)];rfl,show(([]:List (List UInt8)).filter fun n=>wX5.has n)=[]from rfl,rB_nil];have h:=n_perm.mem_iff.1 hn;simp only[Laf,Laz,or_false]at h;rcases h with rfl|rfl|rfl
    ·rw[n_rA];rfl
    ·rw[n_rB];rfl
    ·rw[n_rC];rfl
theorem n_ask:askL wX5 [mCN]=[]:=by kernel_rfl
theorem n_hC1:(![mCN].any fun n=> !wX5.has n)=true:=by kernel_rfl
theorem n_hZ:(![(List.replicate 32 0)].any fun n=> !wX5.has n)=false:=by kernel_rfl
theorem names24_facts:∃(Da Db Dc:DB) (na nb nc:List UInt8) (X1 X5:PD),(Da.ok∧Db.ok∧Dc.ok)∧(na.length=32∧nb.length=32∧nc.length=32)∧(Be Da=na∧Be Db=nb∧Be Dc=nc)
    ∧(∀B:Block,B.ok→Meets prog 116 [agg (Aa s1B),agg B.cells] [] (fun W=>BlockIs W B DB.zero) (BlkR 0 Da))∧(∀B:Block,B.ok→Meets prog 116 [agg (Aa s1B),agg B.cells] [] (fun W=>BlockIs W B { DB.zero with seq:=1,prev:=na }) (BlkR 0 Db))∧(∀B:Block,B.ok→Meets prog 116 [agg (Aa s1B),agg B.cells] [] (fun W=>BlockIs W B { DB.zero with seq:=2,prev:=nb }) (BlkR 0 Dc))∧(∀d∈ [Da],d.ls.length≤500000∧d.ds.length≤500000)
    ∧fillP PD.new [Da]=X1∧fillP X1 [Da,Dc,{ DB.zero with seq:=1 },Db]=X5∧takeE X1 [Da,Dc,{ DB.zero with seq:=1 },Db]=[8,0,2,0]∧takeN X1 [Da,Dc,{ DB.zero with seq:=1 },Db]=2∧(gvL X5 [nc] []).length=3∧askL X5 [nc]=[]∧(![nc].any fun n=> !X5.has n)=true∧(![(List.replicate 32 0)].any fun n=> !X5.has n)=false:=
  ⟨mAD,mBD,mCD,mAN,mBN,mCN,cX1,wX5,⟨mA_f.1,mB_f.1,mC_f.1⟩,⟨mA_len,mB_len,mC_len⟩,⟨mA_nm,mB_nm,mC_nm⟩,mA_f.2.2.2,mB_f.2.2.2,mC_f.2.2.2,
    (fun d hd=>by rw[La1.1 hd];exact of_decide_eq_true zK),w_fill1,n_fill,n_errs,n_num,n_gv,n_ask,n_hC1,n_hZ⟩
def quad(a b c d:Block):List Value:=a.cells++(b.cells++(c.cells++(d.cells++[])))
theorem quad_at{a b c d:Block}{A B C D:DB}(h:BlkOk w ⟨q,quad a b c d,T,m⟩)(ha:BlockIs w a A)(hb:BlockIs w b B)(hc:BlockIs w c C)(hd:BlockIs w d D):SeqIs Block.cells 131 BlockIs w ⟨some ⟨q,0,none⟩,4,4⟩ [a,b,c,d] [A,B,C,D]:=by
  refine⟨rfl,rfl,fun i r e hr he=>?_,fun r hr=>?_,Lab 4,SeesP.of (sees_kok h fun j v hj=>?_),(by show 4≤maxLen;decide),fun e=>by cases e⟩
  · rcases i with _|_|_|_|i
    ·cases hr;cases he;exact ha
    ·cases hr;cases he;exact hb
    ·cases hr;cases he;exact hc
    ·cases hr;cases he;exact hd
    ·cases hr
  · simp only[Laf,Laz,or_false]at hr
    rcases hr with rfl|rfl|rfl|rfl
    ·exact Block.length ha.ok
    ·exact Block.length hb.ok
    ·exact Block.length hc.ok
    ·exact Block.length hd.ok
  ·rw[Lb4];exact hj
def wzB:Block:={ Block.zero with fSeq:=1 }
theorem wzB_ok:wzB.ok:=⟨rfl,rfl,rfl⟩
theorem wzB_is(W:World):BlockIs W wzB { DB.zero with seq:=1 }:=sp_is W 1 rfl
theorem want_wholeF(x:DD)(hx:x.ok)(hI:x.pl.Inv)(p:Nat)(sh:Sl)(hs:List (List UInt8)){b:Bool}(h:(!hs.any fun n=> !x.pl.has n)=b):Mv 43 [ptr p 0,sh.v] (fun W=>Lies (x.blks p) W∧RowsAt W sh 32 hs) (.bool b):=by
  rw[←h];exact want_whole x hx hI p sh hs
theorem want_needsF(x:DD)(hx:x.ok)(hI:x.pl.Inv)(hO:x.pl.Ord)(p:Nat)(sw sh:Sl)(ws hs:List (List UInt8))(hw1:ws.length≤90000)(hh1:hs.length≤90000){k:Nat}(h:(gvL x.pl ws hs).length=k):Mv 34 [ptr p 0,sw.v,sh.v] (fun W=>Lies (x.blks p) W∧RowsAt W sw 32 ws∧RowsAt W sh 32 hs) (i64 (k:Int)):=by
  rw[←h];exact want_needs x hx hI hO p sw sh ws hs hw1 hh1
theorem law_wantnames  :Mv 6 [] (fun _=>True) (.bool true):=by
 intro W hW;obtain⟨Da,Db,Dc,na,nb,nc,X1,X5,⟨hDa,hDb,hDc⟩,⟨lna,lnb,lnc⟩,⟨hna,hnb,hnc⟩,cSa,cSb,cSc,hsm1,hfil1,hfil5,htE,htN,hgv,hask,hwC,hwZ⟩:=names24_facts;refine Ac func6 J 83 ntmps6 J (.sr (.a J J J (.nsr (.call4 J J J J J Body40 (law24_chain Da Db Dc na nb hDa hDb hDc lna lnb hna hnb cSa cSb cSc) tV ?_))));rintro v8 out8 ⟨q,Ba,Bb,Bc,bl,ha,hb,hc,rfl,rfl,hch⟩;have cNa:=r15_Name Ba Da ha.ok;have cNc:=r15_Name Bc Dc hc.ok;rw[hna]at cNa;rw[hnc]at cNc;refine .a J J J (.nil (Bi (.seq ?_)))
 try simp only[Lae,Lah,La9]
 refine .region (.m J J J (.sliceHiA ⟨some ⟨q,0,none⟩,3,3⟩ 1 J J J J J (by show 1≤3;decide) Y22.h Sz37 ?_));refine .call4 J J J J J Body23 (law24_filled ⟨some ⟨q,0,none⟩,1,3⟩ [Da] (by show 1≤1000;omega) hsm1) (fun w h=>(tri_first (Bu (B:=⟨q,tri Ba Bb Bc,37,(tri Ba Bb Bc).length⟩) h mM) (hch w (Lies.of h iN)))) ?_;rintro v11 out11 ⟨p,x,rfl,rfl,hx,hplx,hnx⟩;rw[hfil1]at hplx;have hI1:X1.Inv:=by rw[←hfil1];exact PD.Inv.fill _ PD.Inv.new
 have hO1:X1.Ord:=by rw[←hfil1];exact PD.Ord.fill _ PD.Inv.new PD.Ord.new
 have hI:x.pl.Inv:=by rw[hplx];exact hI1
 refine .a J J J (.nil (Bi (.seq ?_)))
 try simp only[Lae,Lah,La9]
 refine .region (.m J J J (.idxSlP 131 J J J J J Y22.h Sz37 2 J dE (.loadSN (n:=131) Bc.cells J J J Y37.h J Sz37 (Block.length hc.ok) (fun w h=>(tri_sees ha.ok hb.ok hc.ok (Bu (B:=⟨q,tri Ba Bb Bc,37,(tri Ba Bb Bc).length⟩) h mM)).2.2) ?_)));refine .cV J J J J Body37 (cNc) (fun w h=>(hch w (Lies.of h iN)).2.2) ?_;refine .alloc (cs:=(Aa (List.replicate 32 0))) J Cf J ?_;intro n3 hn3 hf3;first
  |refine Tr.sA rfl rfl rfl rfl (by first|exact Am _|exact A1 _|simp[isCell]) Sz31 (by first|(simp[lna,lnc];done)|assumption|(rw[Aa,La0];assumption)) mM (by first|(simp[lna,lnc];done)|assumption|(rw[Aa,La0];assumption)) uU ?_
  |refine Tr.storeN _ rfl rfl rfl rfl rfl (by first|exact Am _|exact A1 _|simp[isCell]) Sz31 (by first|(simp[lna,lnc];done)|assumption|(rw[Aa,La0];assumption)) mM (by first|(simp[lna,lnc];done)|assumption|(rw[Aa,La0];assumption)) (by exact rfl) uU ?_
 refine .nil ?_
 refine Bi ?_
 refine .seq ?_
 try simp only[Lae,Lah,La9]
 refine .region (.m J J J (.cV J J J J Body33 (want_give_arg x hx hI p Sl.nil Sl.nil 0 dE) (fun w h=>Lies.of h iN) ?_));refine .m J J J (.eX J J J J (.eX J J J J (.a J J J (.a J J J (.nil (Bi (.seq ?_)))))))
 try simp only[Lae,Lah,La9]
 refine .withK (sp_v (sp_x (sp_k (sp_x sp_n)))) J (.draw (oPq [0,1,2,3,4,5,6,7,8,9,10,211,412,13,14,15,16,17]) Av zK (.m J J J (.m J J J (.idxSlP 131 J J J J J Y22.h Sz37 0 J dE (.kloadSN (n:=131) Ba.cells J J J Y37.h J Sz37 (Block.length ha.ok) (fun w h=>(tri_sees ha.ok hb.ok hc.ok (h ⟨q,tri Ba Bb Bc,37,(tri Ba Bb Bc).length⟩ (by simp[Cx.with]))).1) ?_)))));refine .m J J J (.idxSlP 131 J J J J J Y22.h Sz37 2 J dE (.kloadSN (n:=131) Bc.cells J J J Y37.h J Sz37 (Block.length hc.ok) (fun w h=>(tri_sees ha.ok hb.ok hc.ok (h ⟨q,tri Ba Bb Bc,37,(tri Ba Bb Bc).length⟩ (by simp[Cx.with]))).2.2) ?_));refine .build (cs:=wzB.cells) J J J (fun w=>by kernel_rfl) ?_;refine .m J J J (.idxSlP 131 J J J J J Y22.h Sz37 1 J dE (.kloadSN (n:=131) Bb.cells J J J Y37.h J Sz37 (Block.length hb.ok) (fun w h=>(tri_sees ha.ok hb.ok hc.ok (h ⟨q,tri Ba Bb Bc,37,(tri Ba Bb Bc).length⟩ (by simp[Cx.with]))).2.1) ?_));refine .mkRow2 (z:=agg Block.zero.cells) [agg Ba.cells,agg Bc.cells,agg wzB.cells,agg Bb.cells] (quad Ba Bc wzB Bb) J J Y22.h Sz37 Block.zr J J (by intro v hv;simp only[Laf,Laz,or_false]at hv;rcases hv with rfl|rfl|rfl|rfl;exact Block.length ha.ok;exact Block.length hc.ok;exact Block.length wzB_ok;exact Block.length hb.ok) dE (by simp[Value.cells,agg,quad]) ?_;intro q33;refine .callL (L:=(x.blks p++(⟨q33,quad Ba Bc wzB Bb,37,(quad Ba Bc wzB Bb).length⟩::bl))) J J J J J Body41 (want_take x hx p ⟨some ⟨q33,0,none⟩,4,4⟩ [Ba,Bc,wzB,Bb] [Da,Dc,{ DB.zero with seq:=1 },Db] (⟨q33,quad Ba Bc wzB Bb,37,(quad Ba Bc wzB Bb).length⟩::bl) (fun W hW=>quad_at (hW _ La8) (hch W fun b hb=>hW b (Lac _ hb)).1 (hch W fun b hb=>hW b (Lac _ hb)).2.2 (wzB_is W) (hch W fun b hb=>hW b (Lac _ hb)).2.1) sP (by simp at hnx ⊢;omega)) (sg_two sG (Ab rM sG)) (Cw J) (fun w h=>Lent.of h (sg_two sG (Ab rM sG))) ?_;rintro v34 out34 ⟨x1,s34,bl34,rfl,rfl,hx1,hplx1,hac34,hnx1⟩;rw[hplx]at hplx1 hac34;rw[hplx,htN];rw[htE]at hac34;rw[hfil5]at hplx1;rcases hac34 with ⟨_,_,_,h9⟩|⟨q34,c34,rfl,hnc34,hfl34,rfl⟩
 ·cases h9
 have hI5:x1.pl.Inv:=by rw[hplx1,←hfil5];exact PD.Inv.fill _ hI1
 have hO5:x1.pl.Ord:=by rw[hplx1,←hfil5];exact PD.Ord.fill _ hI1 hO1
 rw[←hplx1]at hgv hask hwC hwZ;simp only[La9,Lae];refine .m J J J (.eX J J J J (.eX J J J J (.a J J J (.a J J J (.nil (Bi (.seq ?_)))))))
 try simp only[Lae,Lah,La9]
 refine .region ?_
 try simp only[Lae,Lah,La9]
 refine .cV J J J J Body21 (law24_lives) tV (.m J J J (.m J J J (.eqi J J J J (decide_eq_true (rfl)) (.pick J J J J J J (.m J J J (.m J J J (.eqi J J J J (decide_eq_true (rfl)) (.pick J J J J J J (.m J J J (.m J J J (.mkRow (z:=i64 0) [i64 8,i64 0,i64 2,i64 0] (([8,0,2,0]:List Int).map i64) J J J Y73 Sz39 Zr39 J J (by intro v hv;simp only[Laf,Laz,or_false]at hv;rcases hv with rfl|rfl|rfl|rfl<;>rfl) dE J ?_)))))))))));intro q48;refine .cV J J J J Body42 (kit_errs_same q34 q48 4 c34 4 [8,0,2,0] rfl dE) (fun w h=>⟨Aq (b:=q34) h mM,Aq (b:=q48) h mM⟩) ?_;refine .pick J J J J J J (.m J J J (.m J J J ?_));first
  |refine Tr.lA rfl rfl rfl Y31.h rfl Sz31 mM (by first|(simp[lna,lnc];done)|assumption|(rw[Aa,La0];assumption)) ?_
  |refine Tr.lN _ rfl rfl rfl Y31.h rfl Sz31 mM (by exact rfl) (by first|(simp[lna,lnc];done)|assumption|(rw[Aa,La0];assumption)) ?_
 refine .mkRow (z:=agg (Aa (List.replicate 32 0))) [agg (Aa nc)] (As [nc]) J J J Y32.h Sz31 Cf J J (by intro v hv;simp only[Laf,Laz,or_false]at hv;rcases hv with rfl<;>simp[Value.cells,agg,Aa,lnc]) dE (by simp[Value.cells,agg,As]) ?_;intro q54;refine .cV J J J J Body43 (want_wholeF x1 hx1 hI5 p ⟨some ⟨q54,0,none⟩,1,1⟩ [nc] hwC) (fun w h=>⟨Lies.of h iN,row_one lnc (by have h9:=Aq (b:=q54) (cs:=As [nc]) h mM;simpa[As]using h9)⟩) ?_;refine .pick J J J J J J (.m J J J (.m J J J (.build (cs:=Aa (List.replicate 32 0)) J J J (fun w=>by kernel_rfl) ?_)));refine .mkRow (z:=agg (Aa (List.replicate 32 0))) [agg (Aa (List.replicate 32 0))] (As [(List.replicate 32 0)]) J J J Y32.h Sz31 Cf J J (by intro v hv;simp only[Laf,Laz,or_false]at hv;rcases hv with rfl<;>simp[Value.cells,agg,Aa,Lch]) dE (by simp[Value.cells,agg,As]) ?_;intro q60;refine .cV J J J J Body43 (want_wholeF x1 hx1 hI5 p ⟨some ⟨q60,0,none⟩,1,1⟩ [(List.replicate 32 0)] hwZ) (fun w h=>⟨Lies.of h iN,row_one Lch (by have h9:=Aq (b:=q60) (cs:=As [(List.replicate 32 0)]) h mM;simpa[As]using h9)⟩) ?_;refine .not J J J (.pick J J J J J J (.m J J J (.m J J J ?_)));first
  |refine Tr.lA rfl rfl rfl Y31.h rfl Sz31 mM (by first|(simp[lna,lnc];done)|assumption|(rw[Aa,La0];assumption)) ?_
  |refine Tr.lN _ rfl rfl rfl Y31.h rfl Sz31 mM (by exact rfl) (by first|(simp[lna,lnc];done)|assumption|(rw[Aa,La0];assumption)) ?_
 refine .mkRow (z:=agg (Aa (List.replicate 32 0))) [agg (Aa nc)] (As [nc]) J J J Y32.h Sz31 Cf J J (by intro v hv;simp only[Laf,Laz,or_false]at hv;rcases hv with rfl<;>simp[Value.cells,agg,Aa,lnc]) dE (by simp[Value.cells,agg,As]) ?_;intro q67;refine .cV J J J J Body34 (want_needsF x1 hx1 hI5 hO5 p ⟨some ⟨q67,0,none⟩,1,1⟩ Sl.nil [nc] [] sP sP hgv) (fun w h=>⟨Lies.of h iN,row_one lnc (by have h9:=Aq (b:=q67) (cs:=As [nc]) h mM;simpa[As]using h9),rows_none⟩) ?_;refine .eqi J J J J (decide_eq_true (rfl)) (.pick J J J J J J (.m J J J (.m J J J ?_)));first
  |refine Tr.lA rfl rfl rfl Y31.h rfl Sz31 mM (by first|(simp[lna,lnc];done)|assumption|(rw[Aa,La0];assumption)) ?_
  |refine Tr.lN _ rfl rfl rfl Y31.h rfl Sz31 mM (by exact rfl) (by first|(simp[lna,lnc];done)|assumption|(rw[Aa,La0];assumption)) ?_
 refine .mkRow (z:=agg (Aa (List.replicate 32 0))) [agg (Aa nc)] (As [nc]) J J J Y32.h Sz31 Cf J J (by intro v hv;simp only[Laf,Laz,or_false]at hv;rcases hv with rfl<;>simp[Value.cells,agg,Aa,lnc]) dE (by simp[Value.cells,agg,As]) ?_;intro q74;refine .call4 J J J J J Body27 (want_askF x1.pl hI5 p ⟨some ⟨q74,0,none⟩,1,1⟩ [nc] sP hask) (fun w h=>⟨⟨x1,hx1,rfl,Lies.of h iN⟩,row_one lnc (by have h9:=Aq (b:=q74) (cs:=As [nc]) h mM;simpa[As]using h9)⟩) ?_;rintro v75 out75 ⟨s75,rfl,hn75,hs75⟩;have hn75:s75.n=0:=hn75;refine .lenSl J J J Y32.h (.eqi J J J J (decide_eq_true oM) (.pick J J J J J J (.m J J J (.pick J J J J J J (.m J J J (.pick J J J J J J (.a J J J (.nil (Bi ?_)))))))));refine .ret (en_r (Ax (out:=[]) (Ai J J) Af ?_));exact⟨rfl,rfl⟩
end Go.Proofs.YtgjnomgkddbhcaaGreat
namespace Go.Proofs.YtgjnomgkddbhcaaGreat
open Go Go.ChangeShapes Go.WideShapes Go.ChangeAt Go.RowKit
theorem ownWNams:ownKnob Tryz.prog.godebug=none:=by kernel_rfl
theorem walkWNam(w:World):Calls Tryz.prog 6 #[] w fun e w'=>e= .returned (.bool true)∧Below w.heap.size w w':=
  (law_wantnames w trivial).mono fun e w' ⟨v,out,he,⟨hv,ho⟩,hr⟩=>⟨by rw[he,hv],Hw.Keeps.below hr.keeps⟩
theorem liftedWNam(os:Os)(started:os.Started)(H:Type)(enc:TypeId×Value→H):
    ReturnsInHanded {} Tryz.checked os 6 .any (Rows.wantNamesSpec.pre6 enc Tryz.prog Tryz.f6 Rows.wantNamesRow.domain false) (Rows.wantNamesSpec.post enc Tryz.prog Tryz.f6 false true false false):=by
  refine returnsInHanded_of_change (C:=Tryz.checked) ownWNams started (by kernel_rfl) Tryz.func6
    (ChangeSpec.witness6 (enc:=enc) (C:=Tryz.checked) false ⟨#[], #[],[]⟩ 8 (by kernel_rfl) (by kernel_rfl) (by kernel_rfl) (by kernel_rfl)) ?_
  intro W base args ds gs before hval0 hW hcnd _;have hW':=hW;obtain⟨p,q,hA0,hV,rfl,hfz,hnd⟩:=hW;have hA:DataW.TrodAll enc Tryz.prog W 0 (fun _=>true) true Tryz.f6.params.toList args.toList ds p:=hA0;rw[Tryz.params6]at hA;obtain⟨hargs,rfl,rfl⟩:=trodAll_nil hA;obtain rfl:args= #[]:=by cases args;simp_all
  obtain⟨rfl,rfl⟩:=trodVars_none hV;clear hA0 hval0;refine(walkWNam W).mono fun e W' ⟨he,bel⟩=>?_;subst he;exact⟨_,rfl,_,_,_,[],_,[],hW',trodAll_mk1 (shut_bool Tryz.underlying4 _),trodAll_mk0,rfl,bel.frame _,fun h=>by cases h⟩
theorem wantNames_holds:Rows.WantNamesSaid:=
  OpenClaim.holds_of_wide 6 Tryz.f6 rfl rfl rfl rfl rfl rfl rfl ⟨rfl,rfl,rfl,rfl,rfl⟩ rfl rfl rfl rfl rfl (by kernel_rfl) Tryz.func6 closedWNam
    (of_decide_eq_true (by kernel_rfl)) (by unfold Func.isWrapper;first|(rw[if_pos (by decide+kernel)];kernel_rfl)|(rw[if_neg (by decide+kernel)];exact⟨rfl,rfl⟩))
    (fun os started H enc _=>liftedWNam os started H enc)
end Go.Proofs.YtgjnomgkddbhcaaGreat
end
